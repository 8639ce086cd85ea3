import PyProof.Rows.All
import Open.Boot
import Open.Tree
import Wide.All
import Lean
import PySem.Challenge.RW_uf010022_10
set_option Elab.async false
set_option linter.all false
set_option compiler.extract_closed false
set_option genSizeOf false
set_option bootstrap.genMatcherCode false
set_option maxRecDepth 100000
set_option maxHeartbeats 4000000
set_option tactic.hygienic false
set_option genInjectivity false
set_option backward.match.sparseCases false
open Option renaming some->hb,none->Hu,bind_some->HT,map_eq_some_iff->H6,isSome_iff_exists->IV,isNone_iff_eq_none->Jc,map->Jo,map_some->Lr,getD_some->LW,getD_none->MF,isSome_some->O2,map_none->PF
open _root_ renaming List->Hn,Option->Hp,Nat->HG,Int->HI,congrArg->HL,beq_eq_false_iff_ne->HO,if_pos->H5,Bool->Ig,beq_self_eq_true->Ih,decide_eq_true_eq->Ik,decide_eq_true->Ip,if_neg->Ir,decide_eq_false->Iw,absurd->IG,of_decide_eq_true->IW,String->I2,False->Jg,of_decide_eq_false->Ji,cond_false->Kg,cond_true->Ku,or_false->Kv,congrFun->Kx,beq_iff_eq->KA,if_false->K8,Decidable->La,not_or->LR,if_true->MU,decide_eq_false_iff_not->Na,not_eq_of_beq_eq_false->Nk,Unit->Nq,True->N9,le_of_eq_of_le->OM,LawfulBEq->Pm,Array->PX,cond->Qi,lt_of_eq_of_lt->Rp
open PySem renaming PyData->Ho,wpAny_bind->Ht,Addr->Hv,Value->HE,Shared->HM,Str->HP,Expr->HR,wpAny_pure->HV,starEach->Ie,model->Iq,Heap->Iv,Program->IB,Scope->IH,Stmt->IM,mainGlobals->I3,Keeps->I8,World->Ja,eval->Jf,Around->Jh,sliceBounds->Jr,wpAny_field->Jx,swapsWith->JU,wpAny_callSpecial?_slot->JV,attributeBase->J2,Pos->J3,backTo->J4,wpAny_Call_method->J5,wpAny_seqItems->J8,sysModules->Kd,Env->Ke,wpAny_mono->Kf,wpAny_Assign_Name->Kk,wpAny_Assign_Subscript->Kr,Keyword->Ks,wpAny_items_cons->Kt,typeLookup->Kw,wpAny_newFunctionEnv_cells->Kz,partValue->KH,call_isinstance->KI,interactive->KJ,wpAny_newObj_type->KL,wpAny_holding->KR,wpAny_call_entry->KU,builtinsNs->K1,valueAt->K2,wpAny_setField_rec->K5,Comprehension->Lb,codeAny_call_function->Le,wpAny_truthy_bool->Lf,wpAny_loadName_local->Lo,subscripted->Lp,callWith->Lq,isSubtype_type->Ls,IsPair->Lv,Operator->LK,NameKind->LL,wpAny_items_nil->LM,importedModules->LN,wpAny_Expr->LP,cellsFrom->LV,BoolOp->L1,getItem->L2,wpAny_Return_some->L3,wpAny_assign_Name->L5,wpAny_typeOf->L7,isSubtype->Ml,keywordEach->Mp,wpAny_ite_split->My,wpAny_loadName_cell->MA,treeTable->MI,wpAny_Name->MJ,wpAny_Constant_str->MK,stored->ML,foldedSetIterable->MV,notedBy->MW,slot_list_setitem->MZ,wpAny_standAt->M4,wpAny_comprehension_free->M5,wpAny_execs_cons->M8,strPairs->Nb,operate->Nh,codeAny_func->Ni,wpAny_rule->Nj,wpAny_updateSeq->Nm,wpAny_storeName_local->Nr,CmpOp->Nu,backToKw->Ny,wpAny_letGo->Nz,wpAny_updateSeq_pair->NA,seqIndex?->NC,list_getitem_lookup->NM,wpAny_setItem_pairs->NP,behindInMarks->NX,IsZip->NZ,wpAny_onRaise->N0,wpAny_getItem_list->N1,wpAny_pyIter_tuple->N2,assignEach->N3,wpAny_call->N4,holding->Oa,slot_dict_getitem->Ob,bindL->Oc,wpAny_sequenceKey->Od,plainObj_wpAny_Assign_Attribute->Oh,wpAny_getItem_of->Om,wpAny_isInstance->Ot,Arguments->Ov,bindC->Ox,Draws->Oz,wpAny_execs_nil->OA,letOwnedTupleGo->OB,wpAny_AugAssign_AttributeAny->OC,wpAny_specialOf->OE,setItem->OG,wpAny_List->OL,sliceRange->ON,rawInt->OP,wpAny_listPart->OU,call_list_seq->O8,Tok->Pk,storeName->Pn,lastMarks->Pr,standAt->Pu,relabel->Px,codeAny->Pz,builtinLookup_eq_fast->PO,Obj->PR,wpAny_Slice->PW,wpAny_of_eq->P5,wpAny_Constant_bool->Qb,pairTrees_cons_walk->Qd,merged_nil_of_nodup->Qe,isTrue->Qj,truthy->Qk,typeIs_str->Ql,pyNext->Qm,pyIter->Qn,cameBackBy->Qo,wpAny_assign_Tuple->Qp,pairTrees_nil_walk->Qt,entry_list_setitem->Qu,Params->QB,spliced->QE,wpAny_pyIter_list->QF,args_list_setitem->QH,wpAny_pyIter_enum->QI,Const->QL,slicePick->QO,wpAny_Dict_empty->QP,carries_strPairs->QS,wpAny_pyIter_zip->QX,wpAny_Dict_walk->Q6,typeLookup_type->Rd,recursionLimit->Rf,FuncData->Ri,evalEach->Rq,wpAny_setField->Rr,firstArgMember->Rt
open Bool renaming true->Hq,false->HH,and_eq_true->HU,noConfusion->Iu,false_ne_true->ID,and_eq_true_iff->IU,or_eq_false_iff->Jn,or_eq_true->JA,not_eq_true'->JI,false_eq_true->Ko,and_self->MG,or_true->NK,eq_iff_iff->N7,false_and->Og,true_and->Qs,and_true->QA
open List renaming length_map->Hr,mem_cons->Hw,mem_append_right->Hx,mem_singleton->HB,mem_append->HD,mem_append_left->HF,map_append->HJ,lookup_cons->HK,length_append->HN,getElem?_eq_getElem->HQ,map_cons->HS,mem_map->HX,nodup_cons->HZ,range->H0,getElem?_eq_some_iff->H2,nodup_append->H8,not_mem_nil->Ia,map_map->Ii,mem_of_getElem?->Il,length_range->Iy,getElem?_map->Iz,append_nil->IA,isEmpty_iff->IC,flatMap_cons->IF,mem_flatMap->IS,zip_cons_cons->IT,exists_cons_of_length_eq_add_one->IY,filterMap_cons->I1,mem_cons_of_mem->I5,append_assoc->I6,nodup_nil->I9,size_toArray->Jd,filterMap_eq_map'->Je,filter_cons_of_neg->Jm,length_eq_one_iff->Jp,length_cons->Ju,getElem?_eq_none->Jw,filter_cons_of_pos->Jy,take_length->JD,length_reverse->JG,getElem?_toArray->JJ,mem_range->JK,all_eq_true->JM,filter_cons->JN,getD_eq_getElem?_getD->JX,map_congr_left->J0,drop_eq_getElem_cons->J6,length_take->J9,mem_of_mem_take->Kc,take_of_length_le->Kl,length->Km,map_reverse->Kn,of_mem_zip->Ky,mem_filter->KB,take_add_one->KD,getElem_mem->KM,drop_length->KN,nil_append->KX,length_filter_le->KY,mem_of_mem_drop->Lc,getElem?_append_right->Ld,length_drop->Li,cons_append->Lj,map_take->Lw,find?_cons->Lx,filter_append->LC,getElem?_cons_zero->LF,take_append_drop->L0,map_drop->L8,mem_filterMap->Mq,pairwise_cons->Mr,map_inj_right->Mt,getElem?_append_left->MC,getElem?_eq_none_iff->MD,sublist_append_left->MH,getElem?_cons_succ->MO,mem_reverse->MP,map_nil->MX,drop_eq_nil_of_le->MY,getElem?_of_mem->Nf,getElem?_range->Nl,mem_map_of_mem->Nn,filter_sublist->Np,ext_getElem?->NG,getElem?_set->NH,map_set->NI,any_eq_true->NY,length_set->N6,drop_zero->Oi,findIdx?_eq_none_iff->Oo,sublist_append_right->Oq,pairwise_mergeSort->OD,forall_mem_cons->OX,mem_iff_getElem->OY,getElem?_zipIdx->OZ,length_take_le'->O3,toList_toArray->O9,mergeSort_perm->Pb,length_pos_iff->Pf,filter_eq_self->Pg,zip_nil_right->Pp,filterMap_map->Pq,getElem_range->Ps,pairwise_map->Pw,getElem?_inj->PE,perm_middle->PK,flatMap_nil->PL,range_succ->P4,zipIdx_map->P8,any_cons->Qq,all_cons->Qv,Nodup->Q4,drop->Rk,take->Rl
open Nat renaming le_trans->Hs,lt_of_le_of_lt->HC,le_add_right->Ib,add_le_add_left->Ij,add_le_add_right->Im,le_refl->Io,le_of_ble_eq_true->IE,le_of_lt->IK,lt_of_lt_of_le->I0,min_le_right->I7,min_eq_left->Jk,le_add_left->Jl,ne_of_lt->Jq,add_le_add->Js,succ_le_succ->Jv,not_lt->JH,le_of_not_lt->JQ,zero_le->JS,lt_irrefl->JW,le_of_eq->JY,le_succ_of_le->JZ,le_succ->J1,mul_le_mul_left->Kj,min_eq_right->KP,ne_of_gt->KT,succ_pos->KW,sub_eq_zero_of_le->KZ,le_add_left_of_le->K3,lt_succ_of_le->K6,le_of_not_le->Ll,ble->Ln,succ_add_eq_add_succ->LA,add_right_comm->LD,lt_succ_of_lt->LQ,le_of_lt_succ->LS,lt_succ_self->L4,add_assoc->Ma,min_le_left->Mm,sub_le->M1,lt_trans->M6,le_antisymm->M7,lt_of_lt_of_eq->Nv,le_of_succ_le->NQ,lt_of_succ_le->NR,lt_of_succ_lt->NV,lt_add_of_pos_right->OH,sub_self->OT,div_lt_of_lt_mul->Pd,add_left_cancel->Pj,sub_lt_sub_left->Po,not_le->PB,sub_add_cancel->PI,sub_pos_of_lt->PM,le_of_not_ge->P7,lt_add_one->Qy,add_comm->QN,zero_add->QY,min_zero->Q2,mod_lt->Ru,lt_min->Rv
open PySem.Str renaming ofString->HA,empty->KQ,ofString_eq_toList->OV,length_append->PJ,append->Rm
open PySem.Heap renaming get?_push_of_some->HW,get?_push_size->H7,lt_size->II,get?_update_self->Jb,SameBut->KS,size_push->Ms,get?_update_other->M0,IsTuple->QJ,ExtBut->QW
open Int renaming le_trans->HY,natCast_nonneg->H3,emod_lt_of_pos->H9,emod_nonneg->Ic,lt_of_lt_of_le->IJ,le_of_lt->IZ,ofNat_le->I4,ofNat_lt->Jj,natCast_pos->Jt,toNat_le->JE,lt_add_one_of_le->JT,lt_of_le_of_lt->Ka,ne_of_gt->Kb,le_add_of_nonneg_right->Kp,not_lt->Kq,le_of_lt_add_one->KF,natCast_ne_zero_iff_pos->K7,toNat_lt->Lk,toNat_of_nonneg->Lu,toNat_lt'->Lz,succ_ofNat_pos->LG,le_refl->LH,self_le_toNat->LO,sub_pos_of_lt->LU,mul_le_mul_of_nonneg_right->L9,add_le_add_right->Md,sub_le_self->Mj,add_sub_cancel->Mu,not_le->Mx,add_nonneg->Mz,toNat_natCast->ME,neg_ofNat_le_natCast->MM,not_lt_of_ge->MQ,max_eq_right->MS,eq_ofNat_of_zero_le->MT,lt_trans->M3,zero_add->NL,lt_toNat->NU,min_eq_left->N8,le_max_left->Of,le_sub_right_of_add_le->Oj,neg_le_neg->Ol,mul_nonneg->Ow,add_le_add_iff_right->OF,le_of_eq->OJ,ediv_one->OQ,sub_nonneg_of_le->O4,sub_neg->O5,sub_le_sub_right->Pe,add_lt_add_left->Ph,sub_add_cancel->PD,min_eq_right->PQ,lt_of_not_ge->PT,max_eq_left->Qg,ediv_nonneg->Qh,toNat_sub->QC,ofNat_sub->QD,le_total->QR,add_zero->Q0,one_mul->Q3,le_def->Rh
open Option.some renaming inj->H4,injEq->Rj
open PySem.PyData renaming int->IL,eqv->IX,str->JF,strOk->Ki,eqvAll->KE,canLay0->LI,depthAll->Mb,tuple->Mh,canLayAll0->Mv,list->Mw,dict->NS,none->OI,depth->Qc
open List.cons renaming inj->IP,injEq->O0
open PySem.Builtin.Str renaming strSliceIndices->IQ,occurrences->Lg,glued->Rn,tooLong->Ro
open Nat.succ renaming inj->Jz
open PySem.Obj renaming mapSeq->JB,data_mapFields->PG
open PySem.Heap.SameBut renaming update->JL
open Int.ofNat renaming inj->J7
open PySem.NameKind renaming free->Kh,cell->Py
open PySem.Env renaming kindOf->KG
open PySem.Builtin.Tuple renaming tupleExact->K4,tupleItemsOf->QU
open Ne renaming symm->K9
open ForInStep renaming yield->Lh
open PySem.F renaming slot_tuple_iterator_next->Lm,plainAttrs_list->LY,slot_zip_next->Ng,slot_list_append->NN,type_list_append->NO,plainAttrs_dict->N5,args_tuple_iterator_next_1->Ou,entry_tuple_iterator_next->Oy,slot_str_getitem->PU,slot_list_extend->PZ,type_list_extend->P0,slot_dict_values->P6,args_zip_next_1->Qf,entry_zip_next->Qw
open PySem.Calls renaming spliced_cons->Ly,spliced_nil->LB,callWith_builtin->M9,evalArgs_plain->Nx,Name_function_global->PY
open Classical renaming choose_spec->LJ,choose->OS
open PySem.Builtin.List renaming listSubscript?->LX,listSameRef->Mi,listTooLong->NJ,listLengthHint->Q7,listExtendWith->Q8,listAllItems->Ra,listItems->Rb
open PySem.Value renaming type->LZ,none->MR,ref->NT,bool->Pc
open PySem.Builtin.Slice renaming slicePlaces->L6,sliceAdjust->Nt,slicePartIndex->QT,sliceApplied->QV
open List.Sublist renaming refl->Me
open Eq renaming refl->Mg,symm->PV
open Array renaming all_eq_true'->Mn,mk->NB,eq_empty_of_size_eq_zero->NW
open PySem.Arg renaming arg->Mo
open PySem.Heap.DictOf renaming new->MB
open Prod renaming ext->MN,fst->ND,snd->NF
open PySem.Builtin.SmallTypes renaming nextOf->Nc
open PySem.W renaming boot_heap->Nd,openGood->OW,openSeen->P9,openEnds->Qa,SharedT->QM,stepT->Rx
open List.Perm renaming nodup->Nw,swap->O6,cons->O7
open False renaming elim->Oe
open PySem.P renaming append_list->OO,extend_list->Q5
open PySem.PyData.int renaming inj->O1
open PySem.Value.ref renaming inj->Pl
open List.Mem renaming head->PH
open PySem.Txt renaming join->Qr
open PySem.Shared renaming heap->Qx
open PySem.Expr renaming Constant->Qz
open String.Pos.Raw renaming mk_le_mk->QG
open PySem.Heap.IsSliceOf renaming new->QK
open PySem.Builtin.Range renaming rangeSize->QQ
open List.Pairwise renaming nil->QZ,imp->Q1
open PySem.Heap.IsTuple renaming push->Q9
open PySem.Builtin.Int renaming intBits->Rg
open PyProof.Rows renaming plainsOf->Rw
namespace Mine
noncomputable section
open PySem PySem.Calls
variable{Y:IB}{w:Ja}{Hz:Hn Hv}{U:Iv}
section
universe u v w p q r
section
variable{P Q G:Prop}
theorem ew(h:P/\Q)(f:P->Q->G):G:=f h.1 h.2
theorem gQ(h:P)(i:Q):P/\Q:=⟨h,i⟩
variable{aH:Prop}
theorem xg(h:P/\Q/\aH)(f:P->Q->aH->G):G:=f h.1 h.2.1 h.2.2
theorem lW(h:P)(i:Q)(j:aH):P/\Q/\aH:=⟨h,i,j⟩
variable{S:Prop}
theorem AZ(h:P/\Q/\aH/\S)(f:P->Q->aH->S->G):G:=f h.1 h.2.1 h.2.2.1 h.2.2.2
theorem zz(h:P)(i:Q)(j:aH)(k:S):P/\Q/\aH/\S:=⟨h,i,j,k⟩
variable{T:Prop}
theorem CQ(h:P/\Q/\aH/\S/\T)(f:P->Q->aH->S->T->G):G:=f h.1 h.2.1 h.2.2.1 h.2.2.2.1 h.2.2.2.2
theorem Ei(h:P)(i:Q)(j:aH)(k:S)(l:T):P/\Q/\aH/\S/\T:=⟨h,i,j,k,l⟩
variable{sY:Prop}
theorem e06(h:P/\Q/\aH/\S/\T/\sY)(f:P->Q->aH->S->T->sY->G):G:=f h.1 h.2.1 h.2.2.1 h.2.2.2.1 h.2.2.2.2.1 h.2.2.2.2.2
variable{V:Prop}
theorem Fs(h:P/\Q/\aH/\S/\T/\sY/\V)(f:P->Q->aH->S->T->sY->V->G):G:=f h.1 h.2.1 h.2.2.1 h.2.2.2.1 h.2.2.2.2.1 h.2.2.2.2.2.1 h.2.2.2.2.2.2
theorem i07(h:P)(i:Q)(j:aH)(k:S)(l:T)(m:sY)(n:V):P/\Q/\aH/\S/\T/\sY/\V:=⟨h,i,j,k,l,m,n⟩
variable{W:Prop}
theorem e08(h:P/\Q/\aH/\S/\T/\sY/\V/\W)(f:P->Q->aH->S->T->sY->V->W->G):G:=f h.1 h.2.1 h.2.2.1 h.2.2.2.1 h.2.2.2.2.1 h.2.2.2.2.2.1 h.2.2.2.2.2.2.1 h.2.2.2.2.2.2.2
theorem i08(h:P)(i:Q)(j:aH)(k:S)(l:T)(m:sY)(n:V)(o:W):P/\Q/\aH/\S/\T/\sY/\V/\W:=⟨h,i,j,k,l,m,n,o⟩
end
section
variable{α:Sort u}{P:α->Prop}{G:Prop}
theorem dA(h:∃x,P x)(f:∀x,P x->G):G:=h.elim λx t=>f x t
theorem vb x(h:P x):∃x,P x:=⟨x,h⟩
variable{Q:α->Prop}
theorem aQ(h:∃x,P x/\Q x)(f:∀x,P x->Q x->G):G:=h.elim λx t=>f x t.1 t.2
theorem i12 x(h:P x)(i:Q x):∃x,P x/\Q x:=⟨x,h,i⟩
variable{aH:α->Prop}
theorem kK(h:∃x,P x/\Q x/\aH x)(f:∀x,P x->Q x->aH x->G):G:=h.elim λx t=>f x t.1 t.2.1 t.2.2
theorem rL x(h:P x)(i:Q x)(j:aH x):∃x,P x/\Q x/\aH x:=⟨x,h,i,j⟩
variable{S:α->Prop}
theorem Cw(h:∃x,P x/\Q x/\aH x/\S x)(f:∀x,P x->Q x->aH x->S x->G):G:=h.elim λx t=>f x t.1 t.2.1 t.2.2.1 t.2.2.2
theorem Dv x(h:P x)(i:Q x)(j:aH x)(k:S x):∃x,P x/\Q x/\aH x/\S x:=⟨x,h,i,j,k⟩
variable{T:α->Prop}
theorem e15(h:∃x,P x/\Q x/\aH x/\S x/\T x)(f:∀x,P x->Q x->aH x->S x->T x->G):G:=h.elim λx t=>f x t.1 t.2.1 t.2.2.1 t.2.2.2.1 t.2.2.2.2
theorem i15 x(h:P x)(i:Q x)(j:aH x)(k:S x)(l:T x):∃x,P x/\Q x/\aH x/\S x/\T x:=⟨x,h,i,j,k,l⟩
end
section
variable{α:Sort u}{β:Sort v}{P:α->β->Prop}{G:Prop}
theorem pT(h:∃x y,P x y)(f:∀x y,P x y->G):G:=h.elim λx h=>h.elim λy t=>f x y t
theorem CL(x y)(h:P x y):∃x y,P x y:=⟨x,y,h⟩
variable{Q:α->β->Prop}
theorem mx(h:∃x y,P x y/\Q x y)(f:∀x y,P x y->Q x y->G):G:=h.elim λx h=>h.elim λy t=>f x y t.1 t.2
theorem Ct(x y)(h:P x y)(i:Q x y):∃x y,P x y/\Q x y:=⟨x,y,h,i⟩
variable{aH:α->β->Prop}
theorem j8(h:∃x y,P x y/\Q x y/\aH x y)(f:∀x y,P x y->Q x y->aH x y->G):G:=h.elim λx h=>h.elim λy t=>f x y t.1 t.2.1 t.2.2
theorem mz(x y)(h:P x y)(i:Q x y)(j:aH x y):∃x y,P x y/\Q x y/\aH x y:=⟨x,y,h,i,j⟩
variable{S:α->β->Prop}
theorem i24(x y)(h:P x y)(i:Q x y)(j:aH x y)(k:S x y):∃x y,P x y/\Q x y/\aH x y/\S x y:=⟨x,y,h,i,j,k⟩
end
section
variable{α:Sort u}{β:Sort v}{γ:Sort w}{P Q:α->β->γ->Prop}{G:Prop}
theorem uR(h:∃x y z,P x y z/\Q x y z)(f:∀x y z,P x y z->Q x y z->G):G:=h.elim λx h=>h.elim λy h=>h.elim λz t=>f x y z t.1 t.2
theorem Ar(x y z)(h:P x y z)(i:Q x y z):∃x y z,P x y z/\Q x y z:=⟨x,y,z,h,i⟩
variable{aH:α->β->γ->Prop}
theorem vd(h:∃x y z,P x y z/\Q x y z/\aH x y z)(f:∀x y z,P x y z->Q x y z->aH x y z->G):G:=h.elim λx h=>h.elim λy h=>h.elim λz t=>f x y z t.1 t.2.1 t.2.2
theorem yI(x y z)(h:P x y z)(i:Q x y z)(j:aH x y z):∃x y z,P x y z/\Q x y z/\aH x y z:=⟨x,y,z,h,i,j⟩
variable{S:α->β->γ->Prop}
theorem Ax(h:∃x y z,P x y z/\Q x y z/\aH x y z/\S x y z)(f:∀x y z,P x y z->Q x y z->aH x y z->S x y z->G):G:=h.elim λx h=>h.elim λy h=>h.elim λz t=>f x y z t.1 t.2.1 t.2.2.1 t.2.2.2
theorem A8(x y z)(h:P x y z)(i:Q x y z)(j:aH x y z)(k:S x y z):∃x y z,P x y z/\Q x y z/\aH x y z/\S x y z:=⟨x,y,z,h,i,j,k⟩
variable{T:α->β->γ->Prop}
theorem e35(h:∃x y z,P x y z/\Q x y z/\aH x y z/\S x y z/\T x y z)(f:∀x y z,P x y z->Q x y z->aH x y z->S x y z->T x y z->G):G:=h.elim λx h=>h.elim λy h=>h.elim λz t=>f x y z t.1 t.2.1 t.2.2.1 t.2.2.2.1 t.2.2.2.2
theorem i35(x y z)(h:P x y z)(i:Q x y z)(j:aH x y z)(k:S x y z)(l:T x y z):∃x y z,P x y z/\Q x y z/\aH x y z/\S x y z/\T x y z:=⟨x,y,z,h,i,j,k,l⟩
end
section
variable{α:Sort u}{β:Sort v}{γ:Sort w}{δ:Sort p}{P Q:α->β->γ->δ->Prop}{G:Prop}
theorem e42(h:∃x y z a,P x y z a/\Q x y z a)(f:∀x y z a,P x y z a->Q x y z a->G):G:=h.elim λx h=>h.elim λy h=>h.elim λz h=>h.elim λa t=>f x y z a t.1 t.2
variable{aH:α->β->γ->δ->Prop}
theorem e43(h:∃x y z a,P x y z a/\Q x y z a/\aH x y z a)(f:∀x y z a,P x y z a->Q x y z a->aH x y z a->G):G:=h.elim λx h=>h.elim λy h=>h.elim λz h=>h.elim λa t=>f x y z a t.1 t.2.1 t.2.2
variable{S:α->β->γ->δ->Prop}
theorem CO(h:∃x y z a,P x y z a/\Q x y z a/\aH x y z a/\S x y z a)(f:∀x y z a,P x y z a->Q x y z a->aH x y z a->S x y z a->G):G:=h.elim λx h=>h.elim λy h=>h.elim λz h=>h.elim λa t=>f x y z a t.1 t.2.1 t.2.2.1 t.2.2.2
theorem i44(x y z a)(h:P x y z a)(i:Q x y z a)(j:aH x y z a)(k:S x y z a):∃x y z a,P x y z a/\Q x y z a/\aH x y z a/\S x y z a:=⟨x,y,z,a,h,i,j,k⟩
variable{T:α->β->γ->δ->Prop}
theorem GD(h:∃x y z a,P x y z a/\Q x y z a/\aH x y z a/\S x y z a/\T x y z a)(f:∀x y z a,P x y z a->Q x y z a->aH x y z a->S x y z a->T x y z a->G):G:=h.elim λx h=>h.elim λy h=>h.elim λz h=>h.elim λa t=>f x y z a t.1 t.2.1 t.2.2.1 t.2.2.2.1 t.2.2.2.2
theorem i45(x y z a)(h:P x y z a)(i:Q x y z a)(j:aH x y z a)(k:S x y z a)(l:T x y z a):∃x y z a,P x y z a/\Q x y z a/\aH x y z a/\S x y z a/\T x y z a:=⟨x,y,z,a,h,i,j,k,l⟩
variable{sY V:α->β->γ->δ->Prop}
theorem e47(h:∃x y z a,P x y z a/\Q x y z a/\aH x y z a/\S x y z a/\T x y z a/\sY x y z a/\V x y z a)(f:∀x y z a,P x y z a->Q x y z a->aH x y z a->S x y z a->T x y z a->sY x y z a->V x y z a->G):G:=h.elim λx h=>h.elim λy h=>h.elim λz h=>h.elim λa t=>f x y z a t.1 t.2.1 t.2.2.1 t.2.2.2.1 t.2.2.2.2.1 t.2.2.2.2.2.1 t.2.2.2.2.2.2
theorem i47(x y z a)(h:P x y z a)(i:Q x y z a)(j:aH x y z a)(k:S x y z a)(l:T x y z a)(m:sY x y z a)(n:V x y z a):∃x y z a,P x y z a/\Q x y z a/\aH x y z a/\S x y z a/\T x y z a/\sY x y z a/\V x y z a:=⟨x,y,z,a,h,i,j,k,l,m,n⟩
end
section
variable{α:Sort u}{β:Sort v}{γ:Sort w}{δ:Sort p}{ε:Sort q}{P Q aH S:α->β->γ->δ->ε->Prop}{G:Prop}
theorem e54(h:∃x y z a b,P x y z a b/\Q x y z a b/\aH x y z a b/\S x y z a b)(f:∀x y z a b,P x y z a b->Q x y z a b->aH x y z a b->S x y z a b->G):G:=h.elim λx h=>h.elim λy h=>h.elim λz h=>h.elim λa h=>h.elim λb t=>f x y z a b t.1 t.2.1 t.2.2.1 t.2.2.2
variable{T:α->β->γ->δ->ε->Prop}
theorem e55(h:∃x y z a b,P x y z a b/\Q x y z a b/\aH x y z a b/\S x y z a b/\T x y z a b)(f:∀x y z a b,P x y z a b->Q x y z a b->aH x y z a b->S x y z a b->T x y z a b->G):G:=h.elim λx h=>h.elim λy h=>h.elim λz h=>h.elim λa h=>h.elim λb t=>f x y z a b t.1 t.2.1 t.2.2.1 t.2.2.2.1 t.2.2.2.2
variable{sY V:α->β->γ->δ->ε->Prop}
theorem Dx(h:∃x y z a b,P x y z a b/\Q x y z a b/\aH x y z a b/\S x y z a b/\T x y z a b/\sY x y z a b/\V x y z a b)(f:∀x y z a b,P x y z a b->Q x y z a b->aH x y z a b->S x y z a b->T x y z a b->sY x y z a b->V x y z a b->G):G:=h.elim λx h=>h.elim λy h=>h.elim λz h=>h.elim λa h=>h.elim λb t=>f x y z a b t.1 t.2.1 t.2.2.1 t.2.2.2.1 t.2.2.2.2.1 t.2.2.2.2.2.1 t.2.2.2.2.2.2
theorem Fo(x y z a b)(h:P x y z a b)(i:Q x y z a b)(j:aH x y z a b)(k:S x y z a b)(l:T x y z a b)(m:sY x y z a b)(n:V x y z a b):∃x y z a b,P x y z a b/\Q x y z a b/\aH x y z a b/\S x y z a b/\T x y z a b/\sY x y z a b/\V x y z a b:=⟨x,y,z,a,b,h,i,j,k,l,m,n⟩
end
theorem tT(a b:HG):min (a:HI) b=((min a b:HG):HI):=by
 rcases Nat.le_total a b with h|h
 ·exact(N8 (I4.mpr h)).trans (HL _ (Jk h).symm)
 ·exact(PQ (I4.mpr h)).trans (HL _ (KP h).symm)
theorem apR(a b:HG):((a:HI)-1+ -1*b).toNat=a-1-b:=by rw[Int.neg_mul,Q3,<-Int.sub_eq_add_neg,Int.sub_sub,Nat.sub_sub];exact QC a (1+b)
variable{a d:HG}
theorem Fp{m e:HG}(h0:a+8*e+100<d)(h1:m<=60):a+1+m<d:=HC (by rw[Ma,Ma];exact Ij (Hs (Ij h1 1) (Hs (by decide:1+60<=100) (Jl _ _))) a) h0
variable{x u v:HI}{n:HG}
theorem DC(h:u<=x/\x<=v)(h1:a<x.toNat)(h2:v<=n):a<n:=I0 h1 (JE.mpr (HY h.2 h2))
theorem DM(h:u<=x/\x<=v)(h2:v<=n):x.toNat<=n:=JE.mpr (HY h.2 h2)
variable{c:HG}
theorem apw{b:HG}(h0:b-a=c)(h1:b<=c)(h2:a<=c):a=0:=by
 subst h0;rcases Nat.eq_zero_or_pos a with h|h
 ·exact h
 ·exact Nat.le_zero.mp (Hs h2 (JY (KZ (by
   have:=M1 b a;rcases Nat.lt_or_ge a b with q|q
   ·exact IG (M7 this h1) (Jq (Nat.sub_lt_of_pos_le h (IK q)))
   ·exact q))))
theorem tn3{k:HG}(hu:0<=u)(h:u<=x/\x<=v)(hk:k<=n):x+k<=((x.toNat+n:HG):HI):=
 Int.add_le_add (LO x) (I4.mpr hk)
theorem zD{b:HG}(h0:b<60)(h1:a+c<=2*b):a+1<10000:=HC (Jv (Hs (Ib a c) (Hs h1 (Kj 2 (IK h0))))) (by decide)
variable{m k b:HI}
theorem wG(x:HI){a:HI}(h:0<m)(h1:a<=k)(h2:k+m<=b+1):a<=k+x%m/\k+x%m<=b:=⟨HY h1 (Kp (Ic x (Kb h))),KF (IJ (Ph (H9 x h) k) h2)⟩
theorem DJ(x:HI)(h:0<m)(h2:k+m<=n+1):(k+x%m).toNat<=n:=JE.mpr (wG x h (LH k) h2).2
theorem A9(x:HI)(h:0<m)(h2:m<=b+1):0<=x%m/\x%m<=b:=⟨Ic x (Kb h),KF (IJ (H9 x h) h2)⟩
theorem DF(x:HI)(h:0<m)(h2:m<=n+1):(x%m).toNat<=n:=JE.mpr (A9 x h h2).2
theorem emc(x:HI){a:HI}(h:0<m)(h1:a+m<=k+1)(h2:k<=b):a<=k-x%m/\k-x%m<=b:=
 ⟨Oj (KF (IJ (Ph (H9 x h) a) h1)),HY (Mj _ (Ic x (Kb h))) h2⟩
theorem aoN{b:HG}(h0:a+8*(c+1)+100<d)(h1:b<=8):a+b+8*c+100<d:=by refine HC (Im ?_ 100) h0;rw[Ma,Nat.mul_add,QN b];exact Ij (Ij h1 _) a
theorem alA{b:HG}(h0:(b:HI)<a):(a:HI)-b+1-1=((a-b:HG):HI):=(Mu _ 1).trans (QD (I4.mp (IZ h0))).symm
theorem aoO(a b:HG):a+3+8*b+100<=a+8*(b+1)+100:=by rw[Ma a,QN 3];exact Im (Ij (Ij (by decide) _) a) 100
theorem n0(h:¬(a:HI)-1> -1):a=0:=by
 cases a with
 |zero=>rfl
 |succ n=>exact IG (show(-1:HI)<(n:HI)+1-1 from(Mu (n:HI) 1).symm▸IJ (by decide) (H3 n)) h
variable{α:Type}
theorem wV{P:α->Prop}:∀x∈([]:Hn α),P x:=λ_ h=>nomatch h
theorem fm{P:α->Prop}{a:α}{l:Hn α}(h:P a)(k:∀x∈l,P x):∀x∈a::l,P x:=OX.mpr ⟨h,k⟩
@[elab_as_elim] theorem Cb{P:α->Prop}{a b:α}(c:α)(h:c∈[a,b])(x:P a)(y:P b):P c:=fm x (fm y wV) c h
@[elab_as_elim] theorem Gx{P:α->Prop}{a b d e:α}(c:α)(h:c∈[a,b,d,e])(x:P a)(y:P b)(z:P d)(w:P e):P c:=fm x (fm y (fm z (fm w wV))) c h
variable{b:HG}
theorem x4(h:a<=b)(h0:(b:HI)<x):(a:HI)<x:=Ka (I4.mpr h) h0
theorem Bk(a:HG)(h:b≠c):a+b≠a+c:=λe=>h (Pj e)
theorem rm1(h:a+(b+1)+100<c):a+1+b+100<c:=by rw[LD a];exact h
theorem l17(h0:b<=d+1)(h1:a+d<=2*c):a+1+b<=2*(c+1):=Hs (Ij h0 _) (Hs (JY (HL (·+1) (LD a 1 d))) (Im h1 2))
theorem tl0(h:x<0):(x+a).toNat<=a:=JE.mpr (HY (Md (IZ h) _) (OJ (NL _)))
theorem bI{α:Type u}{β:Type v}{o:Hp α}{a:α}{f:α->Hp β}{r:Hp β}(h:o=hb a)(k:f a=r):o.bind f=r:=h▸k
theorem bQ{α:Type u}{β:Type v}{o:Hp α}{a:α}{f:α->Hp β}(P:Hp β->Prop)(h:o=hb a)(k:P (f a)):P (o.bind f):=h▸k
variable{c:Prop}
theorem iT{α:Sort u}{d:La c}{a b r:α}(h:c)(k:a=r):@ite _ c d a b=r:=(H5 h).trans k
theorem iF{α:Sort u}{d:La c}{a b r:α}(h:¬c)(k:b=r):@ite _ c d a b=r:=(Ir h).trans k
variable{β:Type}{M:PySem.Model}{A:PySem.Around}{x y:PySem.Sem α}{Q:α->PySem.Shared->Prop}{E:PySem.Value->PySem.Shared->Prop}{s:PySem.Shared}{d:La c}
theorem wI(h:c)(k:PySem.wpAny M A x Q E s):PySem.wpAny M A (@ite _ c d x y) Q E s:=by rw[H5 h];exact k
theorem wN(h:¬c)(k:PySem.wpAny M A y Q E s):PySem.wpAny M A (@ite _ c d x y) Q E s:=by rw[Ir h];exact k
theorem wR(h:x=y)(k:PySem.wpAny M A y Q E s):PySem.wpAny M A x Q E s:=h▸k
variable{α:Sort u}
theorem cFa{c:Ig}{a b r:α}(h:c=HH)(k:b=r):Qi c a b=r:=by subst h;exact k
theorem DN{a b:α}(P:α->Prop)(h:c)(k:P a):P (@ite _ c d a b):=(H5 h).symm▸k
theorem Fa{a b:α}(P:α->Prop)(h:¬c)(k:P b):P (@ite _ c d a b):=(Ir h).symm▸k
end
section
variable{α:Type}{P:Prop}
theorem no{z:α}(h:Hu=hb z):P:=by contradiction
theorem si{a b:α}(h:hb a=hb b):a=b:=H4 h
variable{β:Type}
theorem ak{o:Hp α}{f:α->Hp β}{z:β}(k:∀a,o=hb a->f a=hb z->P)(h:o.bind f=hb z):P:=by
 induction o with
 |none=>exact no h
 |some a=>exact k a rfl h
theorem jl{c:Prop}[La c]{o:Hp α}{z:α}(k:c->o=hb z->P)(h:(if c then o else Hu)=hb z):P:=by
 by_cases hc:c
 ·rw[H5 hc]at h;exact k hc h
 ·rw[Ir hc]at h;exact no h
inductive ajo{α β:Type}(o:Hp α)(f:α->Hp β)(z:β):Prop
 |mk (a:α) (h:o=hb a) (k:f a=hb z):ajo o f z
theorem ao{o:Hp α}{f:α->Hp β}{z:β}(h:o.bind f=hb z):ajo o f z:=by
 induction o with
 |none=>exact no h
 |some a=>exact⟨a,rfl,h⟩
inductive amP{α β:Type}(o:Hp α)(f:α->β):β->Prop
 |mk (a:α) (h:o=hb a):amP o f (f a)
theorem dI{o:Hp α}{f:α->β}{z:β}(h:o.map f=hb z):amP o f z:=by
 induction o with
 |none=>exact no h
 |some a=>(have e:=si h;subst e;clear h);exact⟨a,rfl⟩
abbrev bA(h h':Iv):Prop:=∀b o,h.get? b=hb o->h'.get? b=hb o
theorem bA.refl(h:Iv):bA h h:=λ_ _ e=>e
theorem bA.trans(x:bA eY mq)(y:bA mq m7):bA eY m7:=λb o e=>y b o (x b o e)
theorem bA.push(h:Iv)(o:PR):bA h (h.push o):=λ_ _ e=>HW o e
theorem aD(s:HM):I8 s s:=⟨s.heap,s.toks,rfl,bA.refl _⟩
theorem ab(x:I8 ay aM)(y:I8 aM dN):I8 ay dN:=by refine mx x λh t o1 k=>?_;subst o1;refine mx y λh' t' o1 k'=>?_;subst o1;exact Ct h' t' rfl (bA.trans k k')
theorem aK(s:HM)(t:HG):I8 s {s with toks:=t}:=⟨s.heap,t,rfl,bA.refl _⟩
theorem bE(s:HM)(o:PR):I8 s {s with heap:=s.heap.push o}:=⟨s.heap.push o,s.toks,rfl,bA.push _ _⟩
variable{s s':HM}
theorem ag(x:I8 s s'):bA s.heap s'.heap:=by refine mx x λh t o1 k=>?_;subst o1;exact k
variable{a:Hv}
theorem aT(h:Iv)(ha:h.objs.size<=a):h.get? a=Hu:=by
 cases e:h.get? a with
 |none=>rfl
 |some o=>exact IG (II e) (JH.mpr ha)
noncomputable abbrev cA(vs:Hn HE)(n:HG):PR:={cls:=.type "list",dict:=Hu,data:=.seq vs.toArray n,slots:=#[]}
noncomputable abbrev kM(vs:Hn HE)(n:HG):PR:={cls:=.type "tuple",dict:=Hu,data:=.seq vs.toArray n,slots:=#[]}
def jV(o:PR):Prop:=∃vs k,o=kM vs k
noncomputable def dictOf(B:Hn (HP×Ho)):Ho:=.dict (B.map λp=>(.str p.1,p.2))
inductive oJ(h:Iv)(a dx C:Hv)(m:HP->Hp HE):Prop
 |mk (o:PR) (h1:h.get? a=hb o) (h2:o.cls=.ref C) (h3:∀c,o.data≠.cls c) (h4:o.dict=hb dx) (h5:dx≠a) (h6:h.Ns1 dx m):oJ h a dx C m
variable{h h':Iv}{dx C:Hv}{m:HP->Hp HE}
theorem oJ.kept(i:oJ h a dx C m)(k1:∀o,h.get? a=hb o->h'.get? a=hb o)(k2:∀o,h.get? dx=hb o->h'.get? dx=hb o):oJ h' a dx C m:=by obtain⟨o,h1,h2,h3,h4,h5,h6⟩:=i;exact⟨o,k1 o h1,h2,h3,h4,h5,h6.at k2⟩
theorem oJ.inst(i:oJ h a dx C m):h.Inst a C m:=by obtain⟨o,h1,h2,h3,h4,h5,h6⟩:=i;exact Dv o h1 h2 h3 (.inr ⟨dx,h4,h5,h6⟩)
theorem oJ.alive(i:oJ h a dx C m):∀b∈[a,dx],∃o,h.get? b=hb o/\¬jV o:=by
 obtain⟨o,h1,h2,h3,h4,h5,o',es,ep,g1,g2,_⟩:=i;intro b U;simp only[Hw,Ia,Kv]at U;clear h5 h4 h3;rcases U with rfl|rfl
 ·refine i12 o h1 ?_;rintro⟨vs,k,rfl⟩;cases h2
 ·refine i12 o' g1 ?_;rintro⟨vs,k,rfl⟩;cases g2
structure jr where
 told:Ho
 opened:HI
 given:Ho
 bD:Ho
 held:Hn (HP×HG)
 aC:Hn (HI×HI)
noncomputable def aE(C V p:Hv)(f:jr):Ho:=
 .dict [(.tuple [.int C,.int V,.int p],.tuple [f.told,.int f.opened,f.given,f.bD,.tuple (f.held.map λq=>.tuple [.str q.1,.int q.2]),.tuple (f.aC.map λq=>.tuple [.int q.1,.int q.2])])]
noncomputable def oH(V:Hv)(x y:HI):Ho:=.dict [(.int V,.tuple [.int x,.int y])]
noncomputable def ec(C:Hv)(rs:Hn (HP×Hv))(fs:Hn (HP×Ho)):Ho:=.dict [(.list (.int C::rs.map λq=>.tuple [.str q.1,.int q.2]),.dict (fs.map λp=>(.str p.1,p.2)))]
noncomputable def valNames:Hn HP:=["amount","opening"]
noncomputable def aG:Hn HP:=["plots","told","opened","given","standing","held"]
inductive ic(h:Iv)(V b db:Hv)(x y:HI):Prop
 |mk (m:HP->Hp HE) (t u:Pk) (h1:oJ h b db V m) (h2:m "amount"=hb (.int x t)) (h3:m "opening"=hb (.int y u)) (h4:Within m valNames):ic h V b db x y
theorem ic.kept{V:Hv}{x y:HI}(i:ic h V b db x y)(k:∀c∈[b,db],∀o,h.get? c=hb o->h'.get? c=hb o):ic h' V b db x y:=by obtain⟨m,t,u,i,r1,r2,r3⟩:=i;exact⟨m,t,u,i.kept (k b (.head _)) (k db (.tail _ (.head _))),r1,r2,r3⟩
section
variable(Y:IB)(w:Ja)
structure bj(h:Iv)(a dx C V p hd:Hv)(aJ:Hn (Hv×Hv))(f:jr)(vs:Hn HE)(m:HP->Hp HE)(ks:Hn (HP×HE)):Prop where
 obj:oJ h a dx C m
 held:m "held"=hb (.ref hd)
 opened:∃t,m "opened"=hb (.int f.opened t)
 kU:m "plots"=hb (.ref p)
 three:[m "told",m "given",m "standing"]=vs.map hb
 names:Within m aG
 dict:h.DictOf (strKind Y w) hd ks
 mods:(hd==Kd)=HH
 keys:ks.map (·.1)=f.held.map (·.1)
 vals:ks.map (·.2)=f.held.map λq=>.ref (aJ.getD q.2 (0,0)).1
 bound:∀q∈f.held,q.2<aJ.length
 len:aJ.length=f.aC.length
 each:∀(i:HG)(b db:Hv)(x y:HI),aJ[i]? =hb (b,db)->f.aC[i]? =hb (x,y)->ic h V b db x y
noncomputable def bP(a dx hd:Hv)(aJ:Hn (Hv×Hv)):Hn Hv:=a::dx::hd::aJ.flatMap λq=>[q.1,q.2]
variable{Y w}{aJ:Hn (Hv×Hv)}{ks:Hn (HP×HE)}
theorem bj.kept{V hd:Hv}(i:bj Y w h a dx C V p hd aJ f vs m ks)
  (k:∀c∈bP a dx hd aJ,∀o,h.get? c=hb o->h'.get? c=hb o):bj Y w h' a dx C V p hd aJ f vs m ks:=
 {i with
  obj:=i.obj.kept (k a (.head _)) (k dx (.tail _ (.head _)))
  dict:=by exact uR i.dict λo es ep ho r=>Ar o es ep (k hd (.tail _ (.tail _ (.head _))) o ho) r
  each:=λj b db x y e1 e2=>(i.each j b db x y e1 e2).kept λc hc=>k c (by simp only[bP,Hw,IS];exact .inr (.inr (.inr ⟨_,Il e1,by simpa using hc⟩)))}
theorem bj.alive{V hd:Hv}(i:bj Y w h a dx C V p hd aJ f vs m ks):
  ∀c∈bP a dx hd aJ,∃o,h.get? c=hb o/\¬jV o:=by
 intro c hc;simp only[bP,Hw,IS]at hc;rcases hc with rfl|rfl|rfl|⟨q,hq,hc⟩
 ·exact i.obj.alive _ (.head _)
 ·exact i.obj.alive _ (.tail _ (.head _))
 ·refine vd i.dict λo es ep ho hx o1=>i12 o ho ?_;rintro⟨vs,k,rfl⟩;exact IG hx.1 (by simp)
 ·refine dA (List.mem_iff_getElem?.mp hq) λj hj=>?_;have hl:j<f.aC.length:=by exact i.len▸(H2.mp hj).1
  obtain⟨m',t,u,I,_⟩:=i.each j q.1 q.2 (f.aC[j]).1 (f.aC[j]).2 hj (by simp[hl]);exact I.alive c (by simpa using hc)
end
inductive eJ:Hn (HI×HE)->Hn (HI×HP)->Prop
 |nil:eJ [] []
 |cons {aW:Hn (HI×HE)} {B:Hn (HI×HP)} (k:HI) (x:HP) (t:Pk):eJ aW B->eJ ((k,.str x t)::aW) ((k,x)::B)
inductive lB(Y:IB)(w:Ja)(h:Iv)(a:Hv)(B:Hn (HI×HP)):Prop
 |mk (aW:Hn (HI×HE)) (h1:h.DictOf (intKind Y w) a aW) (h2:(a==Kd)=HH) (h3:eJ aW B):lB Y w h a B
noncomputable def oZ(B:Hn (HI×HP)):Ho:=.dict [(.none,.dict (B.map λp=>(.int p.1,.str p.2)))]
theorem lB.there(i:lB Y w h a B):∃o,h.get? a=hb o/\(∀fs,o.data≠.fields fs)/\¬jV o:=by obtain⟨_,⟨o,es,ep,ho,q1,q2,_⟩,_,_⟩:=i;exact rL o ho (λ_ z=>by rw[q2]at z;(cases z)) (λ⟨_,_,e⟩=>by rw[e]at q2;cases q2)
theorem lB.kept(i:lB Y w h a B)(k:∀o,h.get? a=hb o->(∀fs,o.data≠.fields fs)->¬jV o->h'.get? a=hb o):lB Y w h' a B:=by refine kK i.there λo' e f t=>?_;obtain⟨aW,⟨o,es,ep,ho,q⟩,h2,h3⟩:=i;rw[H4 (e.symm.trans ho)]at f t;exact⟨aW,⟨o,es,ep,k o ho f t,q⟩,h2,h3⟩
section
variable(Y:IB)(w:Ja)(Hz:Hn Hv)
mutual
inductive RD(h:Iv):HE->Ho->Hn Hv->Prop
 |none:RD h .none .none []
 |bool (b:Ig):RD h (.bool b) (.bool b) []
 |int (i:HI) (t:Pk):RD h (.int i t) (.int i) []
 |str (x:HP) (t:Pk):RD h (.str x t) (.str x) []
 |list {a:Hv} {vs:Hn HE} {n:HG} {B:Hn Ho} {as:Hn Hv}:h.get? a=hb (cA vs n)->bH h vs B as->RD h (.ref a) (.list B) (a::as)
 |tuple {a:Hv} {vs:Hn HE} {n:HG} {B:Hn Ho} {as:Hn Hv}:h.get? a=hb (kM vs n)->a∉Hz->bH h vs B as->RD h (.ref a) (.tuple B) as
 |dict {a:Hv} {aW:Hn (HP×HE)} {B:Hn (HP×Ho)} {as:Hn Hv}:h.DictOf (strKind Y w) a aW->(a==Kd)=HH->aW.map (·.1)=B.map (·.1)->bH h (aW.map (·.2)) (B.map (·.2)) as->
   RD h (.ref a) (dictOf B) (a::as)
 |val {V b db:Hv} {x y:HI}:ic h V b db x y->RD h (.ref b) (oH V x y) [b,db]
 |store {a dx C V p hd:Hv} {aJ:Hn (Hv×Hv)} {f:jr} {vs:Hn HE} {m:HP->Hp HE} {ks:Hn (HP×HE)} {as:Hn Hv}:bj Y w h a dx C V p hd aJ f vs m ks->bH h vs [f.told,f.given,f.bD] as->RD h (.ref a) (aE C V p f) (bP a dx hd aJ++as)
 |inst {a dx C:Hv} {rs:Hn (HP×Hv)} {fs:Hn (HP×Ho)} {vs:Hn HE} {m:HP->Hp HE} {as:Hn Hv}:oJ h a dx C m->(∀q∈rs,m q.1=hb (.ref q.2))->fs.map (λp=>m p.1)=vs.map hb->Within m (rs.map (·.1)++fs.map (·.1))->bH h vs (fs.map (·.2)) as->RD h (.ref a) (ec C rs fs) (a::dx::as)
 |num {a:Hv} {B:Hn (HI×HP)}:lB Y w h a B->RD h (.ref a) (oZ B) [a]
inductive bH(h:Iv):Hn HE->Hn Ho->Hn Hv->Prop
 |nil:bH h [] [] []
 |cons {u:HE} {us:Hn HE} {x:Ho} {B:Hn Ho} {as bs:Hn Hv}:RD h u x as->bH h us B bs->bH h (u::us) (x::B) (as++bs)
end
end
mutual
noncomputable def flat:Ho->Ig
 |.none=>Hq
 |.bool _=>Hq
 |.int _=>Hq
 |.str _=>Hq
 |.list _=>HH
 |.tuple B=>bZ B
 |.dict _=>HH
noncomputable def bZ:Hn Ho->Ig
 |[]=>Hq
 |x::B=>flat x&&bZ B
end
mutual
noncomputable def wf:Ho->Ig
 |.none=>Hq
 |.bool _=>Hq
 |.int _=>Hq
 |.str x=>Ki x&&decide (x.length<=sizeLine)
 |.list B=>decide (B.length<=sizeLine)&&fy B
 |.tuple B=>decide (B.length<=sizeLine)&&fy B
 |.dict aW=>decide (aW.length<=sizeLine)&&x5 aW
noncomputable def fy:Hn Ho->Ig
 |[]=>Hq
 |x::B=>wf x&&fy B
noncomputable def x5:Hn (Ho×Ho)->Ig
 |[]=>Hq
 |(k,x)::B=>wf k&&wf x&&x5 B
end
mutual
noncomputable def nd:Ho->Ig
 |.none=>Hq
 |.bool _=>Hq
 |.int _=>Hq
 |.str _=>Hq
 |.list B=>xP B
 |.tuple B=>xP B
 |.dict _=>HH
noncomputable def xP:Hn Ho->Ig
 |[]=>Hq
 |x::B=>nd x&&xP B
end
mutual
theorem kH:∀x:Ho,wf x=Hq->nd x=Hq->x.canLay0=Hq
 |.none,_,_=>by assumption
 |.bool _,_,_=>by assumption
 |.int _,_,_=>by assumption
 |.str x,h,_=>(IU.mp h).1
 |.list B,h,f=>kB B (IU.mp h).2 f
 |.tuple B,h,f=>kB B (IU.mp h).2 f
 |.dict _,_,h=>Iu h
theorem kB:∀B:Hn Ho,fy B=Hq->xP B=Hq->Mv B=Hq
 |[],_,_=>by assumption
 |x::B,h,f=>by
  simp only[fy,HU]at h;simp only[xP,HU]at f;simp[Mv,kH x h.1 f.1,kB B h.2 f.2]
end
variable{aH:Hn HE->Hn Ho->Hn Hv->Prop}
theorem RD.both{P:HE->Ho->Hn Hv->Prop}(c1:P .none .none [])(c2:∀b,P (.bool b) (.bool b) [])(c3:∀i t,P (.int i t) (.int i) [])(c4:∀x t,P (.str x t) (.str x) [])
  (c5:∀{a vs n B as},h.get? a=hb (cA vs n)->bH Y w Hz h vs B as->aH vs B as->P (.ref a) (.list B) (a::as))(c6:∀{a vs n B as},h.get? a=hb (kM vs n)->a∉Hz->bH Y w Hz h vs B as->aH vs B as->P (.ref a) (.tuple B) as)
  (c7:∀{a}{aW:Hn (HP×HE)}{B:Hn (HP×Ho)}{as},h.DictOf (strKind Y w) a aW->(a==Kd)=HH->aW.map (·.1)=B.map (·.1)->bH Y w Hz h (aW.map (·.2)) (B.map (·.2)) as->aH (aW.map (·.2)) (B.map (·.2)) as->P (.ref a) (dictOf B) (a::as))
  (cv:∀{V b db x y},ic h V b db x y->P (.ref b) (oH V x y) [b,db])
  (cs:∀{a dx C V p hd aJ f vs m ks as},bj Y w h a dx C V p hd aJ f vs m ks->bH Y w Hz h vs [f.told,f.given,f.bD] as->aH vs [f.told,f.given,f.bD] as->P (.ref a) (aE C V p f) (bP a dx hd aJ++as))
  (cr:∀{a dx C}{rs:Hn (HP×Hv)}{fs:Hn (HP×Ho)}{vs:Hn HE}{m:HP->Hp HE}{as},oJ h a dx C m->(∀q∈rs,m q.1=hb (.ref q.2))->fs.map (λp=>m p.1)=vs.map hb->Within m (rs.map (·.1)++fs.map (·.1))->bH Y w Hz h vs (fs.map (·.2)) as->aH vs (fs.map (·.2)) as->P (.ref a) (ec C rs fs) (a::dx::as))
  (cn:∀{a B},lB Y w h a B->P (.ref a) (oZ B) [a])
  (c8:aH [] [] [])(c9:∀{u us x B as bs},RD Y w Hz h u x as->bH Y w Hz h us B bs->P u x as->aH us B bs->aH (u::us) (x::B) (as++bs)):
  (∀{v x as},RD Y w Hz h v x as->P v x as)/\∀{vs B as},bH Y w Hz h vs B as->aH vs B as:=
 ⟨λ{_ _ _} r=>RD.rec (motive_1:=λv x as _=>P v x as) (motive_2:=λvs B as _=>aH vs B as) c1 c2 c3 c4 (λa b c=>c5 a b c) (λa z b c=>c6 a z b c) (λa b c d e=>c7 a b c d e) (λa=>cv a) (λa b c=>cs a b c) (λa b c d e f=>cr a b c d e f) (λa=>cn a) c8 (λa b c d=>c9 a b c d) r,
  λ{_ _ _} r=>bH.rec (motive_1:=λv x as _=>P v x as) (motive_2:=λvs B as _=>aH vs B as) c1 c2 c3 c4 (λa b c=>c5 a b c) (λa z b c=>c6 a z b c) (λa b c d e=>c7 a b c d e) (λa=>cv a) (λa b c=>cs a b c) (λa b c d e f=>cr a b c d e f) (λa=>cn a) c8 (λa b c d=>c9 a b c d) r⟩
theorem aa5(k:bA h h'):(∀{v x as},RD Y w Hz h v x as->RD Y w Hz h' v x as)/\∀{vs B as},bH Y w Hz h vs B as->bH Y w Hz h' vs B as:=
 RD.both .none .bool .int .str (λa _ r=>.list (k _ _ a) r) (λa z _ r=>.tuple (k _ _ a) z r) (λq g e _ r=>.dict (by exact uR q λo es ep ho q=>Ar o es ep (k _ _ ho) q) g e r) (λi=>.val (i.kept λ_ _ _=>k _ _)) (λi _ r=>.store (i.kept λ_ _ _=>k _ _) r) (λi q e n _ r=>.inst (i.kept (k _) (k _)) q e n r) (λi=>.num (i.kept λo e _ _=>k _ o e)) .nil (λ_ _ a r=>.cons a r)
variable{v:HE}{x:Ho}{as:Hn Hv}
theorem RD.grow(k:bA h h')(r:RD Y w Hz h v x as):RD Y w Hz h' v x as:=(aa5 k).1 r
variable{vs:Hn HE}{B:Hn Ho}
theorem bH.grow(k:bA h h')(r:bH Y w Hz h vs B as):bH Y w Hz h' vs B as:=(aa5 k).2 r
theorem fv(k:∀a o,h.get? a=hb o->a∉Hz->a∉Hy):(∀{v x as},RD Y w Hz h v x as->RD Y w Hy h v x as)/\∀{vs B as},bH Y w Hz h vs B as->bH Y w Hy h vs B as:=
 RD.both .none .bool .int .str (λa _ r=>.list a r) (λa z _ r=>.tuple a (k _ _ a z) r) (λq g e _ r=>.dict q g e r) (λi=>.val i) (λi _ r=>.store i r) (λi q e n _ r=>.inst i q e n r) (λi=>.num i) .nil (λ_ _ a r=>.cons a r)
theorem ajR(k:∀z∈Hz,U.get? z=Hu):(∀{v x as},RD Y w [] U v x as->RD Y w Hz U v x as)/\∀{vs B as},bH Y w [] U vs B as->bH Y w Hz U vs B as:=
 fv λa o e _ z=>no ((k a z).symm.trans e)
def Off(W:Hn Hv)(h h':Iv):Prop:=∀b o,h.get? b=hb o->(b∉W∨jV o)->h'.get? b=hb o
variable{W:Hn Hv}
theorem Off.cN(k:bA h h'):Off W h h':=λb o e _=>k b o e
theorem abZ(k:Off W h h'):(∀{v x as},RD Y w Hz h v x as->(∀a∈as,a∉W)->RD Y w Hz h' v x as)/\∀{vs B as},bH Y w Hz h vs B as->(∀a∈as,a∉W)->bH Y w Hz h' vs B as:=
 RD.both (λ_=>.none) (λb _=>.bool b) (λi t _=>.int i t) (λi t _=>.str i t) (λa _ r q=>.list (k _ _ a (.inl (q _ (.head _)))) (r λb U=>q b (.tail _ U))) (λa z _ r q=>.tuple (k _ _ a (.inr ⟨_,_,rfl⟩)) z (r q))
  (λp g e _ r q=>.dict (by exact uR p λo es ep ho p=>Ar o es ep (k _ _ ho (.inl (q _ (.head _)))) p) g e (r λb U=>q b (.tail _ U))) (λi q=>.val (i.kept λc hc o e=>k c o e (.inl (q c hc)))) (λi _ r q=>.store (i.kept λc hc o e=>k c o e (.inl (q c (HF _ hc)))) (r λb U=>q b (Hx _ U))) (λi p e n _ r q=>.inst (i.kept (λo eo=>k _ o eo (.inl (q _ (.head _)))) (λo eo=>k _ o eo (.inl (q _ (.tail _ (.head _)))))) p e n (r λb U=>q b (.tail _ (.tail _ U)))) (λi q=>.num (i.kept λo e _ _=>k _ o e (.inl (q _ (.head _))))) (λ_=>.nil) (λ_ _ a r q=>.cons (a λb U=>q b (HF _ U)) (r λb U=>q b (Hx _ U)))
theorem RD.off(k:Off W h h')(r:RD Y w Hz h v x as)(q:∀a∈as,a∉W):RD Y w Hz h' v x as:=(abZ k).1 r q
theorem bH.off(k:Off W h h')(r:bH Y w Hz h vs B as)(q:∀a∈as,a∉W):bH Y w Hz h' vs B as:=(abZ k).2 r q
theorem aav:(∀{v x as},RD Y w Hz h v x as->∀a∈as,∃o,h.get? a=hb o)/\∀{vs B as},bH Y w Hz h vs B as->∀a∈as,∃o,h.get? a=hb o:=
 RD.both (λ_ q=>nomatch q) (λ_ _ q=>nomatch q) (λ_ _ _ q=>nomatch q) (λ_ _ _ q=>nomatch q) (λa _ r b q=>(Hw.mp q).elim (λe=>⟨_,e▸a⟩) (r b)) (λ_ _ _ r b q=>r b q)
  (λp _ _ _ r b q=>(Hw.mp q).elim (λe=>by obtain⟨o,_,_,ho,_⟩:=p;exact⟨o,e▸ho⟩) (r b)) (λi c q=>by obtain⟨m,t,u,i,_⟩:=i;exact(i.alive c q).imp λ_ h=>h.1) (λi _ r c q=>(HD.mp q).elim (λq=>(i.alive c q).imp λ_ h=>h.1) (r c)) (λ{a dx _ _ _ _ _ as} i _ _ _ _ r c q=>(HD.mp (show c∈[a,dx]++as from q)).elim (λq=>(i.alive c q).imp λ_ h=>h.1) (r c)) (λi c q=>by exact(HB.mp q).symm▸i.there.imp λ_ h=>h.1) (λ_ q=>nomatch q) (λ_ _ a r b q=>(HD.mp q).elim (a b) (r b))
theorem RD.alive(r:RD Y w Hz h v x as):∀a∈as,∃o,h.get? a=hb o:=aav.1 r
theorem bH.alive(r:bH Y w Hz h vs B as):∀a∈as,∃o,h.get? a=hb o:=aav.2 r
theorem aaR:(∀{v x as},RD Y w Hz h v x as->flat x=Hq->as=[])/\∀{vs B as},bH Y w Hz h vs B as->bZ B=Hq->as=[]:=
 RD.both (λ_=>rfl) (λ_ _=>rfl) (λ_ _ _=>rfl) (λ_ _ _=>rfl) (λ_ _ _ e=>Iu e) (λ_ _ _ r e=>r e) (λ_ _ _ _ _ e=>Iu e) (λ_ e=>Iu e) (λ_ _ _ e=>Iu e) (λ_ _ _ _ _ _ e=>Iu e) (λ_ e=>nomatch(show HH=Hq from e)) (λ_=>rfl)
  (λ_ _ a r e=>by
   simp only[bZ,HU]at e;refine(a e.1).symm▸(r e.2).symm▸?_;rfl)
theorem RD.bR(r:RD Y w Hz h v x as)(e:flat x=Hq):as=[]:=aaR.1 r e
theorem bH.bR(r:bH Y w Hz h vs B as)(e:bZ B=Hq):as=[]:=aaR.2 r e
theorem acw:(∀{v x as},RD Y w Hz h v x as->x.canLay0=Hq->Reads h v x as)/\∀{vs B as},bH Y w Hz h vs B as->Mv B=Hq->ReadsAll h vs B as:=
 RD.both (λ_=>.none) (λb _=>.bool b) (λi t _=>.int i t) (λi t _=>.str i t) (λa _ r c=>.list a rfl rfl (r (by simpa[LI]using c))) (λa _ _ r c=>.tuple a rfl rfl (r (by simpa[LI]using c)))
  (λ_ _ _ _ _ c=>Iu c) (λ_ c=>Iu c) (λ_ _ _ c=>Iu c) (λ_ _ _ _ _ _ c=>Iu c) (λ_ c=>Iu c) (λ_=>.nil) (λ_ _ a r c=>by
   simp only[Mv,HU]at c;exact .cons (a c.1) (r c.2))
theorem RD.reads(r:RD Y w Hz h v x as)(c:x.canLay0=Hq):Reads h v x as:=acw.1 r c
theorem bH.ind(c8:aH [] [] [])(c9:∀{u us x B as bs},RD Y w Hz h u x as->bH Y w Hz h us B bs->aH us B bs->aH (u::us) (x::B) (as++bs))(r:bH Y w Hz h vs B as):aH vs B as:=
 (RD.both (P:=λ_ _ _=>N9) (aH:=aH) trivial (λ_=>trivial) (λ_ _=>trivial) (λ_ _=>trivial) (λ_ _ _=>trivial) (λ_ _ _ _=>trivial) (λ_ _ _ _ _=>trivial) (λ_=>trivial) (λ_ _ _=>trivial) (λ_ _ _ _ _ _=>trivial) (λ_=>trivial) c8 (λa b _ r=>c9 a b r)).2 r
theorem bH.length(r:bH Y w Hz h vs B as):vs.length=B.length:=
 bH.ind (aH:=λvs B _=>vs.length=B.length) rfl (λ_ _ r=>by(refine Ju.trans ?_;(dsimp only[Ju];rw[r]))) r
variable{bs:Hn Hv}
theorem bH.append(r:bH Y w Hz h vs B as)(q:bH Y w Hz h ws ys bs):bH Y w Hz h (vs++ws) (B++ys) (as++bs):=
 bH.ind (aH:=λvs B as=>bH Y w Hz h (vs++ws) (B++ys) (as++bs)) q (λa _ r=>by rw[I6];exact .cons a r) r
theorem bH.get(r:bH Y w Hz h vs B as){i:HG}(e:B[i]? =hb x):∃v bs,vs[i]? =hb v/\RD Y w Hz h v x bs/\∀b∈bs,b∈as:=by
 refine bH.ind (aH:=λvs B as=>∀i:HG,B[i]? =hb x->∃v bs,vs[i]? =hb v/\RD Y w Hz h v x bs/\∀b∈bs,b∈as) (λi e=>no e) (λ{u us y ys as bs} a _ r i e=>?_) r i e;induction i with
 |zero=>rw[LF]at e;(have e:=si e;subst e;clear e);exact mz u as rfl a (λb U=>HF _ U)
 |succ i=>exact j8 (r i e) λv bs h1 h2 h3=>mz v bs h1 h2 (λb U=>Hx _ (h3 b U))
theorem bH.part(r:bH Y w Hz h vs B as)(is:Hn HG):
  ∃bs,bH Y w Hz h (is.filterMap λi=>vs[i]?) (is.filterMap λi=>B[i]?) bs/\∀b∈bs,b∈as:=by
 induction is with
 |nil=>exact i12 ([]) .nil (λ_ q=>nomatch q)
 |cons i is ih=>
  refine aQ ih λbs q hq=>?_;by_cases hi:i<B.length
  ·refine j8 (r.get (i:=i) (x:=B[i]) (by simp[hi])) λv cs e1 e2 e3=>i12 (cs++bs) ?_ (λb U=>(HD.mp U).elim (e3 b) (hq b));refine I1.symm▸I1.symm▸e1.symm▸?_;simp only[HQ hi];exact .cons e2 q
  ·obtain hv:vs[i]? =Hu:=Jw (by exact r.length.symm▸JQ hi);obtain hx:B[i]? =Hu:=Jw (JQ hi);refine i12 bs ?_ hq;refine I1.symm▸I1.symm▸hv.symm▸hx.symm▸?_;exact q
noncomputable def dQ:Hn (Ho×Ho)->Ig
 |[]=>Hq
 |(.str _,_)::_=>Hq
 |_=>HH
theorem gj(f:α->HP)(g:α->Ho)(B:Hn α):dQ (B.map λp=>(.str (f p),g p))=Hq:=by cases B<;>rfl
noncomputable def atKey(k:HP):Hn (Ho×Ho)->Hp Ho
 |[]=>Hu
 |(.str x,v)::r=>if x=k then hb v else atKey k r
 |_::r=>atKey k r
section
variable(Y w Hz)
inductive FC(h:Iv)(x:Ho)(B:Hn Ho):Hn HE->Hn Hv->Prop
 |mk (u:HE) (us:Hn HE) (bs cs:Hn Hv) (a:RD Y w Hz h u x bs) (b:bH Y w Hz h us B cs):FC h x B (u::us) (bs++cs)
inductive CM(i:HI):HE->Prop
 |mk (t:Pk):CM i (.int i t)
inductive Cd(x:HP):HE->Prop
 |mk (t:Pk):Cd x (.str x t)
inductive zb(h:Iv)(B:Hn Ho):HE->Hn Hv->Prop
 |mk (a:Hv) (vs:Hn HE) (n:HG) (bs:Hn Hv) (h1:h.get? a=hb (cA vs n)) (h2:bH Y w Hz h vs B bs):zb h B (.ref a) (a::bs)
inductive CG(h:Iv)(B:Hn Ho)(as:Hn Hv):HE->Prop
 |mk (a:Hv) (vs:Hn HE) (n:HG) (h1:h.get? a=hb (kM vs n)) (hz:a∉Hz) (h2:bH Y w Hz h vs B as):CG h B as (.ref a)
inductive yQ(h:Iv):Hn (Ho×Ho)->HE->Hn Hv->Prop
 |mk (a:Hv) (aW:Hn (HP×HE)) (B:Hn (HP×Ho)) (bs:Hn Hv) (h1:h.DictOf (strKind Y w) a aW) (h2:(a==Kd)=HH) (h3:aW.map (·.1)=B.map (·.1)) (h4:bH Y w Hz h (aW.map (·.2)) (B.map (·.2)) bs):yQ h (B.map λp=>(.str p.1,p.2)) (.ref a) (a::bs)
def RDh(h:Iv)(v:HE)(as:Hn Hv):Ho->Prop
 |.none=>v=.none
 |.bool b=>v=.bool b
 |.int i=>CM i v
 |.str x=>Cd x v
 |.list B=>zb Y w Hz h B v as
 |.tuple B=>CG Y w Hz h B as v
 |.dict ps=>(∃a bs,v=.ref a/\as=a::bs)/\(∀k x,atKey k ps=hb x->dQ ps=Hq)/\(dQ ps=Hq->yQ Y w Hz h ps v as)
def ap1(h:Iv)(vs:Hn HE)(as:Hn Hv):Hn Ho->Prop
 |[]=>vs=[]/\as=[]
 |x::B=>FC Y w Hz h x B vs as
end
theorem bH.head(r:bH Y w Hz h vs B as):ap1 Y w Hz h vs as B:=
 r.casesOn ⟨rfl,rfl⟩ λa b=>⟨_,_,_,_,a,b⟩
variable{u:HE}
theorem bH.cons_inv(r:bH Y w Hz h (u::us) (x::B) as):∃bs cs,as=bs++cs/\RD Y w Hz h u x bs/\bH Y w Hz h us B cs:=by
 have H:∀{vs},FC Y w Hz h x B vs as->vs=u::us->∃bs cs,as=bs++cs/\RD Y w Hz h u x bs/\bH Y w Hz h us B cs:=λH=>by
  induction H with|mk _ _ _ _ a b=>exactλe=>mz _ _ rfl (List.head_eq_of_cons_eq e▸a) (List.tail_eq_of_cons_eq e▸b)
 exact H r.head rfl
theorem bH.yw(r:bH Y w Hz h vs (x::B) as):FC Y w Hz h x B vs as:=r.head
theorem RD.head(r:RD Y w Hz h v x as):RDh Y w Hz h v as x:=
 r.casesOn rfl (λ_=>rfl) (λ_ _=>⟨_⟩) (λ_ _=>⟨_⟩) (λa b=>⟨_,_,_,_,a,b⟩) (λa z b=>⟨_,_,_,a,z,b⟩) (λb1 b2 b3 b4=>⟨⟨_,_,rfl,rfl⟩,λ_ _ _=>gj _ _ _,λ_=>⟨_,_,_,_,b1,b2,b3,b4⟩⟩)
  (λ_=>⟨⟨_,_,rfl,rfl⟩,λ_ _ e=>no e,λe=>Iu e⟩) (λ_ _=>⟨⟨_,_,rfl,rfl⟩,λ_ _ e=>no e,λe=>Iu e⟩) (λ_ _ _ _ _=>⟨⟨_,_,rfl,rfl⟩,λ_ _ e=>no e,λe=>Iu e⟩) (λ_=>⟨⟨_,_,rfl,rfl⟩,λ_ _ e=>no e,λe=>Iu e⟩)
variable{i:HI}
theorem RD.dR(r:RD Y w Hz h v (.int i) as):CM i v:=r.head
theorem RD.ij(r:RD Y w Hz h v (.str gc) as):Cd gc v:=r.head
theorem RD.listI(r:RD Y w Hz h v (.list B) as):zb Y w Hz h B v as:=r.head
theorem RD.tupI(r:RD Y w Hz h v (.tuple B) as):CG Y w Hz h B as v:=r.head
theorem bH.nil_inv(r:bH Y w Hz h vs [] as):vs=[]/\as=[]:=r.head
theorem RD.none_inv(r:RD Y w Hz h v .none as):v=.none:=r.head
theorem RD.bool_inv{b:Ig}(r:RD Y w Hz h v (.bool b) as):v=.bool b:=r.head
theorem RD.int_inv(r:RD Y w Hz h v (.int i) as):∃t,v=.int i t:=by induction r.dR with|mk t=>exact⟨t,rfl⟩
theorem RD.fK(r:RD Y w Hz h v (.list B) as):∃a vs n bs,v=.ref a/\as=a::bs/\h.get? a=hb (cA vs n)/\bH Y w Hz h vs B bs:=by induction r.listI with|mk a vs n bs h1 h2=>exact i44 _ _ _ _ rfl rfl h1 h2
variable{ps:Hn (Ho×Ho)}
theorem RD.agP(r:RD Y w Hz h v (.dict ps) as)(hk:dQ ps=Hq):∃(a:Hv)(aW:Hn (HP×HE))(B:Hn (HP×Ho))(bs:Hn Hv),v=.ref a/\as=a::bs/\ps=(B.map λp=>(.str p.1,p.2))/\h.DictOf (strKind Y w) a aW/\(a==Kd)=HH/\aW.map (·.1)=B.map (·.1)/\bH Y w Hz h (aW.map (·.2)) (B.map (·.2)) bs:=by induction r.head.2.2 hk with|mk a aW B bs h1 h2 h3 h4=>exact i47 _ _ _ _ rfl rfl rfl h1 h2 h3 h4
theorem RD.nq(r:RD Y w Hz h v (.dict ps) as)(hk:dQ ps=Hq):yQ Y w Hz h ps v as:=r.head.2.2 hk
theorem eG(B ys:Hn Ho):fy (B++ys)=(fy B&&fy ys):=by
 induction B with
 |nil=>rfl
 |cons x B ih=>simp[fy,ih,Bool.and_assoc]
theorem cM(B:Hn Ho):fy B=Hq↔∀x∈B,wf x=Hq:=by
 induction B with
 |nil=>decide
 |cons x B ih=>simp[fy,ih]
theorem tx(B:Hn Ho):xP B=Hq↔∀x∈B,nd x=Hq:=by
 induction B with
 |nil=>decide
 |cons x B ih=>simp[xP,ih]
theorem aeB(B:Hn Ho):bZ B=Hq↔∀x∈B,flat x=Hq:=by
 induction B with
 |nil=>decide
 |cons x B ih=>simp[bZ,ih]
inductive Fl where
 |d
 |s
 |t
 deriving DecidableEq
structure V where
 x:Ho
 fl:Fl
def V.fix(x:Ho)(f:Fl):V:=⟨x,if flat x then .d else f⟩
inductive E3 where
 |lst (B:Hn Ho)
 |lq (aW:Hn (HI×HP))
 |tree (r:Hp Hv) (x:Ho)
inductive VV where
 |val (v:V)
 |own (o:E3)
abbrev ar:=HP->Hp VV
noncomputable def ar.set(L:ar)(x:HP)(v:VV):ar:=λy=>bif y==x then hb v else L y
theorem eW(L:ar)(x:HP)(v:VV)(y:HP):(L.set x v) y=if y=x then hb v else L y:=by
 by_cases h:y=x
 ·refine DN _ h ?_;subst h;simp[ar.set]
 ·refine Fa _ h ?_;simp[ar.set,HO.mpr h]
noncomputable def dD:Ho->Ig
 |.list _=>Hq
 |.dict _=>Hq
 |_=>HH
def da(ae:Iv)(W:Hn Hv)(f:Fl)(as:Hn Hv):Prop:=
 match f with
 |.d=>∀a∈as,ae.get? a=Hu/\a∉W
 |.s=>∀a∈as,a∉W
 |.t=>N9
variable{ae:Iv}{f:Fl}
theorem da.nil:da ae W f []:=by cases f<;>simp[da]
theorem da.mono(h:da ae W f as)(hs:∀a∈bs,a∈as):da ae W f bs:=by
 cases f
 ·exactλa ha=>h a (hs a ha)
 ·exactλa ha=>h a (hs a ha)
 ·trivial
theorem da.append(h:da ae W f as)(k:da ae W f bs):da ae W f (as++bs):=by
 cases f
 ·exactλa ha=>(HD.mp ha).elim (h a) (k a)
 ·exactλa ha=>(HD.mp ha).elim (h a) (k a)
 ·trivial
section
variable(Y w Hz)
inductive dK(ae:Iv)(W:Hn Hv)(h:Iv)(u:HE)(v:V):Prop
 |mk (as:Hn Hv) (h1:RD Y w Hz h u v.x as) (h2:wf v.x=Hq) (h3:da ae W v.fl as):dK ae W h u v
inductive ip(ae:Iv)(W:Hn Hv)(h:Iv):Hn HE->Hn V->Prop
 |nil:ip ae W h [] []
 |cons {u:HE} {v:V} {us:Hn HE} {vs:Hn V}:dK Y w Hz ae W h u v->ip ae W h us vs->ip ae W h (u::us) (v::vs)
end
theorem dK.grow(r:dK Y w Hz ae W h u fb)(k:bA h h'):dK Y w Hz ae W h' u fb:=by obtain⟨as,r,c,f⟩:=r;exact⟨as,r.grow k,c,f⟩
theorem ip.grow(r:ip Y w Hz ae W h us BB)(k:bA h h'):ip Y w Hz ae W h' us BB:=by
 induction r with
 |nil=>exact .nil
 |cons a _ ih=>exact .cons (a.grow k) ih
theorem dK.fixed(r:RD Y w Hz h u x as)(c:wf x=Hq)(o:da ae W f as):dK Y w Hz ae W h u (V.fix x f):=by
 cases e:flat x with
 |true=>refine⟨as,r,c,?_⟩;rw[r.bR e];exact da.nil
 |false=>exact⟨as,r,c,by simpa[V.fix,e]using o⟩
theorem dK.int:dK Y w Hz ae W h (.int i t) ⟨.int i,.d⟩:=⟨[],.int i t,rfl,da.nil⟩
theorem dK.bool{b:Ig}:dK Y w Hz ae W h (.bool b) ⟨.bool b,.d⟩:=⟨[],.bool b,rfl,da.nil⟩
theorem dK.none:dK Y w Hz ae W h .none ⟨.none,.d⟩:=⟨[],.none,rfl,da.nil⟩
theorem dK.str{x:HP}(hx:wf (.str x)=Hq):dK Y w Hz ae W h (.str x t) ⟨.str x,.d⟩:=⟨[],.str x t,hx,da.nil⟩
section
variable(Y w Hz)
inductive jz(ae:Iv)(W:Hn Hv)(h:Iv):HE->E3->Hn Hv->Prop
 |lst {a:Hv} {vs:Hn HE} {n:HG} {B:Hn Ho} {as:Hn Hv}:h.get? a=hb (cA vs n)->bH Y w Hz h vs B as->wf (.list B)=Hq->
   da ae W .d as->jz ae W h (.ref a) (.lst B) [a]
 |lq {a:Hv} {B:Hn (HI×HP)}:lB Y w h a B->wf (oZ B)=Hq->jz ae W h (.ref a) (.lq B) [a]
 |tree {a:Hv} {r:Hp Hv} {x:Ho} {as:Hn Hv}:RD Y w Hz h (.ref a) x as->as.Nodup->wf x=Hq->dD x=Hq->(∀b,r=hb b->b=a)->jz ae W h (.ref a) (.tree r x) as
inductive Cm(ae:Iv)(W:Hn Hv)(h:Iv)(B:Hn Ho)(a:Hv):Prop
 |mk (vs:Hn HE) (n:HG) (as:Hn Hv) (h1:h.get? a=hb (cA vs n)) (h2:bH Y w Hz h vs B as) (h3:wf (.list B)=Hq) (h4:da ae W .d as):Cm ae W h B a
inductive y4(h:Iv)(r:Hp Hv)(x:Ho)(as:Hn Hv):HE->Prop
 |mk (a:Hv) (h1:RD Y w Hz h (.ref a) x as) (h2:as.Nodup) (h3:wf x=Hq) (h4:dD x=Hq) (h5:∀b,r=hb b->b=a):y4 h r x as (.ref a)
def am6(ae:Iv)(W:Hn Hv)(h:Iv)(u:HE)(sp:Hn Hv):E3->Prop
 |.lst B=>∀a,u=.ref a->Cm Y w Hz ae W h B a
 |.lq B=>∀a,u=.ref a->lB Y w h a B/\wf (oZ B)=Hq
 |.tree r x=>y4 Y w Hz h r x sp u
def cj(ae:Iv)(W:Hn Hv)(O:Hn (HP×Hn Hv))(h:Iv)(x:HP)(u:HE):VV->Prop
 |.val v=>(v.fl=.d∨v.fl=.s)/\dK Y w Hz ae W h u v
 |.own o=>∃sp,O.lookup x=hb sp/\jz Y w Hz ae W h u o sp
structure fh(U h:Iv):Prop where
 hide:∀z∈Hz,U.get? z=Hu/\∃o,h.get? z=hb o/\jV o
 lim:U.NoLimit
 seer:U.NoSeer
 tree:Y.given.tree=Hu
 mods:∃o,U.get? Kd=hb o
 grow:bA U h
variable{Y Hz}in
theorem fh.trans(b:fh Y Hz U h)(k:bA h h'):fh Y Hz U h':=⟨λz hz=>let⟨q,o,e,t⟩:=b.hide z hz;⟨q,o,k _ _ e,t⟩,b.lim,b.seer,b.tree,b.mods,b.grow.trans k⟩
variable{Y Hz}in
theorem fh.nolimit(b:fh Y Hz U h):h.NoLimit:=b.lim.keeps b.grow
variable{Y Hz}in
theorem fh.alM(b:fh Y Hz U h):h.NoSeer:=b.seer.keeps b.grow
noncomputable def WW(K:Ke)(C:Hn Hv)(O:Hn (HP×Hn Hv)):Hn Hv:=K.locals::(C++O.flatMap (·.2))
structure InF(U:Iv)(ae:HM)(X:Hn Hv)(K:Ke)(C:Hn Hv)(L:ar)(O:Hn (HP×Hn Hv))(s:HM):Prop where
 same:∃h tk,s={ae with heap:=h,toks:=tk}
 base:fh Y Hz U s.heap
 keep:∀b o,ae.heap.get? b=hb o->b∉X->s.heap.get? b=hb o
 alive:∀b o,ae.heap.get? b=hb o->∃o',s.heap.get? b=hb o'
 cO:∀a∈WW K C O,∃o,s.heap.get? a=hb o/\¬jV o
 b8:∀a∈WW K C O,U.get? a=Hu/\(a∉X->ae.heap.get? a=Hu)
 b9:(WW K C O).Nodup
 kind:K.scope.kind=.function
 glob:K.globals=I3
 jJ:K.builtins=K1
 rQ:∀x,K.kindOf x=hb .cell->∃c,K.cells.lookup x=hb c
 ns:∃m,s.heap.Ns K.locals m/\∀x vv,L x=hb vv->K.kindOf x=hb .local->∃u,m x=hb u/\cj Y w Hz ae.heap (WW K C O) O s.heap x u vv
 cell:∀x vv,L x=hb vv->K.kindOf x=hb .cell->∃c u,K.cells.lookup x=hb c/\s.heap.IsCell c (hb u)/\cj Y w Hz ae.heap (WW K C O) O s.heap x u vv
end
variable{sp:Hn Hv}
theorem jz.head(r:jz Y w Hz ae W h u o sp):am6 Y w Hz ae W h u sp o:=
 r.casesOn (λa b c d _ e=>Pl e▸⟨_,_,_,a,b,c,d⟩) (λa b _ e=>Pl e▸⟨a,b⟩) (λa b c d e=>⟨_,a,b,c,d,e⟩)
theorem jz.A1(r:jz Y w Hz ae W h (.ref a) (.lst B) sp):Cm Y w Hz ae W h B a:=r.head a rfl
theorem jz.pq(r:jz Y w Hz ae W h u (.tree ro x) sp):y4 Y w Hz h ro x sp u:=r.head
structure du(Y:IB)(w:Ja)(Hz:Hn Hv)(U:Iv)(ae:HM)(X:Hn Hv)(K:Ke)(C:Hn Hv)(L:ar)(O:Hn (HP×Hn Hv))(s:HM):Prop extends InF Y w Hz U ae X K C L O s where
 fc:∀x,K.kindOf x=hb .cell->∃c,K.cells.lookup x=hb c/\c∈C
 ma:∀x y c,K.cells.lookup x=hb c->K.cells.lookup y=hb c->x=y
 ie:∀x c,K.cells.lookup x=hb c->c∈C/\∃v,s.heap.IsCell c v
theorem jz.grow(r:jz Y w Hz ae W h u o sp)(k:bA h h'):jz Y w Hz ae W h' u o sp:=by
 induction r with
 |lst a b c d=>exact .lst (k _ _ a) (b.grow k) c d
 |lq a g=>exact .lq (a.kept λo e _ _=>k _ o e) g
 |tree a b c e f=>exact .tree (a.grow k) b c e f
variable{O:Hn (HP×Hn Hv)}
theorem cj.grow(r:cj Y w Hz ae W O h gc u fb)(k:bA h h'):cj Y w Hz ae W O h' gc u fb:=by
 induction fb with
 |val fb=>exact gQ r.1 (r.2.grow k)
 |own o=>exact aQ r λsp a b=>i12 sp a (b.grow k)
theorem et{v:Hp HE}(x:h.IsCell c v)(k:bA h h'):h'.IsCell c v:=by exact aQ x λo ho r=>i12 o (k _ _ ho) r
section
variable{ae:HM}{X C:Hn Hv}{K:Ke}{L:ar}
theorem InF.grow(I:InF Y w Hz U ae X K C L O s)(k:I8 s s'):InF Y w Hz U ae X K C L O s':=by
 obtain⟨h',tk,rfl,k⟩:=k;obtain⟨⟨h,t,rfl⟩,i2,i3,i4,i5,i6,i7,i8,i8a,i8b,i8c,i9,i10⟩:=I;refine⟨⟨h',tk,rfl⟩,i2.trans k,λb o e x=>k _ _ (i3 b o e x),λb o e=>?_,λa ha=>?_,i6,i7,i8,i8a,i8b,i8c,?_,?_⟩
 ·obtain⟨o',e'⟩:=i4 b o e;exact vb o' (k _ _ e')
 ·obtain⟨o,e,c⟩:=i5 a ha;exact i12 o (k _ _ e) c
 ·exact aQ i9 λm R hv=>i12 m (R.keeps k) (λx vv e1 e2=>aQ (hv x vv e1 e2) λu a b=>i12 u a (b.grow k))
 ·intro x vv e1 e2;exact j8 (i10 x vv e1 e2) λc u a b d=>mz c u a (et b k) (d.grow k)
theorem du.grow(I:du Y w Hz U ae X K C L O s)(k:I8 s s'):du Y w Hz U ae X K C L O s':=
 ⟨I.toInF.grow k,I.fc,I.ma,λx c hc=>let⟨q,v,h⟩:=I.ie x c hc;⟨q,v,et h (ag k)⟩⟩
theorem InF.fresh(I:InF Y w Hz U ae X K C L O s)(h:s.heap.get? a=Hu):ae.heap.get? a=Hu/\a∉WW K C O:=by
 constructor
 ·cases e:ae.heap.get? a with
  |none=>rfl
  |some o=>exact dA (I.alive a o e) λo' e'=>no (h.symm.trans e')
 ·intro R;exact aQ (I.cO a R) λo e o1=>no (h.symm.trans e)
theorem InF.mT(I:InF Y w Hz U ae X K C L O s):ae.heap.get? s.heap.objs.size=Hu/\s.heap.objs.size∉WW K C O:=I.fresh (aT _ (Io _))
end
structure Room(A:Jh)(n:HG):Prop where
 handled:A.handled=Hu
 depth:A.depth+n+100<Rf
 units:A.units+8*n+100<cLine
 frames:∃l,A.frames=hb l
structure iX(K:Ke):Prop where
 gen:K.scope.isGenerator=HH
 co:K.scope.isCoroutine=HH
 jJ:K.builtins=K1
 glob:K.globals=I3
structure eu(A:Jh)(n:HG):Prop extends Room A n where
 top:∃K l,A.frames=hb (K::l)/\iX K
variable{A:Jh}{n:HG}
theorem Room.mono{m:HG}(h:Room A n)(R:m<=n):Room A m:=⟨h.handled,by have:=h.depth;exact HC (Im (Ij R _) 100) this,by have:=h.units;exact HC (Im (Ij (Kj 8 R) _) 100) this,h.frames⟩
theorem Room.deeper(h:Room A (n+1))(p:iX K):eu (A.deeper K) n:=by refine dA h.frames λl hl=>?_;refine⟨⟨h.handled,(by have:=h.depth;exact rm1 this),(by have:=h.units;exact HC (aoO _ _) this),⟨K::l,?_⟩⟩,⟨K,l,?_,p⟩⟩<;>(show A.frames.map _=_;refine hl.symm▸?_;rfl)
theorem eu.amm(h:eu A n)(b:fh Y Hz U s.heap):PylongRoom (Iq Y w) A s:=by exact mx h.top λK l hf p=>PylongRoom.of b.nolimit (by have:=h.depth;exact HC (Im (Ib _ _) 100) this) (SeerAt.of b.alM b.tree hf p.gen p.co p.jJ p.glob)
section
variable(Y:IB)(w:Ja)(Hz:Hn Hv)(U:Iv)
def Ev(n:HG)(sc:IH)(e:HR)(m:ar->Hp V):Prop:=
 ∀{{A:Jh}} {{Hz:Hn Hv}} {{K:Ke}} {{ae:HM}} {{X C:Hn Hv}} {{L:ar}} {{O:Hn (HP×Hn Hv)}} {{s:HM}} {{v:V}} {{Q:HE->HM->Prop}} {{E:HE->HM->Prop}},
  K.scope=sc->eu A n->InF Y w Hz U ae X K C L O s->m L=hb v->(∀u s',I8 s s'->dK Y w Hz ae.heap (WW K C O) s'.heap u v->Q u s')->wpAny (Iq Y w) A (Jf e K) Q E s
def Tr(n:HG)(sc:IH)(e:HR)(m:ar->Hp Ig):Prop:=
 ∀{{A:Jh}} {{Hz:Hn Hv}} {{K:Ke}} {{ae:HM}} {{X C:Hn Hv}} {{L:ar}} {{O:Hn (HP×Hn Hv)}} {{s:HM}} {{v:Ig}} {{Q:Ig->HM->Prop}} {{E:HE->HM->Prop}},
  K.scope=sc->eu A n->InF Y w Hz U ae X K C L O s->m L=hb v->(∀s',I8 s s'->Q v s')->wpAny (Iq Y w) A (Qj e K (Jf e K)) Q E s
def rM(n:HG)(sc:IH)(es:Hn HR)(m:ar->Hp (Hn V)):Prop:=
 ∀{{A:Jh}} {{Hz:Hn Hv}} {{K:Ke}} {{ae:HM}} {{X C:Hn Hv}} {{L:ar}} {{O:Hn (HP×Hn Hv)}} {{s:HM}} {{vs:Hn V}} {{pos:J3}} {{Q:Hn HE->HM->Prop}} {{E:HE->HM->Prop}},
  K.scope=sc->eu A n->InF Y w Hz U ae X K C L O s->m L=hb vs->(∀us s',I8 s s'->ip Y w Hz ae.heap (WW K C O) s'.heap us vs->Q us s')->
  wpAny (Iq Y w) A (QE (J4 pos (Ie es K))) Q E s
set_option genCtorIdx false in
inductive Out where
 |next(L:ar)
 |brk (L:ar)
 |cont (L:ar)
 |ret (x:Ho)
 |fU (x:Ho) (L:ar)
structure Step(h h':Iv)(W W':Hn Hv):Prop where
 keep:∀b o,h.get? b=hb o->b∉W->h'.get? b=hb o
 new:∀a∈W',a∈W∨h.get? a=Hu
theorem Step.cN(k:bA h h'):Step h h' W W:=⟨λb o e _=>k b o e,λ_ h=>.inl h⟩
theorem Step.refl(h:Iv)(W:Hn Hv):Step h h W W:=Step.cN (bA.refl h)
theorem Step.trans(x:Step h h' W W')(y:Step h' qw W' W''):Step h qw W W'':=by
 refine⟨λb o e U=>y.keep b o (x.keep b o e U) λhw=>?_,λa ha=>?_⟩
 ·rcases x.new b hw with q|q
  ·exact U q
  ·exact no (q.symm.trans e)
 ·rcases y.new a ha with q|q
  ·exact x.new a q
  ·cases e:h.get? a with
   |none=>exact .inr rfl
   |some o=>
    by_cases hw:a∈W
    ·exact .inl hw
    ·exact no (q.symm.trans (x.keep a o e hw))
def Ends(ae:HM)(X:Hn Hv)(K:Ke)(C:Hn Hv)(O:Hn (HP×Hn Hv))(s:HM)(r:Out)(Q:Flow->HM->Prop):Prop:=
 match r with
 |.next L=>∀O' s',du Y w Hz U ae X K C L O' s'->Step s.heap s'.heap (WW K C O) (WW K C O')->Q .next s'
 |.brk L=>∀O' s',du Y w Hz U ae X K C L O' s'->Step s.heap s'.heap (WW K C O) (WW K C O')->Q .brk s'
 |.cont L=>∀O' s',du Y w Hz U ae X K C L O' s'->Step s.heap s'.heap (WW K C O) (WW K C O')->Q .cont s'
 |.ret x=>∀u as O' L s',du Y w Hz U ae X K C L O' s'->RD Y w Hz s'.heap u x as->wf x=Hq->(∀a∈as,a∈X∨ae.heap.get? a=Hu)->Q (.ret u) s'
 |.fU x L=>∀u O' s',du Y w Hz U ae X K C L O' s'->RD Y w Hz s'.heap u x []->wf x=Hq->Q (.ret u) s'
variable{Y w Hz U}in
theorem Ends.trans{X:Hn Hv}{r:Out}{Q:Flow->HM->Prop}(k:Step s.heap s'.heap (WW K BA O) (WW K BA O'))
  (h:Ends Y w Hz U iE X K BA O s r Q):Ends Y w Hz U iE X K BA O' s' r Q:=by
 induction r with
 |next L=>exactλuY jR I t=>h uY jR I (k.trans t)
 |brk L=>exactλuY jR I t=>h uY jR I (k.trans t)
 |cont L=>exactλuY jR I t=>h uY jR I (k.trans t)
 |ret x=>exact h
 |fU x L=>exact h
def St(n:HG)(sc:IH)(ss:Hn IM)(m:ar->Hp Out):Prop:=
 ∀{{A:Jh}} {{Hz:Hn Hv}} {{K:Ke}} {{ae:HM}} {{X C:Hn Hv}} {{L:ar}} {{O:Hn (HP×Hn Hv)}} {{s:HM}} {{r:Out}} {{Q:Flow->HM->Prop}} {{E:HE->HM->Prop}},
  K.scope=sc->eu A n->du Y w Hz U ae X K C L O s->m L=hb r->Ends Y w Hz U ae X K C O s r Q->wpAny (Iq Y w) A (execs ss K) Q E s
def Fn(n:HG)(f:Hv)(m:Hn Ho->Hp Ho):Prop:=
 ∀{{A:Jh}} {{Hz:Hn Hv}} {{s:HM}} {{us:Hn HE}} {{B:Hn Ho}} {{as:Hn Hv}} {{y:Ho}} {{Q:HE->HM->Prop}} {{E:HE->HM->Prop}},
  Room A n->fh Y Hz U s.heap->bH Y w Hz s.heap us B as->fy B=Hq->m B=hb y->
  (∀u as s',I8 s s'->RD Y w Hz s'.heap u y as->wf y=Hq->(∀a∈as,s.heap.get? a=Hu)->Q u s')->wpAny (Iq Y w) A (call (.ref f) us) Q E s
end
end
section
noncomputable def aA(sc:IH)(x:HP):Ig:=(decide (sc.names.lookup x=hb .local)||decide (sc.names.lookup x=hb .cell))&& !(x==("__debug__":HP))
def sz:VV->Hp V
 |.val v=>hb v
 |.own (.lst B)=>hb ⟨.list B,.t⟩
 |.own (.lq B)=>hb ⟨oZ B,.t⟩
 |.own (.tree _ x)=>hb ⟨x,.t⟩
variable{ae h:Iv}{W:Hn Hv}{O:Hn (HP×Hn Hv)}{x:HP}{vv:VV}{v:V}
theorem cj.rd(r:cj Y w Hz ae W O h x u vv)(e:sz vv=hb v):dK Y w Hz ae W h u v:=by
 induction vv with
 |val v'=>(have e:=si e;subst e;clear e);exact r.2
 |own o=>
  refine aQ r λsp o1 r=>?_;clear o1;induction r with
  |lst a b c d=>(have e:=si e;subst e;clear e);exact⟨_,.list a b,c,trivial⟩
  |lq a g=>(have e:=si e;subst e;clear e);exact⟨_,.num a,g,trivial⟩
  |tree a b c _ _=>(have e:=si e;subst e;clear e);exact⟨_,a,c,trivial⟩
variable{sc:IH}{n:HG}{pos:J3}
theorem Ev.var(hv:aA sc x=Hq):Ev Y w U n sc (.Name x pos) (λL=>(L x).bind sz):=by
 intro A Hz K ae X C L O s v Q E hs hr I R hQ;subst hs;obtain⟨vv,e1,e2⟩:=ao R;simp only[aA,HU,JA,Ik,JI]at hv;refine ew hv λhv hd=>?_;rcases hv with hv|hv
 ·exact aQ I.ns λm yh hx=>aQ (hx x vv e1 hv) λu hu r=>MJ (Lo I.kind hv yh hu (hQ u s (aD s) (r.rd e2))) hd
 ·exact j8 (I.cell x vv e1 hv) λc u hc hu r=>MJ (MA I.kind hv hc hu (hQ u s (aD s) (r.rd e2))) hd
variable{k:HG}
theorem Ev.CJ{i:HI}:Ev Y w U n sc (.Constant (.int i) k pos) (λ_=>hb ⟨.int i,.d⟩):=by intro A Hz K ae X C L O s v Q E hs hr I R hQ;(have e:=si R;subst e;clear R);exact wpAny_Constant_int (hQ _ _ (aK s _) dK.int)
theorem Ev.aow:Ev Y w U n sc (.Constant .none k pos) (λ_=>hb ⟨.none,.d⟩):=by intro A Hz K ae X C L O s v Q E hs hr I R hQ;(have e:=si R;subst e;clear R);exact wpAny_Constant_none (hQ _ _ (aD s) dK.none)
theorem Ev.an8{b:Ig}:Ev Y w U n sc (.Constant (.bool b) k pos) (λ_=>hb ⟨.bool b,.d⟩):=by intro A Hz K ae X C L O s v Q E hs hr I R hQ;(have e:=si R;subst e;clear R);exact Qb (hQ _ _ (aD s) dK.bool)
theorem Ev.apF(hx:wf (.str x)=Hq):Ev Y w U n sc (.Constant (.str x) k pos) (λ_=>hb ⟨.str x,.d⟩):=by intro A Hz K ae X C L O s v Q E hs hr I R hQ;(have e:=si R;subst e;clear R);exact MK (hQ _ _ (aK s _) (dK.str hx))
noncomputable def smallInt(a:HI):Ig:=decide (Rg a<=64)
noncomputable def amX:Ho->Ho->Hp Ho
 |.int a,.int b=>hb (.int (a+b))
 |.str x,.str y=>if x.length+y.length<=sizeLine then hb (.str (x++y))else Hu
 |.list B,.list ys=>if B.length+ys.length<=sizeLine then hb (.list (B++ys))else Hu
 |_,_=>Hu
def aov:Ho->Ho->Hp Ho
 |.int a,.int b=>if smallInt a||smallInt b then hb (.int (a*b))else Hu
 |.str x,.int k=>if k=0 then hb (.str KQ)else if k=1 then hb (.str x)else Hu
 |_,_=>Hu
noncomputable def w7(f:HI->HI->Hp HI):Ho->Ho->Hp Ho
 |.int a,.int b=>(f a b).map .int
 |_,_=>Hu
def anV(op:LK)(x y:Ho):Hp Ho:=match op with
 |.Add=>amX x y
 |.Sub=>w7 (λa b=>hb (a-b)) x y
 |.Mult=>aov x y
 |.FloorDiv=>w7 (λa b=>if 0<b then hb (a/b)else Hu) x y
 |.Mod=>w7 (λa b=>if 0<b then hb (a%b)else Hu) x y
 |_=>Hu
inductive akf(f:HI->HI->Hp HI):Ho->Ho->Ho->Prop
 |mk (a b c:HI) (h:f a b=hb c):akf f (.int a) (.int b) (.int c)
inductive AG:Ho->Ho->Ho->Prop
 |int (a b:HI):AG (.int a) (.int b) (.int (a+b))
 |str (a b:HP) (h:a.length+b.length<=sizeLine):AG (.str a) (.str b) (.str (a++b))
 |list (a b:Hn Ho) (h:a.length+b.length<=sizeLine):AG (.list a) (.list b) (.list (a++b))
inductive Bj:Ho->Ho->Ho->Prop
 |int (a b:HI) (h:(smallInt a||smallInt b)=Hq):Bj (.int a) (.int b) (.int (a*b))
 |zero (a:HP):Bj (.str a) (.int 0) (.str KQ)
 |one (a:HP):Bj (.str a) (.int 1) (.str a)
variable{x y z:Ho}
theorem mK{f:HI->HI->Hp HI}(h:w7 f x y=hb z):akf f x y z:=by
 cases x with
 |int a=>cases y with
  |int b=>induction dI (o:=f a b) h with|mk c h1=>?_;exact⟨a,b,c,h1⟩
  |_=>exact no h
 |_=>exact no h
theorem aeb(h:amX x y=hb z):AG x y z:=by
 cases x with
 |int a=>cases y with
  |int b=>(have e:=si h;subst e;clear h);exact .int a b
  |_=>exact no h
 |str a=>cases y with
  |str b=>exact jl (c:=a.length+b.length<=sizeLine) (o:=hb (JF (a++b))) (λhz h=>by(have e:=si h;subst e;clear h);exact .str a b hz) h
  |_=>exact no h
 |list a=>cases y with
  |list b=>exact jl (c:=a.length+b.length<=sizeLine) (o:=hb (Mw (a++b))) (λhz h=>by(have e:=si h;subst e;clear h);exact .list a b hz) h
  |_=>exact no h
 |_=>exact no h
theorem aeP(h:aov x y=hb z):Bj x y z:=by
 cases x with
 |int a=>cases y with
  |int b=>exact jl (c:=(smallInt a||smallInt b)=Hq) (o:=hb (IL (a*b))) (λhz h=>by(have e:=si h;subst e;clear h);exact .int a b hz) h
  |_=>exact no h
 |str a=>cases y with
  |int k=>
   by_cases h0:k=0
   ·subst h0;have e:=si h;subst e;clear h;exact .zero a
   ·replace h:(if k=1 then hb (JF a)else Hu)=hb z:=(Ir h0).symm.trans h;revert h;refine jl λh1 h=>?_;subst h1;have e:=si h;subst e;clear h;exact .one a
  |_=>exact no h
 |_=>exact no h
noncomputable def Fl.join:Fl->Fl->Fl
 |.d,.d=>.d
 |.t,_=>.t
 |_,.t=>.t
 |_,_=>.s
noncomputable def V.eE(B:Hn Ho)(f:Fl):V:=⟨.list B,if bZ B then .d else f⟩
def gD(op:LK)(a b:V):Hp V:=
 (anV op a.x b.x).map λx=>match x with
  |.list B=>V.eE B (a.fl.join b.fl)
  |x=>⟨x,.d⟩
variable{f:Fl}{as:Hn Hv}
theorem da.vS{g:Fl}(h:da ae W f as):da ae W (f.join g) as:=by cases f<;>cases g<;>first|exact h|trivial|exactλa ha=>(h a ha).2
theorem da.vA(h:da ae W g as):da ae W (f.join g) as:=by cases f<;>cases g<;>first|exact h|trivial|exactλa ha=>(h a ha).2
section
variable{ae s:HM}{X C:Hn Hv}{K:Ke}{L:ar}{B:Hn Ho}
theorem InF.eE(I:InF Y w Hz U ae X K C L O s)(r:bH Y w Hz s.heap vs B as)(c:wf (.list B)=Hq)(o:da ae.heap (WW K C O) f as){m:HG}:
  dK Y w Hz ae.heap (WW K C O) (s.heap.push (cA vs m)) (.ref s.heap.objs.size) (V.eE B f):=by
 refine⟨s.heap.objs.size::as,.list (H7 _ rfl) (r.grow (bA.push s.heap (cA vs m))),c,?_⟩;obtain z:=I.mT;cases e:bZ B with
 |true=>refine(r.bR e).symm▸?_;simp only[V.eE,e,MU];intro a ha;exact(HB.mp ha).symm▸z
 |false=>
  simp only[V.eE,e,Ko,K8];induction f with
  |d=>exactλa ha=>(Hw.mp ha).elim (λq=>q▸z) (o a)
  |s=>exactλa ha=>(Hw.mp ha).elim (λq=>q▸z.2) (o a)
  |t=>trivial
theorem InF.am4(I:InF Y w Hz U ae X K C L O s)(r:bH Y w Hz s.heap vs B as)(c:wf (.tuple B)=Hq)(o:da ae.heap (WW K C O) f as){m:HG}:
  dK Y w Hz ae.heap (WW K C O) (s.heap.push (kM vs m)) (.ref s.heap.objs.size) (V.fix (.tuple B) f):=
 let _:=I
 dK.fixed (.tuple (H7 _ rfl) (λR=>by obtain⟨_,o,e,_⟩:=I.base.hide _ R;exact IG (II e) (JW _)) (r.grow (bA.push s.heap (kM vs m)))) c o
variable{x:HP}
theorem abw(hx:Ki x=Hq)(hy:Ki nV=Hq):Ki (x++nV)=Hq:=by unfold Ki at*;(rw[Str.cps_append];refine Array.all_append.trans ?_;rw[hx,hy]);rfl
theorem aak(h:(x.length==0)=Hq):x=KQ:=by
 obtain⟨c⟩:=x;have:c= #[]:=by simpa[Str.length]using h
 refine this.symm▸?_;rfl
theorem iD:wf (.str x)=Hq↔Ki x=Hq/\x.length<=sizeLine:=by simp[wf]
theorem aV:wf (.list B)=Hq↔B.length<=sizeLine/\fy B=Hq:=by simp[wf]
theorem dk:wf (.tuple B)=Hq↔B.length<=sizeLine/\fy B=Hq:=by simp[wf]
theorem wT(h:wf (.tuple B)=Hq):fy B=Hq:=(IU.mp h).2
variable{x:Ho}
theorem A2(h:fy (x::B)=Hq):wf x=Hq:=(IU.mp h).1
theorem vX(h:fy (x::B)=Hq):fy B=Hq:=(IU.mp h).2
variable{k:Ho}{r:Hn (Ho×Ho)}
theorem wD(h:wf (.dict ((k,x)::r))=Hq):wf x=Hq:=(IU.mp (IU.mp (IU.mp h).2).1).2
theorem wS(h:wf x=Hq)(h':fy B=Hq):fy (x::B)=Hq:=IU.mpr ⟨h,h'⟩
theorem wL(h:decide (B.length<=sizeLine)=Hq)(h':fy B=Hq):wf (.tuple B)=Hq:=IU.mpr ⟨h,h'⟩
theorem wK(h:wf k=Hq)(h':wf x=Hq):wf (.dict [(k,x)])=Hq:=by show(decide (1<=sizeLine)&&(wf k&&wf x&&Hq))=Hq;rw[h,h'];rfl
theorem afW:wf (.str KQ)=Hq:=by decide +kernel
variable{Q:HE->HM->Prop}
theorem aat{x y:HP}(hz:x.length+y.length<=sizeLine)(h:∀v tk,v=.str (x++y) tk->∀s',I8 s s'->Q v s'):
  (if x.length==0 then Made.val (.str y u)else if y.length==0 then Made.val (.str x t)else Made.str (x++y)).post Q s:=by
 split
 ·rename_i e;have:x++y=y:=by rw[aak e,Str.empty_append]
  exact this▸h _ _ rfl _ (aD s)
 ·split
  ·rename_i e;have:x++y=x:=by rw[aak e,Str.append_empty]
   exact this▸h _ _ rfl _ (aD s)
  ·exact⟨by rw[PJ];exact hz,h _ _ rfl _ (aK s _)⟩
variable{A:Jh}{E:HE->HM->Prop}{a:V}
theorem amh{op:LK}{lj rE:HE}(hr:eu A n)(I:InF Y w Hz U ae X K C L O s)(h:gD op a b=hb v)
  (aL:dK Y w Hz ae.heap (WW K C O) s.heap lj a)(cY:dK Y w Hz ae.heap (WW K C O) s.heap rE b)(hQ:∀u s',I8 s s'->dK Y w Hz ae.heap (WW K C O) s'.heap u v->Q u s'):
  wpAny (Iq Y w) A (binaryOp op lj rE) Q E s:=by
 refine aQ (H6.mp h) λx hx hv=>?_;obtain⟨ax,af⟩:=a;obtain⟨bx,bf⟩:=b;obtain⟨as,ra,ca,oa⟩:=aL;obtain⟨bs,rb,cb,ob⟩:=cY;dsimp only at hx ra rb ca cb oa ob hv;clear h;have hi:∀{c:HI},(match(IL c)with|.list B=>V.eE B (af.join bf)|x=>⟨x,.d⟩)=v->∀s',I8 s s'->∀t,Q (.int c t) s':=by rintro c rfl s' k t;exact hQ _ _ k dK.int
 induction op with
 |Add=>
  induction aeb hx with
  |int a b=>
   clear bx ax x;induction ra.dR with|mk t=>?_
   clear lj;induction rb.dR with|mk t'=>?_
   exact P.add_int (hi hv _ (aK s _) _)
  |str a b hz=>
   clear bx ax x;induction ra.ij with|mk t=>?_
   clear lj;induction rb.ij with|mk t'=>?_
   clear rE;subst hv;rw[iD]at ca cb;refine P.add_str (aat hz λv tk e s' k=>?_);subst e;exact hQ _ _ k (dK.str (iD.mpr ⟨abw ca.1 cb.1,by rw[PJ];exact hz⟩))
  |list a b hz=>
   clear bx ax x;induction ra.listI with|mk d us m cs a1 a2=>?_
   clear lj as;induction rb.listI with|mk d' Ez m' cs' b1 b2=>?_
   clear rE bs;subst hv;rw[aV]at ca cb;refine P.add_list a1 b1 ?_ (by simpa[a2.length,b2.length]using hz);rw[List.append_toArray];exact hQ _ _ (bE s _) (I.eE (a2.append b2) (aV.mpr ⟨by simpa using hz,by rw[eG,ca.2,cb.2];rfl⟩) (da.append ((oa.mono λa h=>.tail _ h).vS) ((ob.mono λa h=>.tail _ h).vA)))
 |Sub=>
  clear ob cb oa;induction mK hx with|mk a b c e=>?_
  have e:=si e;subst e;clear e;obtain H:=ra.dR;clear ra;induction H with|mk t=>?_
  obtain H:=rb.dR;clear rb;induction H with|mk t'=>?_
  exact P.sub_int (hi hv _ (aK s _) _)
 |Mult=>
  clear ob cb oa;induction aeP hx with
  |int a b hs=>
   clear bx ax x;induction ra.dR with|mk t=>?_
   clear lj;induction rb.dR with|mk t'=>?_
   refine P.mul_int (hi hv _ (aK s _) _) ?_;simp only[smallInt,JA,Ik]at hs;exact hs.elim IntMulOk.of_left IntMulOk.of_right
  |zero a=>
   clear bx ax x;induction ra.ij with|mk t=>?_
   clear lj;induction rb.dR with|mk t'=>?_
   clear rE;subst hv;exact P.mul_str_none (LH 0) (by decide) (hQ _ _ (aK s _) (dK.str afW))
  |one a=>
   clear bx ax x;induction ra.ij with|mk t=>?_
   clear lj;induction rb.dR with|mk t'=>?_
   clear rE;subst hv;exact P.mul_str (by decide) (λ_ e=>Iu e) (λ_ e=>Iu e) (hQ _ _ (aD s) (dK.str ca))
 |FloorDiv=>
  clear hQ ob cb oa ca;induction mK hx with|mk a b c e=>?_
  clear bx ax x;induction ra.dR with|mk t=>?_
  clear lj;induction rb.dR with|mk t'=>?_
  revert e;refine jl λhz e=>?_;have e:=si e;subst e;clear e;rw[<-Int.fdiv_eq_ediv_of_nonneg a (IZ hz)]at hv;exact PyProof.Rows.floordiv_int (Kb hz) (hi hv _ (aK s _) _) (.inr (hr.amm I.base))
 |Mod=>
  clear hQ I hr ob cb oa ca;induction mK hx with|mk a b c e=>?_
  clear bx ax x;induction ra.dR with|mk t=>?_
  clear lj ra as;induction rb.dR with|mk t'=>?_
  revert e;refine jl λhz e=>?_;have e:=si e;subst e;clear e;rw[<-Int.fmod_eq_emod_of_nonneg a (IZ hz)]at hv;exact PyProof.Rows.mod_int' (Kb hz) (hi hv _ (aK s _) _)
 |_=>exact no hx
noncomputable def g8:Ho->Hp Ig
 |.none=>hb HH
 |.bool b=>hb b
 |.int i=>hb (i !=0)
 |.str x=>hb ((x.length:HI)!=0)
 |.list B=>hb (!B.isEmpty)
 |_=>Hu
theorem en:(sizeLine:HI)<2^63:=by decide
theorem abG{α β:Type}{B:Hn α}{ys:Hn β}(h:B.length=ys.length):B.isEmpty=ys.isEmpty:=by cases B<;>cases ys<;>simp_all
theorem nN{b:Ig}{Q:Ig->HM->Prop}{W:Hn Hv}{ae:Iv}(h:g8 a.x=hb b)(r:dK Y w Hz ae W s.heap u a)(hQ:∀s',I8 s s'->Q b s'):
  wpAny (Iq Y w) A (Qk u) Q E s:=by
 obtain⟨ax,af⟩:=a;obtain⟨as,ra,ca,oa⟩:=r;dsimp only at h ra ca oa;clear oa af;cases ax with
 |none=>(have e:=si h;subst e;clear h);cases ra.none_inv;exactλ_ _ _=>hQ _ (aD s)
 |bool b=>(have e:=si h;subst e;clear h);cases ra.bool_inv;exact Lf (hQ _ (aD s))
 |int i=>(have e:=si h;subst e;clear h);induction ra.dR with|mk t=>?_;exact P.truthy_int (hQ _ (aD s))
 |str x=>
  have e:=si h;subst e;clear h;clear ae W;induction ra.ij with|mk t=>?_
  rw[iD]at ca;exact P.truthy_str (by have:=en;have:=ca.2;exact Mx.mpr (x4 ca.2 ‹_›)) (hQ _ (aK s _))
 |list B=>
  have e:=si h;subst e;clear h;obtain H:=ra.listI;clear ra;induction H with|mk d us m cs a1 a2=>?_
  rw[aV]at ca;have hl:=a2.length;refine wpAny_truthy_list ⟨_,a1,rfl,_,rfl⟩ (by have:=en;have:=ca.1;simp;lia -abstractProof) ?_;rw[List.isEmpty_toArray,abG hl];exact hQ _ (aK s _)
 |_=>exact no h
noncomputable def isNone:Ho->Ig
 |.none=>Hq
 |_=>HH
noncomputable def dz(k:HP):Hn (Ho×Ho)->Ig
 |[]=>HH
 |(.str x,_)::r=>decide (x=k)||dz k r
 |_::r=>dz k r
noncomputable def yN(f:HI->HI->Ig):Ho->Ho->Hp Ig
 |.int a,.int b=>hb (f a b)
 |_,_=>Hu
noncomputable def A7(x y:Ho):Hp Ig:=if nd x&&nd y&&decide (min x.depth y.depth<=60)then hb (IX x y)else Hu
def CK(x y:Ho):Hp Ig:=match y with
 |.none=>hb (isNone x)
 |_=>Hu
noncomputable def sO(x:Ho)(ys:Hn Ho):Hp Ig:=if nd x&&xP ys&&decide (min (Mb ys) x.depth<=60)then hb (ys.any λy=>IX y x)else Hu
noncomputable def fW:Ho->Hp HP
 |.str k=>hb k
 |_=>Hu
def FN(k:HP)(aW:Hn (Ho×Ho)):Hp Ig:=if dQ aW=Hq then hb (dz k aW)else Hu
theorem adO{α:Type}(f:α->HP)(g:α->Ho)(k:HP)(B:Hn α):FN k (B.map λp=>(.str (f p),g p))=hb (dz k (B.map λp=>(.str (f p),g p))):=H5 (gj f g B)
def xb(x y:Ho):Hp Ig:=match y with
 |.list ys=>sO x ys
 |.tuple ys=>sO x ys
 |.dict aW=>(fW x).bind λk=>FN k aW
 |.str s=>(fW x).map λk=> !(Lg s k 0 s.length 1).isEmpty
 |_=>Hu
def bV(op:Nu)(x y:Ho):Hp Ig:=match op with
 |.Lt=>yN (λa b=>decide (a<b)) x y
 |.LtE=>yN (λa b=>decide (a<=b)) x y
 |.Gt=>yN (λa b=>decide (a>b)) x y
 |.GtE=>yN (λa b=>decide (a≥b)) x y
 |.Eq=>A7 x y
 |.NotEq=>(A7 x y).map (!·)
 |.Is=>CK x y
 |.IsNot=>(CK x y).map (!·)
 |.In=>xb x y
 |.NotIn=>(xb x y).map (!·)
inductive ajW(f:HI->HI->Ig):Ho->Ho->Ig->Prop
 |mk (a b:HI):ajW f (.int a) (.int b) (f a b)
variable{c:Ig}
theorem lX{f:HI->HI->Ig}(h:yN f x y=hb c):ajW f x y c:=by
 cases x with
 |int a=>cases y with
  |int b=>(have e:=si h;subst e;clear h);exact⟨a,b⟩
  |_=>exact no h
 |_=>exact no h
theorem abd(h:A7 x y=hb c):nd x=Hq/\nd y=Hq/\min x.depth y.depth<=60/\c=IX x y:=by
 unfold A7 at h;split at h
 ·rename_i hc;simp only[HU,Ik]at hc;exact zz hc.1.1 hc.1.2 hc.2 ((H4 h).symm)
 ·exact no h
inductive ajm(x:Ho):Ho->Ig->Prop
 |mk:ajm x .none (isNone x)
theorem aa9(h:CK x y=hb c):ajm x y c:=by
 cases y with
 |none=>(have e:=si h;subst e;clear h);exact⟨⟩
 |_=>exact no h
theorem kP(h:sO x ys=hb c):nd x=Hq/\xP ys=Hq/\min (Mb ys) x.depth<=60/\c=ys.any λy=>IX y x:=by
 unfold sO at h;split at h
 ·rename_i hc;simp only[HU,Ik]at hc;exact zz hc.1.1 hc.1.2 hc.2 ((H4 h).symm)
 ·exact no h
theorem dh(h:fW x=hb Bt):x=.str Bt:=by
 cases x with
 |str s=>(have e:=si h;subst e;clear h);rfl
 |_=>exact no h
inductive Ed:Ho->Ho->Ig->Prop
 |list (x:Ho) (ys:Hn Ho) (c:Ig) (h:sO x ys=hb c):Ed x (.list ys) c
 |tuple (x:Ho) (ys:Hn Ho) (c:Ig) (h:sO x ys=hb c):Ed x (.tuple ys) c
 |dict (k:HP) (aW:Hn (Ho×Ho)) (h:dQ aW=Hq):Ed (.str k) (.dict aW) (dz k aW)
 |str (k s:HP):Ed (.str k) (.str s) (!(Lg s k 0 s.length 1).isEmpty)
theorem aaC(h:xb x y=hb c):Ed x y c:=by
 cases y with
 |list ys=>exact .list x ys c h
 |tuple ys=>exact .tuple x ys c h
 |dict aW=>revert h;refine ak λk h1=>jl λhp h=>?_;obtain rfl:=dh h1;(have e:=si h;subst e;clear h);exact .dict k aW hp
 |str s=>
  induction dI (o:=fW x) h with|mk k h1=>?_
  obtain rfl:=dh h1;exact .str k s
 |_=>exact no h
theorem RD.aaY(r:RD Y w Hz h u x as):(u==.none)=isNone x:=by
 have H:=r.head;clear r;cases x with
 |none=>cases H;rfl
 |bool b=>cases H;rfl
 |dict ps=>refine mx H.1 λa _ e _=>?_;rw[e];rfl
 |_=>cases H;rfl
theorem aad(k:HP){aW:Hn (HP×HE)}:∀{B:Hn (HP×Ho)},aW.map (·.1)=B.map (·.1)->dz k (B.map λp=>(.str p.1,p.2))=(K2 aW k).isSome:=by
 induction aW with
 |nil=>intro B h;cases B with
  |nil=>rfl
  |cons _ _=>exact nomatch h
 |cons c aW ih=>
  intro B h;obtain⟨a,v⟩:=c;cases B with
  |nil=>exact nomatch h
  |cons d B=>
  obtain⟨b,x⟩:=d;refine ew (IP h) λe h'=>?_;cases e;show(decide (a=k)||dz k (B.map λp=>(.str p.1,p.2)))=_;rw[ih h'];unfold K2;rw[Lx];cases decide (a=k)<;>rfl
theorem lC(x:HP)(t:Pk):(strKind Y w).is x (.str x t)=Hq:=Ih _
theorem oW{c:Ig}{lj:HE}(hr:eu A n){W:Hn Hv}{ae:Iv}(h:bV op a.x b.x=hb c)
  (aL:dK Y w Hz ae W s.heap lj a)(cY:dK Y w Hz ae W s.heap rE b)(hQ:∀s',I8 s s'->Q (.bool c) s'):
  wpAny (Iq Y w) A (compareOp op lj rE) Q E s:=by
 obtain⟨ax,af⟩:=a;obtain⟨bx,bf⟩:=b;obtain⟨as,ra,ca,oa⟩:=aL;obtain⟨bs,rb,cb,ob⟩:=cY;obtain hu:=hr.units;dsimp only at h ra rb ca cb oa ob;clear oa ob hr;induction op with
 |Lt=>
  induction lX h with|mk a b=>?_
  induction ra.dR with|mk t=>?_
  induction rb.dR with|mk t'=>?_
  exact P.lt_int (hQ _ (aD s))
 |LtE=>
  induction lX h with|mk a b=>?_
  induction ra.dR with|mk t=>?_
  induction rb.dR with|mk t'=>?_
  exact P.le_int (hQ _ (aD s))
 |Gt=>
  induction lX h with|mk a b=>?_
  induction ra.dR with|mk t=>?_
  induction rb.dR with|mk t'=>?_
  exact P.gt_int (hQ _ (aD s))
 |GtE=>
  induction lX h with|mk a b=>?_
  induction ra.dR with|mk t=>?_
  induction rb.dR with|mk t'=>?_
  exact P.ge_int (hQ _ (aD s))
 |Eq=>refine AZ (abd h) λn1 n2 n3 o1=>?_;subst o1;obtain c1:=kH _ ca n1;obtain c2:=kH _ cb n2;exact SeqAt.compareEq_reads (ra.reads c1) (rb.reads c2) c1 c2 (HC (Js (Ib _ _) (Hs n3 (by decide))) hu) (hQ _ (aD s))
 |NotEq=>
  induction dI h with|mk c' hc=>?_
  refine AZ (abd hc) λn1 n2 n3 o1=>?_;subst o1;obtain c1:=kH _ ca n1;obtain c2:=kH _ cb n2;exact SeqAt.compareNe_reads (ra.reads c1) (rb.reads c2) c1 c2 (HC (Js (Ib _ _) (Hs n3 (by decide))) hu) (hQ _ (aD s))
 |Is=>induction aa9 h;cases rb.none_inv;exact is_none<|ra.aaY.symm▸hQ _ (aD s)
 |IsNot=>
  induction dI h with|mk c' hc=>?_
  induction aa9 hc;cases rb.none_inv;exact isNot_none<|ra.aaY.symm▸hQ _ (aD s)
 |In=>
  have hc:=h;clear h;induction aaC hc with
  |list _ ys _ hc=>refine AZ (kP hc) λn1 n2 n3 o1=>?_;subst o1;have c1:=kH _ ca n1;have c2:=kB _ (aV.mp cb).2 n2;exact SeqAt.in_list_reads (rb.reads (by simpa[LI]using c2)) (ra.reads c1) c2 c1 (Fp hu n3) (hQ _ (aD s))
  |tuple _ ys _ hc=>refine AZ (kP hc) λn1 n2 n3 o1=>?_;subst o1;have c1:=kH _ ca n1;have c2:=kB _ (dk.mp cb).2 n2;exact SeqAt.in_tuple_reads (rb.reads (by simpa[LI]using c2)) (ra.reads c1) c2 c1 (Fp hu n3) (hQ _ (aD s))
  |dict k aW rO=>
   induction ra.ij with|mk t=>?_
   induction rb.nq rO with|mk d ks B es b1 b2 b3 b4=>?_
   exact wpAny_in_of (lC _ _) b2 b1.mapOf<|(aad _ b3)▸hQ _ (aK s _)
  |str k z=>
   induction ra.ij with|mk t=>?_
   induction rb.ij with|mk t'=>?_
   exact P.in_str (hQ _ (aD s))
 |NotIn=>
  induction dI (o:=xb ax bx) h with|mk c' hc=>?_
  clear h;induction aaC hc with
  |list _ ys _ hc=>refine AZ (kP hc) λn1 n2 n3 o1=>?_;subst o1;have c1:=kH _ ca n1;have c2:=kB _ (aV.mp cb).2 n2;exact SeqAt.notIn_list_reads (rb.reads (by simpa[LI]using c2)) (ra.reads c1) c2 c1 (Fp hu n3) (hQ _ (aD s))
  |tuple _ ys _ hc=>refine AZ (kP hc) λn1 n2 n3 o1=>?_;subst o1;have c1:=kH _ ca n1;have c2:=kB _ (dk.mp cb).2 n2;exact SeqAt.notIn_tuple_reads (rb.reads (by simpa[LI]using c2)) (ra.reads c1) c2 c1 (Fp hu n3) (hQ _ (aD s))
  |dict k aW rO=>
   clear ae W c c' hc hu cb ca bf bx af ax;induction ra.ij with|mk t=>?_
   clear lj;induction rb.nq rO with|mk d ks B es b1 b2 b3 b4=>?_
   exact wpAny_notIn_of (lC _ _) b2 b1.mapOf<|(aad _ b3)▸hQ _ (aK s _)
  |str k z=>
   clear ae W c c' hc hu cb ca bf bx af ax;induction ra.ij with|mk t=>?_
   clear lj ra as;induction rb.ij with|mk t'=>?_
   exact P.notIn_str (hQ _ (aD s))
end
variable{l r:HR}{ml mr:ar->Hp V}
theorem Ev.bin{op:LK}(hl:Ev Y w U n sc l ml)(hr:Ev Y w U n sc r mr):
  Ev Y w U n sc (.BinOp l op r pos) (λL=>do let a<-ml L;let b<-mr L;gD op a b):=by
 intro A Hz K ae X C L O s v Q E hs hA I;exact ak λa ha=>ak λb aO R hQ=>wpAny_BinOp (hl hs hA I ha λu ay ah aL=>hr hs hA (I.grow ah) aO λu' aM aI cY=>amh hA ((I.grow ah).grow aI) R (aL.grow (ag aI)) cY λu s' k r=>hQ u s' (ab ah (ab aI k)) r)
theorem Ev.cmp(hl:Ev Y w U n sc l ml)(hr:Ev Y w U n sc r mr)(hk:NX op r=HH):
  Ev Y w U n sc (.Compare l [op] [r] pos) (λL=>do let a<-ml L;let b<-mr L;let c<-bV op a.x b.x;hb ⟨.bool c,.d⟩):=by
 intro A Hz K ae X C L O s v Q E hs hA I;refine ak λa ha=>ak λb aO=>ak λc hc R hQ=>?_;have e:=si R;subst e;clear R;refine wpAny_Compare1 (hl hs hA I ha λu ay ah aL=>hr hs hA (I.grow ah) aO λu' aM aI cY=>?_) hk;exact oW hA hc (aL.grow (ag aI)) cY λs' k=>hQ _ s' (ab ah (ab aI k)) dK.bool
theorem Tr.cmp(hl:Ev Y w U n sc l ml)(hr:Ev Y w U n sc r mr)(hk:NX op r=HH):
  Tr Y w U n sc (.Compare l [op] [r] pos) (λL=>do let a<-ml L;let b<-mr L;bV op a.x b.x):=by
 intro A Hz K ae X C L O s v Q E hs hA I;refine ak λa ha=>ak λb aO R hQ=>wpAny_isTrue_Compare1 (hl hs hA I ha λu ay ah aL=>hr hs hA (I.grow ah) aO λu' aM aI cY=>?_) hk;exact oW hA R (aL.grow (ag aI)) cY λs' k=>Lf (hQ s' (ab ah (ab aI k)))
variable{e:HR}
theorem Tr.val{m:ar->Hp V}(h:Ev Y w U n sc e m)(he:∀K whole,Qj e K whole=(do let v<-whole;Pu e.pos;Oa [v] (Qk v))):
  Tr Y w U n sc e (λL=>do let a<-m L;g8 a.x):=by
 intro A Hz K ae X C L O s v Q E hs hA I;exact ak λa ha R hQ=>wpAny_isTrue_value (h hs hA I ha λu ay ah aL=>nN R aL λs' k=>hQ s' (ab ah k)) (he _ _)
variable{m:ar->Hp Ig}
theorem Tr.not(h:Tr Y w U n sc e m):Tr Y w U n sc (.UnaryOp .Not e pos) (λL=>(m L).map (!·)):=by
 intro A Hz K ae X C L O s v Q E hs hA I R hQ;induction dI R with|mk b aO=>?_
 exact wpAny_isTrue_Not (h hs hA I aO λs' k=>hQ s' k)
def u7(Y:IB)(w:Ja)(U:Iv)(n:HG)(sc:IH)(op:L1)(es:Hn HR)(m:ar->Hp Ig):Prop:=
 ∀{{A:Jh}} {{Hz:Hn Hv}} {{K:Ke}} {{ae:HM}} {{X C:Hn Hv}} {{L:ar}} {{O:Hn (HP×Hn Hv)}} {{s:HM}} {{v:Ig}} {{Q:Ig->HM->Prop}} {{E:HE->HM->Prop}},
  K.scope=sc->eu A n->InF Y w Hz U ae X K C L O s->m L=hb v->(∀s',I8 s s'->Q v s')->wpAny (Iq Y w) A (allTrue op es K) Q E s
theorem u7.amu:u7 Y w U n sc .And [] (λ_=>hb Hq):=by intro A Hz K ae X C L O s v Q E hs hA I R hQ;(have e:=si R;subst e;clear R);exact wpAny_allTrue_And_nil (hQ s (aD s))
theorem u7.am9:u7 Y w U n sc .Or [] (λ_=>hb HH):=by intro A Hz K ae X C L O s v Q E hs hA I R hQ;(have e:=si R;subst e;clear R);exact wpAny_allTrue_Or_nil (hQ s (aD s))
variable{es:Hn HR}
theorem u7.ahY{ms:ar->Hp Ig}(h:Tr Y w U n sc e m)(gy:u7 Y w U n sc .And es ms):
  u7 Y w U n sc .And (e::es) (λL=>do let b<-m L;if b then ms L else hb HH):=by
 intro A Hz K ae X C L O s v Q E hs hA I;refine ak λb aO R hQ=>wpAny_allTrue_And_cons (h hs hA I aO λay ah=>?_);clear h aO;cases b with
 |true=>exact gy hs hA (I.grow ah) R λs' k=>hQ s' (ab ah k)
 |false=>(have e:=si R;subst e;clear R);exact hQ ay ah
theorem u7.ald{ms:ar->Hp Ig}(h:Tr Y w U n sc e m)(gy:u7 Y w U n sc .Or es ms):
  u7 Y w U n sc .Or (e::es) (λL=>do let b<-m L;if b then hb Hq else ms L):=by
 intro A Hz K ae X C L O s v Q E hs hA I;refine ak λb aO R hQ=>wpAny_allTrue_Or_cons (h hs hA I aO λay ah=>?_);clear h aO;cases b with
 |false=>exact gy hs hA (I.grow ah) R λs' k=>hQ s' (ab ah k)
 |true=>(have e:=si R;subst e;clear R);exact hQ ay ah
theorem Tr.all(h:u7 Y w U n sc op es m):Tr Y w U n sc (.BoolOp op es pos) m:=by intro A Hz K ae X C L O s v Q E hs hA I R hQ;exact wpAny_isTrue_BoolOp (h hs hA I R hQ)
variable{m:ar->Hp V}
theorem Ev.not(h:Ev Y w U n sc e m):Ev Y w U n sc (.UnaryOp .Not e pos) (λL=>do let a<-m L;let b<-g8 a.x;hb ⟨.bool (!b),.d⟩):=by intro A Hz K ae X C L O s v Q E hs hA I;refine ak λa ha=>ak λb aO R hQ=>?_;(have e:=si R;subst e;clear R);exact wpAny_UnaryOp (h hs hA I ha λu ay ah aL=>not_value (nN aO aL λs' k=>hQ _ s' (ab ah k) dK.bool))
theorem Ev.neg(h:Ev Y w U n sc e m):Ev Y w U n sc (.UnaryOp .USub e pos) (λL=>do let a<-m L;match a.x with|.int i=>hb ⟨.int (-i),.d⟩|_=>Hu):=by
 intro A Hz K ae X C L O s v Q E hs hA I;refine ak λa ha R hQ=>wpAny_UnaryOp (h hs hA I ha λu ay ah aL=>?_);obtain⟨ax,af⟩:=a;obtain⟨as,ra,_⟩:=aL;simp only at R ra;split at R
 ·have e:=si R;subst e;clear R;have H:=ra.dR;clear ra;induction H with|mk t=>?_;exact P.neg_int (hQ _ _ (ab ah (aK ay _)) dK.int)
 ·exact no R
variable{mt:ar->Hp Ig}
theorem Ev.ite{t:HR}{pos:J3}{mb mo:ar->Hp V}(ht:Tr Y w U n sc t mt)(h1:Ev Y w U n sc b mb)(h2:Ev Y w U n sc o mo):
  Ev Y w U n sc (.IfExp t b o pos) (λL=>do let c<-mt L;if c then mb L else mo L):=by
 intro A Hz K ae X C L O s v Q E hs hA I;refine ak λc hc R hQ=>wpAny_IfExp (ht hs hA I hc λay ah=>?_);clear ht pos t hc;induction c with
 |true=>exact h1 hs hA (I.grow ah) R λu s' k r=>hQ u s' (ab ah k) r
 |false=>exact h2 hs hA (I.grow ah) R λu s' k r=>hQ u s' (ab ah k) r
theorem rM.nil:rM Y w U n sc [] (λ_=>hb []):=by intro A Hz K ae X C L O s vs pos Q E hs hA I R hQ;(have e:=si R;subst e;clear R);exact LM (hQ [] s (aD s) .nil)
variable{ms:ar->Hp (Hn V)}
theorem rM.cons(h:Ev Y w U n sc e m)(gy:rM Y w U n sc es ms)
  (he:∀K,Ie (e::es) K=(HH,Jf e K)::Ie es K):
  rM Y w U n sc (e::es) (λL=>do let a<-m L;let as<-ms L;hb (a::as)):=by
 intro A Hz K ae X C L O s vs pos Q E hs hA I;refine ak λa ha=>ak λas has R hQ=>?_;have e:=si R;subst e;clear R;refine Kt (h hs hA I ha λu ay ah aL=>gy hs hA (I.grow ah) has λus aM aI cY=>?_) (he _);exact hQ _ _ (ab ah aI) (.cons (aL.grow (ag aI)) cY)
noncomputable def lL(vs:Hn V):Fl:=vs.foldr (λv f=>v.fl.join f) .d
def am5(Y:IB)(w:Ja)(Hz:Hn Hv)(ae:Iv)(W:Hn Hv)(h:Iv)(us:Hn HE):Hn V->Prop
 |[]=>us=[]
 |v::vs=>∃u Ez,us=u::Ez/\dK Y w Hz ae W h u v/\ip Y w Hz ae W h Ez vs
variable{us:Hn HE}{vs:Hn V}
theorem ip.head(r:ip Y w Hz ae W h us vs):am5 Y w Hz ae W h us vs:=r.casesOn rfl λa b=>⟨_,_,rfl,a,b⟩
theorem ip.iN(r:ip Y w Hz ae W h us [v]):∃u,us=[u]/\dK Y w Hz ae W h u v:=by obtain⟨u,_,e,a,b⟩:=r.head;exact i12 u (e.trans (HL _ b.head)) a
theorem ip.yv(r:ip Y w Hz ae W h us vs):∃as,bH Y w Hz h us (vs.map (·.x)) as/\fy (vs.map (·.x))=Hq/\da ae W (lL vs) as:=by
 induction r with
 |nil=>exact rL ([]) .nil rfl da.nil
 |cons a _ ih=>refine kK ih λas r c o=>?_;obtain⟨bs,r',c',o'⟩:=a;refine rL (bs++as) (.cons r' r) (by simp[fy,c,c']) ?_;simp only[lL,List.foldr_cons];exact da.append o'.vS o.vA
theorem ip.length(r:ip Y w Hz ae W h us vs):us.length=vs.length:=by
 induction r with
 |nil=>rfl
 |cons _ _ ih=>simp[ih]
theorem Ev.list(h:rM Y w U n sc es ms):
  Ev Y w U n sc (.List es pos) (λL=>do let vs<-ms L;if vs.length<=sizeLine then hb (V.eE (vs.map (·.x)) (lL vs))else Hu):=by
 intro A Hz K ae X C L O s v Q E hs hA I;refine ak λvs nh=>jl λhz R hQ=>?_
 ·have e:=si R;subst e;clear R;refine OL (h hs hA I nh λus ay ah aL=>⟨by exact aL.length.symm▸hz,?_⟩);exact kK aL.yv λas r c o=>hQ _ _ (ab ah (bE _ _)) ((I.grow ah).eE r (aV.mpr ⟨by simpa using hz,c⟩) o)
theorem Ev.tuple(h:rM Y w U n sc es ms):
  Ev Y w U n sc (.Tuple es k pos) (λL=>do let vs<-ms L;if vs.length<=sizeLine then hb (V.fix (.tuple (vs.map (·.x))) (lL vs))else Hu):=by
 intro A Hz K ae X C L O s v Q E hs hA I;refine ak λvs nh=>jl λhz R hQ=>?_
 ·have e:=si R;subst e;clear R;refine wpAny_Tuple (h hs hA I nh λus ay ah aL=>⟨by exact aL.length.symm▸hz,?_⟩);exact kK aL.yv λas r c o=>hQ _ _ (ab ah (bE _ _)) ((I.grow ah).am4 r (dk.mpr ⟨by simpa using hz,c⟩) o)
variable{α:Type}
noncomputable def e7(B:Hn α)(k:HI):Hp α:=if 0<=k then B[k.toNat]?else if-(B.length:HI)<=k then B[(k+B.length).toNat]?else Hu
theorem RD.ab6(r:RD Y w Hz h fb (.dict ps) as)(e:atKey Bt ps=hb x):dQ ps=Hq:=r.head.2.1 _ _ e
noncomputable def cD:Ho->Hp HI
 |.int k=>hb k
 |_=>Hu
variable{k:HI}
theorem bJ(h:cD x=hb k):x=.int k:=by
 cases x with
 |int i=>(have e:=si h;subst e;clear h);rfl
 |_=>exact no h
def ed(x y:Ho):Hp Ho:=match x with
 |.list B=>(cD y).bind λk=>e7 B k
 |.tuple B=>(cD y).bind λk=>e7 B k
 |.str x=>(cD y).bind λk=>(e7 x.cps.toList k).map λc=>.str ⟨#[c]⟩
 |.dict aW=>(fW y).bind λk=>atKey k aW
 |_=>Hu
theorem q9{B:Hn α}{x:α}(h:e7 B k=hb x): -(B.length:HI)<=k/\k<B.length/\∃i,NC k B.length=hb i/\B[i]? =hb x:=by
 unfold e7 at h;unfold NC;split at h
 ·rename_i hk;have:=(H2.mp h).1;refine⟨HY (Int.neg_nonpos_of_nonneg (H3 _)) hk,Int.lt_of_toNat_lt this,k.toNat,?_,h⟩;simp only[show¬k<0 by exact MQ hk,K8];simp only[show(0<=k/\k<(B.length:HI)) by exact⟨hk,(Lk hk).mp this⟩];rfl
 ·split at h
  ·rename_i hk Ey;have:=(H2.mp h).1;refine⟨Rh.mpr Ey,IJ (Mx.mp hk) (H3 _),(k+B.length).toNat,?_,h⟩;simp only[show k<0 by exact PT hk,MU];simp only[show(0<=k+(B.length:HI)/\k+(B.length:HI)<(B.length:HI)) by exact⟨O4 Ey|>λh=>O5 _ _▸h,IJ (Int.add_lt_add_right (Mx.mp hk) _) (OJ (NL _))⟩];rfl
  ·exact no h
variable{i:HG}
theorem aem(hk:0<=k)(h:NC k n=hb i):i=k.toNat:=by unfold NC at h;rw[Ir (Kq.mpr hk)]at h;revert h;exact jl λ_ h=>(si h).symm
theorem aeG(hk:¬0<=k)(h:NC k n=hb i):i=(k+n).toNat:=by unfold NC at h;rw[H5 (Mx.mp hk)]at h;revert h;exact jl λ_ h=>(si h).symm
theorem tH(h:fy B=Hq)(e:B[i]? =hb x):wf x=Hq:=(cM B).mp h x (Il e)
variable{ks:Hn (HP×HE)}{k:HP}
theorem aao{p:HP×HE}(h:p.1=k):K2 (p::ks) k=hb p.2:=by unfold K2;(refine Lx.symm▸?_;refine(show decide (p.1=k)=Hq from Ip h).symm▸?_);rfl
theorem aaj{p:HP×HE}(h:¬p.1=k):K2 (p::ks) k=K2 ks k:=by unfold K2;(refine Lx.symm▸?_;exact(show decide (p.1=k)=HH from Iw h).symm▸rfl)
theorem adJ{h:Iv}:∀{ys:Hn (HP×Ho)}{cs:Hn Hv},ks.map (·.1)=ys.map (·.1)->bH Y w Hz h (ks.map (·.2)) (ys.map (·.2)) cs->
  (∀x,atKey k (ys.map λp=>(.str p.1,p.2))=hb x->∃v ds,K2 ks k=hb v/\RD Y w Hz h v x ds/\(∀d∈ds,d∈cs)/\∃q∈ys,q.2=x)/\
  (atKey k (ys.map λp=>(.str p.1,p.2))=Hu->K2 ks k=Hu):=by
 induction ks with
 |nil=>
  intro ys cs e _;induction ys with
  |nil=>exact⟨λx h=>(nomatch h),λ_=>rfl⟩
  |cons q ys=>cases e
 |cons p ks ih=>
  intro ys cs e r;cases ys with
  |nil=>cases e
  |cons q ys=>
   obtain⟨e0,e1⟩:=IP e;obtain⟨as,bs,rfl,r1,r2⟩:=r.cons_inv;obtain⟨i1,i2⟩:=ih e1 r2;show(∀x,(if q.1=k then hb q.2 else atKey k (ys.map λp=>(.str p.1,p.2)))=hb x->_)/\((if q.1=k then hb q.2 else atKey k (ys.map λp=>(.str p.1,p.2)))=Hu->_);by_cases hk:q.1=k
   ·refine(H5 hk).symm▸⟨λx h=>?_,λh=>(nomatch h)⟩;have e:=si h;subst e;clear h;exact⟨p.2,as,aao (e0.trans hk),r1,λd hd=>HF _ hd,q,.head _,rfl⟩
   ·refine(Ir hk).symm▸(aaj λe=>hk (e0.symm.trans e)).symm▸?_;refine⟨λx h=>?_,i2⟩;obtain⟨v,ds,a,b,c,q',hq,d⟩:=i1 x h;exact⟨v,ds,a,b,λy hy=>Hx _ (c y hy),q',.tail _ hq,d⟩
theorem vQ{ys:Hn (HP×Ho)}:∀{q:HP×Ho},x5 (ys.map λp=>(.str p.1,p.2))=Hq->q∈ys->wf q.2=Hq:=by
 induction ys with
 |nil=>intro q _ h;exact nomatch h
 |cons y ys bX=>
  intro q h hq;simp only[HS,x5,HU]at h;rcases Hw.mp hq with rfl|hq
  ·exact h.1.2
  ·exact bX h.2 hq
variable{s:HM}{A:Jh}{E:HE->HM->Prop}{Q:HE->HM->Prop}
theorem ac7(h:ed a.x b.x=hb x)(aL:dK Y w Hz ae W s.heap lj a)(cY:dK Y w Hz ae W s.heap rE b)
  (hQ:∀u s',I8 s s'->dK Y w Hz ae W s'.heap u (V.fix x a.fl)->Q u s'):wpAny (Iq Y w) A (L2 lj rE) Q E s/\∃T id,s.TypeIs lj T/\Kw (.type T) "__getitem__"=pure (hb (.builtin id)):=by
 obtain⟨ax,af⟩:=a;obtain⟨bx,bf⟩:=b;obtain⟨as,ra,ca,oa⟩:=aL;obtain⟨bs,rb,cb,ob⟩:=cY;obtain hz:=en;dsimp only at h ra rb ca cb oa ob hQ;clear cb ob;cases ax with
 |list B=>
  obtain⟨k,hk,h⟩:=ao h;obtain rfl:=bJ hk;induction rb.dR with|mk t=>?_
  induction ra.listI with|mk d us m ds a1 a2=>?_
  clear rb ra hk;rw[aV]at ca;have hl:=a2.length;obtain⟨l1,l2,i,hi,hx⟩:=q9 h;obtain⟨v,cs,e1,e2,e3⟩:=a2.get hx;refine⟨?_,"list",_,⟨_,a1,rfl⟩,NM⟩;obtain fin:Q v s:=hQ v s (aD s) (dK.fixed e2 (tH ca.2 hx) (oa.mono λb U=>.tail _ (e3 b U)));clear hQ e2 e3 oa h hx;by_cases hk:0<=k
  ·refine N1 ⟨_,a1,rfl,_,rfl⟩ hk (M3 l2 (x4 ca.1 hz)) ?_ fin;exact JJ.trans (aem hk hi▸e1)
  ·refine wpAny_getItem_list_neg ⟨_,a1,rfl,_,rfl⟩ (PT hk) (by simp;exact OM (HL Neg.neg (HL Nat.cast hl)) l1) (HY (Ol (IZ (x4 ca.1 hz))) l1) ?_ fin;refine JJ.trans ?_;rw[Jd,hl];exact aeG hk hi▸e1
 |tuple B=>
  obtain⟨k,hk,h⟩:=ao h;obtain rfl:=bJ hk;induction rb.dR with|mk t=>?_
  induction ra.tupI with|mk d us m a1 az a2=>?_
  clear rb ra hk;rw[dk]at ca;obtain⟨l1,l2,i,hi,hx⟩:=q9 h;obtain⟨v,cs,e1,e2,e3⟩:=a2.get hx;refine⟨?_,"tuple",_,⟨_,a1,rfl⟩,F.slot_tuple_getitem.lookup⟩;refine P.getItem_tuple a1 (HY (Ol (IZ (x4 ca.1 hz))) l1) (M3 l2 (x4 ca.1 hz)) (k:=i) (by rw[Jd,a2.length];exact hi) (JJ.trans e1) ?_;exact hQ v s (aD s) (dK.fixed e2 (tH ca.2 hx) (oa.mono e3))
 |str x=>
  obtain⟨k,hk,h⟩:=ao h;obtain rfl:=bJ hk;induction dI h with|mk c hc=>?_
  induction rb.dR with|mk t=>?_
  induction ra.ij with|mk t'=>?_
  clear rb ra hk;rw[iD]at ca;obtain⟨l1,l2,i,hi,hx⟩:=q9 hc;have a8:x.cps.toList.length=x.length:=Jd;rw[a8]at l1 l2 hi;refine⟨?_,"str",_,Ql s _ _,PU.lookup⟩;have:=ca.2;refine P.getItem_str (c:=c) ?_ (by refine hi.symm▸?_;simpa using hx) (hQ _ _ (aK s _) (dK.fixed (.str _ _) (iD.mpr ⟨?_,by show 1<=sizeLine;decide⟩) da.nil))
  ·refine(Iw (Kq.mpr (HY (Ol (IZ (x4 ca.2 hz))) l1))).symm▸(Iw (Mx.mpr (M3 l2 (x4 ca.2 hz)))).symm▸?_;rfl
  ·have:=ca.1;unfold Ki at this⊢;obtain hU:c∈x.cps:=by have:=Il hx;simpa using this
   have:=Mn.mp this c hU;simpa using this
 |dict aW=>
  obtain⟨k,hk,h⟩:=ao h;obtain rfl:=dh hk;induction rb.ij with|mk t=>?_
  induction ra.nq (ra.ab6 h)with|mk d ks ys es b1 b2 b3 b4=>?_
  clear rb ra hk;obtain⟨v,ds,g1,g2,g3,q,g4,rfl⟩:=(adJ b3 b4).1 x h;have qb:wf q.2=Hq:=by simp only[wf,HU]at ca;exact vQ ca.2 g4
  refine⟨?_,"dict",_,b1.typeIs,Ob.lookup⟩;exact Om (lC _ _) b1.mapOf g1 (hQ _ _ (aK s _) (dK.fixed g2 qb (oa.mono λd hd=>.tail _ (g3 d hd))))
 |_=>exact no h
theorem Ev.idx{mi:ar->Hp V}(h:Ev Y w U n sc e m)(hi:Ev Y w U n sc BS mi)(gy:∀o j,∃jx,Lp BS HH o j=Nh jx (L2 o j)):
  Ev Y w U n sc (.Subscript e BS pos) (λL=>do let a<-m L;let b<-mi L;let x<-ed a.x b.x;hb (V.fix x a.fl)):=by
 intro A Hz K ae X C L O s v Q E hs hA I;refine ak λa ha=>ak λb aO=>ak λx hx R hQ=>?_;have e:=si R;subst e;clear R;refine PyProof.Rows.Subscript_ (h hs hA I ha λu ay ah aL=>hi hs hA (I.grow ah) aO λu' aM aI cY=>?_);obtain⟨g,T,id,hT,hl⟩:=ac7 (A:=A) (E:=E) (Q:=Q) hx (aL.grow (ag aI)) cY λu s' k r=>hQ u s' (ab ah (ab aI k)) r;obtain⟨jx,e⟩:=gy u u';exact PyProof.Rows.tail_any hT hl g e
def Pt(Y:IB)(w:Ja)(U:Iv)(n:HG)(sc:IH)(e:Hp HR)(m:ar->Hp (Hp HI)):Prop:=
 ∀{{A:Jh}} {{Hz:Hn Hv}} {{K:Ke}} {{ae:HM}} {{X C:Hn Hv}} {{L:ar}} {{O:Hn (HP×Hn Hv)}} {{s:HM}} {{v:Hp HI}} {{Q:HE->HM->Prop}} {{E:HE->HM->Prop}},
  K.scope=sc->eu A n->InF Y w Hz U ae X K C L O s->m L=hb v->(∀p s',I8 s s'->p.map (·.1)=v->Q (KH p) s')->wpAny (Iq Y w) A (evalPart e K) Q E s
theorem Pt.no:Pt Y w U n sc Hu (λ_=>hb Hu):=by intro A Hz K ae X C L O s v Q E hs hA I R hQ;(have e:=si R;subst e;clear R);exact HV (hQ Hu s (aD s) rfl)
theorem Pt.yes(h:Ev Y w U n sc e m):Pt Y w U n sc (hb e) (λL=>do let a<-m L;match a.x with|.int i=>hb (hb i)|_=>Hu):=by
 intro A Hz K ae X C L O s v Q E hs hA I;refine ak λz0 ha R hQ=>?_;obtain⟨ax,af⟩:=z0;dsimp only[evalPart_some];refine h hs hA I ha λu s' k r=>?_;obtain⟨as,ra,_⟩:=r;simp only at R ra;split at R
 ·have e:=si R;subst e;clear R;have H:=ra.dR;clear ra;induction H with|mk t=>?_;exact hQ (hb (_,_)) s' k rfl
 ·cases R
noncomputable def df(lo hi st:Hp HI)(k:HG):Hn HG:=ON (Jr lo hi st k).1 (Jr lo hi st k).2.1 (Jr lo hi st k).2.2
def kF(lo hi st:Hp HI):Ho->Hp Ho
 |.list B=>if st=hb 0 then Hu else hb (.list ((df lo hi st B.length).filterMap (B[·]?)))
 |.str x=>if st.getD 1=0 then Hu else hb (.str (if st.getD 1=1/\(IQ lo hi (st.getD 1) x.length).length=x.length then x else⟨((IQ lo hi (st.getD 1) x.length).filterMap (x.cps[·]?)).toArray⟩))
 |_=>Hu
def eZ(lo hi st:Hp HI)(a:V):Hp V:=(kF lo hi st a.x).map λx=>match x with
 |.list B=>V.eE B a.fl
 |x=>⟨x,.d⟩
inductive Gf(lo hi st:Hp HI):Ho->Ho->Prop
 |list (B:Hn Ho) (h:¬st=hb 0):Gf lo hi st (.list B) (.list ((df lo hi st B.length).filterMap (B[·]?)))
 |str (x:HP) (h:¬st.getD 1=0):Gf lo hi st (.str x) (.str (if st.getD 1=1/\(IQ lo hi (st.getD 1) x.length).length=x.length then x else⟨((IQ lo hi (st.getD 1) x.length).filterMap (x.cps[·]?)).toArray⟩))
theorem ait{lo hi st:Hp HI}(h:kF lo hi st x=hb y):Gf lo hi st x y:=by
 cases x with
 |list B=>exact if hc:st=hb 0 then no ((H5 hc).symm.trans h)else si ((Ir hc).symm.trans h)▸.list B hc
 |str x=>exact if hc:st.getD 1=0 then no ((H5 hc).symm.trans h)else si ((Ir hc).symm.trans h)▸.str x hc
 |_=>exact no h
theorem IsPart.of{p:Hp (HI×Pk)}{v:Hp HI}(h:p.map (·.1)=v):IsPart (KH p) v:=by
 subst h;induction p with
 |none=>exact .none
 |some p=>exact .int _ _
theorem acz(h:Ki gc=Hq)(is:Hn HG):Ki ⟨(is.filterMap (gc.cps[·]?)).toArray⟩=Hq:=by(refine List.all_toArray.trans ?_;rw[JM]);intro c hc;obtain⟨i,_,hi⟩:=Mq.mp hc;exact Mn.mp h c (Array.mem_of_getElem? hi)
theorem afV(h:fy B=Hq)(is:Hn HG):fy (is.filterMap (B[·]?))=Hq:=by rw[cM]at*;intro x hx;obtain⟨i,_,hi⟩:=Mq.mp hx;exact h x (Il hi)
theorem abV(B:Hn HE)(ys:Hn α)(h:B.length=ys.length)(lo hi st:Hp HI):((df lo hi st ys.length).filterMap (ys[·]?)).length<=ys.length:=by
 have e:((df lo hi st ys.length).filterMap (ys[·]?)).length=((df lo hi st ys.length).filterMap (B[·]?)).length:=by
  generalize df lo hi st ys.length=l;induction l with
  |nil=>rfl
  |cons i l ih=>
   by_cases hi:i<ys.length
   ·simp[HQ hi,HQ (show i<B.length by exact Nv hi (id (PV h))),ih]
   ·simp[Jw (show ys.length<=i by exact JQ hi),Jw (show B.length<=i by exact h▸JH.mp hi),ih]
 have:=slicePick_size_le B.toArray lo hi st;simp only[QO,Jd,JJ]at this;refine e.symm▸h▸?_;exact this
section
variable{ae:HM}{X C:Hn Hv}{K:Ke}{L:ar}
set_option tactic.hygienic true in
theorem afL{l h st:Hp HI}{pl ph FQ:Hp (HI×Pk)}(I:InF Y w Hz U ae X K C L O s)(e:eZ l h st a=hb v)(r:dK Y w Hz ae.heap (WW K C O) s.heap u a)
  (el:pl.map (·.1)=l)(eh:ph.map (·.1)=h)(est:FQ.map (·.1)=st)(E0:s.heap.get? sl=hb {cls:=.type "slice",data:=.fields #[KH pl,KH ph,KH FQ]})
  (hQ:∀u s',I8 s s'->dK Y w Hz ae.heap (WW K C O) s'.heap u v->Q u s'):wpAny (Iq Y w) A (L2 u (.ref sl)) Q E s/\∃T id,s.TypeIs u T/\Kw (.type T) "__getitem__"=pure (hb (.builtin id)):=by
 obtain⟨x,hx,hv⟩:=H6.mp e;obtain⟨ax,af⟩:=a;obtain⟨as,ra,ca,oa⟩:=r;simp only at*;induction ait hx with
 |list B h0=>
   cases hv;obtain H:=ra.listI;induction H with|mk ad vs k bs a1 a2=>?_
   rw[aV]at ca;have hl:=a2.length;refine⟨?_,"list",_,⟨_,a1,rfl⟩,NM⟩;refine wpAny_getItem_list_slice ⟨_,a1,rfl,_,rfl⟩ ⟨_,E0,rfl,rfl⟩ (IsPart.of el) (IsPart.of eh) (IsPart.of est) h0 ?_ (by simp[hl];exact ca.1);obtain e2:QO vs.toArray l h st=((df l h st B.length).filterMap (vs[·]?)).toArray:=by simp only[QO,df,Jd,JJ,hl]
   refine e2.symm▸?_;obtain⟨cs,q,hq⟩:=a2.part (df l h st B.length);have:=abV vs B hl l h st;refine hQ _ _ (bE s _) (I.eE q (aV.mpr ⟨by have:=ca.1;exact Hs ‹_› ca.1,afV ca.2 _⟩) (oa.mono λb U=>.tail _ (hq b U)))
 |str x h0=>
   cases hv;have H:=ra.ij;clear ra;induction H with|mk t=>?_
   rw[iD]at ca;refine⟨?_,"str",_,Ql s _ _,PU.lookup⟩;obtain qv:(FQ.map (·.1)).getD 1=st.getD 1:=Kx (HL _ est) _;refine wpAny_getItem_str_slice (l:=pl) (u:=ph) (st:=FQ) ⟨_,E0,rfl,rfl⟩ (by refine qv.symm▸?_;simpa using h0) ?_;unfold sliceMade slicePicked;refine qv.symm▸el.symm▸eh.symm▸?_;by_cases hc:st.getD 1=1/\(IQ l h (st.getD 1) x.length).length=x.length
   ·have hU:(st.getD 1==1&&(IQ l h (st.getD 1) x.length).length==x.length)=Hq:=by simpa using hc
    refine(H5 hU).symm▸?_;rw[H5 hc]at hQ;exact hQ _ _ (aD s) (dK.str (iD.mpr ca))
   ·obtain hU:¬(st.getD 1==1&&(IQ l h (st.getD 1) x.length).length==x.length)=Hq:=by simpa using hc
    refine(Ir hU).symm▸?_;rw[Ir hc]at hQ;have a8:(⟨((IQ l h (st.getD 1) x.length).filterMap (x.cps[·]?)).toArray⟩:HP).length<=sizeLine:=by
     obtain q:=abV (List.replicate x.cps.toList.length MR) x.cps.toList List.length_replicate l h st;obtain e1:x.cps.toList.length=x.length:=Jd;rw[e1]at q;obtain e2:IQ l h (st.getD 1) x.length=df l h st x.length:=rfl;refine e2.symm▸?_;show(List.toArray _).size<=sizeLine;refine Jd.symm▸?_;obtain e3:(df l h st x.length).filterMap (x.cps.toList[·]?)=(df l h st x.length).filterMap (x.cps[·]?):=by simp
     refine e3▸?_;have:=ca.2;exact Hs q ca.2
    exact⟨a8,hQ _ _ (aK s _) (dK.str (iD.mpr ⟨acz ca.1 _,a8⟩))⟩
end
variable{p:J3}
theorem Ev.slice{lo hi st:Hp HR}{ml mh ms:ar->Hp (Hp HI)}(h:Ev Y w U n sc e m)(hl:Pt Y w U n sc lo ml)(hh:Pt Y w U n sc hi mh)(qv:Pt Y w U n sc st ms)
  (gy:∀o j,∃jx,Lp (.Slice lo hi st p) HH o j=Nh jx (L2 o j)):
  Ev Y w U n sc (.Subscript e (.Slice lo hi st p) pos) (λL=>do let a<-m L;let l<-ml L;let u<-mh L;let t<-ms L;eZ l u t a):=by
 intro A Hz K ae X C L O s v Q E hs hA I;refine ak λa ha=>ak λl Ab=>ak λu DY=>ak λt ht' R hQ=>PyProof.Rows.Subscript_ (h hs hA I ha λAo ay ah aL=>PW (hl hs hA (I.grow ah) Ab λyl aM aI u5=>hh hs hA ((I.grow ah).grow aI) DY λyo dN dO wj=>qv hs hA (((I.grow ah).grow aI).grow dO) ht' λzT jP yf Bx=>?_));obtain kk:=ab ah (ab aI (ab dO (ab yf (bE jP {cls:=.type "slice",data:=.fields #[KH yl,KH yo,KH zT]}))));obtain⟨g,T,id,hT,hlk⟩:=afL (A:=A) (E:=E) (Q:=Q) (I.grow kk) R (aL.grow (ag (ab aI (ab dO (ab yf (bE jP {cls:=.type "slice",data:=.fields #[KH yl,KH yo,KH zT]})))))) u5 wj Bx (H7 _ rfl) λu s' k r=>hQ u s' (ab kk k) r;obtain⟨jx,e⟩:=gy Ao (.ref jP.heap.objs.size);exact PyProof.Rows.tail_any hT hlk g e
section
structure nk(Z W:Hn Hv)(h h':Iv):Prop where
 sub:∀a∈Z,a∈W
 same:∀b o,h.get? b=hb o->b∉Z->h'.get? b=hb o
 here:∀a∈Z,∃o,h'.get? a=hb o/\¬jV o
variable{h':Iv}
theorem nk.off{Z:Hn Hv}(k:nk Z W h h')(ht:∀a∈W,∃o,h.get? a=hb o/\¬jV o):Off W h h':=by
 intro b o e hc;refine k.same b o e λhz=>?_;rcases hc with hc|hc
 ·exact hc (k.sub b hz)
 ·refine aQ (ht b (k.sub b hz)) λo' e' q=>?_;rw[e]at e';have e:=si e';subst e;clear e';exact q hc
variable{u:HE}
theorem dK.off(k:Off W h h')(r:dK Y w Hz ae W h u v)(hf:v.fl=.d∨v.fl=.s):dK Y w Hz ae W h' u v:=by
 obtain⟨as,r,c,o⟩:=r;refine⟨as,r.off k ?_,c,o⟩;rcases hf with hf|hf<;>rw[hf]at o
 ·exactλa ha=>(o a ha).2
 ·exact o
variable{sp:Hn Hv}
theorem jz.off{Z:Hn Hv}(k:Off W h h')(k':∀b ob,h.get? b=hb ob->b∉Z->h'.get? b=hb ob)(r:jz Y w Hz ae W h u o sp)(hz:∀a∈sp,a∉Z):jz Y w Hz ae W h' u o sp:=by
 induction r with
 |lst a b c d=>exact .lst (k' _ _ a (hz _ (.head _))) (b.off k λx hx=>(d x hx).2) c d
 |lq a g=>exact .lq (a.kept λo e _ _=>k' _ o e (hz _ (.head _))) g
 |tree a b c e f=>exact .tree (a.off (W:=Z) (λb o e q=>q.elim (k' b o e) λt=>k b o e (.inr t)) hz) b c e f
theorem cH{β:Type}[BEq α][Pm α]{l:Hn (α×β)}{x:α}{y:β}(h:l.lookup x=hb y):(x,y)∈l:=by
 induction l with
 |nil=>exact no h
 |cons p l ih=>
  obtain⟨a,b⟩:=p;rw[HK]at h;split at h
  ·rename_i e;have e:=si h;subst e;clear h;exact(eq_of_beq e).symm▸.head _
  ·exact .tail _ (ih h)
variable{K:Ke}{C:Hn Hv}{x:HP}{a:Hv}
theorem cB(h:O.lookup x=hb sp)(ha:a∈sp):a∈WW K C O:=by refine I5 _ (Hx _ (IS.mpr ⟨(x,sp),cH h,ha⟩))
variable{ae:HM}{X:Hn Hv}{L:ar}
theorem InF.wrote(I:InF Y w Hz U ae X K C L O s){Z:Hn Hv}(k:nk Z (WW K C O) s.heap h'):
  fh Y Hz U h'/\(∀b o,ae.heap.get? b=hb o->b∉X->h'.get? b=hb o)/\(∀b o,ae.heap.get? b=hb o->∃o',h'.get? b=hb o')/\(∀a∈WW K C O,∃o,h'.get? a=hb o/\¬jV o)/\Off (WW K C O) s.heap h':=by
 refine Ei ⟨λz hz=>?_,I.base.lim,I.base.seer,I.base.tree,I.base.mods,λb o e=>k.same b o (I.base.grow b o e) λhz=>?_⟩ (λb o e hx=>k.same b o (I.keep b o e hx) λhz=>?_) (λb o e=>?_) (λa ha=>?_) (k.off I.cO)
 ·obtain⟨q,o,e,t⟩:=I.base.hide z hz;refine⟨q,o,k.same z o e (λzY=>?_),t⟩;refine aQ (I.cO z (k.sub z zY)) λo' e' nt=>?_;rw[e]at e';have e:=si e';subst e;clear e';exact nt t
 ·exact no (((I.b8 b (k.sub b hz)).1).symm.trans e)
 ·exact no (((I.b8 b (k.sub b hz)).2 hx).symm.trans e)
 ·by_cases hz:b∈Z
  ·exact aQ (k.here b hz) λo' e' o1=>vb o' e'
  ·exact dA (I.alive b o e) λo' e'=>vb o' (k.same b o' e' hz)
 ·by_cases hz:a∈Z
  ·exact k.here a hz
  ·exact aQ (I.cO a ha) λo e c=>i12 o (k.same a o e hz) c
theorem cj.wrote{Z:Hn Hv}(k:Off W h h')(k':∀b ob,h.get? b=hb ob->b∉Z->h'.get? b=hb ob)(r:cj Y w Hz iE W O h x u vv)(hz:∀sp,O.lookup x=hb sp->∀a∈sp,a∉Z):cj Y w Hz iE W O h' x u vv:=by
 induction vv with
 |val v=>exact gQ r.1 (r.2.off k r.1)
 |own o=>exact aQ r λsp e r=>i12 sp e (r.off k k' (hz sp e))
theorem fE(hn:(WW K C O).Nodup)(h:O.lookup x=hb sp)(ha:a∈sp):a≠K.locals/\a∉C:=by obtain R:a∈O.flatMap (·.2):=IS.mpr ⟨(x,sp),cH h,ha⟩;unfold WW at hn;rw[HZ,H8]at hn;refine⟨λe=>hn.1 (e▸Hx _ R),λhc=>hn.2.2.2 a hc a R rfl⟩
theorem du.B3(I:du Y w Hz U ae X K C L O s){x:HP}{u:HE}{v:VV}{m:HP->Hp HE}{h':Iv}{tk:HG}(hk:K.kindOf x=hb .local)
  (EE:∀y vv,L y=hb vv->K.kindOf y=hb .local->∃u,m y=hb u/\cj Y w Hz ae.heap (WW K C O) O s.heap y u vv)
  (hn:h'.Ns K.locals (λy=>if y=x then hb u else m y))(hs:KS K.locals s.heap h')(r:cj Y w Hz ae.heap (WW K C O) O s.heap x u v):
  du Y w Hz U ae X K C (L.set x v) O {s with heap:=h',toks:=tk}:=by
 have aU:nk [K.locals] (WW K C O) s.heap h':=by refine⟨λa ha=>by exact(HB.mp ha).symm▸.head _,λb o e aO=>(hs.2 b (by simpa using aO)).trans e,λa ha=>?_⟩;refine(HB.mp ha).symm▸vd hn λo es ep ho hd o1=>i12 o ho (λ⟨vs,k,hc⟩=>?_);rw[hc]at hd;cases hd
 refine CQ (I.toInF.wrote aU) λw1 w2 w3 w4 w5=>pT I.same λh0 t0 e0=>?_;have gu:∀c∈C,c≠K.locals:=λc hc e=>by
  have:=I.b9;unfold WW at this;rw[HZ]at this;exact this.1 (e▸HF _ hc)
 refine⟨⟨⟨h',tk,e0▸rfl⟩,w1,w2,w3,w4,I.b8,I.b9,I.kind,I.glob,I.jJ,I.rQ,⟨_,hn,λy vv e1 e2=>?_⟩,λy vv e1 e2=>?_⟩,I.fc,I.ma,λz c hc=>?_⟩
 ·obtain d3:=(eW _ _ _ _).symm.trans e1;by_cases hy:y=x
  ·clear hn e0 t0 h0 w4 w3 w2 w1;subst hy;rw[H5 rfl]at d3;have e:=si d3;subst e;clear d3;refine i12 u (H5 rfl) (r.wrote w5 aU.same λsp lb a ha=>?_);simpa using(fE I.b9 lb ha).1
  ·rw[Ir hy]at d3;refine aQ (EE y vv d3 e2) λu' a b=>i12 u' ((Ir λq=>hy q).trans a) (b.wrote w5 aU.same λsp lb a ha=>?_);simpa using(fE I.b9 lb ha).1
 ·obtain hy:y≠x:=λq=>by rw[q,hk]at e2;cases e2
  obtain d3:=(eW _ _ _ _).symm.trans e1;rw[Ir hy]at d3;refine j8 (I.cell y vv d3 e2) λc u' a b d=>aQ (I.fc y e2) λc' a' hU=>?_;rw[a]at a';have e:=si a';subst e;clear a';refine mz c u' a (b.sameBut hs (gu c hU)) (d.wrote w5 aU.same λsp lb a ha=>?_);simpa using(fE I.b9 lb ha).1
 ·obtain⟨q,v,hv⟩:=I.ie z c hc;exact⟨q,v,hv.sameBut hs (gu c q)⟩
theorem du.setC(I:du Y w Hz U ae X K C L O s){tk:HG}(hk:K.kindOf x=hb .cell)(hc:K.cells.lookup x=hb c)
  (hn:h'.IsCell c (hb u))(hs:KS c s.heap h')(r:cj Y w Hz ae.heap (WW K C O) O s.heap x u fb):
  du Y w Hz U ae X K C (L.set x fb) O {s with heap:=h',toks:=tk}:=by
 have yr:c∈C:=by refine aQ (I.fc x hk) λc' a b=>?_;rw[hc]at a;have e:=si a;subst e;clear a;exact b
 have aU:nk [c] (WW K C O) s.heap h':=by refine⟨λa ha=>by exact(HB.mp ha).symm▸I5 _ (HF _ yr),λb o e aO=>(hs.2 b (by simpa using aO)).trans e,λa ha=>?_⟩;refine(HB.mp ha).symm▸aQ hn λo ho hd=>i12 o ho (λ⟨vs,k,q⟩=>?_);rw[q]at hd;cases hd
 refine CQ (I.toInF.wrote aU) λw1 w2 w3 w4 w5=>pT I.same λh0 t0 e0=>?_;have hL:K.locals≠c:=λe=>by
  have:=I.b9;unfold WW at this;rw[HZ]at this;exact this.1 (e▸HF _ yr)
 refine⟨⟨⟨h',tk,e0▸rfl⟩,w1,w2,w3,w4,I.b8,I.b9,I.kind,I.glob,I.jJ,I.rQ,?_,λy vv e1 e2=>?_⟩,I.fc,I.ma,λz d hd=>?_⟩
 ·refine aQ I.ns λm R hv=>i12 m (R.sameBut hs hL) (λy vv e1 e2=>?_);obtain hy:y≠x:=λq=>by rw[q,hk]at e2;cases e2
  have d3:=(eW _ _ _ _).symm.trans e1;rw[Ir hy]at d3;refine aQ (hv y vv d3 e2) λu' a b=>i12 u' a (b.wrote w5 aU.same λsp lb a ha=>?_);intro q;exact(fE I.b9 lb ha).2 ((HB.mp q)▸yr)
 ·have d3:=(eW _ _ _ _).symm.trans e1;by_cases hy:y=x
  ·clear hk hL e1 e0 t0 h0 w4 w3 w2 w1;subst hy;rw[H5 rfl]at d3;have e:=si d3;subst e;clear d3;exact mz c u hc hn (r.wrote w5 aU.same λsp lb a ha q=>(fE I.b9 lb ha).2 ((HB.mp q)▸yr))
  ·rw[Ir hy]at d3;refine j8 (I.cell y vv d3 e2) λd u' a b e=>mz d u' a (b.sameBut hs (λq=>?_)) (e.wrote w5 aU.same λsp lb a ha q=>?_)
   ·exact hy ((I.ma _ _ _ (q▸a) hc))
   ·exact(fE I.b9 lb ha).2 ((HB.mp q)▸yr)
 ·obtain⟨hq,fb,hv⟩:=I.ie z d hd;refine gQ hq ?_;by_cases q:d=c
  ·exact vb (hb u) (q▸hn)
  ·exact vb fb (hv.sameBut hs q)
theorem du.store{Q:Nq->HM->Prop}(I:du Y w Hz U ae X K C L O s){v:VV}(hk:aA K.scope x=Hq)(r:cj Y w Hz ae.heap (WW K C O) O s.heap x u v)
  (hQ:∀s',du Y w Hz U ae X K C (L.set x v) O s'->Step s.heap s'.heap (WW K C O) (WW K C O)->Q () s'):wpAny (Iq Y w) A (Pn K x u) Q E s:=by
 simp only[aA,HU,JA,Ik]at hk;rcases hk.1 with hk|hk
 ·exact aQ I.ns λm R hv=>Nr hk R (λh' hn hs=>hQ _ (I.B3 hk hv hn hs r) ⟨λb o e aO=>(hs.2 b λq=>aO (q▸.head _)).trans e,λ_ h=>.inl h⟩) (by refine I.kind.symm▸?_;rfl)
 ·refine aQ (I.fc x hk) λc hc yr=>?_;obtain⟨_,aqs,ao3⟩:=I.ie _ c hc;exact wpAny_storeName_cell I.kind hk hc ao3 λh' hn hs=>hQ _ (I.setC (tk:=s.toks) hk hc hn hs r) ⟨λb o e aO=>(hs.2 b λq=>aO (q▸I5 _ (HF _ yr))).trans e,λ_ h=>.inl h⟩
noncomputable def ar.del(L:ar)(x:HP):ar:=λy=>if y=x then Hu else L y
theorem nu(L:ar)(x:HP)(v:VV):(L.del x).set x v=L.set x v:=by funext y;by_cases h:y=x<;>simp[ar.del,eW,h]
theorem da.more(o:da iE W f as)(al:∀b∈as,∃ob,h.get? b=hb ob)(ha:h.get? a=Hu)(hW:∀b,b∈W'->b=a∨b∈W):da iE W' f as:=by
 obtain ne:∀b∈as,b≠a:=λb U e=>by
  refine dA (al b U) λob q=>?_;rw[e,ha]at q;exact no q
 induction f with
 |d=>exactλb U=>⟨(o b U).1,λhw=>(hW b hw).elim (ne b U) (o b U).2⟩
 |s=>exactλb U hw=>(hW b hw).elim (ne b U) (o b U)
 |t=>trivial
theorem cj.more(r:cj Y w Hz iE W O h nV u vv)(ha:h.get? a=Hu)(hW:∀b,b∈W'->b=a∨b∈W)(hy:nV≠x):
  cj Y w Hz iE W' ((x,[a])::O) h nV u vv:=by
 induction vv with
 |val v=>obtain⟨f,as,r,c,o⟩:=r;exact⟨f,as,r,c,o.more r.alive ha hW⟩
 |own o=>
  obtain⟨sp,e,r⟩:=r;obtain Eu:(nV==x)=HH:=by simpa using hy
  refine i12 sp (by(refine HK.trans ?_;refine Eu.symm▸?_);exact e) ?_;clear e;induction r with
  |lst a1 b c d=>exact .lst a1 b c (d.more b.alive ha hW)
  |lq a1 g=>exact .lq a1 g
  |tree a b c e f=>exact .tree a b c e f
theorem du.adV(I:du Y w Hz U ae X K C L O s)(x:HP)(ho:¬jV o)(apu:o.isFreed=HH):
  du Y w Hz U ae X K C (L.del x) ((x,[s.heap.objs.size])::O) {s with heap:=s.heap.push o}:=by
 have xr:s.heap.get? s.heap.objs.size=Hu:=aT _ (Io _);have hW:∀b,b∈WW K C ((x,[s.heap.objs.size])::O)->b=s.heap.objs.size∨b∈WW K C O:=by
  intro b aO;simp only[WW,IF,Hw,HD,Ia,Kv]at aO⊢;rcases aO with h|h|h|h
  ·exact .inr (.inl h)
  ·exact .inr (.inr (.inl h))
  ·exact .inl h
  ·exact .inr (.inr (.inr h))
 obtain g:=bA.push s.heap o;refine ew (I.toInF.fresh xr) λHk DU=>?_;obtain I':=I.grow (bE s o);refine⟨⟨I'.same,I'.base,I'.keep,I'.alive,λa ha=>?_,λa ha=>?_,?_,I.kind,I.glob,I.jJ,I.rQ,?_,λy vv e1 e2=>?_⟩,I.fc,I.ma,I'.ie⟩
 ·rcases hW a ha with rfl|ha
  ·exact i12 o (H7 s.heap apu) ho
  ·exact I'.cO a ha
 ·rcases hW a ha with rfl|ha
  ·refine gQ ?_ (λ_=>Hk);cases e:U.get? s.heap.objs.size with
   |none=>rfl
   |some o'=>exact no (xr.symm.trans (I.base.grow _ _ e))
  ·exact I.b8 a ha
 ·obtain q:(s.heap.objs.size::WW K C O).Nodup:=HZ.mpr ⟨DU,I.b9⟩;refine Nw ?_ q;unfold WW;exact IF.symm▸(O6 ..).trans (O7 _ PK.symm)
 ·refine aQ I.ns λm R hv=>i12 m (R.push o) (λy vv e1 e2=>?_);have d3:(if y=x then Hu else L y)=hb vv:=e1;by_cases hy:y=x
  ·rw[H5 hy]at d3;exact no d3
  ·rw[Ir hy]at d3;exact aQ (hv y vv d3 e2) λu a b=>i12 u a ((b.more xr hW hy).grow g)
 ·have d3:(if y=x then Hu else L y)=hb vv:=e1;by_cases hy:y=x
  ·rw[H5 hy]at d3;exact no d3
  ·rw[Ir hy]at d3;exact j8 (I.cell y vv d3 e2) λc u a b d=>mz c u a (et b g) ((d.more xr hW hy).grow g)
theorem abf{o:PR}(x:HP):Step s.heap (s.heap.push o) (WW K C O) (WW K C ((x,[s.heap.objs.size])::O)):=by
 refine⟨λb ob e _=>HW o e,λb aO=>?_⟩;simp only[WW,IF,Hw,HD,Ia,Kv]at aO⊢;rcases aO with h|h|h|h
 ·exact .inl (.inl h)
 ·exact .inl (.inr (.inl h))
 ·exact .inr (h▸aT _ (Io _))
 ·exact .inl (.inr (.inr h))
end
section
variable{ae:HM}{X C:Hn Hv}{K:Ke}{L:ar}
theorem du.tw(I:du Y w Hz U ae X K C L O s){x:HP}{o o':E3}{a:Hv}{h':Iv}{tk:HG}(hx:L x=hb (.own o))(hO:O.lookup x=hb [a])(hs:KS a s.heap h')
  (ht:∃ob,h'.get? a=hb ob/\¬jV ob)(DR:∀u,jz Y w Hz ae.heap (WW K C O) s.heap u o [a]->Off (WW K C O) s.heap h'->jz Y w Hz ae.heap (WW K C O) h' u o' [a]):
  du Y w Hz U ae X K C (L.set x (.own o')) O {s with heap:=h',toks:=tk}:=by
 obtain FT:=cB hO (.head _);have aU:nk [a] (WW K C O) s.heap h':=
  ⟨λb aO=>by exact(HB.mp aO).symm▸FT,λb ob e aO=>(hs.2 b (by simpa using aO)).trans e,λb aO=>by exact(HB.mp aO).symm▸ht⟩
 refine CQ (I.toInF.wrote aU) λw1 w2 w3 w4 w5=>pT I.same λh0 t0 e0=>ew (fE I.b9 hO (a:=a) (.head _)) λhL hC=>?_;have other:∀y,y≠x->∀sp,O.lookup y=hb sp->∀b∈sp,b∉[a]:=by
  intro y hy sp lb b aO hq;rw[HB]at hq;subst hq;obtain m1:=cH hO;obtain m2:=cH lb;obtain nd:(O.flatMap (·.2)).Nodup:=by have:=I.b9;unfold WW at this;rw[HZ,H8]at this;exact this.2.2.1
  clear hO lb aU w1 w2 w3 w4 w5 I ht DR FT hx e0;clear o t0 h0;induction O with
  |nil=>cases m1
  |cons p O ih=>
   rw[IF,H8]at nd;rcases Hw.mp m1 with e1|m1<;>rcases Hw.mp m2 with e2|m2
   ·rw[<-e1]at e2;exact hy (HL ND e2)
   ·exact nd.2.2 b (by exact e1▸.head _) b (IS.mpr ⟨_,m2,aO⟩) rfl
   ·exact nd.2.2 b (by exact e2▸aO) b (IS.mpr ⟨_,m1,.head _⟩) rfl
   ·exact ih m1 m2 nd.2.1
 refine⟨⟨⟨h',tk,e0▸rfl⟩,w1,w2,w3,w4,I.b8,I.b9,I.kind,I.glob,I.jJ,I.rQ,?_,λy vv e1 e2=>?_⟩,I.fc,I.ma,λz c hc=>?_⟩
 ·refine aQ I.ns λm R hv=>i12 m (R.sameBut hs (K9 hL)) (λy vv e1 e2=>?_);obtain d3:=(eW _ _ _ _).symm.trans e1;by_cases hy:y=x
  ·clear ht FT R hL e0 t0 h0 w4 w3 w2 w1;subst hy;rw[H5 rfl]at d3;have e:=si d3;subst e;clear d3;obtain⟨u,b,sp,d,r⟩:=hv y _ hx e2;rw[hO]at d;have e:=si d;subst e;clear d;exact⟨u,b,[a],hO,DR u r w5⟩
  ·rw[Ir hy]at d3;exact aQ (hv y vv d3 e2) λu b r=>i12 u b (r.wrote w5 aU.same (other y hy))
 ·obtain d3:=(eW _ _ _ _).symm.trans e1;refine aQ (I.fc y e2) λc hc yr=>?_;obtain EI:c≠a:=λq=>hC (q▸yr);by_cases hy:y=x
  ·clear ht FT yr e1 hL e0 t0 h0 w4 w3 w2 w1;subst hy;rw[H5 rfl]at d3;have e:=si d3;subst e;clear d3;obtain⟨c',u,b1,b2,sp,d,r⟩:=I.cell y _ hx e2;rw[hc]at b1;have e:=si b1;subst e;clear b1;rw[hO]at d;have e:=si d;subst e;clear d;exact⟨c,u,hc,b2.sameBut hs EI,[a],hO,DR u r w5⟩
  ·rw[Ir hy]at d3;refine j8 (I.cell y vv d3 e2) λc' u b1 b2 r=>?_;rw[hc]at b1;have e:=si b1;subst e;clear b1;exact mz c u hc (b2.sameBut hs EI) (r.wrote w5 aU.same (other y hy))
 ·obtain⟨q',v,hv⟩:=I.ie z c hc;exact⟨q',v,hv.sameBut hs λq=>hC (q▸q')⟩
theorem InF.ahk(I:InF Y w Hz U ae X K C L O s)(hv:aA K.scope gc=Hq)(hx:L gc=hb (.own o))
  (hQ:∀u sp,O.lookup gc=hb sp->jz Y w Hz ae.heap (WW K C O) s.heap u o sp->Q u s):wpAny (Iq Y w) A (Jf (.Name gc pos) K) Q E s:=by
 simp only[aA,HU,JA,Ik,JI]at hv;obtain⟨hv,hd⟩:=hv;rcases hv with hv|hv
 ·obtain⟨m,yh,R⟩:=I.ns;obtain⟨u,hu,sp,e,r⟩:=R gc _ hx hv;exact MJ (Lo I.kind hv yh hu (hQ u sp e r)) hd
 ·obtain⟨c,u,hc,hu,sp,e,r⟩:=I.cell gc _ hx hv;exact MJ (MA I.kind hv hc hu (hQ u sp e r)) hd
theorem du.owned(I:du Y w Hz U ae X K C L O s){o:E3}{pos:J3}{A:Jh}{E:HE->HM->Prop}(hv:aA K.scope gc=Hq)(hx:L gc=hb (.own o))(ho:∀a d,o≠.tree a d)
  (hQ:∀a,O.lookup gc=hb [a]->jz Y w Hz ae.heap (WW K C O) s.heap (.ref a) o [a]->Q (.ref a) s):wpAny (Iq Y w) A (Jf (.Name gc pos) K) Q E s:=
 I.toInF.ahk hv hx λu sp e r=>by
  clear hx hv E A pos I;induction r with
  |lst a b c d=>exact hQ _ e (.lst a b c d)
  |lq a g=>exact hQ _ e (.lq a g)
  |tree a b c _ _=>exact IG rfl (ho _ _)
end
def S1(Y:IB)(w:Ja)(U:Iv)(n:HG)(sc:IH)(st:IM)(m:ar->Hp Out):Prop:=
 ∀{{A:Jh}} {{Hz:Hn Hv}} {{K:Ke}} {{ae:HM}} {{X C:Hn Hv}} {{L:ar}} {{O:Hn (HP×Hn Hv)}} {{s:HM}} {{r:Out}} {{Q:Flow->HM->Prop}} {{E:HE->HM->Prop}},
  K.scope=sc->eu A n->du Y w Hz U ae X K C L O s->m L=hb r->Ends Y w Hz U ae X K C O s r Q->wpAny (Iq Y w) A (exec st K) Q E s
theorem St.nil:St Y w U n sc [] (λL=>hb (.next L)):=by intro A Hz K ae X C L O s r Q E hs hA I R hQ;(have e:=si R;subst e;clear R);exact OA (hQ O s I (Step.refl _ _))
noncomputable def wF(m:ar->Hp Out):Out->Hp Out
 |.next L=>m L
 |o=>hb o
theorem St.cons{st:IM}{m m':ar->Hp Out}(h:S1 Y w U n sc st m)(h':St Y w U n sc rest m'):St Y w U n sc (st::rest) (λL=>(m L).bind (wF m')):=by
 intro A Hz K ae X C L O s r Q E hs hA I;refine ak λo ho R hQ=>M8 (h hs hA I ho ?_);clear h st ho I L;induction o with
 |next ft=>exactλO s' I' t=>h' hs hA I' R (hQ.trans t)
 |brk ft=>(have e:=si R;subst e;clear R);exact hQ
 |cont ft=>(have e:=si R;subst e;clear R);exact hQ
 |ret x=>(have e:=si R;subst e;clear R);exact hQ
 |fU x ft=>(have e:=si R;subst e;clear R);exact hQ
theorem S1.pass:S1 Y w U n sc (.Pass pos) (λL=>hb (.next L)):=by intro A Hz K ae X C L O s r Q E hs hA I R hQ;(have e:=si R;subst e;clear R);exact wpAny_Pass (hQ O s I (Step.refl _ _))
noncomputable def uz(L:ar)(x:HP)(v:V):Hp Out:=match v.fl with
 |.t=>Hu
 |_=>hb (.next (L.set x (.val v)))
variable{L:ar}{x:HP}
set_option tactic.hygienic true in
theorem aeM{r:Out}(h:uz L x v=hb r):(v.fl=.d∨v.fl=.s)/\r=.next (L.set x (.val v)):=by
 obtain⟨a,f⟩:=v;cases f with
 |t=>exact no h
 |d=>exact⟨.inl rfl,(si h).symm⟩
 |s=>exact⟨.inr rfl,(si h).symm⟩
theorem S1.assign(h:Ev Y w U n sc e m)(hv:aA sc x=Hq)(iS:∀K:Ke,K.scope=sc->JU e (hb (.Name x p)) pos.line K=pure HH):
  S1 Y w U n sc (.Assign [.Name x p] e pos) (λL=>(m L).bind (uz L x)):=by
 intro A Hz K ae X C L O s r Q E hs hA I;refine ak λv k9 R hQ=>ew (aeM R) λhf o1=>?_;subst o1;refine Kk (h hs hA I.toInF k9 λu ay ah aL=>?_) (iS K hs);exact(I.grow ah).store (v:=.val v) (by exact hs.symm▸hv) ⟨hf,aL⟩ λs' I' t=>hQ O s' I' ((Step.cN (ag ah)).trans t)
noncomputable def Bb:V->Hp Out
 |⟨x,.d⟩=>hb (.ret x)
 |_=>Hu
theorem S1.ret(h:Ev Y w U n sc e m):S1 Y w U n sc (.Return (hb e) pos) (λL=>(m L).bind Bb):=by
 intro A Hz K ae X C L O s r Q E hs hA I;refine ak λv k9 R hQ=>?_;obtain⟨x,f⟩:=v;cases f with
 |d=>(have e:=si R;subst e;clear R);refine L3 (h hs hA I.toInF k9 λu ay ah aL=>?_);obtain⟨as,ra,ca,oa⟩:=aL;exact hQ u as O L ay (I.grow ah) ra ca λa ha=>.inr (oa a ha).1
 |_=>exact no R
set_option tactic.hygienic true in
theorem S1.al8{p pos:J3}(hv:aA sc x=Hq):S1 Y w U n sc (.Return (hb (.Name x p)) pos) (λL=>match L x with|some (.own (.lst B))=>hb (.ret (.list B))|_=>Hu):=by
 intro A Hz K ae X C L O s r Q E hs hA I R hQ;dsimp only at R;revert R;cases hx:L x with
 |none=>exactλR=>no R
 |some v=>cases v with
 |val _=>exactλR=>no R
 |own o=>cases o with
 |lst B=>
  intro R;have e:=si R;subst e;clear R hA;refine L3 (I.owned (by exact hs.symm▸hv) hx (λ_ _ q=>by cases q) λa hO r=>?_);clear hv pos p hx hs E A;induction r.A1 with|mk vs k as a1 b c d=>?_
  refine hQ _ _ O L s I (.list a1 b) c λy hy=>?_;clear c b a1 hQ Q;rcases Hw.mp hy with rfl|hy
  ·by_cases hX:y∈X
   ·exact .inl hX
   ·exact .inr ((I.b8 y (cB hO (.head _))).2 hX)
  ·exact .inr (d y hy).1
 |_=>exactλR=>no R
theorem S1.ah6:S1 Y w U n sc (.Return Hu pos) (λ_=>hb (.ret .none)):=by intro A Hz K ae X C L O s r Q E hs hA I R hQ;(have e:=si R;subst e;clear R);exact wpAny_Return_none (hQ .none [] O L s I .none rfl λ_ h=>nomatch h)
variable{mb:ar->Hp Out}
theorem S1.if{t:HR}{pos:J3}{mo:ar->Hp Out}(ht:Tr Y w U n sc t mt)(h1:St Y w U n sc b mb)(h2:St Y w U n sc o mo):
  S1 Y w U n sc (.If t b o pos) (λL=>(mt L).bind λc=>if c then mb L else mo L):=by
 intro A Hz K ae X C L O s r Q E hs hA I;refine ak λc hc R hQ=>wpAny_If (ht hs hA I.toInF hc λay ah=>?_);clear ht pos t hc;induction c with
 |true=>exact h1 hs hA (I.grow ah) R (hQ.trans (Step.cN (ag ah)))
 |false=>exact h2 hs hA (I.grow ah) R (hQ.trans (Step.cN (ag ah)))
theorem bw(vs:Hn HE)(k:HG):¬jV (cA vs k):=by rintro⟨_,_,q⟩;have:=HL Obj.cls q;simp at this
theorem hZ(h:o.cls=.type "dict"):¬jV o:=by rintro⟨_,_,q⟩;have:=HL Obj.cls q;rw[h]at this;simp at this
variable{K:Ke}{a:Hv}{h':Iv}
theorem nK(hO:O.lookup x=hb [a])(hs:KS a h h'):Step h h' (WW K C O) (WW K C O):=
 ⟨λb o e aO=>(hs.2 b λq=>aO (q▸cB hO (.head _))).trans e,λ_ h=>.inl h⟩
theorem S1.ajc(h:rM Y w U n sc es ms)(hv:aA sc x=Hq):
  S1 Y w U n sc (.Assign [.Name x p] (.List es lp) pos) (λL=>(ms L).bind λvs=>if vs.length<=sizeLine/\lL vs=.d then hb (.next (L.set x (.own (.lst (vs.map (·.x))))))else Hu):=by
 intro A Hz K ae X C L O s r Q E hs hA I;refine ak λvs nh=>jl λhz R hQ=>?_
 ·have e:=si R;subst e;clear R;refine Kk (OL (h hs hA I.toInF nh λus ay ah aL=>⟨by rw[aL.length];exact hz.1,?_⟩)) rfl;refine kK aL.yv λas r c o=>?_;rw[hz.2]at o;refine((I.grow ah).adV x (o:=cA us 0) (bw _ _) rfl).store (v:=.own (.lst (vs.map (·.x)))) (by rw[hs];exact hv) ⟨[ay.heap.objs.size],by rw[HK,Ih],?_⟩ λs' I' t=>hQ _ s' (by rw[<-nu];exact I') ((Step.cN (ag ah)).trans ((abf x).trans t));refine .lst (as:=as) (H7 _ rfl) (r.grow (bA.push _ _)) (aV.mpr ⟨by simpa using hz.1,c⟩) (o.more r.alive (aT _ (Io _)) λb aO=>?_);simp only[WW,IF,Hw,HD,Ia,Kv]at aO⊢;rcases aO with h|h|h|h
  ·exact .inr (.inl h)
  ·exact .inr (.inr (.inl h))
  ·exact .inl h
  ·exact .inr (.inr (.inr h))
theorem S1.ownDict{lp:J3}(hv:aA sc x=Hq):
  S1 Y w U n sc (.Assign [.Name x p] (.Dict [] [] lp) pos) (λL=>hb (.next (L.set x (.own (.lq []))))):=by
 intro A Hz K ae X C L O s r Q E hs hA I R hQ;have e:=si R;subst e;clear R;refine Kk (QP ?_) rfl;obtain wk:(s.heap.objs.size==Kd)=HH:=by refine dA I.base.mods λo ho=>?_;have:=II (I.base.grow _ _ ho);simpa using(KT this)
 refine(I.adV x (o:={cls:=.type "dict",data:=.dict #[]}) (hZ rfl) rfl).store (v:=.own (.lq [])) (by rw[hs];exact hv) ⟨[s.heap.objs.size],by rw[HK,Ih],?_⟩ λs' I' t=>hQ _ s' (by rw[<-nu];exact I') ((abf x).trans t);exact .lq ⟨[],MB _,wk,.nil⟩ (by decide)
theorem gn(vs:Hn HE)(k:HG)(f:PX HE->PX HE):∃k',JB f (cA vs k)=cA (f vs.toArray).toList k':=⟨_,rfl⟩
variable{ap:J3}
set_option tactic.hygienic true in
theorem S1.append{cp:J3}(h:Ev Y w U n sc e m)(hv:aA sc x=Hq)(he:∀K,Ie [e] K=[(HH,Jf e K)])(hl:(ap.endLine==cp.line)=Hq)
  (hi:∀K:Ke,K.scope=sc->KJ K=HH):
  S1 Y w U n sc (.Expr (.Call (.Attribute (.Name x p) (HA "append") ap) [e] [] cp) pos)
   (λL=>match L x with|some (.own (.lst B))=>(m L).bind λv=>if v.fl=.d/\B.length+1<=sizeLine then hb (.next (L.set x (.own (.lst (B++[v.x])))))else Hu|_=>Hu):=by
 intro A Hz K ae X C L O s r Q E hs hA I R hQ;dsimp only at R;split at R
 ·rename_i B hx;obtain⟨v,k9,R⟩:=ao R;revert R;refine jl λhz R=>?_
  ·cases R;refine LP (J5 rfl (by rw[he];rfl) hl LY NN NO (I.owned (by rw[hs];exact hv) hx (λ_ _ q=>by cases q) λa hO r=>?_)) (hi K hs);induction r.A1 with|mk vs k as a1 b c d=>?_
   refine lW ⟨_,a1,rfl⟩ (λa' ea=>by cases ea;exact⟨_,a1,rfl⟩) ?_;rw[he];show wpAny _ _ (Lq cp (.builtin "list.append") [.ref a] [(HH,Jf e K)] []) _ _ _;refine OO (h hs hA I.toInF k9 λu ay ah aL=>?_);obtain DW:=ag ah _ _ a1;rw[aV]at c;refine mz vs.toArray k (by simp[b.length];exact c.1) DW<|dA (gn vs k (λB=>B.push u)) λk' ek=>?_;have hJ:(ay.heap.update a (JB λB=>B.push u)).get? a=hb (cA (vs++[u]) k'):=by rw[Jb _ DW rfl,ek];simp
   refine hQ O _ ((I.grow ah).tw (tk:=ay.toks) hx hO (JL _ _ _) ⟨_,hJ,bw _ _⟩ λu' r' off=>?_) ((Step.cN (ag ah)).trans (nK hO (JL _ _ _)));obtain⟨bs,rv,cv,ov⟩:=aL;rw[hz.1]at ov;cases r' with
   |lst a2 b2 c2 d2=>
    refine .lst (as:=as++(bs++[])) hJ (((b.grow (ag ah)).off off λy hy=>(d y hy).2).append (.cons (rv.off off λy hy=>(ov y hy).2) .nil)) (aV.mpr ⟨by simpa using hz.2,?_⟩) ?_
    ·rw[eG,c.2];simp[fy,cv]
    ·rw[IA];exact da.append d ov
 ·exact no R
noncomputable def nL(B:Hn (HI×HP))(k:HI)(v:HP):Hn (HI×HP):=if B.any (λp=>p.1=k)then B.map (λp=>if p.1=k then(p.1,v)else p)else B++[(k,v)]
variable{aW:Hn (HI×HE)}{B:Hn (HI×HP)}
theorem eJ.any(h:eJ aW B)(k:HI):aW.any (λp=>decide (p.1=k))=B.any (λp=>decide (p.1=k)):=by
 induction h with
 |nil=>rfl
 |cons _ _ _ _ ih=>exact HL (_||·) ih
theorem eJ.len(h:eJ aW B):aW.length=B.length:=by
 induction h with
 |nil=>rfl
 |cons _ _ _ _ ih=>exact HL (·+1) ih
variable{k:HI}{v:HP}{t:Pk}
theorem eJ.over(h:eJ aW B):eJ (aW.map λp=>if p.1=k then(p.1,.str v t)else p) (B.map λp=>if p.1=k then(p.1,v)else p):=by
 induction h with
 |nil=>exact .nil
 |cons i x t _ ih=>
  rw[HS,HS];by_cases e:i=k
  ·rw[H5 e,H5 e];exact .cons _ _ _ ih
  ·rw[Ir e,Ir e];exact .cons _ _ _ ih
theorem eJ.more(h:eJ aW B):eJ (aW++[(k,.str v t)]) (B++[(k,v)]):=by
 induction h with
 |nil=>exact .cons _ _ _ .nil
 |cons i x t _ ih=>exact .cons _ _ _ ih
theorem eJ.put(h:eJ aW B):eJ (ML aW k (.str v t)) (nL B k v):=by
 unfold ML nL;rw[h.any k];cases B.any λp=>decide (p.1=k)with
 |true=>exact h.over
 |false=>exact h.more
theorem acY(B:Hn (HP×Ho)):x5 (B.map λp=>(.str p.1,p.2))=Hq↔∀p∈B,wf (.str p.1)=Hq/\wf p.2=Hq:=by
 induction B with
 |nil=>decide
 |cons p B bX=>simp[x5,bX]
theorem oV{B:Hn (HP×Ho)}:wf (dictOf B)=Hq↔B.length<=sizeLine/\∀p∈B,wf (.str p.1)=Hq/\wf p.2=Hq:=by simp only[wf,dictOf,HU,Ik,Hr,acY]
theorem aiE(B:Hn (HI×HP)):x5 (B.map λp=>(.int p.1,.str p.2))=Hq↔∀p∈B,wf (.str p.2)=Hq:=by
 induction B with
 |nil=>exact⟨λ_ _ h=>(nomatch h),λ_=>rfl⟩
 |cons p B bX=>simp[x5,bX,show wf (.int p.1)=Hq from rfl]
theorem ahq:wf (oZ B)=Hq↔B.length<=sizeLine/\∀p∈B,wf (.str p.2)=Hq:=by
 rw[<-aiE];obtain h1:1<=sizeLine:=by decide
 simp[oZ,wf,x5,h1]
theorem ajb(h:wf (oZ B)=Hq)(hv:wf (.str v)=Hq)(hz:B.length+1<=sizeLine):wf (oZ (nL B k v))=Hq:=by
 rw[ahq]at h⊢;unfold nL;split
 ·refine⟨by rw[Hr];exact h.1,λp hp=>?_⟩;refine aQ (HX.mp hp) λq hq o1=>?_;subst o1;split
  ·exact hv
  ·exact h.2 q hq
 ·refine⟨by rw[HN];exact hz,λp hp=>?_⟩;rcases HD.mp hp with hp|hp
  ·exact h.2 p hp
  ·rw[HB.mp hp];exact hv
def uG(o:Hp VV)(v k:V):Hp VV:=match o with
 |some (.own (.lq B))=>(cD k.x).bind λi=>(fW v.x).bind λt=>if B.length+1<=sizeLine then hb (.own (.lq (nL B i t)))else Hu
 |_=>Hu
inductive anl(v k:V):VV->VV->Prop
 |mk (B:Hn (HI×HP)) (i:HI) (t:HP) (hk:k.x=.int i) (hv:v.x=.str t) (hz:B.length+1<=sizeLine):anl v k (.own (.lq B)) (.own (.lq (nL B i t)))
theorem ac2{o:Hp VV}(h:uG o fb Bt=hb FW):∃y,o=hb y/\anl fb Bt y FW:=by
 cases o with
 |none=>exact no h
 |some y=>cases y with
  |val _=>exact no h
  |own y=>cases y with
   |lst _=>exact no h
   |tree _ _=>exact no h
   |lq B=>obtain⟨i,h1,h⟩:=ao h;obtain⟨t,h2,h⟩:=ao h;revert h;refine jl λhz h=>?_;rw[<-si h];exact i12 _ rfl (.mk B i t (bJ h1) (dh h2) hz)
theorem S1.alh{i e:HR}{np p pos:J3}{mi m:ar->Hp V}(hi:Ev Y w U n sc i mi)(h:Ev Y w U n sc e m)(hv:aA sc x=Hq)(iS:∀K:Ke,JU e (hb (.Subscript (.Name x np) i p)) pos.line K=pure HH):
  S1 Y w U n sc (.Assign [.Subscript (.Name x np) i p] e pos) (λL=>(m L).bind λv=>(mi L).bind λk=>(uG (L x) v k).map λz=>.next (L.set x z)):=by
 intro A Hz K ae X C L O s r Q E hs hA I R hQ;obtain⟨⟨vx,vf⟩,k9,R⟩:=ao R;obtain⟨⟨kx,kf⟩,Ey,R⟩:=ao R;refine aQ (H6.mp R) λz hz R=>?_;subst R;refine aQ (ac2 hz) λy hx H=>?_;clear hz;clear R;induction H with|mk aW key t e1 e2 hz=>?_
 dsimp only at e1 e2;clear y R z;subst e1 e2;refine Kr (h hs hA I.toInF k9 λu ay ah aL=>(I.grow ah).owned (by rw[hs];exact hv) hx (λ_ _ q=>by cases q) λa hO r=>hi hs hA (I.grow ah).toInF Ey λku aM aI cY=>?_) (iS K);obtain gP:=(I.grow ah).grow aI;have r:=r.grow (ag aI);obtain⟨_,rk,_,_⟩:=cY;obtain H:=rk.dR;clear rk;induction H with|mk tk=>?_
 obtain⟨_,rv,cv,_⟩:=aL;obtain H:=rv.ij;clear rv;induction H with|mk tv=>?_
 clear iS hv h hi pos p np e i Ey k9 ku u R I hA hs;obtain⟨a1,g⟩:=r.head _ rfl;obtain⟨aqi,a1,g1,b⟩:=a1;refine NP (knd:=intKind Y w) (intKind_is _ _ _ _) a1 (λh' qx gy=>?_) (by rw[b.len];exact NQ hz);obtain hJ:∃ob,h'.get? a=hb ob/\¬jV ob:=by exact vd qx λo es ep ho hx o1=>i12 o ho (hZ hx.1)
 exact hQ O _ (gP.tw hx hO gy hJ λu' r' off=>by
  clear m mi tk hJ gP a1 off hx hQ E Q r X A L;cases r' with|lq a2 g2=>exact .lq ⟨_,qx,g1,b.put⟩ (ajb g cv hz)) ((Step.cN (bA.trans (ag ah) (ag aI))).trans (nK hO gy))
def fR(Hz:Hn Hv)(h h':Iv):Prop:=∀b o,h.get? b=hb o->(∀fs,o.data=.fields fs->∀T,o.cls≠.type T)->(b∈Hz->¬jV o)->h'.get? b=hb o
theorem oJ.cP(k:fR Hz h h'){m:HP->Hp HE}(i:oJ h a dx C m):oJ h' a dx C m:=by obtain⟨o,h1,h2,h3,h4,h5,o',es,ep,g1,g2,g3⟩:=i;exact⟨o,k _ _ h1 (λ_ _ T e=>nomatch h2.symm.trans e) (λ_=>by rintro⟨vs,n,rfl⟩;cases h2),h2,h3,h4,h5,o',es,ep,k _ _ g1 (λfs e=>nomatch g2.symm.trans e) (λ_=>by rintro⟨vs,n,rfl⟩;cases g2),g2,g3⟩
theorem ic.cP(k:fR Hz h h'){V:Hv}{x y:HI}(i:ic h V b db x y):ic h' V b db x y:=by obtain⟨m,t,u,i,r1,r2,r3⟩:=i;exact⟨m,t,u,i.cP k,r1,r2,r3⟩
variable{vs:Hn HE}
theorem bj.cP(k:fR Hz h h'){V hd:Hv}{m:HP->Hp HE}(i:bj Y w h a dx C V nj hd aJ jo vs m ks):bj Y w h' a dx C V nj hd aJ jo vs m ks:=
 {i with
  obj:=i.obj.cP k
  dict:=by exact Ax i.dict λo es ep ho q1 q2 q=>A8 o es ep (k _ _ ho (λ_ z=>nomatch q2.symm.trans z) (λ_=>hZ q1.1)) q1 q2 q
  each:=λj b db x y e1 e2=>(i.each j b db x y e1 e2).cP k}
theorem aaz(k:fR Hz h h'):(∀{v x as},RD Y w Hz h v x as->RD Y w Hz h' v x as)/\∀{vs B as},bH Y w Hz h vs B as->bH Y w Hz h' vs B as:=
 RD.both .none .bool .int .str (λa _ r=>.list (k _ _ a (λ_ q=>by cases q) λ_=>bw _ _) r) (λa z _ r=>.tuple (k _ _ a (λ_ q=>by cases q) λhz=>IG hz z) z r)
  (λq g e _ r=>.dict (by exact Ax q λo es ep ho q1 q2 q=>A8 o es ep (k _ _ ho (λ_ z=>nomatch q2.symm.trans z) (λ_=>hZ q1.1)) q1 q2 q) g e r) (λi=>.val (i.cP k)) (λi _ r=>.store (i.cP k) r) (λi q e n _ r=>.inst (i.cP k) q e n r) (λi=>.num (i.kept λo e f t=>k _ o e (λfs z=>IG z (f fs)) λ_=>t)) .nil (λ_ _ a r=>.cons a r)
theorem RD.cP(k:fR Hz h h')(r:RD Y w Hz h fb gc as):RD Y w Hz h' fb gc as:=(aaz k).1 r
variable{B:Hn Ho}
theorem bH.cP(k:fR Hz h h')(r:bH Y w Hz h vs B as):bH Y w Hz h' vs B as:=(aaz k).2 r
variable{u:HE}
theorem dK.cP(r:dK Y w Hz ae W h u fb)(k:fR Hz h h'):dK Y w Hz ae W h' u fb:=by obtain⟨as,r,c,f⟩:=r;exact⟨as,r.cP k,c,f⟩
theorem cj.cP(r:cj Y w Hz ae W O h x u fb)(k:fR Hz h h'):cj Y w Hz ae W O h' x u fb:=by
 cases fb with
 |val fb=>exact gQ r.1 (r.2.cP k)
 |own o=>
  obtain⟨sp,lb,r⟩:=r;refine i12 sp lb ?_;clear lb;induction r with
  |lst a b c d=>exact .lst (k _ _ a (λ_ q=>by cases q) λ_=>bw _ _) (b.cP k) c d
  |lq a g=>exact .lq (a.kept λo e f t=>k _ o e (λfs z=>IG z (f fs)) λ_=>t) g
  |tree a b c e f=>exact .tree (a.cP k) b c e f
variable{wr Zs:Hn Hv}
theorem fR.of(nc:∀b∈wr,b∉Zs->∃o fs T,h.get? b=hb o/\o.data=.fields fs/\o.cls=.type T)(ht:∀z∈Zs,∃o,h.get? z=hb o/\jV o)(k:∀b o,b∉wr->h.get? b=hb o->h'.get? b=hb o):fR (Zs++Hz) h h':=by
 intro b o e hd hz;by_cases hw:b∈wr
 ·by_cases U:b∈Zs
  ·refine aQ (ht b U) λo' e' t=>?_;rw[e]at e';have e:=si e';subst e;clear e';exact IG t (hz (HF _ U))
  ·refine vd (nc b hw U) λo' fs T e' d c=>?_;rw[e]at e';have e:=si e';subst e;clear e';exact IG c (hd fs d T)
 ·exact k b o hw e
section
variable{Hy:Hn Hv}
theorem cj.hide(r:cj Y w Hz ae W O h x u fb)(k:∀a o,h.get? a=hb o->a∉Hz->a∉Hy):cj Y w Hy ae W O h x u fb:=by
 cases fb with
 |val fb=>obtain⟨q,as,r,c,f⟩:=r;exact⟨q,as,(fv k).1 r,c,f⟩
 |own o=>
  obtain⟨sp,lb,r⟩:=r;refine i12 sp lb ?_;clear lb;induction r with
  |lst a b c d=>exact .lst a ((fv k).2 b) c d
  |lq a g=>exact .lq a g
  |tree a b c e f=>exact .tree ((fv k).1 a) b c e f
variable{ae:HM}{X C:Hn Hv}
theorem InF.oR(I:InF Y w (Zs++Hz) U ae X K C L O s){tk:HG}(nc:∀b∈wr,b∉Zs->∃o fs T,s.heap.get? b=hb o/\o.data=.fields fs/\o.cls=.type T)(ue:∀b∈wr,U.get? b=Hu/\ae.heap.get? b=Hu/\b∉WW K C O)
  (k:∀b o,b∉wr->s.heap.get? b=hb o->h'.get? b=hb o)(hy:∀z∈Hy,z∈Zs++Hz)(Hm:∀z∈Hy,z∈wr->∃o,h'.get? z=hb o/\jV o):InF Y w Hy U ae X K C L O {s with heap:=h',toks:=tk}:=by
 have aU:fR (Zs++Hz) s.heap h':=fR.of nc (λz hz=>(I.base.hide z (HF _ hz)).2) k;have D:∀a o,h'.get? a=hb o->a∉Zs++Hz->a∉Hy:=λa _ _ q z=>q (hy a z);refine pT I.same λh0 t0 e0=>⟨⟨h',tk,e0▸rfl⟩,⟨λz hz=>?_,I.base.lim,I.base.seer,I.base.tree,I.base.mods,λb o e=>k b o (λhw=>?_) (I.base.grow b o e)⟩,λb o e hx=>k b o (λhw=>?_) (I.keep b o e hx),λb o e=>?_,λa ha=>?_,I.b8,I.b9,I.kind,I.glob,I.jJ,I.rQ,?_,λx vv e1 e2=>?_⟩
 ·obtain⟨q,o,e,t⟩:=I.base.hide z (hy z hz);refine gQ q ?_;by_cases hw:z∈wr
  ·exact Hm z hz hw
  ·exact i12 o (k z o hw e) t
 ·exact no (((ue b hw).1).symm.trans e)
 ·exact no (((ue b hw).2.1).symm.trans e)
 ·exact dA (I.alive b o e) λo' e'=>vb o' (k b o' (λhw=>no (((ue b hw).2.1).symm.trans e)) e')
 ·exact aQ (I.cO a ha) λo e c=>i12 o (k a o (λhw=>(ue a hw).2.2 ha) e) c
 ·refine aQ I.ns λm R hv=>i12 m ?_ (λx vv e1 e2=>?_)
  ·exact vd R λo es ep ho hd r=>yI o es ep (aU _ _ ho (λ_ z=>nomatch hd.symm.trans z) (λ_=>by rintro⟨vs,n,rfl⟩;cases hd)) hd r
  ·exact aQ (hv x vv e1 e2) λu a b=>i12 u a ((b.cP aU).hide D)
 ·refine j8 (I.cell x vv e1 e2) λc u a o1 d=>?_;obtain⟨o,ho,hd⟩:=o1;exact mz c u a ⟨o,aU _ _ ho (λ_ z=>nomatch hd.symm.trans z) (λ_=>by rintro⟨vs,n,rfl⟩;cases hd),hd⟩ ((d.cP aU).hide D)
theorem du.oR(I:du Y w (Zs++Hz) U ae X K C L O s){tk:HG}(nc:∀b∈wr,b∉Zs->∃o fs T,s.heap.get? b=hb o/\o.data=.fields fs/\o.cls=.type T)(ue:∀b∈wr,U.get? b=Hu/\ae.heap.get? b=Hu/\b∉WW K C O)
  (k:∀b o,b∉wr->s.heap.get? b=hb o->h'.get? b=hb o)(hy:∀z∈Hy,z∈Zs++Hz)(Hm:∀z∈Hy,z∈wr->∃o,h'.get? z=hb o/\jV o):du Y w Hy U ae X K C L O {s with heap:=h',toks:=tk}:=by
 refine⟨I.toInF.oR nc ue k hy Hm,I.fc,I.ma,λz c hc=>?_⟩;obtain⟨q,v,o,ho,hd⟩:=I.ie z c hc;exact⟨q,v,o,(fR.of (Hz:=Hz) nc (λz hz=>(I.base.hide z (HF _ hz)).2) k) _ _ ho (λ_ z=>nomatch hd.symm.trans z) (λ_=>by rintro⟨vs,n,rfl⟩;cases hd),hd⟩
theorem InF.yJ(I:InF Y w Hz U ae X K C L O s)(k:I8 s s')(hz:∀z∈Zs,s.heap.get? z=Hu)(ht:∀z∈Zs,∃o,s'.heap.get? z=hb o/\jV o):InF Y w (Zs++Hz) U ae X K C L O s':=by
 have D:∀a o,s.heap.get? a=hb o->a∉Hz->a∉Zs++Hz:=λa o e q z=>(HD.mp z).elim (λz=>no ((hz a z).symm.trans e)) q;have J:=I.grow k;refine⟨J.same,⟨λz q=>?_,J.base.lim,J.base.seer,J.base.tree,J.base.mods,J.base.grow⟩,J.keep,J.alive,J.cO,J.b8,J.b9,J.kind,J.glob,J.jJ,J.rQ,?_,λx vv e1 e2=>?_⟩
 ·rcases HD.mp q with q|q
  ·refine gQ ?_ (ht z q);cases e:U.get? z with
   |none=>rfl
   |some o=>have:=I.base.grow _ _ e;exact no ((hz z q).symm.trans this)
  ·exact J.base.hide z q
 ·exact aQ I.ns λm R hv=>i12 m (R.keeps (ag k)) (λx vv e1 e2=>aQ (hv x vv e1 e2) λu a b=>i12 u a ((b.hide D).grow (ag k)))
 ·exact j8 (I.cell x vv e1 e2) λc u a b d=>mz c u a (et b (ag k)) ((d.hide D).grow (ag k))
theorem du.yJ(I:du Y w Hz U ae X K C L O s)(k:I8 s s')(hz:∀z∈Zs,s.heap.get? z=Hu)(ht:∀z∈Zs,∃o,s'.heap.get? z=hb o/\jV o):du Y w (Zs++Hz) U ae X K C L O s':=
 ⟨I.toInF.yJ k hz ht,I.fc,I.ma,λx c hc=>let⟨q,v,h⟩:=I.ie x c hc;⟨q,v,et h (ag k)⟩⟩
theorem InF.pB(J:InF Y w (Zs++Hz) U ae X K C L O s):InF Y w Hz U ae X K C L O s:=by
 have D:∀a o,s.heap.get? a=hb o->a∉Zs++Hz->a∉Hz:=λa _ _ q z=>q (Hx _ z);refine⟨J.same,⟨λz q=>J.base.hide z (Hx _ q),J.base.lim,J.base.seer,J.base.tree,J.base.mods,J.base.grow⟩,J.keep,J.alive,J.cO,J.b8,J.b9,J.kind,J.glob,J.jJ,J.rQ,?_,λx vv e1 e2=>?_⟩
 ·exact aQ J.ns λm R hv=>i12 m R (λx vv e1 e2=>aQ (hv x vv e1 e2) λu a b=>i12 u a (b.hide D))
 ·exact j8 (J.cell x vv e1 e2) λc u a b d=>mz c u a b (d.hide D)
theorem du.pB(J:du Y w (Zs++Hz) U ae X K C L O s):du Y w Hz U ae X K C L O s:=⟨J.toInF.pB,J.fc,J.ma,J.ie⟩
theorem Ends.hide{r:Out}{Q:Flow->HM->Prop}(h:Ends Y w Hz U ae X K C O s r Q):Ends Y w (Zs++Hz) U ae X K C O s r Q:=by
 induction r with
 |next L=>exactλuY jR I t=>h uY jR I.pB t
 |brk L=>exactλuY jR I t=>h uY jR I.pB t
 |cont L=>exactλuY jR I t=>h uY jR I.pB t
 |ret x=>exactλu as O' L s' I r c f=>h u as O' L s' I.pB ((fv λa _ _ q z=>q (Hx _ z)).1 r) c f
 |fU x L=>exactλu O' s' I r c=>h u O' s' I.pB ((fv λa _ _ q z=>q (Hx _ z)).1 r) c
end
structure Stream(Y:IB)(w:Ja)(Hz:Hn Hv)(A:Jh)(gR:HR)(I:Hv)(F wr Zs:Hn Hv)(B:Hn Ho)(S:HG->Iv->Prop):Prop where
 frame:∀i h h' W,S i h->Off W h h'->(∀a∈F,a∉W)->(∀b∈wr,b∉W)->S i h'
 cP:∀i h,S i h->∀b∈wr,b∉Zs->∃o fs T,h.get? b=hb o/\o.data=.fields fs/\o.cls=.type T
 pV:∀i h,S i h->∀z∈Zs,∃o,h.get? z=hb o/\jV o
 sub:∀z∈Zs,z∈wr
 alive:∀i h,S i h->∀a∈F,∃o,h.get? a=hb o
 turn:∀i x(s:HM)(Q:HE->HM->Prop)(E:HE->HM->Prop),B[i]? =hb x->S i s.heap->(∀z∈Hz,∃o,s.heap.get? z=hb o)->
  (∀v as h' tk,RD Y w (Zs++Hz) h' v x as->(∀a∈as,a∈F)->S (i+1) h'->(∀b o,b∉wr->s.heap.get? b=hb o->h'.get? b=hb o)->Q v {s with heap:=h',toks:=tk})->
  wpAny (Iq Y w) A (Qm (.ref I)) (λr ay=>match r with|none=>Jg|some v=>wpAny (Iq Y w) A (OB gR (.ref I) v) (λ_ aM=>Q v aM) E ay) E s
 done:∀(s:HM)(Q:Hp HE->HM->Prop)(E:HE->HM->Prop),S B.length s.heap->
  (∀h' tk,(∀b o,b∉wr->s.heap.get? b=hb o->h'.get? b=hb o)->Q Hu {s with heap:=h',toks:=tk})->wpAny (Iq Y w) A (Qm (.ref I)) Q E s
 self:∀i(s:HM)(Q:HE->HM->Prop)(E:HE->HM->Prop),S i s.heap->Q (.ref I) s->wpAny (Iq Y w) A (Qn (.ref I)) Q E s
variable{gR:HR}{I:Hv}
theorem Stream.there{S:HG->Iv->Prop}(T:Stream Y w Hz A gR I F wr Zs B S)(st:S i h)(aO:b∈wr):∃o,h.get? b=hb o:=by
 by_cases hz:b∈Zs
 ·exact aQ (T.pV i h st b hz) λo e o1=>⟨o,e⟩
 ·exact uR (T.cP i h st b aO hz) λo o1 o2 e o3=>⟨o,e⟩
def It(Y:IB)(w:Ja)(U:Iv)(n:HG)(sc:IH)(gR:HR)(e:HR)(m:ar->Hp (Hn Ho×Fl)):Prop:=
 (∀(K:Ke)x,MV e K x=pure x)/\
 ∀{{A:Jh}} {{Hz:Hn Hv}} {{K:Ke}} {{ae:HM}} {{X C:Hn Hv}} {{L:ar}} {{O:Hn (HP×Hn Hv)}} {{s:HM}} {{v:Hn Ho×Fl}} {{Q:HE->HM->Prop}} {{E:HE->HM->Prop}},
  K.scope=sc->eu A n->InF Y w Hz U ae X K C L O s->m L=hb v->
  (∀I F wr Zs S s',I8 s s'->Stream Y w Hz A gR I F wr Zs v.1 S->S 0 s'.heap->da ae.heap (WW K C O) v.2 F->fy v.1=Hq->v.1.length<=sizeLine->(∀b∈wr,s.heap.get? b=Hu)->Q (.ref I) s')->
  wpAny (Iq Y w) A (Jf e K) (λx ay=>wpAny (Iq Y w) A (Qn x) Q E ay) E s
def Tg(Y:IB)(w:Ja)(U:Iv)(sc:IH)(gR:HR)(m:V->ar->Hp ar):Prop:=
 ∀{{A:Jh}} {{Hz:Hn Hv}} {{K:Ke}} {{ae:HM}} {{X C:Hn Hv}} {{L ft:ar}} {{O:Hn (HP×Hn Hv)}} {{s:HM}} {{u:HE}} {{v:V}} {{Q:Nq->HM->Prop}} {{E:HE->HM->Prop}},
  K.scope=sc->A.handled=Hu->du Y w Hz U ae X K C L O s->dK Y w Hz ae.heap (WW K C O) s.heap u v->m v L=hb ft->
  (∀s',du Y w Hz U ae X K C ft O s'->Step s.heap s'.heap (WW K C O) (WW K C O)->Q () s')->wpAny (Iq Y w) A (assign gR K u) Q E s
noncomputable def rV(bind:V->ar->Hp ar)(body:ar->Hp Out)(f:Fl):Hn Ho->ar->Hp Out
 |[],L=>hb (.next L)
 |x::B,L=>(bind (V.fix x f) L).bind λjw=>(body jw).bind λo=>match o with
  |.next kh=>rV bind body f B kh
  |.cont kh=>rV bind body f B kh
  |.brk kh=>hb (.next kh)
  |.ret y=>hb (.ret y)
  |.fU y L=>hb (.fU y L)
theorem Step.off(k:Step h h' W W')(ht:∀a∈W,∃o,h.get? a=hb o/\¬jV o):Off W h h':=by
 intro b o e hc;refine k.keep b o e λhw=>?_;rcases hc with hc|hc
 ·exact hc hw
 ·refine aQ (ht b hw) λo' e' q=>?_;rw[e]at e';have e:=si e';subst e;clear e';exact q hc
theorem qj(h:i<n):n+1-(i+1)<n+1-i:=Po (LQ h) (L4 i)
variable(Y w)in
inductive Ba(Hz:Hn Hv)(U:Iv)(ae:HM)(X:Hn Hv)(K:Ke)(C W wr:Hn Hv)(eY:Iv)(S:HG->Iv->Prop)(bind:V->ar->Hp ar)(mb:ar->Hp Out)(f:Fl)(B:Hn Ho)(r:Out):HG->HM->Prop
 |mk (i:HG) (kh:ar) (jQ:Hn (HP×Hn Hv)) (aM:HM) (h1:i<=B.length) (h2:du Y w Hz U ae X K C kh jQ aM) (h3:∀b o,eY.get? b=hb o->b∉W->b∉wr->aM.heap.get? b=hb o) (h4:∀a∈WW K C jQ,a∈W∨eY.get? a=Hu) (h5:S i aM.heap) (h6:rV bind mb f (B.drop i) kh=hb r):Ba Hz U ae X K C W wr eY S bind mb f B r (B.length+1-i) aM
variable{bind:V->ar->Hp ar}
theorem S1.for{body:Hn IM}{pos:J3}{m:ar->Hp (Hn Ho×Fl)}(hi:It Y w U n sc gR e m)(ht:Tg Y w U sc gR bind)(sk:St Y w U n sc body mb):
  S1 Y w U n sc (.For gR e body [] pos) (λL=>(m L).bind λv=>if v.2=.t then Hu else rV bind mb v.2 v.1 L):=by
 intro A Hz K ae X C L O s r Q E hs hA I;refine ak λz0 hv R hQ=>?_;obtain⟨B,f⟩:=z0;dsimp only at R;split at R
 ·exact no R
 rename_i hf;refine wpAny_For (hi.2 hs hA I.toInF hv λJ F wr Zs S ay ah T hS hF qb a8 s7=>?_) (hi.1 K);obtain gU:=I.yJ ah (λz hz=>s7 z (T.sub z hz)) (T.pV 0 _ hS);obtain Ea:∀a∈F,a∉WW K C O:=by
  clear hi pos a8 hv;induction f with
  |d=>exactλa ha=>(hF a ha).2
  |s=>exact hF
  |t=>exact IG rfl hf
 have se:∀b∈wr,U.get? b=Hu/\ae.heap.get? b=Hu/\b∉WW K C O:=by
  intro b aO;obtain h0:=s7 b aO;refine ew (I.toInF.fresh h0) λf1 f2=>lW ?_ f1 f2;clear hi pos a8 hf hv;cases e:U.get? b with
  |none=>rfl
  |some o=>exact no (h0.symm.trans (I.base.grow _ _ e))
 have sZ:∀b∈wr,b∉Hz:=λb aO hz=>by
  obtain⟨_,o,e,_⟩:=I.base.hide b hz;exact no ((s7 b aO).symm.trans e)
 have step:∀{jQ:Hn (HP×Hn Hv)}{mq:Iv},(∀b o,ay.heap.get? b=hb o->b∉WW K C O->b∉wr->mq.get? b=hb o)->(∀a∈WW K C jQ,a∈WW K C O∨ay.heap.get? a=Hu)->Step s.heap mq (WW K C O) (WW K C jQ):=by
  intro jQ mq aU N;refine⟨λb o e hw=>aU b o (ag ah _ _ e) hw λhq=>?_,λa ha=>(N a ha).imp id λq=>?_⟩
  ·exact no ((s7 b hq).symm.trans e)
  ·clear hi pos N aU mq s7 a8 hf hv I;cases e:s.heap.get? a with
   |none=>rfl
   |some o=>exact no (q.symm.trans (ag ah _ _ e))
 refine codeAny_forLoop_any (Ba Y w (Zs++Hz) U ae X K C (WW K C O) wr ay.heap S bind mb f B r) ?_ (B.length+1) (Ba.mk 0 L O ay (JS _) gU (λ_ _ e _ _=>e) (λ_ h=>.inl h) hS R);rintro k aM ⟨i,kh,jQ,_,yB,gP,api,Af,xq,k8⟩;have u6:∀b∈wr,b∉WW K C jQ:=by
  intro b aO hq;rcases Af b hq with q|q
  ·exact(se b aO).2.2 q
  ·exact dA (T.there hS aO) λo e=>no (q.symm.trans e)
 have wm:∀a∈F,a∉WW K C jQ:=by
  intro a ha hq;rcases Af a hq with q|q
  ·exact Ea a ha q
  ·exact dA (T.alive 0 _ hS a ha) λo e=>no (q.symm.trans e)
 have pa:∀b o,ay.heap.get? b=hb o->b∉WW K C O->b∉WW K C jQ:=λb o e hw hq=>(Af b hq).elim hw λq=>no (q.symm.trans e);by_cases kl:i<B.length
 ·obtain hx:=HQ kl;rw[J6 kl]at k8;obtain⟨ao0,xt,jy⟩:=ao k8;obtain⟨o,ho,nY⟩:=ao jy;refine Kf (T.turn i _ aM (λv dN=>wpAny (Iq Y w) A (PySem.assign gR K v) (λ_ jP=>wpAny (Iq Y w) A (execs body K) (λfl iz=>match fl with
      |.next|.cont=>∃m,m<B.length+1-i/\Ba Y w (Zs++Hz) U ae X K C (WW K C O) wr ay.heap S bind mb f B r m iz
      |.brk=>Q .next iz
      |.ret v=>Q (.ret v) iz) (MW (Iq Y w) A K λe s'=>Qo (Iq Y w) A K E e s') jP) (MW (Iq Y w) A K λe s'=>Qo (Iq Y w) A K E e s') dN) (MW (Iq Y w) A K λe s'=>Qo (Iq Y w) A K E e s') hx xq (λz hz=>(gP.base.hide z (Hx _ hz)).2.imp λo h=>h.1) λv as h' tk rd has xG kp=>?_) (λrr dN m7=>?_) λ_ _ e=>e
  ·have p5:=gP.oR (Hy:=Zs++Hz) (tk:=tk) (T.cP i _ xq) (λb aO=>⟨(se b aO).1,(se b aO).2.1,u6 b aO⟩) kp (λ_ q=>q) (λz hz hw=>(HD.mp hz).elim (T.pV _ _ xG z) λq=>IG q (sZ z hw));obtain rep:dK Y w (Zs++Hz) ae.heap (WW K C jQ) h' v (V.fix B[i] f):=by
    refine dK.fixed rd ((cM _).mp qb _ (KM _)) ?_;clear hi pos hx Ea gU jy rd yB s7 a8 qb hS ah hf R hv I E;induction f with
    |d=>exactλa ha=>⟨(hF a (has a ha)).1,wm a (has a ha)⟩
    |s=>exactλa ha=>wm a (has a ha)
    |t=>trivial
   refine ht hs hA.handled p5 rep xt λjP t4 r9=>?_;have C2:=T.frame _ _ _ (WW K C jQ) xG (r9.off p5.cO) wm u6;have ua:∀b o,ay.heap.get? b=hb o->b∉WW K C O->b∉wr->jP.heap.get? b=hb o:=λb o e hw hq=>r9.keep b o (kp b o hq (api b o e hw hq)) (pa b o e hw);have fin:∀{uc:Hn (HP×Hn Hv)}{iz:HM},Step jP.heap iz.heap (WW K C jQ) (WW K C uc)->(∀b o,ay.heap.get? b=hb o->b∉WW K C O->b∉wr->iz.heap.get? b=hb o)/\(∀a∈WW K C uc,a∈WW K C O∨ay.heap.get? a=Hu):=by
    intro uc iz so;refine gQ (λb o e hw hq=>so.keep b o (ua b o e hw hq) (pa b o e hw)) (λa ha=>?_);rcases so.new a ha with q|q
    ·exact Af a q
    ·by_cases hw:a∈WW K C O
     ·exact .inl hw
     ·refine .inr ?_;clear ht hi pos rep hx pa Ea gU jy xt r9 xG has rd as yB ha s7 a8 qb hF hS ah hf R hv I E;cases e:ay.heap.get? a with
      |none=>rfl
      |some o=>
       by_cases hq:a∈wr
       ·exact dA (T.there C2 hq) λo' e'=>no (q.symm.trans e')
       ·exact no (q.symm.trans (ua a o e hw hq))
   refine sk hs hA t4 ho ?_;clear sk ht hi pos body ua rep hx pa Ea gU ho jy xt r9 xG has rd as yB s7 a8 qb hF hS ah hf R hv I hA hs E;induction o with
   |next xn=>intro uc iz su so;exact ew (fin so) λf1 f2=>i12 _ (qj kl) (.mk (i+1) xn uc iz kl su f1 f2 (T.frame _ _ _ (WW K C jQ) C2 (so.off t4.cO) wm u6) nY)
   |cont xn=>intro uc iz su so;exact ew (fin so) λf1 f2=>i12 _ (qj kl) (.mk (i+1) xn uc iz kl su f1 f2 (T.frame _ _ _ (WW K C jQ) C2 (so.off t4.cO) wm u6) nY)
   |brk xn=>(have e:=si nY;subst e;clear nY);intro uc iz su so;exact ew (fin so) λf1 f2=>hQ uc iz su.pB (step f1 f2)
   |ret y=>(have e:=si nY;subst e;clear nY);exact Ends.hide (r:=.ret y) hQ
   |fU y L=>(have e:=si nY;subst e;clear nY);exact Ends.hide (r:=.fU y L) hQ
  ·clear sk ht hi pos hx pa wm Ea gU nY ho jy xt ao0 yB s7 a8 qb hF hS ah hf R hv I hA hs L;induction rr with
   |none=>exact m7.elim
   |some v=>exact m7
 ·have DQ:=M7 yB (JH.mp kl);clear sk ht hi pos pa wm Ea gU yB s7 a8 qb hF hS ah hf R hv I hA hs L;subst DQ;rw[KN]at k8;have e:=si k8;subst e;clear k8;refine T.done aM _ _ xq λh' tk kp=>OA ?_;obtain p5:=gP.oR (Hy:=Hz) (tk:=tk) (T.cP _ _ xq) (λb aO=>⟨(se b aO).1,(se b aO).2.1,u6 b aO⟩) kp (λ_ q=>Hx _ q) (λz hz hw=>IG hz (sZ z hw));exact hQ jQ _ p5 (step (λb o e hw hq=>kp b o hq (api b o e hw hq)) Af)
variable{T:I2}
set_option backward.match.sparseCases true in
theorem lE{v:HE}{Q:Nq->HM->Prop}(ho:s.heap.get? I=hb o)(hc:o.cls=.type T)
  (hT:["enumerate","zip","dict_itemiterator","dict_reverseitemiterator","odict_iterator","itertools.zip_longest","itertools.pairwise"].contains T=HH)(h:Q () s):
  wpAny (Iq Y w) A (OB gR (.ref I) v) Q E s:=by
 have fin:wpAny (Iq Y w) A (match o.cls,o.data with
   |.type n,.fields vs=>(do
    let(.ref a):=v|return()
    if["enumerate","zip","dict_itemiterator","dict_reverseitemiterator","odict_iterator","itertools.zip_longest","itertools.pairwise"].contains n&&vs[0]? ==hb (OP a)then
     rule "for.unpacks-the-owned-tuple"
     updateField I 0 .none:Sem Nq)
   |_,_=>pure ()) Q E s:=by
  obtain⟨oc,od,dt,sl⟩:=o;dsimp only at hc⊢;subst hc;induction dt with
  |fields vs=>
   induction v with
   |ref a=>show wpAny (Iq Y w) A (if(["enumerate","zip","dict_itemiterator","dict_reverseitemiterator","odict_iterator","itertools.zip_longest","itertools.pairwise"].contains T&&vs[0]? ==hb (OP a))=Hq then _ else _) Q E s;(refine hT.symm▸?_;rw[Og,Ir ID]);exact HV h
   |_=>exact HV h
  |_=>exact HV h
 cases gR with
 |Tuple=>induction v with
  |ref a=>exact Ht (wpAny_load ho fin)
  |_=>exact HV h
 |List=>induction v with
  |ref a=>exact Ht (wpAny_load ho fin)
  |_=>exact HV h
 |_=>exact HV h
theorem Stream.list(hh:A.handled=Hu)(gR:HR)(I a:Hv)(B:Hn Ho)(F:Hn Hv):
  Stream Y w Hz A gR I (a::F) [I] [] B (λi h=>h.IsListIter I a i/\RD Y w Hz h (.ref a) (.list B) (a::F))where
 frame:=λi h h' W st off hF hw=>⟨by
   exact aQ st.1 λo ho r=>⟨o,off _ _ ho (.inl (hw I (.head _))),r⟩,st.2.off off hF⟩
 pV:=λ_ _ _ _ q=>nomatch q
 sub:=λ_ q=>nomatch q
 cP:=λi h st b aO _=>by
  exact(HB.mp aO).symm▸kK st.1 λo ho hc hd=>yI o _ _ ho hd hc
 alive:=λi h st=>st.2.alive
 turn:=λi x s Q E hx st _ hQ=>by
  refine ew st λmH rl=>CO rl.fK λo1 o2 o3 o4 q1 q2 a1 a2=>?_;cases q1;cases q2
  ·skip;refine j8 (a2.get hx) λv cs e1 e2 e3=>wpAny_pyNext_list_item mH ⟨_,a1,rfl,_,rfl⟩ (by simpa using e1) λh' wz gy=>?_;obtain aU:fR Hz s.heap h':=by intro b o e hd _;refine(gy.2 b λq=>?_).trans e;refine kK mH λo' jU hU kQ=>?_;rw[q,jU]at e;cases e;exact hd _ kQ _ hU
   refine kK wz λo' jU hU kQ=>lE jU hU (by decide) (hQ v cs h' s.toks (e2.cP aU) (λb aO=>.tail _ (e3 b aO)) ⟨⟨o',jU,hU,kQ⟩,(RD.list a1 a2).cP aU⟩ λb o aO e=>(gy.2 b (by simpa using aO)).trans e)
 done:=λs Q E st hQ=>by
  refine ew st λmH rl=>CO rl.fK λo1 o2 o3 o4 q1 q2 a1 a2=>?_;cases q1;cases q2
  ·refine wpAny_pyNext_list_end hh mH ⟨_,a1,rfl,_,rfl⟩ (by simp[a2.length]) λh' Ex=>hQ h' s.toks λb o aO e=>Ex b o (by simpa using aO) e
 self:=λi s Q E st hQ=>wpAny_pyIter_listiter st.1 hQ
theorem Stream.tuple(hh:A.handled=Hu)(gR:HR)(I a:Hv)(B:Hn Ho)(F:Hn Hv):
  Stream Y w Hz A gR I F [I] [] B (λi h=>h.IsTupleIter I a i/\RD Y w Hz h (.ref a) (.tuple B) F)where
 frame:=λi h h' W st off hF hw=>⟨by
   exact aQ st.1 λo ho r=>⟨o,off _ _ ho (.inl (hw I (.head _))),r⟩,st.2.off off hF⟩
 pV:=λ_ _ _ _ q=>nomatch q
 sub:=λ_ q=>nomatch q
 cP:=λi h st b aO _=>by
  exact(HB.mp aO).symm▸kK st.1 λo ho hc hd=>yI o _ _ ho hd hc
 alive:=λi h st=>st.2.alive
 turn:=λi x s Q E hx st _ hQ=>by
  refine ew st λmH rl=>?_;cases rl with
  |tuple a1 az a2=>
   refine j8 (a2.get hx) λv cs e1 e2 e3=>wpAny_pyNext_tuple_item mH ⟨_,a1,rfl,_,rfl⟩ (by simpa using e1) λh' wz gy=>?_;obtain aU:fR Hz s.heap h':=by intro b o e hd _;refine(gy.2 b λq=>?_).trans e;refine kK mH λo' jU hU kQ=>?_;rw[q,jU]at e;have e:=si e;subst e;clear e;exact hd _ kQ _ hU
   refine kK wz λo' jU hU kQ=>lE jU hU (by decide) (hQ v cs h' s.toks (e2.cP aU) e3 ⟨⟨o',jU,hU,kQ⟩,(RD.tuple a1 az a2).cP aU⟩ λb o aO e=>(gy.2 b (by simpa using aO)).trans e)
 done:=λs Q E st hQ=>by
  refine ew st λmH rl=>?_;cases rl with
  |tuple a1 az a2=>refine wpAny_pyNext_tuple_end hh mH ⟨_,a1,rfl,_,rfl⟩ (by simp[a2.length]) λh' Ex=>hQ h' s.toks λb o aO e=>Ex b o (by simpa using aO) e
 self:=λi s Q E st hQ=>wpAny_pyIter_tupleiter st.1 hQ
theorem Stream.tN{k:HG}{P:HG->HE->Prop}{S:HG->Iv->Prop}(W:Walks Y w A I [I] [I] k P S)(a8:B.length=k)
  (hP:∀i v x h,P i v->B[i]? =hb x->RD Y w Hz h v x [])(nc:∀i h,S i h->∃o fs T,h.get? I=hb o/\o.data=.fields fs/\o.cls=.type T/\["enumerate","zip","dict_itemiterator","dict_reverseitemiterator","odict_iterator","itertools.zip_longest","itertools.pairwise"].contains T=HH):
  Stream Y w Hz A gR I [] [I] [] B S where
 frame:=λi h h' V st off _ hw=>W.frame i h h' st λb aO o e=>off b o e (.inl (hw b aO))
 pV:=λ_ _ _ _ q=>nomatch q
 sub:=λ_ q=>nomatch q
 cP:=λi h st b aO _=>by
  exact(HB.mp aO).symm▸Ax (nc i h st) λo fs T e d c o1=>yI o fs T e d c
 alive:=λ_ _ _ _ h=>nomatch h
 turn:=λi x s Q E hx st _ hQ=>by
  have hi:i<k:=by exact a8▸(H2.mp hx).1
  exact W.item i s _ _ hi st λv h' tk hv D7 kp=>Ax (nc _ _ D7) λo fs T e d c hT=>lE e c hT (hQ v [] h' tk (hP i v x h' hv hx) (λ_ h=>nomatch h) D7 kp)
 done:=λs Q E st hQ=>W.done s Q E (by exact a8▸st) hQ
 self:=λi s Q E st hQ=>W.self i s Q E st hQ
noncomputable def signs(x:HP):Hn Ho:=x.cps.toList.map λc=>.str ⟨#[c]⟩
def nE(v:V):Hp (Hn Ho×Fl):=match v.x with
 |.list B=>hb (B,v.fl)
 |.tuple B=>hb (B,v.fl)
 |.str x=>hb (signs x,.d)
 |_=>Hu
inductive Fm(f:Fl):Ho->Hn Ho×Fl->Prop
 |list (B:Hn Ho):Fm f (.list B) (B,f)
 |tuple (B:Hn Ho):Fm f (.tuple B) (B,f)
 |str (x:HP):Fm f (.str x) (signs x,.d)
theorem akK{q:Hn Ho×Fl}(h:nE ⟨gc,f⟩=hb q):Fm f gc q:=by
 cases gc with
 |list B=>exact si h▸.list B
 |tuple B=>exact si h▸.tuple B
 |str gc=>exact si h▸.str gc
 |_=>exact no h
theorem aaO(h:wf (.str x)=Hq):fy (signs x)=Hq:=by rw[cM];intro y hy;refine aQ (HX.mp hy) λc hc o1=>?_;subst o1;rw[iD]at h⊢;refine⟨?_,by show 1<=sizeLine;decide⟩;have:=h.1;unfold Ki at this⊢;have:=Mn.mp this c (by simpa using hc);simpa using this
set_option tactic.hygienic true in
theorem It.data(h:Ev Y w U n sc e m)(hf:∀(K:Ke)x,MV e K x=pure x):It Y w U n sc gR e (λL=>(m L).bind nE):=by
 refine gQ hf ?_;intro A Hz K ae X C L O s v Q E hs hA I;refine ak λz0 ha R hQ=>?_;obtain⟨ax,af⟩:=z0;refine h hs hA I ha λu ay ah aL=>?_;obtain⟨as,ra,ca,oa⟩:=aL;have fresh:s.heap.get? ay.heap.objs.size=Hu:=by
  cases e:s.heap.get? ay.heap.objs.size with
  |none=>rfl
  |some o=>exact IG (II (ag ah _ _ e)) (JW _)
 dsimp only at*;have H:=akK R;clear R;induction H with
 |list B=>
  obtain H:=ra.listI;induction H with|mk ad vs k bs a1 a2=>?_
  rw[aV]at ca;refine QF ⟨_,a1,rfl,_,rfl⟩<|hQ _ _ _ [] _ _ (ab ah (bE _ _)) (Stream.list hA.handled gR _ ad _ bs) ⟨⟨_,H7 _ rfl,rfl,rfl⟩,(RD.list a1 a2).grow (bA.push _ _)⟩ oa ca.2 ca.1 λb aO=>?_;exact(HB.mp aO).symm▸fresh
 |tuple B=>
  induction ra.tupI with
  |mk ad vs k a1 az a2=>rw[dk]at ca;refine N2 ⟨_,a1,rfl,_,rfl⟩<|hQ _ _ _ [] _ _ (ab ah (bE _ _)) (Stream.tuple hA.handled gR _ ad _ as) ⟨⟨_,H7 _ rfl,rfl,rfl⟩,(RD.tuple a1 az a2).grow (bA.push _ _)⟩ oa ca.2 ca.1 λb aO=>?_;exact(HB.mp aO).symm▸fresh
 |str x=>
  have H:=ra.ij;clear ra;induction H with|mk t=>?_
  have a8:(signs x).length=x.cps.size:=Hr _;obtain hz:(signs x).length<=sizeLine:=by exact a8.symm▸(iD.mp ca).2
  have hP:∀i v y h,SignAt x i v->(signs x)[i]? =hb y->RD Y w Hz h v y []:=by
   intro i v y h hv hy;refine mx hv λc u hc o1=>?_;subst o1;have e:(signs x)[i]? =hb (.str ⟨#[c]⟩):=by simp[signs,hc]
   rw[e]at hy;have e:=si hy;subst e;clear hy;exact .str _ _
  have hw:∀b∈[ay.heap.objs.size],s.heap.get? b=Hu:=λb aO=>by exact(HB.mp aO).symm▸fresh
  cases aoU:x.cps.all (·<128)
  ·refine wpAny_pyIter_wide aoU (hQ _ [] _ [] _ _ (ab ah (bE _ _)) (Stream.tN (Walks.strWide hA.handled _ x t) a8 hP λi h st=>?_) ⟨_,H7 _ rfl,rfl,rfl⟩ da.nil (aaO ca) hz hw);exact kK st λo ho hc hd=>A8 o _ _ ho hd hc (by decide)
  ·refine wpAny_pyIter_ascii aoU (hQ _ [] _ [] _ _ (ab ah (bE _ _)) (Stream.tN (Walks.strAscii hA.handled _ x t) a8 hP λi h st=>?_) ⟨_,H7 _ rfl,rfl,rfl⟩ da.nil (aaO ca) hz hw);exact kK st λo ho hc hd=>A8 o _ _ ho hd hc (by decide)
noncomputable def xQ(x:HP)(v:V)(L:ar):Hp ar:=match v.fl with
 |.t=>Hu
 |_=>hb (L.set x (.val v))
set_option tactic.hygienic true in
theorem gZ(h:xQ x fb L=hb ft):(fb.fl=.d∨fb.fl=.s)/\ft=L.set x (.val fb):=by
 unfold xQ at h;split at h
 ·exact no h
 ·rename_i hf;have e:=si h;subst e;clear h;refine⟨?_,rfl⟩;cases e:fb.fl with
  |d=>exact .inl rfl
  |s=>exact .inr rfl
  |t=>exact IG e hf
theorem Tg.name(hv:aA sc x=Hq):Tg Y w U sc (.Name x pos) (xQ x):=by intro A Hz K ae X C L ft O s u v Q E hs hA I r R hQ;refine ew (gZ R) λhf o1=>?_;subst o1;exact L5 (I.store (v:=.val v) (by exact hs.symm▸hv) ⟨hf,r⟩ λs' I' T=>hQ s' I' T)
noncomputable def pG:Hn HP->Hn V->ar->Hp ar
 |[],[],L=>hb L
 |x::B,v::vs,L=>(xQ x v L).bind (pG B vs)
 |_,_,_=>Hu
noncomputable def V.part(f:Fl)(x:Ho):V:=match f with
 |.d=>⟨x,.d⟩
 |f=>V.fix x f
theorem bH.uo(r:bH Y w Hz h us ys as):fy ys=Hq->da ae W f as->ip Y w Hz ae W h us (ys.map (V.part f)):=
 bH.ind (aH:=λus ys as=>fy ys=Hq->da ae W f as->ip Y w Hz ae W h us (ys.map (V.part f))) (λ_ _=>.nil) (λ{u us x B as bs} r1 _ ih c o=>by
  simp only[fy,HU]at c;refine .cons ?_ (ih c.2 (o.mono λ_ h=>Hx _ h));obtain o:=o.mono (λ_ h=>HF bs h);cases f with
  |d=>exact⟨_,r1,c.1,o⟩
  |_=>exact dK.fixed r1 c.1 o) r
noncomputable def yM(v:V):Hp (Hn V):=match v.x with
 |.tuple B=>hb (B.map λx=>V.part v.fl x)
 |_=>Hu
theorem lZ:∀{B:Hn HP}{vs:Hn V}{L ft:ar},pG B vs L=hb ft->B.length=vs.length/\∀v∈vs,v.fl=.d∨v.fl=.s:=by
 intro B;induction B with
 |nil=>
  intro vs L ft h;cases vs with
  |nil=>exact⟨rfl,λ_ h=>nomatch h⟩
  |cons=>exact no h
 |cons x B ih=>
  intro vs L ft h;cases vs with
  |nil=>exact no h
  |cons v vs=>
   obtain⟨jw,h1,h2⟩:=ao h;refine ew (ih h2) λa b=>⟨by simp[a],λu hu=>?_⟩;clear h2 a h;rcases Hw.mp hu with rfl|hu
   ·exact(gZ h1).1
   ·exact b u hu
theorem ip.off(k:Off W h h')(r:ip Y w Hz ae W h us BB)(hf:∀v∈BB,v.fl=.d∨v.fl=.s):ip Y w Hz ae W h' us BB:=by
 induction r with
 |nil=>exact .nil
 |cons a _ ih=>exact .cons (a.off k (hf _ (.head _))) (ih λv hv=>hf v (.tail _ hv))
variable{ae:HM}{C:Hn Hv}
set_option tactic.hygienic true in
theorem abn{X:Hn Hv}{Q:Nq->HM->Prop}(hs:K.scope=sc):
  ∀{e9:Hn HR}{us:Hn HE}{vs:Hn V}{L ft:ar}{s:HM},(∀x∈dU,aA sc x=Hq)->e9.length=dU.length->du Y w Hz U ae X K C L O s->ip Y w Hz ae.heap (WW K C O) s.heap us vs->pG dU vs L=hb ft->
  (∀s',du Y w Hz U ae X K C ft O s'->Step s.heap s'.heap (WW K C O) (WW K C O)->Q () s')->
  wpAny (Iq Y w) A (assignInOrder ((dU.zipWith (λx e=>(HH,PySem.assign (.Name x e.pos) K)) e9).map (·.2)) us) Q E s:=by
 induction dU with
 |nil=>
  intro e9 us vs L ft s _ hl I r R hQ;induction e9 with
  |cons _ _=>exact nomatch hl
  |nil=>induction vs with
   |nil=>cases r;(have e:=si R;subst e;clear R);exact HV (hQ s I (Step.refl _ _))
   |cons _ _=>exact no R
 |cons x dU ih=>
  intro e9 us vs L ft s hv hl I r R hQ;cases e9 with
  |nil=>exact nomatch hl
  |cons e e9=>induction r with
   |nil=>exact no R
   |@cons u v us vs r1 r2 _=>obtain⟨jw,h1,h2⟩:=ao R;refine ew (gZ h1) λhf o1=>?_;subst o1;refine Ht (KR (L5 (I.store (v:=.val v) (by exact hs.symm▸hv x (.head _)) ⟨hf,r1⟩ λay gU aoQ=>?_)));exact ih (λy hy=>hv y (.tail _ hy)) (Jz hl) gU (r2.off (aoQ.off I.cO) λv hv=>((lZ R).2) v (.tail _ hv)) h2 λs' I' T'=>hQ s' I' (aoQ.trans T')
variable{e9:Hn HR}
set_option tactic.hygienic true in
theorem Tg.tuple{k:HG}(hv:∀x∈dU,aA sc x=Hq)(a8:e9.length=dU.length)
  (he:∀K:Ke,N3 e9 K=dU.zipWith (λx e=>(HH,PySem.assign (.Name x e.pos) K)) e9):
  Tg Y w U sc (.Tuple e9 k pos) (λv L=>(yM v).bind λvs=>pG dU vs L):=by
 intro A Hz K ae X C L ft O s u v Q E hs hA I r;refine ak λvs nh R hQ=>?_;obtain⟨vx,vf⟩:=v;obtain⟨as,ra,ca,oa⟩:=r;dsimp only at*;cases vx with
 |tuple ys=>
  have e:=si nh;subst e;clear nh;induction ra.tupI with
  |mk ad us kk a1 az a2=>
   rw[dk]at ca;obtain hl:=a2.length;have uo:=a2.uo ca.2 oa;have Hh:dU.length=us.length:=by(exact((lZ R).1).trans uo.length.symm)
   refine Qp hA ⟨_,a1,rfl,_,rfl⟩ (by rw[he];simp[a8,Hh]) ?_ λh' ext=>?_
   ·rw[he,Oo];intro p hp;obtain⟨i,hi,rfl⟩:=OY.mp hp;simp
   have k':I8 s {s with heap:=h'}:=⟨h',s.toks,rfl,λb o e=>ext b o (Jq (II e)) e⟩;rw[he];have aqa:Step s.heap h' (WW K C O) (WW K C O):=Step.cN (ag k');exact abn hs hv a8 (I.grow k') (uo.grow (ag k')) R λs' EY T=>hQ s' EY (aqa.trans T)
 |_=>exact no nh
def bt(U:Iv)(x:HP)(v:HE):Prop:=
 (∃mg,U.Ns I3 mg/\mg x=hb v)∨(∃mg mb,U.Ns I3 mg/\mg x=Hu/\U.Ns K1 mb/\mb x=hb v)
noncomputable def aY(sc:IH)(x:HP):Ig:=decide (sc.names.lookup x=hb .globalImplicit)&& !(x==("__debug__":HP))
theorem di{X:Hn Hv}
  (I:InF Y w Hz U ae X K C L O s)(hx:aY K.scope x=Hq)(hg:bt U x fb)(h:Q fb s):wpAny (Iq Y w) A (Jf (.Name x pos) K) Q E s:=by
 simp only[aY,HU,Ik,JI]at hx;rcases hg with⟨mg,R,hv⟩|⟨mg,mb,R,h0,qx,hv⟩
 ·exact PY I.kind hx.1 (loadGlobal_global (by exact I.glob.symm▸R.keeps I.base.grow) hv h) hx.2
 ·exact PY I.kind hx.1 (loadGlobal_builtin (by exact I.glob.symm▸R.keeps I.base.grow) h0 (by exact I.jJ.symm▸qx.keeps I.base.grow) hv h) hx.2
theorem Ev.glob(hx:aY sc x=Hq)(hg:bt U x fb)(hd:RD Y w [] U fb d as)(hw:wf d=Hq):Ev Y w U n sc (.Name x pos) (λ_=>hb (V.fix d .s)):=by intro A Hz K ae X C L O s v' Q E hs hA I R hQ;(have e:=si R;subst e;clear R);exact di I (by exact hs.symm▸hx) hg (hQ _ _ (aD s) (dK.fixed (((ajR λz hz=>(I.base.hide z hz).1).1 hd).grow I.base.grow) hw λa ha hq=>dA (hd.alive a ha) λo e=>no (((I.b8 a hq).1).symm.trans e)))
def Calls(U:Iv)(f:HE):Prop:=(∃id,f=.builtin id)∨(∃T,f=.type T)∨∃a o fd,f=.ref a/\U.get? a=hb o/\o.data=.func fd
theorem dZ{K:Ke}{pos:J3}{es:Hn HR}(hf:Calls U jo)
  (er:(J4 pos (Ie es K)).any (·.1)=HH)
  (h:wpAny (Iq Y w) A (QE (J4 pos (Ie es K))) (λus ay=>bA U ay.heap/\wpAny (Iq Y w) A (call jo us) Q E ay) E s):
  wpAny (Iq Y w) A (Lq pos jo [] (J4 pos (Ie es K)) []) Q E s:=by
 have args:wpAny (Iq Y w) A (evalArgs jo Hq (J4 pos (Ie es K)) []) (λa ay=>bA U ay.heap/\wpAny (Iq Y w) A (call jo ([]++a.pos) a.kw) Q E ay) E s:=by
  generalize J4 pos (Ie es K)=l at er h;clear es pos K;induction l with
  |nil=>exactλΓ p hΓ=>evalArgs_none (h Γ p hΓ) Γ p hΓ
  |cons p l=>obtain⟨b,t⟩:=p;simp only[Qq,Jn]at er;obtain⟨rfl,_⟩:=er;exact Nx h
 clear h;rcases hf with⟨id,rfl⟩|⟨T,rfl⟩|⟨a,o,fd,rfl,ho,hd⟩
 ·exact M9 er (Kf args (λa ay eY=>eY.2) λ_ _ e=>e)
 ·exact callWith_type er (Kf args (λa ay eY=>eY.2) λ_ _ e=>e)
 ·exact callWith_function (o:=o) (fd:=fd) (Kf args (λa ay eY=>⟨⟨eY.1 _ _ ho,hd⟩,eY.2⟩) λ_ _ e=>e)
def cg(Y:IB)(w:Ja)(U:Iv)(n:HG)(f:HE)(m:Hn V->Hp V):Prop:=
 ∀{{A:Jh}} {{Hz:Hn Hv}} {{K:Ke}} {{ae:HM}} {{X C:Hn Hv}} {{L:ar}} {{O:Hn (HP×Hn Hv)}} {{s:HM}} {{us:Hn HE}} {{vs:Hn V}} {{v:V}} {{Q:HE->HM->Prop}} {{E:HE->HM->Prop}},
  eu A n->InF Y w Hz U ae X K C L O s->ip Y w Hz ae.heap (WW K C O) s.heap us vs->m vs=hb v->(∀u s',I8 s s'->dK Y w Hz ae.heap (WW K C O) s'.heap u v->Q u s')->wpAny (Iq Y w) A (call f us) Q E s
variable{np:J3}
theorem Ev.call{m:Hn V->Hp V}(hx:aY sc x=Hq)(hg:bt U x jo)(hf:Calls U jo)(h:rM Y w U n sc es ms)(hc:cg Y w U n jo m)
  (er:∀K:Ke,(J4 pos (Ie es K)).any (·.1)=HH):Ev Y w U n sc (.Call (.Name x np) es [] pos) (λL=>(ms L).bind m):=by
 intro A Hz K ae X C L O s v Q E hs hA I;refine ak λvs nh R hQ=>?_;show wpAny _ _ (Jf (.Name x np) K>>=λjo=>Lq pos jo [] (J4 pos (Ie es K)) []) _ _ s;refine Ht (di I (by exact hs.symm▸hx) hg (dZ hf (er K) (h hs hA I nh λus ay ah aL=>⟨(I.grow ah).base.grow,?_⟩)));exact hc hA (I.grow ah) aL R λu s' k r=>hQ u s' (ab ah k) r
theorem cg.fn{m:Hn Ho->Hp Ho}(h:Fn Y w U n a m):cg Y w U n (.ref a) (λvs=>(m (vs.map (·.x))).map λy=>⟨y,.d⟩):=by
 intro A Hz K ae X C L O s us vs v Q E hA I r R hQ;induction dI R with|mk y hy=>?_
 refine kK r.yv λas rd c o1=>h hA.toRoom I.base rd c hy λu bs s' k ru cu fr=>hQ u s' k ⟨bs,ru,cu,λa ha=>?_⟩;exact I.fresh (fr a ha)
theorem Ev.fn{m:Hn Ho->Hp Ho}{fd:Ri}(hx:aY sc x=Hq)(hg:bt U x (.ref a))(ho:U.get? a=hb o)(hd:o.data=.func fd)
  (h:rM Y w U n sc es ms)(hc:Fn Y w U n a m)(er:∀K:Ke,(J4 pos (Ie es K)).any (·.1)=HH):
  Ev Y w U n sc (.Call (.Name x np) es [] pos) (λL=>(ms L).bind λvs=>(m (vs.map (·.x))).map λy=>⟨y,.d⟩):=
 Ev.call hx hg (.inr (.inr ⟨a,o,fd,rfl,ho,hd⟩)) h (cg.fn hc) er
def aot:Ho->Hp Ho
 |.list B=>hb (.int B.length)
 |.tuple B=>hb (.int B.length)
 |.str x=>hb (.int x.length)
 |.dict aW=>if dQ aW=Hq then hb (.int aW.length)else Hu
 |_=>Hu
set_option tactic.hygienic true in
theorem cg.len:cg Y w U n (.builtin "len") (λvs=>match vs with|[v]=>(aot v.x).map λy=>⟨y,.d⟩|_=>Hu):=by
 intro A Hz K ae X C L O s us vs v Q E hA I r R hQ;dsimp only at R;cases vs with
 |nil=>exact no R
 |cons a vs=>cases vs with
 |cons _ _=>exact no R
 |nil=>
  induction dI R with|mk y hy=>?_
  obtain⟨ax,af⟩:=a;refine aQ r.iN λo1 o2 r1=>?_;subst o2
  ·skip;obtain⟨as,ra,ca,oa⟩:=r1;obtain hz:=en;dsimp only at*;cases ax with
   |list B=>
    have e:=si hy;subst e;clear hy;obtain H:=ra.listI;induction H with|mk o1 o2 o3 o4 a1 a2=>?_
    rw[aV]at ca;refine call_len_list ⟨_,a1,rfl,_,rfl⟩ (by simp[a2.length];exact x4 ca.1 hz) ?_;refine Jd.symm▸a2.length.symm▸?_;exact hQ _ _ (aK s _) dK.int
   |tuple B=>
    have e:=si hy;subst e;clear hy;induction ra.tupI with
    |mk ad vs kk a1 az a2=>rw[dk]at ca;refine P.len_tuple a1 (by simp[a2.length];exact x4 ca.1 hz) ?_;(refine Jd.symm▸a2.length.symm▸?_);exact hQ _ _ (aK s _) dK.int
   |str x=>
    have e:=si hy;subst e;clear hy;have H:=ra.ij;clear ra;induction H with|mk t=>?_
    rw[iD]at ca;exact P.len_str (by have:=ca.2;exact Mx.mpr (x4 ca.2 hz)) (hQ _ _ (aK s _) dK.int)
   |dict aW=>
    change(if _ then _ else _)=_ at hy;revert hy;refine jl λrO hy=>?_;have e:=si hy;subst e;clear hy;induction ra.nq rO with|mk d ks B es b1 b2 b3 b4=>?_
    have hl:ks.length=B.length:=by simpa using HL Km b3
    simp only[wf,HU,Ik,Hr]at ca;refine call_len_dict b2 b1 (by rw[hl];have:=ca.1;exact x4 ca.1 hz) ?_;refine hl.symm▸(Hr (as:=B) (f:=λp=>((.str p.1,p.2):Ho×Ho)))▸?_;exact hQ _ _ (aK s _) dK.int
   |_=>exact no hy
set_option tactic.hygienic true in
theorem cg.int:cg Y w U n (.type "int") (λvs=>match vs with|[v]=>(match v.x with|.bool b=>hb ⟨.int (if b then 1 else 0),.d⟩|_=>Hu)|_=>Hu):=by
 intro A Hz K ae X C L O s us vs v Q E hA I r R hQ;dsimp only at R;cases vs with
 |nil=>exact no R
 |cons a vs=>cases vs with
 |cons _ _=>exact no R
 |nil=>
  obtain⟨ax,af⟩:=a;dsimp only at R;cases ax with
  |bool b=>
   have e:=si R;subst e;clear R;clear I hA L X;refine aQ r.iN λo1 o2 r1=>?_;subst o2
   ·skip;obtain⟨as,ra,ca,oa⟩:=r1;dsimp only at ra;clear oa ca r;cases ra.bool_inv;exact call_int_bool (hQ _ _ (aK s _) dK.int)
  |_=>exact no R
set_option tactic.hygienic true in
theorem cg.list:cg Y w U n (.type "list") (λvs=>match vs with|[v]=>(match v.x with|.list B=>hb (V.eE B v.fl)|.tuple B=>hb (V.eE B v.fl)|_=>Hu)|_=>Hu):=by
 intro A Hz K ae X C L O s us vs v Q E hA I r R hQ;dsimp only at R;cases vs with
 |nil=>exact no R
 |cons a vs=>cases vs with
 |cons _ _=>exact no R
 |nil=>
  obtain⟨ax,af⟩:=a;clear hA;refine aQ r.iN λo1 o2 r1=>?_;subst o2
  ·skip;obtain⟨as,ra,ca,oa⟩:=r1;dsimp only at ra R ca oa;have fin:∀{us:Hn HE}{B:Hn Ho}{bs:Hn Hv}{h':Iv}{c':HG},bH Y w Hz s.heap us B bs->fy B=Hq->B.length<=sizeLine->da ae.heap (WW K C O) af bs->bA s.heap h'->h'.get? s.heap.objs.size=hb (cA us c')->
     dK Y w Hz ae.heap (WW K C O) h' (.ref s.heap.objs.size) (V.eE B af):=by
    intro us B bs h' c' q1 q2 q3 q4 k q5;obtain z:=I.mT;refine⟨s.heap.objs.size::bs,.list q5 (q1.grow k),aV.mpr ⟨q3,q2⟩,?_⟩;clear q5 q3 r I E L X A;cases e:bZ B with
    |true=>refine(q1.bR e).symm▸?_;simp only[V.eE,e,MU];intro a ha;exact(HB.mp ha).symm▸z
    |false=>
     simp only[V.eE,e,Ko,K8];induction af with
     |d=>exactλa ha=>(Hw.mp ha).elim (λq=>q▸z) (q4 a)
     |s=>exactλa ha=>(Hw.mp ha).elim (λq=>q▸z.2) (q4 a)
     |t=>trivial
   cases ax with
   |list B=>
    have e:=si R;subst e;clear R;obtain H:=ra.listI;clear r I L X;induction H with|mk o1 o2 o3 o4 a1 a2=>?_
    rw[aV]at ca;refine O8 _ (.inl rfl) a1 rfl rfl (λh' c' k q=>?_) (by simp[a2.length];exact ca.1);exact hQ _ _ ⟨h',s.toks,rfl,k⟩ (fin a2 ca.2 ca.1 (oa.mono λ_ h=>.tail _ h) k q)
   |tuple B=>
    have e:=si R;subst e;clear R;clear r I L X;induction ra.tupI with
    |mk ad vs kk a1 az a2=>rw[dk]at ca;refine O8 _ (.inr rfl) a1 rfl rfl (λh' c' k q=>?_) (by simp[a2.length];exact ca.1);exact hQ _ _ ⟨h',s.toks,rfl,k⟩ (fin a2 ca.2 ca.1 oa k q)
   |_=>exact no R
noncomputable def lT(k:HI):Hn Ho:=(H0 k.toNat).map λ(i:HG)=>.int (i:HI)
set_option tactic.hygienic true in
theorem It.range{gR:HR}{np pos:J3}(hx:aY sc "range"=Hq)(hg:bt U "range" (.type "range"))(h:Ev Y w U n sc e m)(he:∀K,Ie [e] K=[(HH,Jf e K)]):
  It Y w U n sc gR (.Call (.Name (HA "range") np) [e] [] pos) (λL=>(m L).bind λv=>match v.x with|.int k=>if-(2^62)<=k/\k<=sizeLine then hb (lT k,.d)else Hu|_=>Hu):=by
 refine⟨λ_ _=>rfl,?_⟩;intro A Hz K ae X C L O s v Q E hs hA I;refine ak λz0 ha R hQ=>?_;obtain⟨ax,af⟩:=z0;dsimp only at R;cases ax with
 |int k=>
  revert R;refine jl λhk R=>?_
  ·have e:=si R;subst e;clear R;show wpAny _ _ (Jf (.Name (HA "range") np) K>>=λf=>Lq pos f [] (J4 pos (Ie [e] K)) []) _ _ s;refine Ht (di I (by exact hs.symm▸hx) hg (dZ (U:=U) (.inr (.inl ⟨_,rfl⟩)) (by rw[he];rfl) (Kt (h hs hA I ha λu ay ah aL=>LM ⟨(I.grow ah).base.grow,?_⟩) (he K))));obtain⟨as,ra,ca,oa⟩:=aL;dsimp only at ra;clear he hg pos np oa ca ha I hs X L;have H:=ra.dR;clear ra;induction H with|mk t=>?_
   refine call_range_1 (wpAny_pyIter_range (IsRange.new _ _ _ _ _ _ _) (small_one (by decide) (by decide) (hk.1) (Ka hk.2 (by decide))) ?_);obtain n8:QQ 0 k 1=(k.toNat:HI):=by rw[rangeSize_one];split<;>lia -abstractProof
   have a8:(lT k).length=k.toNat:=by simp[lT]
   obtain fresh:∀d,s.heap.get? (ay.heap.objs.size+d)=Hu:=λd=>by
    clear af hk E;cases e:s.heap.get? (ay.heap.objs.size+d)with
    |none=>rfl
    |some o=>exact IG (II (ag ah _ _ e)) (JH.mpr (Ib _ _))
   refine hQ _ [] _ [] _ _ (ab ah ⟨_,_,rfl,bA.trans (bA.push _ _) (bA.push _ _)⟩) (Stream.tN (Walks.range hA.handled _ 0 1 k.toNat) a8 (λi v x h hv hx=>?_) λi h st=>⟨_,_,_,st,rfl,rfl,by decide⟩) ?_ da.nil ?_ ?_ λb aO=>?_
   ·clear af ah hk hQ hA E Q O C ae K A;refine dA hv λt o1=>?_;subst o1;obtain hi:i<k.toNat:=by exact a8▸(H2.mp hx).1
    simp only[lT,Iz,Nl hi,Lr,Rj]at hx;clear gR hi hv;subst hx;exact((NL _).trans (Int.mul_one _)).symm▸.int _ _
   ·show IsRangeIter _ _ _ _ _;refine n8.symm▸Eq.trans (H7 _ ?_) ?_
    ·rfl
    ·rfl
   ·rw[cM];intro y hy;clear n8 af hx h ah hk hQ hA E Q O C ae K Hz A;refine aQ (HX.mp hy) λi o1 o2=>?_;subst o2;rfl
   ·exact a8.symm▸JE.mpr hk.2
   ·refine(HB.mp aO).symm▸?_;have:=fresh 1;simpa using this
 |_=>exact no R
theorem aau{β:Type}[BEq α][Pm α]{ns:Hn α}:∀{us:Hn β},ns.length=us.length->∀n∈ns,((ns.zip us).lookup n).isSome=Hq:=by
 induction ns with
 |nil=>exactλ_ _ h=>nomatch h
 |cons a ns ih=>
  intro us h n hn;cases us with
  |nil=>exact nomatch h
  |cons u us=>
  rw[IT,HK];cases e:n==a with
  |true=>rfl
  |false=>
   rcases Hw.mp hn with rfl|hn
   ·simp at e
   ·exact ih (Jz h) n hn
theorem aaL{β:Type}[BEq α][Pm α]{l:Hn (α×β)}{ns:Hn α}:∀{us:Hn β},ns.length=us.length->ns.Nodup->(∀n∈ns,l.lookup n=(ns.zip us).lookup n)->ns.filterMap (λn=>(l.lookup n).map (n,·))=ns.zip us:=by
 induction ns with
 |nil=>exactλ_ _ _=>rfl
 |cons a ns ih=>
  intro us h hn hl;cases us with
  |nil=>exact nomatch h
  |cons u us=>
  rw[HZ]at hn;obtain h0:=hl a (.head _);simp only[IT,HK,Ih]at h0;refine I1.trans ?_;rw[h0];simp only[Lr,IT];congr 1;refine ih (Jz h) hn.2 λn R=>?_;obtain h1:=hl n (.tail _ R);have:(n==a)=HH:=by
   cases e:n==a with
   |false=>rfl
   |true=>rw[eq_of_beq e]at R;exact IG R hn.1
  simp only[IT,HK,this]at h1;exact h1
theorem abI{c:Prop}{d:La c}{X kR r:Sem α}(h:¬c)(k:kR=r):(@ite _ c d X kR)=r:=(Ir h).trans k
theorem iW{fd:Ri}{ps:Hn Arg}(hp:fd.params=⟨[],ps,Hu,[],[],Hu,[]⟩)(hd:fd.defaults=.none)(hl:ps.length=us.length)(hn:(ps.map (·.arg)).Nodup):
  bindArgs fd ⟨us,[]⟩=pure ((ps.map (·.arg)).zip us):=by
 obtain h2:=aaL (ns:=ps.map Mo) (us:=us) (l:=(ps.map Mo).zip us) (by rw[Hr];exact hl) hn (λ_ _=>rfl);obtain h3:(ps.map Mo).filter (λn=>(((ps.map Mo).zip us).lookup n).isNone)=[]:=by rw[List.filter_eq_nil_iff];intro n R;have:=aau (ns:=ps.map Mo) (us:=us) (by rw[Hr];exact hl) n R;rw[Jc];intro e;rw[e]at this;exact ID this
 clear hn;obtain⟨f1,f2,f3,f4,f5,f6,f7,f8,f9,f10,f11,f12,f13,f14,f15⟩:=fd;subst hp;subst hd;refine abI (c:=(decide (us.length>([]++ps.map Mo).length)&&(Hu:Hp Arg).isNone)=Hq) ?_ ?_
 ·rw[KX,Hr,hl,Iw (JW _)];exact ID
 obtain hz:∀i,Rk i ((Hu:Hp (PX HE)).getD #[]).toList=[]:=λi=>List.drop_nil;rw[hz];refine abI ?_ ?_
 ·show¬(!((Rl ([]++ps.map Mo).length ([]++ps.map Mo)).filter λn=>((([]++ps.map Mo).zip us).lookup n).isNone).isEmpty)=Hq;dsimp only[KX];rw[JD,h3];exact ID
 refine Pp.symm▸?_;refine HL (λl=>(pure l:Sem (Hn (HP×HE)))) (a₁:=List.filterMap (λn=>Jo (λx=>(n,x)) (List.lookup n (([]++ps.map Mo).zip us))) (([]++ps.map Mo)++[])) ?_;rw[IA];exact h2
noncomputable def nO:Hn HP->Hn Ho->ar
 |p::ps,x::B=>λy=>bif y==p then hb (.val (V.fix x .s))else nO ps B y
 |_,_=>λ_=>Hu
theorem adv:∀(ps:Hn HP)(B:Hn Ho)(y:HP),nO ps B y=((ps.zip B).lookup y).map λx=>.val (V.fix x .s):=by
 intro ps;induction ps with
 |nil=>intro B _;cases B<;>rfl
 |cons p ps ih=>
  intro B y;cases B with
  |nil=>rfl
  |cons x B=>show(bif y==p then _ else nO ps B y)=_;(refine(ih B y).symm▸?_;dsimp only[IT,HK]);cases y==p<;>rfl
noncomputable def sU:Out->Hp Ho
 |.ret y=>hb y
 |.next _=>hb .none
 |_=>Hu
variable{k:HP->Hp LL}{y:HP}{binds:Hn (HP×HE)}
theorem aam:∀{m:HP->Hp HE},(∀p∈binds,p.1≠y)->Oc k binds m y=m y:=by
 induction binds with
 |nil=>intro _ _;exact rfl
 |cons Bs r bX=>
  obtain⟨a,v⟩:=Bs;intro m h;rw[Oc];refine(bX λp hp=>h p (.tail _ hp)).trans ?_;split
  ·exact Ir λe=>h _ (.head _) e.symm
  ·rfl
theorem aap:∀{m:HP->Hp HE},(∀p∈binds,p.1≠y)->Ox k binds m y=m y:=by
 induction binds with
 |nil=>intro _ _;exact rfl
 |cons Bs r bX=>
  obtain⟨a,v⟩:=Bs;intro m h;rw[Ox];refine(bX λp hp=>h p (.tail _ hp)).trans ?_;split
  ·rfl
  ·exact Ir λe=>h _ (.head _) e.symm
variable{ps:Hn HP}
theorem lY(h:y∉ps):∀p∈ps.zip us,p.1≠y:=by intro p hp e;exact h (e▸(Ky hp).1)
variable(Y w Hz)in
inductive wd(k:HP->Hp LL)(h:Iv)(ps:Hn HP)(us:Hn HE)(B:Hn Ho)(as:Hn Hv)(m c:HP->Hp HE)(y:HP)(x:Ho):Prop
 |mk (u:HE) (bs:Hn Hv) (h1:RD Y w Hz h u x bs) (h2:∀b∈bs,b∈as) (h3:x∈B) (h4:k y=hb .local->Oc k (ps.zip us) m y=hb u) (h5:k y≠hb .local->Ox k (ps.zip us) c y=hb u):wd k h ps us B as m c y x
theorem ai1{m c:HP->Hp HE}(hn:ps.Nodup)(r:bH Y w Hz h us B as)(e:(ps.zip B).lookup y=hb gc):wd Y w Hz k h ps us B as m c y gc:=by
 refine bH.ind (aH:=λus B as=>∀{ps:Hn HP}{m c:HP->Hp HE},ps.Nodup->(ps.zip B).lookup y=hb gc->wd Y w Hz k h ps us B as m c y gc) (λ{ps m c} hn e=>?_) (λ{u us d ds as bs} r rs ih ps m c hn e=>?_) r hn e
 ·rw[Pp]at e;exact no e
 induction ps with
 |nil=>exact no e
 |cons p ps=>
  rw[HZ]at hn;simp only[IT,HK]at e;by_cases hy:y=p
  ·subst hy;simp only[Ih]at e;have e:=si e;subst e;clear e;refine⟨u,as,r,λb aO=>HF _ aO,.head _,λhk=>?_,λhk=>?_⟩
   ·refine IT.symm▸?_;(rw[Oc];refine(aam (lY hn.1)).trans ?_;rw[H5 hk]);exact H5 rfl
   ·refine IT.symm▸?_;(rw[Ox];refine(aap (lY hn.1)).trans ?_;rw[Ir hk]);exact H5 rfl
  ·obtain hyp:(y==p)=HH:=by simpa using hy
   rw[hyp]at e;obtain⟨u',wx,q1,q2,q3,q4,q5⟩:=ih hn.2 e;exact⟨u',wx,q1,λb aO=>Hx _ (q2 b aO),.tail _ q3,q4,q5⟩
noncomputable def j4(sc:IH):Ig:=decide ((LV 0 sc.names []).map (·.1)).Nodup
theorem gm(names:Hn (HP×LL)):∀(k:HG)(acc:Hn (HP×Hv)),names.lookup x=hb .cell∨(acc.lookup x).isSome=Hq->((LV k names acc).lookup x).isSome=Hq:=by
 induction names with
 |nil=>intro _ _ h;exact h.elim (λe=>no e) id
 |cons Bs r bX=>
  obtain⟨y,kd⟩:=Bs;intro k acc h;dsimp only[LV];by_cases hk:(kd==.cell)=Hq
  ·refine(H5 hk).symm▸bX (k+1) ((y,k)::acc) ?_;by_cases hy:(x==y)=Hq
   ·exact .inr (by(dsimp only[HK];rw[hy]);rfl)
   ·have FL:(x==y)=HH:=by simpa using hy
    refine h.imp (λe=>?_) λe=>?_
    ·rw[HK,FL]at e;exact e
    ·dsimp only[HK];rw[FL];exact e
  ·refine(Ir hk).symm▸bX k acc ?_;by_cases hy:(x==y)=Hq
   ·refine .inr (h.elim (λe=>?_) id);rw[HK,hy]at e;exact IG (by refine(H4 e).symm▸?_;rfl) hk
   ·have FL:(x==y)=HH:=by simpa using hy
    refine h.imp (λe=>?_) id;rw[HK,FL]at e;exact e
theorem dY(h:aA sc x=Hq):sc.names.lookup x=hb .local∨sc.names.lookup x=hb .cell:=by simp only[aA,HU,JA,Ik]at h;exact h.1
theorem abv{cs:Hn (HP×Hv)}(h:cs.Pairwise λx y=>x.2≠y.2){c:Hv}(hx:(x,c)∈cs)(hy:(y,c)∈cs):x=y:=by
 induction cs with
 |nil=>cases hx
 |cons p cs ih=>
  rw[Mr]at h;rcases Hw.mp hx with e1|m1<;>rcases Hw.mp hy with e2|m2
  ·rw[<-e1]at e2;exact(HL ND e2).symm
  ·exact IG (by exact(HL _ e1.symm).trans rfl) (h.1 _ m2)
  ·exact IG (by exact(HL _ e2.symm).trans rfl) (h.1 _ m1)
  ·exact ih h.2 m1 m2
theorem du.start{s':HM}(b:fh Y Hz U s.heap)(ni:K.scope=sc)(hk:sc.kind=.function)(hg:K.globals=I3)(uV:K.builtins=K1)
  (pn:K.cells=LV (K.locals+1) sc.names [])(Aj:j4 sc=Hq)(rN:ps.Nodup)(rd:bH Y w Hz s.heap us B as)(hw:fy B=Hq)
  (x:InCallC s K.locals (Oc K.kindOf (ps.zip us) λ_=>Hu) K.cells (Ox K.kindOf (ps.zip us) λ_=>Hu) s'):
  du Y w Hz U s [] K (K.cells.map (·.2)) (nO ps B) [] s':=by
 obtain keep:=x.toInCall.keep;obtain hL:=aT _ x.toInCall.fresh;have hC:∀c∈K.cells.map (·.2),s.heap.get? c=Hu/\K.locals<c:=by intro c hc;refine aQ (HX.mp hc) λo1 R o2=>?_;obtain⟨nm,c'⟩:=o1;subst o2;have:=x.above nm c' R;exact gQ (aT _ (Hs x.toInCall.fresh (IK this))) this
 obtain amL:(K.cells.map (·.1)).Nodup:=by(refine pn.symm▸(PyProof.Rows.cellsFrom_names sc.names (K.locals+1) 0 [] [] rfl).symm▸?_);exact IW Aj
 have akk:∀c∈K.cells.map (·.2),∃v,s'.heap.IsCell c v:=by intro c hc;refine aQ (HX.mp hc) λo1 R o2=>?_;obtain⟨nm,c'⟩:=o1;subst o2;exact vb _ (x.cell nm c' (PyProof.Rows.lookup_of_mem_nodup amL R))
 have De:∀a,a∈WW K (K.cells.map (·.2)) []↔a=K.locals∨a∈K.cells.map (·.2):=by intro a;simp[WW]
 have foot:∀{u:HE}{d:Ho}{bs:Hn Hv},RD Y w Hz s.heap u d bs->wf d=Hq->dK Y w Hz s.heap (WW K (K.cells.map (·.2)) []) s'.heap u (V.fix d .s):=by
  intro u d bs r c;refine dK.fixed (r.grow keep) c λa ha hq=>dA (r.alive a ha) λo e=>?_;rcases(De a).mp hq with q|q
  ·rw[q,hL]at e;exact no e
  ·exact no (((hC a q).1).symm.trans e)
 obtain vars:∀y vv,nO ps B y=hb vv->∃u,cj Y w Hz s.heap (WW K (K.cells.map (·.2)) []) [] s'.heap y u vv/\
   (K.kindOf y=hb .local->Oc K.kindOf (ps.zip us) (λ_=>Hu) y=hb u)/\(K.kindOf y≠hb .local->Ox K.kindOf (ps.zip us) (λ_=>Hu) y=hb u):=by
  intro y vv e;rw[adv]at e;induction dI e with|mk d hd=>?_
  obtain⟨u,bs,q1,q2,q3,q4,q5⟩:=ai1 (k:=K.kindOf) (m:=λ_=>Hu) (c:=λ_=>Hu) rN rd hd;refine rL u ⟨?_,foot q1 ((cM _).mp hw _ q3)⟩ q4 q5;unfold V.fix;split
  ·exact .inl rfl
  ·exact .inr rfl
 refine⟨⟨x.toInCall.same,b.trans keep,λb o e _=>keep b o e,λb o e=>⟨o,keep b o e⟩,λa ha=>?_,λa ha=>?_,?_,by exact ni.symm▸hk,hg,uV,λy e=>?_,⟨_,x.toInCall.ns,λy vv e1 e2=>?_⟩,λy vv e1 e2=>?_⟩,λy e=>?_,λy z c h1 h2=>?_,λy c hc=>have R:=HX.mpr ⟨_,cH hc,rfl⟩;⟨R,akk c R⟩⟩
 ·rcases(De a).mp ha with rfl|ha
  ·exact vd x.toInCall.ns λo es ep ho hd o1=>i12 o ho (λ⟨_,_,q⟩=>by rw[q]at hd;cases hd)
  ·exact mx (akk a ha) λv o ho hd=>i12 o ho (λ⟨_,_,q⟩=>by rw[q]at hd;cases hd)
 ·have h0:s.heap.get? a=Hu:=by
   rcases(De a).mp ha with rfl|ha
   ·exact hL
   ·exact(hC a ha).1
  refine gQ ?_ (λ_=>h0);cases e:U.get? a with
  |none=>rfl
  |some o=>exact no (h0.symm.trans (b.grow _ _ e))
 ·simp only[WW,PL,IA,HZ];refine gQ (λR=>JW _ (hC _ R).2) ?_;have:=x.apart;rw[Q4,Pw];exact this
 ·have hs:(K.cells.lookup y).isSome=Hq:=by exact pn.symm▸gm _ _ _ (.inl (by exact ni▸e))
  exact IV.mp hs
 ·exact kK (vars y vv e1) λu r q1 o1=>i12 u (q1 e2) r
 ·refine kK (vars y vv e1) λu r o1 q2=>?_;obtain hs:(K.cells.lookup y).isSome=Hq:=by exact pn.symm▸gm _ _ _ (.inl (by exact ni▸e2))
  refine dA (IV.mp hs) λc hc=>mz c u hc ?_ r;have:=x.cell _ c hc;rw[q2 (by rw[e2];simp)]at this;exact this
 ·have hs:(K.cells.lookup y).isSome=Hq:=by exact pn.symm▸gm _ _ _ (.inl (by exact ni▸e))
  exact dA (IV.mp hs) λc hc=>i12 c hc (HX.mpr ⟨_,cH hc,rfl⟩)
 ·exact abv x.apart (cH h1) (cH h2)
structure ju(U:Iv)(f:Hv)(sc:IH)(ps:Hn HP)(body:Hn IM):Prop where
 there:∃fo fd args,U.get? f=hb fo/\fo.data=.func fd/\fd.params=⟨[],args,Hu,[],[],Hu,[]⟩/\args.map (·.arg)=ps/\fd.body=.stmts body/\fd.scope=sc/\fd.closure=[]/\fd.defaults=.none/\
  fd.globals=I3/\fd.builtins=K1/\U.CodeRec fd.code fd.qualname
 kind:sc.kind=.function
 gen:sc.isGenerator=HH
 co:sc.isCoroutine=HH
 once:j4 sc=Hq
 names:ps.Nodup
 vars:∀x∈ps,aA sc x=Hq
def BE(ps:Hn HP)(m:ar->Hp Out)(B:Hn Ho):Hp Ho:=if B.length=ps.length then(m (nO ps B)).bind sU else Hu
variable{body:Hn IM}
theorem Fn.def{m:ar->Hp Out}(D:ju U jo sc ps body)(h:St Y w U n sc body m):Fn Y w U (n+1) jo (BE ps m):=by
 intro A Hz s us B as y Q E hA b rd hw R hQ;obtain⟨fo,fd,args,ho,hd,hp,qa,sk,ni,p6,yq,yg,uV,yj⟩:=D.there;unfold BE at R;split at R
 ·rename_i a8;obtain⟨o,jU,hy⟩:=ao R;obtain xw:args.length=ps.length:=by simpa using HL Km qa
  obtain ye:args.length=us.length:=by(refine xw.trans ?_;(exact rd.length.symm▸a8.symm▸rfl))
  obtain hV:(args.map (·.arg)).Nodup:=by exact qa.symm▸D.names
  refine N4 (Le (fd:=fd) (body:=body) (by have:=hA.depth;exact HC (Hs (Ib _ _) (Ib _ _)) this) (b.grow _ _ ho) hd (by exact ni.symm▸D.co) (by exact ni.symm▸D.gen) sk (yj.keeps b.grow) ?_);refine(iW hp yq ye hV).symm▸qa.symm▸ni.symm▸yg.symm▸p6.symm▸uV.symm▸?_;refine HV (Kz D.kind (λz hz=>?_) λK he s' x=>?_)
  ·refine(dY (D.vars _ (Ky hz).1)).imp id λq=>⟨q,gm _ _ _ (.inl q)⟩
  ·have e1:K.scope=sc:=by refine he.symm▸?_;rfl
   have e2:K.globals=I3:=by refine he.symm▸?_;rfl
   have e3:K.builtins=K1:=by refine he.symm▸?_;rfl
   obtain e4:K.cells=LV (K.locals+1) sc.names []:=by refine he.symm▸?_;rfl
   have I:=du.start (w:=w) b e1 D.kind e2 e3 e4 D.once D.names rd hw x;refine gQ I.base.nolimit (Ni ?_);obtain pe:iX K:=⟨by exact e1.symm▸D.gen,by exact e1.symm▸D.co,e3,e2⟩;refine h e1 (hA.deeper pe) I jU ?_;have keeps:∀{L:ar}{O':Hn (HP×Hn Hv)}{jR:HM},du Y w Hz U s [] K (K.cells.map (·.2)) L O' jR->I8 s jR:=by intro L O' jR J;exact pT J.same λh' tk e=>Ct h' tk e (λb o eb=>by have:=J.keep b o eb Ia;rw[e]at this;exact this)
   clear h D pe I e4 e3 e2 e1 hV ye xw jU yj uV yg yq p6 ni sk qa hp hd ho args fo x he a8 hw rd b hA as us A;induction o with
   |next L=>(have e:=si hy;subst e;clear hy);intro O' jR J _;exact hQ .none [] jR (keeps J) .none rfl λ_ q=>nomatch q
   |ret z=>(have e:=si hy;subst e;clear hy);intro u eS O' L jR J ru cu fr;exact hQ u eS jR (keeps J) ru cu λa ha=>(fr a ha).elim (λq=>nomatch q) id
   |brk L=>exact no hy
   |cont L=>exact no hy
   |fU z L=>exact no hy
 ·exact no R
noncomputable def mR(t:ar->Hp Ig)(b:ar->Hp Out):HG->ar->Hp Out
 |0,_=>Hu
 |k+1,L=>(t L).bind λc=>if c then(b L).bind λo=>(match o with
   |.next ft=>mR t b k ft
   |.cont ft=>mR t b k ft
   |.brk ft=>hb (.next ft)
   |.ret y=>hb (.ret y)
   |.fU y L=>hb (.fU y L))else hb (.next L)
theorem S1.while{t:HR}{body:Hn IM}{pos:J3}(k:HG)(ht:Tr Y w U n sc t mt)(sk:St Y w U n sc body mb):S1 Y w U n sc (.While t body [] pos) (mR mt mb k):=by
 intro A Hz K ae X C L O s r Q E hs hA I R hQ;refine wpAny_While (codeAny_whileLoop (λi aM=>∃kh jQ,du Y w Hz U ae X K C kh jQ aM/\Step s.heap aM.heap (WW K C O) (WW K C jQ)/\mR mt mb i kh=hb r) ?_ k ⟨L,O,I,Step.refl _ _,R⟩);rintro i aM ⟨kh,jQ,gP,aph,k8⟩;clear pos R I;cases i with
 |zero=>exact no k8
 |succ i=>
  obtain⟨c,hc,k8⟩:=ao k8;refine ht hs hA gP.toInF hc λdN dO=>?_;obtain p5:=gP.grow dO;have Bn:=aph.trans (Step.cN (ag dO));clear ht k t hc dO aph gP aM;induction c with
  |true=>
   obtain⟨o,ho,jy⟩:=ao k8;refine sk hs hA p5 ho ?_;clear sk body ho hA hs;induction o with
   |next xA=>exactλAi jP t4 r9=>⟨i,L4 _,xA,Ai,t4,Bn.trans r9,jy⟩
   |cont xA=>exactλAi jP t4 r9=>⟨i,L4 _,xA,Ai,t4,Bn.trans r9,jy⟩
   |brk xA=>(have e:=si jy;subst e;clear jy);exactλAi jP t4 r9=>hQ Ai jP t4 (Bn.trans r9)
   |ret y=>(have e:=si jy;subst e;clear jy);exact hQ
   |fU y L=>(have e:=si jy;subst e;clear jy);exact hQ
  |false=>(have e:=si k8;subst e;clear k8);exact OA (hQ jQ dN p5 Bn)
noncomputable def dE(scope sc:IH):IH:=
 {scope with names:=scope.names.map λ(x,k)=>if(k==.free&&sc.kind==.function&&sc.names.lookup x==hb .cell)then(x,.cell)else(x,k)}
theorem acR(scope:IH)(K:Ke):Px scope K=dE scope K.scope:=rfl
noncomputable def q8(cells:Hn (HP×Hv)):Hn (HP×LL)->Hn (HP×Hv)->Hn (HP×Hv)
 |[],acc=>acc
 |(x,k)::r,acc=>if k==.free then q8 cells r ((x,(cells.lookup x).getD 0)::acc)else q8 cells r acc
variable{cells:Hn (HP×Hv)}
theorem oK{acc:Hn (HP×Hv)}{k:LL}{r:Hn (HP×LL)}:q8 cells ((x,k)::r) acc=if k==.free then q8 cells r ((x,(cells.lookup x).getD 0)::acc)else q8 cells r acc:=rfl
variable{scope:IH}
theorem iB(h:∀p∈scope.names,p.2=.free->∃c,K.cells.lookup p.1=hb c):closureFor scope K=pure (q8 K.cells scope.names []):=by
 unfold closureFor;obtain key:∀(l:Hn (HP×LL))(acc:Hn (HP×Hv)),(∀p∈l,p.2=.free->∃c,K.cells.lookup p.1=hb c)->
   (forIn l acc λ(p:HP×LL) (cs:Hn (HP×Hv))=>(if(p.2==Kh)=Hq then do
     let a<-cellOf K p.1
     pure (Lh ((p.1,a)::cs))
    else pure (Lh cs):Sem (ForInStep (Hn (HP×Hv)))))=pure (q8 K.cells l acc):=by
  intro l;induction l with
  |nil=>intro acc _;rfl
  |cons p l ih=>
   intro acc h;obtain⟨x,k⟩:=p;rw[List.forIn_cons];by_cases hk:(k==Kh)=Hq
   ·refine dA (h (x,k) (.head _) (by simpa using hk)) λc hc=>?_;simp only[hk,MU,oK];obtain e:cellOf K x=pure c:=by unfold cellOf;exact hc.symm▸rfl
    simp only[e,pure_bind,hc,LW];exact ih _ λp hp=>h p (.tail _ hp)
   ·simp only[hk,Ko,K8,oK,pure_bind];exact ih _ λp hp=>h p (.tail _ hp)
 have:=key scope.names [] h;simpa using this
theorem aas(hc:cells.lookup x=hb c)(names:Hn (HP×LL)):∀(acc:Hn (HP×Hv)),(acc.lookup x=Hu∨acc.lookup x=hb c)->((x,Kh)∈names∨acc.lookup x=hb c)->(q8 cells names acc).lookup x=hb c:=by
 induction names with
 |nil=>intro acc _ h;exact h.elim (λq=>nomatch q) id
 |cons Bs r bX=>
  obtain⟨y,k⟩:=Bs;intro acc h0 h;rw[oK];by_cases hk:(k==Kh)=Hq
  ·refine(H5 hk).symm▸?_;by_cases hy:x=y
   ·subst hy;obtain e:((x,(cells.lookup x).getD 0)::acc).lookup x=hb c:=by(refine HK.trans ?_;rw[Ih,hc]);rfl
    exact bX _ (.inr e) (.inr e)
   ·obtain e:((y,(cells.lookup y).getD 0)::acc).lookup x=acc.lookup x:=by
     dsimp only[HK];have:(x==y)=HH:=by simpa using hy
     exact this.symm▸rfl
    refine bX _ (by exact e.symm▸h0)<|e.symm▸h.imp (λq=>?_) id;rcases Hw.mp q with q|q
    ·exact IG (HL ND q) hy
    ·exact q
  ·refine(Ir hk).symm▸bX acc h0 (h.imp (λq=>?_) id);rcases Hw.mp q with q|q
   ·have:=HL NF q;simp only at this;rw[<-this]at hk;exact IG rfl hk
   ·exact q
structure om(scope sc:IH)(locs:Hn HP):Prop where
 kind:scope.kind=.function
 v9:∀p∈scope.names,p.2≠.cell
 free:∀p∈scope.names,p.2=.free->sc.names.lookup p.1=hb .cell
 locs:∀p∈scope.names,p.2=.local->scope.names.lookup p.1=hb .local/\p.1∈locs
noncomputable def jA(scope sc:IH)(locs:Hn HP):Ig:=
 decide (scope.kind=.function)&&scope.names.all (λp=>decide (p.2≠.cell)&&(decide (p.2≠.free)||decide (sc.names.lookup p.1=hb .cell))&&(decide (p.2≠.local)||(decide (scope.names.lookup p.1=hb .local)&&locs.contains p.1)))
variable{locs:Hn HP}
theorem om.of(h:jA scope sc locs=Hq):om scope sc locs:=by simp only[jA,HU,JM,Ik,JA]at h;refine⟨h.1,λp hp=>(h.2 p hp).1.1,λp hp e=>(h.2 p hp).1.2.resolve_left (λq=>q e),λp hp e=>?_⟩;exact ew ((h.2 p hp).2.resolve_left (λq=>q e)) λa b=>⟨a,by simpa using b⟩
theorem abi(hn:∀p∈scope.names,p.2≠.cell)(h:(dE scope sc).names.lookup x=hb .cell):(x,Kh)∈scope.names/\sc.names.lookup x=hb .cell:=by
 unfold dE at h;simp only at h;obtain key:∀(l:Hn (HP×LL)),(∀p∈l,p.2≠.cell)->(l.map λ(x,k)=>if(k==Kh&&sc.kind==.function&&sc.names.lookup x==hb .cell)then(x,Py)else(x,k)).lookup x=hb .cell->(x,Kh)∈l/\sc.names.lookup x=hb .cell:=by
  intro l;induction l with
  |nil=>intro _ h;exact no h
  |cons p l ih=>
   obtain⟨y,k⟩:=p;intro hn h;rw[HS]at h;by_cases hc:(k==Kh&&sc.kind==.function&&sc.names.lookup y==hb .cell)=Hq
   ·simp only[hc,MU,HK]at h;split at h
    ·rename_i e;obtain e:=eq_of_beq e;subst e;simp only[HU,KA]at hc;exact⟨by exact(hc.1.1).symm▸.head _,hc.2⟩
    ·exact ew (ih (λp hp=>hn p (.tail _ hp)) h) λa b=>⟨.tail _ a,b⟩
   ·simp only[hc,Ko,K8,HK]at h;split at h
    ·have e:=si h;subst e;clear h;exact IG rfl (hn _ (.head _))
    ·exact ew (ih (λp hp=>hn p (.tail _ hp)) h) λa b=>⟨.tail _ a,b⟩
 exact key _ hn h
theorem adi(h:(dE scope sc).names.lookup x=hb .local):(x,NameKind.local)∈scope.names:=by
 unfold dE at h;simp only at h;obtain key:∀(l:Hn (HP×LL)),(l.map λ(x,k)=>if(k==Kh&&sc.kind==.function&&sc.names.lookup x==hb .cell)then(x,Py)else(x,k)).lookup x=hb .local->(x,NameKind.local)∈l:=by
  intro l;induction l with
  |nil=>intro h;exact no h
  |cons p l ih=>
   obtain⟨y,k⟩:=p;intro h;rw[HS]at h;by_cases hc:(k==Kh&&sc.kind==.function&&sc.names.lookup y==hb .cell)=Hq
   ·simp only[hc,MU,HK]at h;split at h
    ·cases h
    ·exact .tail _ (ih h)
   ·simp only[hc,Ko,K8,HK]at h;split at h
    ·rename_i e;obtain e:=eq_of_beq e;have e:=si h;subst e;clear h;exact e.symm▸.head _
    ·exact .tail _ (ih h)
 exact key _ h
noncomputable def iL:Hn HP->HP->Ig
 |[],_=>HH
 |s::l,t=>(t==s)||iL l t
theorem oO{s:HP}:iL (s::Ew) Az=((Az==s)||iL Ew Az):=rfl
theorem ae8:iL Ew Az=HH->Az∉Ew:=by
 induction Ew with
 |nil=>intro _ h;exact nomatch h
 |cons s Ew bX=>
  intro e h;rw[oO,Jn,HO]at e;rcases Hw.mp h with h|h
  ·exact e.1 h
  ·exact bX e.2 h
def inComp(locs:Hn HP)(L:ar):ar:=λx=>bif iL locs x then Hu else(L x).bind λvv=>(sz vv).map λv=>.val (V.fix v.x .s)
section
variable{X:Hn Hv}
theorem InF.B3(I:InF Y w Hz U ae X K C L O s){x:HP}{u:HE}{v:VV}{m:HP->Hp HE}{h':Iv}{tk:HG}(hk:K.kindOf x=hb .local)
  (EE:∀y vv,L y=hb vv->K.kindOf y=hb .local->∃u,m y=hb u/\cj Y w Hz ae.heap (WW K C O) O s.heap y u vv)
  (hn:h'.Ns K.locals (λy=>if y=x then hb u else m y))(hs:KS K.locals s.heap h')(r:cj Y w Hz ae.heap (WW K C O) O s.heap x u v):
  InF Y w Hz U ae X K C (L.set x v) O {s with heap:=h',toks:=tk}:=by
 have aU:nk [K.locals] (WW K C O) s.heap h':=by refine⟨λa ha=>by exact(HB.mp ha).symm▸.head _,λb o e aO=>(hs.2 b (by simpa using aO)).trans e,λa ha=>?_⟩;refine(HB.mp ha).symm▸vd hn λo es ep ho hd o1=>i12 o ho (λ⟨vs,k,hc⟩=>?_);rw[hc]at hd;cases hd
 refine CQ (I.wrote aU) λw1 w2 w3 w4 w5=>pT I.same λh0 t0 e0=>⟨⟨h',tk,e0.symm▸rfl⟩,w1,w2,w3,w4,I.b8,I.b9,I.kind,I.glob,I.jJ,I.rQ,⟨_,hn,λy vv e1 e2=>?_⟩,λy vv e1 e2=>?_⟩
 ·obtain d3:=(eW _ _ _ _).symm.trans e1;by_cases hy:y=x
  ·clear hn e0 t0 h0 w4 w3 w2 w1;subst hy;rw[H5 rfl]at d3;have e:=si d3;subst e;clear d3;refine i12 u (H5 rfl) (r.wrote w5 aU.same λsp lb a ha=>?_);simpa using(fE I.b9 lb ha).1
  ·rw[Ir hy]at d3;refine aQ (EE y vv d3 e2) λu' a b=>i12 u' ((Ir λq=>hy q).trans a) (b.wrote w5 aU.same λsp lb a ha=>?_);simpa using(fE I.b9 lb ha).1
 ·have hy:y≠x:=λq=>by rw[q,hk]at e2;cases e2
  obtain d3:=(eW _ _ _ _).symm.trans e1;rw[Ir hy]at d3;refine j8 (I.cell y vv d3 e2) λc u' a b d=>mz c u' a (b.sameBut hs (λq=>?_)) (d.wrote w5 aU.same λsp lb a ha=>?_)
  ·refine aQ b λo ho hd=>aQ I.ns λm' o1 o2=>?_;obtain⟨oL,es,ep,hL,hdL,_⟩:=o1;rw[q,hL]at ho;have e:=si ho;subst e;clear ho;exact nomatch hdL.symm.trans hd
  ·simpa using(fE I.b9 lb ha).1
theorem InF.agW{Q:Nq->HM->Prop}(I:InF Y w Hz U ae X K C L O s){v:VV}(hk:K.kindOf x=hb .local)(r:cj Y w Hz ae.heap (WW K C O) O s.heap x u v)
  (hQ:∀h' tk,InF Y w Hz U ae X K C (L.set x v) O {s with heap:=h',toks:=tk}->KS K.locals s.heap h'->Q () {s with heap:=h',toks:=tk}):wpAny (Iq Y w) A (Pn K x u) Q E s:=by
 exact aQ I.ns λm R hv=>Nr hk R (λh' hn hs=>hQ h' _ (I.B3 hk hv hn hs r) hs) (by refine I.kind.symm▸?_;rfl)
theorem InF.weaken(I:InF Y w Hz U ae X K C L O s)(h:∀x v,ft x=hb v->L x=hb v):InF Y w Hz U ae X K C ft O s:=by refine⟨I.same,I.base,I.keep,I.alive,I.cO,I.b8,I.b9,I.kind,I.glob,I.jJ,I.rQ,?_,λx vv e1 e2=>I.cell x vv (h x vv e1) e2⟩;exact aQ I.ns λm R hv=>i12 m R (λx vv e1 e2=>hv x vv (h x vv e1) e2)
end
def xW(Y:IB)(w:Ja)(U:Iv)(sc:IH)(locs:Hn HP)(gR:HR)(m:V->ar->Hp ar):Prop:=
 (∀v L ft,m v L=hb ft->∀x,x∉locs->ft x=L x)/\
 ∀{{A:Jh}} {{Hz:Hn Hv}} {{K:Ke}} {{ae:HM}} {{X C:Hn Hv}} {{L ft:ar}} {{O:Hn (HP×Hn Hv)}} {{s:HM}} {{u:HE}} {{v:V}} {{Q:Nq->HM->Prop}} {{E:HE->HM->Prop}},
  K.scope=sc->A.handled=Hu->InF Y w Hz U ae X K C L O s->dK Y w Hz ae.heap (WW K C O) s.heap u v->m v L=hb ft->
  (∀h' tk,InF Y w Hz U ae X K C ft O {s with heap:=h',toks:=tk}->(∀b o,b≠K.locals->s.heap.get? b=hb o->h'.get? b=hb o)->Q () {s with heap:=h',toks:=tk})->wpAny (Iq Y w) A (PySem.assign gR K u) Q E s
noncomputable def iY(sc:IH)(x:HP):Ig:=decide (sc.names.lookup x=hb .local)
theorem xW.name(hv:iY sc x=Hq)(hl:x∈locs):xW Y w U sc locs (.Name x pos) (xQ x):=by
 refine⟨λv L ft h y hy=>?_,?_⟩
 ·refine ew (gZ h) λo1 o2=>?_;subst o2;obtain Eu:y≠x:=λe=>hy (by exact e.symm▸hl);exact(eW _ _ _ _).trans (Ir Eu)
 intro A Hz K ae X C L ft O s u v Q E hs hA I r R hQ;refine ew (gZ R) λhf o1=>?_;subst o1;obtain hk:K.kindOf x=hb .local:=by unfold KG;exact hs.symm▸IW hv
 exact L5 (I.agW (v:=.val v) hk ⟨hf,r⟩ λh' tk I' AE=>hQ h' tk I' λb o aO e=>(AE.2 b aO).trans e)
set_option tactic.hygienic true in
theorem aaH{X:Hn Hv}{Q:Nq->HM->Prop}(hs:K.scope=sc):
  ∀{e9:Hn HR}{us:Hn HE}{vs:Hn V}{L ft:ar}{s:HM},(∀x∈dU,iY sc x=Hq)->e9.length=dU.length->InF Y w Hz U ae X K C L O s->ip Y w Hz ae.heap (WW K C O) s.heap us vs->pG dU vs L=hb ft->
  (∀h' tk,InF Y w Hz U ae X K C ft O {s with heap:=h',toks:=tk}->(∀b o,b≠K.locals->s.heap.get? b=hb o->h'.get? b=hb o)->Q () {s with heap:=h',toks:=tk})->
  wpAny (Iq Y w) A (assignInOrder ((dU.zipWith (λx e=>(HH,PySem.assign (.Name x e.pos) K)) e9).map (·.2)) us) Q E s:=by
 induction dU with
 |nil=>
  intro e9 us vs L ft s _ hl I r R hQ;induction e9 with
  |cons _ _=>exact nomatch hl
  |nil=>induction vs with
   |nil=>cases r;(have e:=si R;subst e;clear R);exact HV (hQ s.heap s.toks I λ_ _ _ e=>e)
   |cons _ _=>exact no R
 |cons x dU ih=>
  intro e9 us vs L ft s hv hl I r R hQ;cases e9 with
  |nil=>exact nomatch hl
  |cons e e9=>induction r with
   |nil=>exact no R
   |@cons u v us vs r1 r2 _=>
    obtain⟨jw,h1,h2⟩:=ao R;refine ew (gZ h1) λhf o1=>?_;subst o1;have hk:K.kindOf x=hb .local:=by unfold KG;exact hs.symm▸IW (hv x (.head _))
    refine Ht (KR (L5 (I.agW (v:=.val v) hk ⟨hf,r1⟩ λeY aqq gU AE=>?_)));obtain off:Off (WW K C O) s.heap eY:=by
     intro b o eb hc;refine(AE.2 b λq=>?_).trans eb;rcases hc with hc|hc
     ·exact hc (q▸.head _)
     ·refine aQ (I.cO K.locals (.head _)) λo' e' nt=>?_;rw[q,e']at eb;have e:=si eb;subst e;clear eb;exact nt hc
    exact ih (λy hy=>hv y (.tail _ hy)) (Jz hl) gU (r2.off off λv hv=>((lZ R).2) v (.tail _ hv)) h2 λh' tk I' kp=>hQ h' tk I' λb o aO e=>kp b o aO ((AE.2 b aO).trans e)
theorem aca:∀{B:Hn HP}{vs:Hn V}{L ft:ar},pG B vs L=hb ft->∀y,y∉B->ft y=L y:=by
 intro B;induction B with
 |nil=>
  intro vs L ft h y _;cases vs with
  |nil=>(have e:=si h;subst e;clear h);rfl
  |cons=>exact no h
 |cons x B ih=>
  intro vs L ft h y hy;cases vs with
  |nil=>exact no h
  |cons v vs=>obtain⟨jw,h1,h2⟩:=ao h;refine ew (gZ h1) λo1 o2=>?_;subst o2;refine(ih h2 y λq=>hy (.tail _ q)).symm▸?_;obtain Eu:y≠x:=λe=>hy (by exact e.symm▸.head _);exact(eW _ _ _ _).trans (Ir Eu)
variable{k:HG}
set_option tactic.hygienic true in
theorem xW.tuple(hv:∀x∈dU,iY sc x=Hq)(hlc:∀x∈dU,x∈locs)(a8:e9.length=dU.length)
  (he:∀K:Ke,N3 e9 K=dU.zipWith (λx e=>(HH,PySem.assign (.Name x e.pos) K)) e9):
  xW Y w U sc locs (.Tuple e9 k pos) (λv L=>(yM v).bind λvs=>pG dU vs L):=by
 refine⟨λv L ft h y hy=>?_,?_⟩
 ·obtain⟨vs,_,h⟩:=ao h;exact aca h y λq=>hy (hlc y q)
 intro A Hz K ae X C L ft O s u v Q E hs hA I r;refine ak λvs nh R hQ=>?_;obtain⟨vx,vf⟩:=v;obtain⟨as,ra,ca,oa⟩:=r;dsimp only at*;cases vx with
 |tuple ys=>
  have e:=si nh;subst e;clear nh;induction ra.tupI with
  |mk ad us kk a1 az a2=>
   rw[dk]at ca;obtain hl:=a2.length;have uo:=a2.uo ca.2 oa;have Hh:dU.length=us.length:=by(exact((lZ R).1).trans uo.length.symm)
   refine Qp hA ⟨_,a1,rfl,_,rfl⟩ (by rw[he];simp[a8,Hh]) ?_ λh' ext=>?_
   ·rw[he,Oo];intro p hp;obtain⟨i,hi,rfl⟩:=OY.mp hp;simp
   have k':I8 s {s with heap:=h'}:=⟨h',s.toks,rfl,λb o e=>ext b o (Jq (II e)) e⟩;rw[he];exact aaH hs hv a8 (I.grow k') (uo.grow (ag k')) R λqw tk EY kp=>hQ qw tk EY λb o aO e=>kp b o aO (ag k' _ _ e)
 |_=>exact no nh
theorem aab{A:Jh}{aH:Result->HM->Prop}{s:HM}{jn target iter:HR}{jk:Hn HR}{scope:IH}{pos:J3}{it acc:HE}{K:Ke}(I:HG->HM->Prop)
  (turn:∀n s,I n s->wpAny (Iq Y w) A (Qm it) (λr ay=>match r with
   |none=>aH (.ok .next) ay
   |some v=>wpAny (Iq Y w) A (OB target it v) (λ_ akv=>wpAny (Iq Y w) A (assign target K v) (λ_ aM=>
     wpAny (Iq Y w) A (forIn jk Hq λc r=>if r=Hq then do let ok<-Qj c K (Jf c K);pure (Lh ok)else pure (Lh r)) (λok dN=>
      if ok=Hq then wpAny (Iq Y w) A (Jf jn K) (λx jP=>
       wpAny (Iq Y w) A (call (.builtin "list.append") [acc,x]) (λ_ iz=>∃m,m<n/\I m iz) (MW (Iq Y w) A K λe s'=>aH (.error e) s') jP) (MW (Iq Y w) A K λe s'=>aH (.error e) s') dN
      else∃m,m<n/\I m dN) (MW (Iq Y w) A K λe s'=>aH (.error e) s') aM) (MW (Iq Y w) A K λe s'=>aH (.error e) s') akv) (MW (Iq Y w) A K λe s'=>aH (.error e) s') ay) (MW (Iq Y w) A K λe s'=>aH (.error e) s') s)
  (n:HG)(h:I n s):
  Pz (Iq Y w) A (.compLoop (.ListComp jn [⟨target,iter,jk,0⟩] scope pos) 0 it acc K) aH s:=by
 refine codeAny_loop rfl I (λn s hI=>?_) n h;show wpAny _ A ((compTurn (.ListComp jn [⟨target,iter,jk,0⟩] scope pos) 0 it acc K).onRaise (λx=>do noteFrame x K;theTreesLotGoes x)) _ _ s;refine wpAny_noted ?_;rw[compTurn_list];refine Ht (M4 (Ht (Kf (turn n s hI) (λr ay eY=>?_) λ_ _ h'=>h')));induction r with
 |none=>exact HV eY
 |some v=>
  refine Ht (Kf eY (λ_ akv apc=>?_) λ_ _ h'=>h');refine Ht (Kf apc (λ_ aM mq=>Ht (Kf mq (λok dN m7=>?_) λ_ _ h'=>h')) λ_ _ h'=>h');induction ok with
  |false=>exact HV ⟨rfl,m7⟩
  |true=>exact Ht (Ht (Kf m7 (λx jP C5=>Ht (Kf C5 (λ_ iz sf=>HV (HV ⟨rfl,sf⟩)) λ_ _ h'=>h')) λ_ _ h'=>h'))
def ya(Y:IB)(w:Ja)(U:Iv)(n:HG)(sc:IH)(cs:Hn HR)(m:ar->Hp Ig):Prop:=
 ∀{{A:Jh}} {{Hz:Hn Hv}} {{K:Ke}} {{ae:HM}} {{X C:Hn Hv}} {{L:ar}} {{O:Hn (HP×Hn Hv)}} {{s:HM}} {{v:Ig}} {{Q:Ig->HM->Prop}} {{E:HE->HM->Prop}},
  K.scope=sc->eu A n->InF Y w Hz U ae X K C L O s->m L=hb v->(∀s',I8 s s'->Q v s')->
  wpAny (Iq Y w) A (forIn cs Hq λc r=>if r=Hq then do let ok<-Qj c K (Jf c K);pure (Lh ok)else pure (Lh r)) Q E s
theorem ya.nil:ya Y w U n sc [] (λ_=>hb Hq):=by intro A Hz K ae X C L O s v Q E hs hA I R hQ;(have e:=si R;subst e;clear R);exact wpAny_tests_nil (hQ s (aD s))
theorem ya.one{m:ar->Hp Ig}(h:Tr Y w U n sc c m):ya Y w U n sc [c] m:=by intro A Hz K ae X C L O s v Q E hs hA I R hQ;exact wpAny_tests_one (h hs hA I R hQ)
noncomputable def sQ(bind:V->ar->Hp ar)(test:ar->Hp Ig)(jn:ar->Hp V)(L:ar):Hn Ho->Hp (Hn Ho)
 |[]=>hb []
 |x::B=>(bind (V.fix x .s) L).bind λjw=>(test jw).bind λc=>if c then(jn jw).bind λv=>if v.fl=.d then(sQ bind test jn L B).map (v.x::·)else Hu else sQ bind test jn L B
theorem InF.alm{X:Hn Hv}(I:InF Y w Hz U ae X K C L O s)(uZ:∀x vv,L x=hb vv->∃v,vv=.val v){z:Hv}{tk:HG}(hz:z∈WW K C O)(hzL:z≠K.locals)
  (hzo:∃vs k,s.heap.get? z=hb (cA vs k))(hs:KS z s.heap h')(ht:∃ob,h'.get? z=hb ob/\¬jV ob):InF Y w Hz U ae X K C L O {s with heap:=h',toks:=tk}:=by
 obtain aU:nk [z] (WW K C O) s.heap h':=
  ⟨λb aO=>by exact(HB.mp aO).symm▸hz,λb ob e aO=>(hs.2 b (by simpa using aO)).trans e,λb aO=>by exact(HB.mp aO).symm▸ht⟩
 refine CQ (I.wrote aU) λw1 w2 w3 w4 w5=>pT I.same λh0 t0 e0=>⟨⟨h',tk,e0▸rfl⟩,w1,w2,w3,w4,I.b8,I.b9,I.kind,I.glob,I.jJ,I.rQ,?_,λy vv e1 e2=>?_⟩
 ·refine aQ I.ns λm R hv=>i12 m (R.sameBut hs (K9 hzL)) (λy vv e1 e2=>aQ (hv y vv e1 e2) λu a b=>dA (uZ y vv e1) λv o1=>?_);subst o1;exact rL u a b.1 (b.2.off w5 b.1)
 ·refine j8 (I.cell y vv e1 e2) λc u a b d=>dA (uZ y vv e1) λv o1=>?_;subst o1;refine i24 c u a (b.sameBut hs (λq=>?_)) d.1 (d.2.off w5 d.1);refine aQ b λo ho hd=>pT hzo λvs k e=>?_;rw[q,e]at ho;have e:=si ho;subst e;clear ho;cases hd
theorem kD(h:inComp locs L x=hb vv):x∉locs/\∃v0 v,L x=hb v0/\sz v0=hb v/\vv=.val (V.fix v.x .s):=by
 unfold inComp at h;cases hx:iL locs x with
 |true=>rw[hx]at h;exact no h
 |false=>rw[hx]at h;obtain⟨v0,h1,h2⟩:=ao h;exact aQ (H6.mp h2) λv h3 h4=>⟨ae8 hx,v0,v,h1,h3,h4.symm⟩
theorem al5(x:Ho):(V.fix x .s).fl=.d∨(V.fix x .s).fl=.s:=by
 unfold V.fix;split
 ·exact .inl rfl
 ·exact .inr rfl
variable(Y w)in
inductive Ah(Hz:Hn Hv)(U:Iv)(s:HM)(iy:Ke)(L:ar)(D C':Hv)(S:HG->Iv->Prop)(bind:V->ar->Hp ar)(mt:ar->Hp Ig)(me:ar->Hp V)(B ys:Hn Ho):HG->HM->Prop
 |mk (i:HG) (us:Hn HE) (Di rest:Hn Ho) (cs:Hn Hv) (kk:HG) (iz:HM) (h1:i<=B.length) (h2:InF Y w Hz U s [] iy [] L [(".acc",[D])] iz) (h3:iz.heap.get? D=hb (cA us kk)) (h4:bH Y w Hz iz.heap us Di cs)
   (h5:da s.heap [C',D] .d cs) (h6:fy Di=Hq) (h7:Di.length<=i) (h8:S i iz.heap) (h9:sQ bind mt me L (B.drop i)=hb rest) (h10:ys=Di++rest):Ah Hz U s iy L D C' S bind mt me B ys (B.length+1-i) iz
theorem oQ{jn gR iter:HR}{jk:Hn HR}{scope:IH}{pos:J3}{locs:Hn HP}{mi:ar->Hp (Hn Ho×Fl)}{bind:V->ar->Hp ar}{mt:ar->Hp Ig}{me:ar->Hp V}(ok:om scope sc locs)
  (hi:It Y w U n sc gR iter mi)(ht:xW Y w U (dE scope sc) locs gR bind)(yp:ya Y w U n (dE scope sc) jk mt)(he:Ev Y w U n (dE scope sc) jn me)
  {A:Jh}{K:Ke}{ae:HM}{X C:Hn Hv}{L:ar}{O:Hn (HP×Hn Hv)}{s:HM}{E:HE->HM->Prop}{B:Hn Ho}{f:Fl}{ys:Hn Ho}{aH:HE->Hv->Result->HM->Prop}
  (hs:K.scope=sc)(hA:eu A n)(I:InF Y w Hz U ae X K C L O s)(hv:mi L=hb (B,f))(hd:sQ bind mt me (inComp locs L) B=hb ys)
  (hR:∀D C' s' cs m,I8 s s'->RD Y w Hz s'.heap (.ref D) (.list ys) (D::cs)->wf (.list ys)=Hq->(∀a∈D::cs,s.heap.get? a=Hu/\a≠C')->s.heap.get? C'=Hu->s'.heap.Ns C' m->aH (.ref D) C' (.ok .next) s'):
  wpAny (Iq Y w) A (Jf iter K) (λx ay=>wpAny (Iq Y w) A (Qn x) (λit aM=>wpAny (Iq Y w) A (newList []) (λacc dN=>
   wpAny (Iq Y w) A (newFunctionEnv scope K.globals (q8 K.cells scope.names []) [] K.qual Hu .none (hb K)) (λiy jP=>
    Pz (Iq Y w) A (.compStart (.ListComp jn [⟨gR,iter,jk,0⟩] scope pos) 0 it acc {iy with scope:=Px scope K}) (aH acc iy.locals) jP) E dN) E aM) E ay) E s:=by
 refine hi.2 hs hA I hv λJ F wr Zs S aM aI T hS hF qb a8 s7=>?_;dsimp only at T hF qb a8;refine KL (wpAny_newFunctionEnv ok.v9 (by intro y hy;exact nomatch hy) (λeY o9 kS=>?_) ok.kind);dsimp only at o9 kS⊢;have FE:s.heap.get? aM.heap.objs.size=Hu:=by
  clear hv E hi mi a8 hF;cases e:s.heap.get? aM.heap.objs.size with
  |none=>rfl
  |some o=>exact IG (II (ag aI _ _ e)) (JW _)
 generalize hH:aM.heap.push {cls:=.type "list",dict:=Hu,data:=.seq ([]:Hn HE).toArray}=H at o9 kS⊢;have Br:H.objs.size=aM.heap.objs.size+1:=by(refine hH▸?_;rw[Ms])
 have EC:s.heap.get? H.objs.size=Hu:=by
  clear hv E hi mi a8 hF;cases e:s.heap.get? H.objs.size with
  |none=>rfl
  |some o=>have:=II (ag aI _ _ e);rw[Br]at this;exact IG this (JH.mpr (J1 _))
 have EH:aM.heap.objs.size≠H.objs.size:=by rw[Br];exact Jq (L4 _)
 have old:∀b o,aM.heap.get? b=hb o->eY.get? b=hb o:=by intro b o e;have Bv:=II e;refine kS.extBut b o ?_ (HW _ (hH▸HW _ e));rw[Br];exact Jq (LQ Bv)
 have below:∀b o,aM.heap.get? b=hb o->b≠H.objs.size/\b≠aM.heap.objs.size:=by intro b o e;obtain Bv:=II e;exact gQ (by rw[Br];exact Jq (LQ Bv)) (Jq Bv)
 have z7:=kS.extBut _ _ EH (HW _ (hH▸H7 _ rfl));generalize hD:aM.heap.objs.size=D at*;generalize hC':H.objs.size=C' at*;have EF:∀a,s.heap.get? a=Hu->U.get? a=Hu:=by
  intro a ha;clear hv E hi mi Br kS a8 hF;cases e:U.get? a with
  |none=>rfl
  |some o=>exact no (ha.symm.trans (I.base.grow _ _ e))
 have yn:∀b o,s.heap.get? b=hb o->eY.get? b=hb o:=λb o e=>old b o (ag aI _ _ e);obtain⟨FI,FV,Es⟩:=aI;let iy:Ke:={newEnv scope C' K.globals (q8 K.cells scope.names []) K.qual Hu .none (hb K) 0 with scope:=Px scope K};obtain Bi:∀b,{newEnv scope C' K.globals (q8 K.cells scope.names []) K.qual Hu .none (hb K) b with scope:=Px scope K}=iy:=λ_=>rfl;have B0:iy.scope=dE scope sc:=by show Px scope K=_;rw[acR,hs]
 obtain cW:WW iy [] [(".acc",[D])]=[C',D]:=rfl;obtain DZ:∀a o,s.heap.get? a=hb o->a∉Hz->a∉Zs++Hz:=λa o e q z=>(HD.mp z).elim (λz=>no ((s7 a (T.sub a z)).symm.trans e)) q;obtain akm:∀(h:Iv)a o,h.get? a=hb o->a∉Zs++Hz->a∉Hz:=λ_ a _ _ q z=>q (Hx _ z);have sZ:∀b∈wr,b∉Hz:=λb aO hz=>by
  obtain⟨_,o,e,_⟩:=I.base.hide b hz;exact no ((s7 b aO).symm.trans e)
 have bI:=I.base.trans yn;have cI:∀tk,InF Y w (Zs++Hz) U s [] iy [] (inComp locs L) [(".acc",[D])] {aM with heap:=eY,toks:=tk}:=by
  intro tk;refine⟨⟨eY,tk,by rw[Es.1]⟩,⟨λz hz=>(HD.mp hz).elim (λq=>⟨EF z (s7 z (T.sub z q)),by obtain⟨o,e,t⟩:=T.pV 0 _ hS z q;exact⟨o,old z o e,t⟩⟩) (bI.hide z),bI.lim,bI.seer,bI.tree,bI.mods,bI.grow⟩,λb o e _=>yn b o e,λb o e=>⟨o,yn b o e⟩,?_,?_,?_,?_,?_,?_,?_,?_,?_⟩
  ·refine cW.symm▸?_;intro a ha;clear hv E hi mi bI Bi Br Es FV FI kS a8 hF;rcases Hw.mp ha with rfl|ha
   ·obtain⟨o,es,ep,ho,kQ,_⟩:=o9;exact i12 o ho (λ⟨_,_,q⟩=>by rw[q]at kQ;cases kQ)
   ·exact(HB.mp ha).symm▸i12 _ z7 (bw _ _)
  ·refine cW.symm▸?_;intro a ha;clear hv E hi mi bI Bi Br Es FV FI kS a8 hF;rcases Hw.mp ha with rfl|ha
   ·exact gQ (EF _ EC) (λ_=>EC)
   ·exact(HB.mp ha).symm▸gQ (EF _ FE) (λ_=>FE)
  ·rw[cW];simp[K9 EH]
  ·exact B0.symm▸ok.kind
  ·exact I.glob
  ·exact I.jJ
  ·intro x e;obtain e':(dE scope sc).names.lookup x=hb .cell:=by exact B0▸e
   obtain⟨q1,q2⟩:=abi ok.v9 e';obtain⟨c,hc⟩:=I.rQ x (by unfold KG;exact hs.symm▸q2);exact vb c (aas hc _ _ (.inl rfl) (.inl q1))
  ·refine i12 _ o9 (λx vv e1 e2=>?_);obtain e':(dE scope sc).names.lookup x=hb .local:=by rw[<-B0];exact e2
   exact IG (ok.locs _ (adi e') rfl).2 (kD e1).1
  ·intro x vv e1 e2;obtain e':(dE scope sc).names.lookup x=hb .cell:=by exact B0▸e2
   obtain⟨q1,q2⟩:=abi ok.v9 e';clear hv E hi ok mi bI Bi Br Es FV FI e2 kS o9 a8 hF;obtain⟨_,v0,v,r1,r2,rfl⟩:=kD e1;obtain⟨c,u,hc,hu,rep⟩:=I.cell x v0 r1 (by unfold KG;exact hs.symm▸q2);refine i24 c u (aas hc _ _ (.inl rfl) (.inl q1)) (et hu yn) (al5 _) ?_;obtain⟨as,rd,cw,_⟩:=rep.rd r2;refine dK.fixed (((fv DZ).1 rd).grow yn) cw λa ha=>cW.symm▸?_;obtain⟨o,e⟩:=rd.alive a ha;simp only[Hw,Ia,Kv,LR];exact gQ (λq=>by rw[q,EC]at e;exact no e) (λq=>by rw[q,FE]at e;cases e)
 have uZ:∀x vv,inComp locs L x=hb vv->∃v,vv=.val v:=λx vv e=>by obtain⟨_,_,v,_,_,q⟩:=kD e;exact⟨_,q⟩
 have se:∀b∈wr,U.get? b=Hu/\s.heap.get? b=Hu/\b∉WW iy [] [(".acc",[D])]:=by intro b aO;refine lW (EF b (s7 b aO)) (s7 b aO)<|cW.symm▸?_;obtain⟨o,e⟩:=T.there hS aO;obtain⟨q1,q2⟩:=below b o e;simp[q1,q2]
 have C7:∀a∈F,a∉WW iy [] [(".acc",[D])]:=by intro a ha;refine cW.symm▸?_;obtain⟨o,e⟩:=T.alive 0 _ hS a ha;obtain⟨q1,q2⟩:=below a o e;simp[q1,q2]
 have D0:∀b∈wr,b∉WW iy [] [(".acc",[D])]:=λb aO=>(se b aO).2.2;have akz:=T.frame 0 _ _ (WW iy [] [(".acc",[D])]) hS (λb o e _=>old b o e) C7 D0;obtain loop:∀tk,Pz (Iq Y w) A (.compLoop (.ListComp jn [⟨gR,iter,jk,0⟩] scope pos) 0 (.ref J) (.ref D) iy) (aH (.ref D) C') {aM with heap:=eY,toks:=tk}:=by
  intro akj;refine aab (Ah Y w (Zs++Hz) U s iy (inComp locs L) D C' S bind mt me B ys) ?_ (B.length+1)
   (Ah.mk 0 [] [] ys [] 0 _ (JS _) (cI akj) z7 .nil da.nil rfl (Io _) akz hd rfl)
  rintro k iz ⟨i,us,Di,rest,cs,kk,_,yB,su,zR,xC,xH,xm,rz,nZ,uS,p7⟩;by_cases kl:i<B.length
  ·rw[J6 kl]at uS;obtain⟨jw,akg,apl⟩:=ao uS;obtain⟨c,hc,xl⟩:=ao apl;refine Kf (T.turn i _ iz ?Q (MW (Iq Y w) A iy λe s'=>aH (.ref D) C' (.error e) s') (HQ kl) nZ (λz hz=>(su.base.hide z (Hx _ hz)).2.imp λo h=>h.1) ?k) ?hgo λ_ _ e=>e
   case hgo=>
    intro rr aqx aoT;induction rr with
    |none=>exact aoT.elim
    |some v=>exact aoT
   case k=>
    intro v as h' tk rd has akp kp;have wu:=su.oR (Hy:=Zs++Hz) (tk:=tk) (T.cP i _ nZ) se kp (λ_ q=>q) (λz hz hw=>(HD.mp hz).elim (T.pV _ _ akp z) λq=>IG q (sZ z hw));obtain yi:=fR.of (T.cP i _ nZ) (T.pV i _ nZ) kp;have xo:=yi _ _ zR (λ_ q=>by cases q) λ_=>bw _ _;obtain rep:dK Y w (Zs++Hz) s.heap (WW iy [] [(".acc",[D])]) h' v (V.fix B[i] .s):=dK.fixed rd ((cM _).mp qb _ (KM _)) λa ha=>C7 a (has a ha);refine ht.2 B0 hA.handled wu rep akg λDq aqr apb aki=>?_;have ahv:Off (WW iy [] [(".acc",[D])]) h' Dq:=by
     intro b o e hU;refine aki b o (λq=>?_) e;rcases hU with hU|hU
     ·exact hU (q▸.head _)
     ·obtain⟨o',e',nt⟩:=wu.cO iy.locals (.head _);rw[q]at e;rw[e]at e';have e:=si e';subst e;clear e';exact nt hU
    have ahz:∀a∈cs,a∉WW iy [] [(".acc",[D])]:=λa ha=>by exact cW.symm▸(xH a ha).2
    refine yp B0 hA apb hc λaqu Bm=>?_;have Dp:=apb.grow Bm;have back:∀{Aa:HM},InF Y w (Zs++Hz) U s [] iy [] jw [(".acc",[D])] Aa->InF Y w (Zs++Hz) U s [] iy [] (inComp locs L) [(".acc",[D])] Aa:=λJ=>J.weaken λx vv e=>by
     exact(ht.1 _ _ _ akg x (kD e).1).trans e
    have akx:=T.frame _ _ _ (WW iy [] [(".acc",[D])]) (T.frame _ _ _ _ akp ahv C7 D0) (Off.cN (ag Bm)) C7 D0;have akt:=ag Bm _ _ (aki _ _ EH xo);have aks:=((xC.cP yi).off ahv ahz).grow (ag Bm);induction c with
    |false=>simp only[Ko,K8]at xl⊢;exact i12 _ (qj kl) (.mk (i+1) us Di rest cs kk _ kl (back Dp) akt aks xH xm (JZ rz) akx xl p7)
    |true=>
     simp only[MU]at xl⊢;obtain⟨ev,ER,An⟩:=ao xl;split at An
     ·rename_i yd;induction dI An with|mk apj Hc=>?_
      refine he B0 hA Dp ER λu Aa Bq ap7=>?_;obtain⟨bs,rdu,cwu,GL⟩:=ap7;rw[yd,cW]at GL;have zS:=ag Bq _ _ akt;refine wpAny_list_append_plain (items:=us.toArray) ⟨kk,zS⟩ (λt6 pl sb=>?_) (by simp;exact xC.length▸Hs rz (Hs (IK kl) a8));obtain⟨k',ahu⟩:=pl;have abl:t6.get? D=hb (cA (us++[u]) k'):=by refine ahu.trans ?_;simp
      obtain ajk:=(back (Dp.grow Bq)).alm (tk:=Aa.toks) uZ (z:=D) (h':=t6) (by exact cW.symm▸.tail _ (.head _)) EH ⟨_,_,zS⟩ sb ⟨_,abl,bw _ _⟩;obtain pj:Off (WW iy [] [(".acc",[D])]) Aa.heap t6:=by
       intro b o e hU;refine(sb.2 b λq=>?_).trans e;rcases hU with hU|hU
       ·exact hU (by rw[cW,q];exact .tail _ (.head _))
       ·rw[q,zS]at e;cases e;exact bw _ _ hU
      refine i12 _ (qj kl) (.mk (i+1) (us++[u]) (Di++[ev.x]) apj (cs++(bs++[])) k' _ kl ajk abl ?_ ?_ ?_ ?_ ?_ Hc (by refine p7.trans ?_;simp))
      ·exact((aks.grow (ag Bq)).off pj ahz).append (.cons (rdu.off pj λa ha=>by exact cW.symm▸(GL a ha).2) .nil)
      ·rw[IA];exact da.append xH GL
      ·rw[eG,xm];simp[fy,cwu]
      ·simp;exact QG.mp rz
      ·exact T.frame _ _ _ _ (T.frame _ _ _ (WW iy [] [(".acc",[D])]) akx (Off.cN (ag Bq)) C7 D0) pj C7 D0
     ·exact no An
  ·obtain DQ:=M7 yB (JH.mp kl);subst DQ;rw[KN]at uS;have e:=H4 (show hb []=hb _ from uS);subst e;clear uS;refine T.done iz _ _ nZ λh' tk kp=>?_;have wu:=su.oR (Hy:=Hz) (tk:=tk) (T.cP _ _ nZ) se kp (λ_ q=>Hx _ q) (λz hz hw=>IG hz (sZ z hw));have yi:fR (Zs++Hz) iz.heap h':=fR.of (T.cP _ _ nZ) (T.pV _ _ nZ) kp;have xo:=yi _ _ zR (λ_ q=>by cases q) λ_=>bw _ _;obtain⟨m,R,_⟩:=wu.ns;obtain⟨qw,aps,Hd⟩:=wu.same;rw[IA]at p7;subst p7;refine hR D C' _ cs m ⟨qw,aps,Hd,λb o e=>?_⟩ (.list xo ((fv (akm _)).2 (xC.cP yi))) (aV.mpr ⟨Hs rz a8,xm⟩) (λa ha=>?_) EC R
   ·have:=wu.keep b o e Ia;rw[Hd]at this;exact this
   ·clear hR hd hv I hA hs aH E X he yp ht hi ok me mt bind mi pos jk iter jn xo yi wu D0 C7 se uZ cI bI sZ akm DZ cW B0 Bi yn EF z7 below old EC Br Hd aps qw R Es FV FI kp nZ rz xm xC zR su yB kk us akj kS o9 s7 a8 qb hF hS;rcases Hw.mp ha with rfl|ha
    ·exact gQ FE EH
    ·obtain⟨q1,q2⟩:=xH a ha;exact gQ q1 (λq=>q2 (q▸.head _))
 exact codeAny_compStart_list (loop _) (T.self 0 _ _ _ akz (loop _))
def q6(mi:ar->Hp (Hn Ho×Fl))(locs:Hn HP)(bind:V->ar->Hp ar)(mt:ar->Hp Ig)(me:ar->Hp V)(L:ar):Hp (Hn Ho):=
 (mi L).bind λv=>sQ bind mt me (inComp locs L) v.1
variable{mi:ar->Hp (Hn Ho×Fl)}{me:ar->Hp V}
theorem Ev.comp{jn gR iter:HR}{jk:Hn HR}{pos:J3}(ok:jA scope sc locs=Hq)
  (hi:It Y w U n sc gR iter mi)(ht:xW Y w U (dE scope sc) locs gR bind)(yp:ya Y w U n (dE scope sc) jk mt)(he:Ev Y w U n (dE scope sc) jn me):
  Ev Y w U n sc (.ListComp jn [⟨gR,iter,jk,0⟩] scope pos) (λL=>(q6 mi locs bind mt me L).map λys=>⟨.list ys,.d⟩):=by
 intro A Hz K ae X C L O s v Q E hs hA I R hQ;induction dI R with|mk ys p7=>?_
 obtain⟨⟨B,f⟩,hv,hd⟩:=ao p7;obtain OK:=om.of ok;obtain p6:∀p∈scope.names,p.2=.free->∃c,K.cells.lookup p.1=hb c:=λp hp e=>I.rQ p.1 (by unfold KG;exact hs.symm▸OK.free p hp e);refine M5 (g:=⟨gR,iter,jk,0⟩) (gs:=[]) rfl (hi.1 K) (iB p6) OK.kind (λx hx e=>(OK.locs x hx e).1) (oQ OK hi ht yp he hs hA I hv hd λD C' s' cs m k rd cw fr hC hn=>i12 m hn (λh' AE=>?_));obtain k':I8 s {s' with heap:=h'}:=by refine mx k λh1 t1 e1 g1=>?_;clear he yp ht hi ok pos jk iter gR jn p7 p6 OK hd hv f B k R hA hs E v A;subst e1;exact Ct h' t1 rfl (λb o e=>(AE.2 b λq=>by rw[q,hC]at e;exact no e).trans (g1 b o e))
 refine hQ _ _ k' ⟨D::cs,rd.off (W:=[C']) (λb o e hc=>?_) (λa ha=>by simpa using(fr a ha).2),cw,λa ha=>I.fresh (fr a ha).1⟩;refine(AE.2 b λq=>?_).trans e;refine vd hn λo' es ep jU kQ o1=>?_;rcases hc with hc|hc
 ·exact hc (by simp[q])
 ·rw[q,jU]at e;have e:=si e;subst e;clear e;refine pT hc λo1 o2 z=>?_;rw[z]at kQ;cases kQ
section
variable{X:Hn Hv}
theorem du.setG(I:du Y w Hz U ae X K C L O s){v:VV}{m:HP->Hp HE}{tk:HG}(hk:K.kindOf x=hb .local)
  (EE:∀y vv,L y=hb vv->K.kindOf y=hb .local->∃u,m y=hb u/\cj Y w Hz ae.heap (WW K C O) O s.heap y u vv)
  (hn:h'.Ns K.locals (λy=>if y=x then hb u else m y))(hs:∀b o,b≠K.locals->s.heap.get? b=hb o->h'.get? b=hb o)(r:cj Y w Hz ae.heap (WW K C O) O h' x u v):
  du Y w Hz U ae X K C (L.set x v) O {s with heap:=h',toks:=tk}:=by
 have aU:nk [K.locals] (WW K C O) s.heap h':=by refine⟨λa ha=>by exact(HB.mp ha).symm▸.head _,λb o e aO=>hs b o (by simpa using aO) e,λa ha=>?_⟩;refine(HB.mp ha).symm▸vd hn λo es ep ho hd o1=>i12 o ho (λ⟨vs,k,hc⟩=>?_);rw[hc]at hd;cases hd
 refine CQ (I.toInF.wrote aU) λw1 w2 w3 w4 w5=>pT I.same λh0 t0 e0=>?_;have gu:∀c∈C,c≠K.locals:=λc hc e=>by
  have:=I.b9;unfold WW at this;rw[HZ]at this;exact this.1 (e▸HF _ hc)
 refine⟨⟨⟨h',tk,e0▸rfl⟩,w1,w2,w3,w4,I.b8,I.b9,I.kind,I.glob,I.jJ,I.rQ,⟨_,hn,λy vv e1 e2=>?_⟩,λy vv e1 e2=>?_⟩,I.fc,I.ma,λz c hc=>?_⟩
 ·obtain d3:=(eW _ _ _ _).symm.trans e1;by_cases hy:y=x
  ·clear hn e0 t0 h0 w4 w3 w2 w1;subst hy;rw[H5 rfl]at d3;have e:=si d3;subst e;clear d3;exact i12 u (H5 rfl) r
  ·rw[Ir hy]at d3;refine aQ (EE y vv d3 e2) λu' a b=>i12 u' ((Ir λq=>hy q).trans a) (b.wrote w5 aU.same λsp lb a ha=>?_);simpa using(fE I.b9 lb ha).1
 ·obtain hy:y≠x:=λq=>by rw[q,hk]at e2;cases e2
  obtain d3:=(eW _ _ _ _).symm.trans e1;rw[Ir hy]at d3;refine j8 (I.cell y vv d3 e2) λc u' a o1 d=>?_;obtain⟨o,ho,hd⟩:=o1;refine mz c u' a ⟨o,hs c o (gu c (I.ie _ c a).1) ho,hd⟩ (d.wrote w5 aU.same λsp lb a ha=>?_);simpa using(fE I.b9 lb ha).1
 ·obtain⟨q,v,o,ho,hd⟩:=I.ie z c hc;exact⟨q,v,o,hs c o (gu c q) ho,hd⟩
end
noncomputable def sK(sc scope:IH)(x:HP)(line apf:HG):Ig:=
 sc.names.lookup x==hb .local&&line==apf&& !(scope.names.any λp=>p.1==x&&(p.2==.local||p.2==.cell))
variable{jn:HR}
theorem acp{gens:Hn Lb}{line:HG}(hs:K.scope=sc)(hk:sc.kind=.function):
  JU (.ListComp jn gens scope pos) (hb (.Name x p)) line K=pure (sK sc scope x p.line pos.line):=by
 delta JU sK Env.blockKind KG
 simp only[hs,hk];rfl
theorem S1.acy{jk:Hn HR}{p:J3}(ok:jA scope sc locs=Hq)
  (hi:It Y w U n sc gR iter mi)(ht:xW Y w U (dE scope sc) locs gR bind)(yp:ya Y w U n (dE scope sc) jk mt)(he:Ev Y w U n (dE scope sc) jn me)(iS:sK sc scope x p.line p8.line=Hq):
  S1 Y w U n sc (.Assign [.Name x p] (.ListComp jn [⟨gR,iter,jk,0⟩] scope p8) pos) (λL=>(q6 mi locs bind mt me L).map λys=>.next (L.set x (.val ⟨.list ys,.d⟩))):=by
 intro A Hz K ae X C L O s r Q E hs hA I R hQ;induction dI R with|mk ys p7=>?_
 obtain⟨⟨B,f⟩,hv,hd⟩:=ao p7;have OK:=om.of ok;have hk:K.kindOf x=hb .local:=by simp only[sK,HU]at iS;unfold KG;exact hs.symm▸eq_of_beq iS.1.1
 obtain p6:∀p∈scope.names,p.2=.free->∃c,K.cells.lookup p.1=hb c:=λp hp e=>I.rQ p.1 (by unfold KG;exact hs.symm▸OK.free p hp e);obtain aoR:JU (.ListComp jn [⟨gR,iter,jk,0⟩] scope p8) (hb (.Name x p)) pos.line K=pure Hq:=by(refine(acp hs (by exact hs▸I.kind)).trans ?_;exact HL _ iS)
 refine wR (exec_Assign_Name_used _ _ _ _ aoR)<|Ht (M4 (Ht (Ht (Kf (M5 (use:=hb (PySem.assign (.Name x p) K)) (Q:=λ_ s'=>Q .next s') (g:=⟨gR,iter,jk,0⟩) (gs:=[]) rfl (hi.1 K) (iB p6) OK.kind (λx hx e=>(OK.locs x hx e).1) ?_)
  (λ_ s' hq=>HV (HV hq)) λ_ _ e=>e))))
 refine oQ OK hi ht yp he hs hA I.toInF hv hd λD C' s' cs m k rd cw fr hC hn=>aQ I.ns λmL GQ hvL=>?_;obtain hLs:∃o,s.heap.get? K.locals=hb o:=by exact uR GQ λo o1 o2 ho o3=>vb o ho
 have hLC:K.locals≠C':=λq=>by refine dA hLs λo ho=>?_;rw[q,hC]at ho;exact no ho
 refine L5 (Nr hk (GQ.keeps (ag k)) (λmq ao4 iu=>?_) (by refine I.kind.symm▸?_;rfl));refine i12 m (hn.sameBut iu (K9 hLC)) (λm7 iJ=>?_);have kk:∀b o,b≠K.locals->s.heap.get? b=hb o->m7.get? b=hb o:=λb o G7 e=>
  (iJ.2 b λq=>by rw[q,hC]at e;exact no e).trans ((iu.2 b G7).trans (ag k b o e))
 refine mx k λh1 t1 e1 g1=>?_;clear iS he yp ht hi ok p7 hLs aoR p6 OK hd hv f B hC k p R hA hs E r A;subst e1;have fr':∀a∈D::cs,ae.heap.get? a=Hu/\a∉WW K C O:=λa ha=>I.toInF.fresh (fr a ha).1;obtain zV:RD Y w Hz m7 (.ref D) (.list ys) (D::cs):=by
  refine rd.off (W:=[K.locals,C']) (λb o e hc=>?_) λa ha=>?_
  ·obtain G7:b≠K.locals:=λq=>by
    rcases hc with hc|hc
    ·exact hc (by simp[q])
    ·refine vd GQ λo' es ep jU kQ o1=>pT hc λo1 o2 z=>?_;rw[q,g1 _ _ jU]at e;have e:=si e;subst e;clear e;rw[z]at kQ;cases kQ
   obtain hbC:b≠C':=λq=>by
    rcases hc with hc|hc
    ·exact hc (by simp[q])
    ·refine vd hn λo' es ep jU kQ o1=>pT hc λo1 o2 z=>?_;rw[q]at e;rw[e]at jU;have e:=si jU;subst e;clear jU;rw[z]at kQ;cases kQ
   exact(iJ.2 b hbC).trans ((iu.2 b G7).trans e)
  ·simp only[Hw,Ia,Kv,LR];exact gQ (λq=>(fr' a ha).2 (q▸.head _)) (fr a ha).2
 refine hQ O _ (I.setG (u:=.ref D) (v:=.val ⟨.list ys,.d⟩) hk hvL (ao4.sameBut iJ hLC) kk ⟨.inl rfl,D::cs,zV,cw,fr'⟩) ⟨λb o e aO=>kk b o (λq=>aO (q▸.head _)) e,λ_ h=>.inl h⟩
noncomputable def lS:Ho->I2
 |.none=>"NoneType"
 |.bool _=>"bool"
 |.int _=>"int"
 |.str _=>"str"
 |.list _=>"list"
 |.tuple _=>"tuple"
 |.dict _=>"dict"
def xd(T:I2)(x:Ho):Ig:=lS x==T||(lS x=="bool"&&T=="int")
def yV:Ho->Ig
 |.dict aW=> !dQ aW
 |_=>HH
def zE(T:I2)(x:Ho):Hp V:=if yV x=Hq then Hu else hb ⟨.bool (xd T x),.d⟩
structure rZ(T:I2):Prop where
 ty:typeOf (.type T)=pure (.type "type")
 sub:∀x:Ho,Ml (.type (lS x)) (.type T)=pure (xd T x)
theorem rZ.of(ty:typeOf (.type T)=pure (.type "type"))(h1:Ml (.type "NoneType") (.type T)=pure (xd T .none))(h2:Ml (.type "bool") (.type T)=pure (xd T (.bool Hq)))
  (h3:Ml (.type "int") (.type T)=pure (xd T (.int 0)))(h4:Ml (.type "str") (.type T)=pure (xd T (.str KQ)))(h5:Ml (.type "list") (.type T)=pure (xd T (.list [])))(h6:Ml (.type "tuple") (.type T)=pure (xd T (.tuple [])))
  (h7:Ml (.type "dict") (.type T)=pure (xd T (.dict []))):rZ T:=by
 refine⟨ty,λx=>?_⟩;cases x<;>assumption
theorem afY:rZ "int":=by refine .of ?_ ?_ ?_ ?_ ?_ ?_ ?_ ?_<;>first|kernel_rfl|(rw[Ls];kernel_rfl)
theorem aeE:rZ "bool":=by refine .of ?_ ?_ ?_ ?_ ?_ ?_ ?_ ?_<;>first|kernel_rfl|(rw[Ls];kernel_rfl)
theorem afE:rZ "str":=by refine .of ?_ ?_ ?_ ?_ ?_ ?_ ?_ ?_<;>first|kernel_rfl|(rw[Ls];kernel_rfl)
theorem ad7:rZ "list":=by refine .of ?_ ?_ ?_ ?_ ?_ ?_ ?_ ?_<;>first|kernel_rfl|(rw[Ls];kernel_rfl)
theorem acu:rZ "tuple":=by refine .of ?_ ?_ ?_ ?_ ?_ ?_ ?_ ?_<;>first|kernel_rfl|(rw[Ls];kernel_rfl)
variable{x:Ho}
theorem ame(h:xd T x=HH):(LZ (lS x)==LZ T)=HH:=by
 cases e:(LZ (lS x)==LZ T)with
 |false=>rfl
 |true=>have:=eq_of_beq e;cases this;simp[xd]at h
theorem aet(hT:rZ T)(r:RD Y w Hz s.heap u x as)(hi:yV x=HH)
  (h:∀s',I8 s s'->Q (.bool (xd T x)) s'):wpAny (Iq Y w) A (call (.builtin "isinstance") [u,.type T]) Q E s:=by
 have tr:∀{u:HE}{x:Ho},s.TypeIs u (lS x)->(∀s',I8 s s'->Q (.bool (xd T x)) s')->((LZ (lS x)==LZ T)=HH->Ml (.type (lS x)) (.type T)=pure HH->Q (.bool HH) {s with toks:=s.toks+1}->wpAny (Iq Y w) A (call (.builtin "isinstance") [u,.type T]) Q E s)->wpAny (Iq Y w) A (call (.builtin "isinstance") [u,.type T]) Q E s:=λ{u x} hx h f=>by
  have e8:=hT.sub x;cases e:xd T x with
  |true=>rw[e]at e8 h;exact KI (isinstance_true hT.ty e8) ⟨hx,h s (aD s)⟩
  |false=>rw[e]at e8 h;exact f (ame e) e8 (h _ (aK s (s.toks+1)))
 have H:=r.head;clear r;cases x with
 |none=>cases H;exact tr (x:=.none) rfl h λgu e8 hq=>KI (isinstance_false_none gu hT.ty e8) hq
 |bool b=>cases H;exact tr (x:=.bool b) rfl h λgu e8 hq=>KI (isinstance_false_bool gu hT.ty e8) hq
 |int i=>induction H with|mk t=>exact tr (x:=.int i) rfl h λgu e8 hq=>KI (isinstance_false_int gu hT.ty e8) hq
 |str x=>induction H with|mk t=>exact tr (x:=.str x) rfl h λgu e8 hq=>KI (isinstance_false_str gu hT.ty e8) hq
 |list B=>induction H with|mk a vs n bs h1 h2=>exact tr (i12 _ h1 rfl) h λgu e8 hq=>KI (isinstance_false_list gu hT.ty e8) ⟨⟨_,h1,rfl⟩,hq⟩
 |tuple B=>induction H with|mk a vs n h1 hz h2=>exact tr (i12 _ h1 rfl) h λgu e8 hq=>KI (isinstance_false_tuple gu hT.ty e8) ⟨⟨_,h1,rfl⟩,hq⟩
 |dict ps=>induction H.2.2 (by cases e:dQ ps with|true=>rfl|false=>rw[show yV (.dict ps)= !dQ ps from rfl,e]at hi;cases hi)with|mk a aW B bs h1 h2 h3 h4=>exact tr (x:=.dict _) h1.typeIs h λgu e8 hq=>KI (isinstance_false_dict gu hT.ty e8) ⟨h1.typeIs,hq⟩
theorem Ev.alW{tp:J3}(hT:rZ T)(hx:aY sc "isinstance"=Hq)(hg:bt U "isinstance" (.builtin "isinstance"))(vq:aY sc T=Hq)(hg':bt U T (.type T))(h:Ev Y w U n sc e m)
  (he:∀K,Ie [e,.Name (HA T) tp] K=[(HH,Jf e K),(HH,Jf (.Name (HA T) tp) K)]):
  Ev Y w U n sc (.Call (.Name (HA "isinstance") np) [e,.Name (HA T) tp] [] pos) (λL=>(m L).bind λv=>zE T v.x):=by
 intro A Hz K ae X C L O s v Q E hs hA I;refine ak λv hv R hQ=>?_;unfold zE at R;split at R
 ·cases R
 rename_i nc;have e:=si R;subst e;clear R;refine Ht (di I (by exact hs.symm▸hx) hg ?_);rw[he];refine M9 rfl (Nx (Ly (h hs hA I hv λu ay ah aL=>?_)));obtain⟨as,rd,c,_⟩:=aL;exact Ly (di (I.grow ah) (by exact hs.symm▸vq) hg' (LB (aet hT rd (by simpa using nc) λs' k=>hQ _ _ (ab ah k) dK.bool)))
noncomputable def m9:Hn Ho->Hp (Hn HP)
 |[]=>hb []
 |.str x::B=>(m9 B).map (x::·)
 |_::_=>Hu
def pE(sep:HP)(B:Hn Ho):Hp Ho:=
 (m9 B).bind λts=>if JoinOk sep ts=Hq/\wf (.str (Qr sep ts))=Hq then hb (.str (Qr sep ts))else Hu
theorem ab1(h:m9 (x::B)=hb ts):∃s D8,x=.str s/\m9 B=hb D8/\s::D8=ts:=by
 cases x with
 |str s=>exact aQ (H6.mp h) λD8 h1 h2=>mz s D8 rfl h1 h2
 |_=>exact no h
theorem bH.strs(r:bH Y w Hz h vs B as)(e:m9 B=hb ts):∃l,vs=strValues l/\l.map (·.1)=ts:=by
 refine bH.ind (aH:=λvs B _=>∀ts,m9 B=hb ts->∃l,vs=strValues l/\l.map (·.1)=ts) (λts e=>?_) (λa _ r ts e=>?_) r ts e
 ·have e:=si e;subst e;clear e;exact i12 ([]) rfl rfl
 ·refine j8 (ab1 e) λs D8 o1 h1 o2=>?_;subst o1;subst o2;induction a.ij with|mk t=>?_
  exact aQ (r D8 h1) λl e1 e2=>i12 ((s,t)::l) (by refine e1.symm▸?_;rfl) (by refine e2▸?_;rfl)
set_option tactic.hygienic true in
theorem Ev.join{kp ap pos:J3}{e:HR}{m:ar->Hp V}(h:Ev Y w U n sc e m)(hl:(ap.endLine==pos.line)=Hq)(he:∀K,Ie [e] K=[(HH,Jf e K)]):
  Ev Y w U n sc (.Call (.Attribute (.Constant (.str sep) k kp) (HA "join") ap) [e] [] pos) (λL=>(m L).bind λv=>(match v.x with|.list B=>pE sep B|_=>Hu).map λy=>⟨y,.d⟩):=by
 intro A Hz K ae X C L O s v Q E hs hA I;refine ak λa ha R hQ=>?_;induction dI R with|mk y hy=>?_
 refine J5 rfl (by rw[he];rfl) hl F.plainAttrs_str F.slot_str_join F.type_str_join<|Kf (MK (x:=sep) (Q:=λu s'=>∃t,u=.str sep t/\I8 s s') ⟨_,rfl,aK s _⟩) (λu ay hu=>?_) λ_ _ e=>e
 ·clear hl ap kp R v;refine aQ hu λt o1 ah=>?_;subst o1;refine lW (Ql _ _ _) (λ_ e=>nomatch e) ?_;rw[he];refine M9 rfl (Nx (Ly (h hs hA (I.grow ah) ha λu aM aI cY=>LB ?_)));obtain⟨as,rd,c,_⟩:=cY;split at hy
  ·rename_i B hx;rw[hx]at rd;obtain⟨ts,h1,h2⟩:=ao hy;split at h2
   ·rename_i l7;have e:=si h2;subst e;clear h2;obtain H:=rd.listI;clear he h pos c rd hx e hu ha I hA hs X L;induction H with|mk o1 o2 o3 o4 a r=>?_
    clear m;refine aQ (r.strs h1) λl o1 e2=>?_;subst o1;exact SC.join ⟨_,a,rfl,_,rfl⟩ e2 l7.1 λt' k=>hQ _ _ (ab ah (ab aI (aK _ _))) (dK.str l7.2)
   ·exact no h2
  ·exact no hy
set_option tactic.hygienic true in
theorem S1.extend{x:HP}{e:HR}{p ap cp pos:J3}{m:ar->Hp V}(h:Ev Y w U n sc e m)(hv:aA sc x=Hq)(he:∀K,Ie [e] K=[(HH,Jf e K)])(hl:(ap.endLine==cp.line)=Hq)
  (hi:∀K:Ke,K.scope=sc->KJ K=HH):
  S1 Y w U n sc (.Expr (.Call (.Attribute (.Name x p) (HA "extend") ap) [e] [] cp) pos)
   (λL=>match L x with|some (.own (.lst B))=>(m L).bind λv=>(match v.x with|.list ys=>if v.fl=.d/\B.length+ys.length<=sizeLine then hb (.next (L.set x (.own (.lst (B++ys)))))else Hu|_=>Hu)|_=>Hu):=by
 intro A Hz K ae X C L O s r Q E hs hA I R hQ;dsimp only at R;split at R
 ·rename_i B hx;obtain⟨v,k9,R⟩:=ao R;split at R
  ·rename_i ys hy;revert R;refine jl λhz R=>?_
   ·cases R;refine LP (J5 rfl (by rw[he];rfl) hl LY PZ P0 (I.owned (by exact hs.symm▸hv) hx (λ_ _ q=>by cases q) λa hO r=>?_)) (hi K hs);clear hi hl hv pos ap p;induction r.A1 with|mk vs k as a1 b c d=>?_
    refine lW ⟨_,a1,rfl⟩ (λa' ea=>by cases ea;exact⟨_,a1,rfl⟩) ?_;rw[he];show wpAny _ _ (Lq cp (.builtin "list.extend") [.ref a] [(HH,Jf e K)] []) _ _ _;refine Q5 (h hs hA I.toInF k9 λu ay ah aL=>?_);obtain gU:=I.grow ah;have DW:=ag ah _ _ a1;rw[aV]at c;obtain a8:=b.length;obtain⟨bs,rv,cv,ov⟩:=aL;rw[hy]at rv cv;rw[hz.1]at ov;obtain H:=rv.listI;clear he h cp e a1 rv k9 I hA hs E A;induction H with|mk b' ws k2 bs b1 rvs=>?_
    have Al:=rvs.length;rw[aV]at cv;refine Fo b' vs.toArray ws.toArray k k2 (by simp[a8];exact c.1) (by simp[a8,Al];exact JZ hz.2) (PyProof.Rows.extend_door (by simp[a8,Al];exact hz.2)) rfl DW b1<|dA (gn vs k (λB=>B++ws.toArray)) λk' ek=>?_;have hJ:(ay.heap.update a (JB λB=>B++ws.toArray)).get? a=hb (cA (vs++ws) k'):=by rw[Jb _ DW rfl,ek];simp
    refine hQ O _ (gU.tw (tk:=ay.toks) hx hO (JL _ _ _) ⟨_,hJ,bw _ _⟩ λu' r' off=>?_) ((Step.cN (ag ah)).trans (nK hO (JL _ _ _)));clear Al a8 DW gU ek b1 k2 k hO hx hQ Q X;cases r' with
    |lst a2 b2 c2 d2=>
     refine .lst (as:=as++bs) hJ (((b.grow (ag ah)).off off λy hy=>(d y hy).2).append (rvs.off off λy hy=>(ov y (.tail _ hy)).2)) (aV.mpr ⟨by simpa using hz.2,?_⟩) ?_
     ·rw[eG,c.2];exact cv.2
     ·exact da.append d λy hy=>ov y (.tail _ hy)
  ·exact no R
 ·exact no R
def q0(Y:IB)(w:Ja)(U:Iv)(n:HG)(x:HP)(m:Hn Ho->Hp Ho):Prop:=
 ∃a o fd,bt U x (.ref a)/\U.get? a=hb o/\o.data=.func fd/\Fn Y w U n a m
def lD(U:Iv)(x:HP)(sc:IH)(ps:Hn HP)(body:Hn IM):Prop:=∃a,bt U x (.ref a)/\ju U a sc ps body
theorem Fn.mono{m:Hn Ho->Hp Ho}(h:Fn Y w U k jo m)(hk:k<=n):Fn Y w U n jo m:=by intro A Hz s us B as y Q E hA b rd hw R hQ;exact h (hA.mono hk) b rd hw R hQ
variable{x:HP}
theorem q0.of{m:ar->Hp Out}(D:lD U x sc ps body)(h:St Y w U n sc body m)(spec:Hn Ho->Hp Ho)(R:∀B y,spec B=hb y->BE ps m B=hb y):
  q0 Y w U (n+1) x spec:=by
 refine aQ D λa g D=>vd D.there λfo fd args ho hd o1=>A8 a fo fd g ho hd ?_;intro A Hz s us B as y Q E hA b rd hw hy hQ;exact Fn.def D h hA b rd hw (R B y hy) hQ
theorem Ev.def{m:Hn Ho->Hp Ho}(h:q0 Y w U k x m)(yC:rM Y w U n sc es ms)(hx:aY sc x=Hq)(hk:k<=n)
  (er:∀K:Ke,(J4 pos (Ie es K)).any (·.1)=HH):
  Ev Y w U n sc (.Call (.Name x np) es [] pos) (λL=>(ms L).bind λvs=>(m (vs.map (·.x))).map λy=>⟨y,.d⟩):=by
 exact Ax h λa o fd g ho hd hf=>Ev.fn hx g ho hd yC (hf.mono hk) er
structure BF(U:Iv):Prop where
 len:bt U "len" (.builtin "len")
 isinstance:bt U "isinstance" (.builtin "isinstance")
 range:bt U "range" (.type "range")
 int:bt U "int" (.type "int")
 bool:bt U "bool" (.type "bool")
 str:bt U "str" (.type "str")
 list:bt U "list" (.type "list")
 tuple:bt U "tuple" (.type "tuple")
theorem S1.acn{jk:Hn HR}(ok:jA scope sc locs=Hq)
  (hi:It Y w U n sc gR iter mi)(ht:xW Y w U (dE scope sc) locs gR bind)(yp:ya Y w U n (dE scope sc) jk mt)(he:Ev Y w U n (dE scope sc) jn me)(iS:sK sc scope x p.line p8.line=HH)(hk:sc.kind=.function)(hv:aA sc x=Hq):
  S1 Y w U n sc (.Assign [.Name x p] (.ListComp jn [⟨gR,iter,jk,0⟩] scope p8) pos) (λL=>(q6 mi locs bind mt me L).map λys=>.next (L.set x (.val ⟨.list ys,.d⟩))):=by
 obtain h:=S1.assign (x:=x) (p:=p) (pos:=pos) (Ev.comp (pos:=p8) ok hi ht yp he) hv (λK h=>by(refine(acp h hk).trans ?_;exact HL _ iS));intro A Hz K ae X C L O s r Q E hs hA I R hQ;induction dI R with|mk ys p7=>?_
 exact h hs hA I (by dsimp only;refine p7.symm▸?_;rfl) hQ
end
theorem abH{a:HI}(h1: -(2^64)<a)(h2:a<2^64):smallInt a=Hq:=by exact Ip (intBits_le_64 h1 h2)
noncomputable def S(l:Hn HG):HP:=⟨l.toArray⟩
theorem lF(l:Hn HG):(S l).length=l.length:=Jd
theorem qW(a b:Hn HG):S a++S b=S (a++b):=by show Rm _ _=_;simp[S,Rm]
variable{a b:Hn HG}
theorem jt(h:S a=S b):a=b:=by have:=HL Str.cps h;simpa[S]using this
theorem apG:S a=S b↔a=b:=⟨jt,λh=>by rw[h]⟩
theorem apL{l:Hn HG}(h1:l.length<=sizeLine)(h2:∀c∈l,c<0x110000):wf (.str (S l))=Hq:=by rw[iD,lF];refine⟨?_,h1⟩;unfold Ki S;rw[Mn];intro c hc;simpa using h2 c (by simpa using hc)
theorem acZ:∀ts:Hn (Hn HG),Qr KQ (ts.map S)=S ts.flatten:=by
 intro ts;show Rn KQ (ts.map S)=_;rw[StrLaws.glued_eq_join];induction ts with
 |nil=>rfl
 |cons a ts ih=>
  induction ts with
  |nil=>simp[Str.join]
  |cons b ts=>show S a++KQ++Str.join KQ ((b::ts).map S)=_;rw[ih,show KQ=S []from rfl,qW,qW];simp
theorem acE(ts:Hn HP):m9 (ts.map .str)=hb ts:=by
 induction ts with
 |nil=>exact rfl
 |cons t ts bX=>exact HL (Jo (t::·)) bX
theorem aiq{ts:Hn (Hn HG)}(h1:ts.flatten.length<=1000)(h2:ts.length<=1000)(h3:∀t∈ts,∀c∈t,c<0x110000):pE KQ (ts.map λt=>.str (S t))=hb (.str (S ts.flatten)):=by
 obtain e:(ts.map λt=>JF (S t))=(ts.map S).map .str:=by simp
 unfold pE;rw[e,acE];simp only[HT];rw[acZ];refine H5 ⟨?_,apL (Hs h1 (by decide)) λc hc=>?_⟩
 ·obtain hs:((ts.map S).map (·.length)).sum=ts.flatten.length:=by rw[List.length_flatten,Ii];exact HL _ (J0 λt _=>lF t)
  unfold JoinOk Ro;rw[StrLaws.joinTotal,hs];obtain hz:KQ.length=0:=rfl;obtain hl:(1000:HG)<=sizeLine:=by decide
  rw[hz,Nat.mul_zero,Nat.add_zero,JI,Na];exact JH.mpr (Hs h1 hl)
 ·exact aQ (List.mem_flatten.mp hc) λt ht hc=>h3 t ht c hc
variable{α:Type}
theorem pick_run(B:Hn α)(a:HG):∀n,a+n<=B.length->((H0 n).map (λk=>a+k)).filterMap (B[·]?)=(B.drop a).take n:=by
 intro n;induction n with
 |zero=>intro _;exact O9
 |succ n ih=>intro h;rw[P4,HJ,List.filterMap_append,ih (IK h),KD];congr 1;rw[List.getElem?_drop,HS,MX,I1,List.filterMap_nil];rw[HQ (by exact NR h)];rfl
theorem iU(B:Hn α)(a b:HG)(U:b<=B.length):((H0 (b-a)).map (λk=>a+k)).filterMap (B[·]?)=(B.take b).drop a:=by
 rw[List.drop_take];by_cases h:a<=b
 ·exact pick_run B a (b-a) (Hs (JY (Nat.add_sub_cancel' h)) U)
 ·rw[show b-a=0 by exact KZ (IK (PB.mp h))];exact O9
theorem sliceRange_one(a b:HG):ON (a:HI) (b:HI) 1=(H0 (b-a)).map λk=>a+k:=by
 unfold ON;simp only[show(1:HI)>0 by decide,MU];split
 ·have:((b:HI)-a+1-1)/1=((b-a:HG):HI):=by rw[OQ];exact alA ‹_›
  rw[this,ME];exact J0 λk _=>by(rw[Q3];rfl)
 ·have:b-a=0:=KZ (I4.mp (Kq.mp ‹_›));rw[this];rfl
noncomputable def eI(v:Hp HI)(n:HG):HG:=match v with
 |none=>0
 |some i=>if i<0 then(i+n).toNat else min i.toNat n
noncomputable def fg(v:Hp HI)(n:HG):HG:=match v with
 |none=>n
 |some i=>if i<0 then(i+n).toNat else min i.toNat n
theorem oz(v:Hp HI)(n:HG):fg v n<=n:=by
 unfold fg;split
 ·exact Io _
 ·split<;>first|exact tl0 ‹_›|exact I7 _ _
theorem aep(v:Hp HI)(n:HG):eI v n<=n:=by
 unfold eI;split
 ·exact JS _
 ·split<;>first|exact tl0 ‹_›|exact I7 _ _
variable{i:HI}{n:HG}
theorem nw(h:i<0):max 0 (min (i+n) n)=(((i+n).toNat:HG):HI):=by rw[N8 (HY (Md (IZ h) _) (OJ (NL _))),Int.toNat_eq_max,Int.max_comm]
theorem lP(h:¬i<0):max 0 (min i n)=((min i.toNat n:HG):HI):=by
 obtain h':0<=i:=Kq.mp h;rw[MS (Int.le_min.mpr ⟨h',H3 _⟩)];rcases QR i n with q|q
 ·rw[N8 q,Jk (JE.mpr q),Lu h']
 ·rw[PQ q,KP ((Int.le_toNat h').mpr q)]
theorem abS(lo hi:Hp HI)(n:HG):df lo hi Hu n=(H0 (fg hi n-eI lo n)).map λk=>eI lo n+k:=by
 rw[<-sliceRange_one];unfold df Jr;simp only[MF,show(1:HI)>0 by decide,MU];congr 1
 ·cases lo with
  |none=>rfl
  |some i=>
   simp only[eI];split
   ·exact nw ‹_›
   ·exact lP ‹_›
 ·cases hi with
  |none=>rfl
  |some i=>
   simp only[fg];split
   ·exact nw ‹_›
   ·exact lP ‹_›
theorem slice_list(lo hi:Hp HI)(B:Hn Ho):kF lo hi Hu (.list B)=hb (.list ((B.take (fg hi B.length)).drop (eI lo B.length))):=by show(if(Hu:Hp HI)=hb 0 then Hu else hb (Mw ((df lo hi Hu B.length).filterMap (B[·]?))))=_;rw[Ir (by nofun),abS,iU _ _ _ (oz _ _)]
theorem abD(lo hi:Hp HI)(n:HG):IQ lo hi 1 n=(H0 (fg hi n-eI lo n)).map λk=>eI lo n+k:=by
 rw[<-sliceRange_one];unfold IQ;simp only[show(1:HI)>0 by decide,MU];congr 1
 ·cases lo with
  |none=>rfl
  |some i=>
   simp only[eI];split
   ·exact nw ‹_›
   ·exact lP ‹_›
 ·cases hi with
  |none=>rfl
  |some i=>
   simp only[fg];split
   ·exact nw ‹_›
   ·exact lP ‹_›
theorem aey(lo hi:Hp HI)(l:Hn HG):kF lo hi Hu (.str (S l))=hb (.str (S ((l.take (fg hi l.length)).drop (eI lo l.length)))):=by
 unfold kF;simp only[MF,show((1:HI)=0)=Jg by simp,K8];rw[abD,lF];congr 2;split
 ·rename_i h;obtain h2:=h.2;simp at h2;have:=oz hi l.length;have:=aep lo l.length;rw[show eI lo l.length=0 by exact apw h2 ‹_› this,show fg hi l.length=l.length by lia -abstractProof];simp
 ·rw[<-(iU l (eI lo l.length) (fg hi l.length) (oz _ _))];unfold S;simp
noncomputable def zf(bind:V->ar->Hp ar)(test:ar->Hp Ig)(jn:ar->Hp V)(L:ar)(x:Ho):Hp (Hp Ho):=
 (bind (V.fix x .s) L).bind λjw=>(test jw).bind λc=>if c then(jn jw).bind λv=>if v.fl=.d then hb (hb v.x)else Hu else hb Hu
variable{x y:HP}{f g:Fl}
theorem alG(h:x.length+y.length<=sizeLine):gD .Add ⟨.str x,f⟩ ⟨.str y,g⟩=hb ⟨.str (x++y),.d⟩:=by
 have:anV .Add (.str x) (.str y)=hb (.str (x++y)):=by exact(H5 h)
 unfold gD;refine this.symm▸?_;rfl
theorem aez{B:Hn α}{k:HI}(h:0<=k):e7 B k=B[k.toNat]? :=H5 h
theorem aid(h:n<=1000):n<=sizeLine:=Hs h (by decide)
variable{β:Type}
theorem aj5(f:α->β)(l:Hn α):(l.map λj=>[f j]).flatten=l.map f:=by
 induction l with
 |nil=>exact rfl
 |cons a l bX=>(refine HS.symm▸List.flatten_cons.symm▸bX.symm▸?_);rfl
theorem aiI(h:0<=i)(h':i<=n):fg (hb i) n=i.toNat:=by simp only[fg];exact iF (MQ h)<|Jk (JE.mpr h')
theorem adl(h:0<=i)(h':i<=n):eI (hb i) n=i.toNat:=by simp only[eI];exact iF (MQ h)<|Jk (JE.mpr h')
theorem aip:eI Hu n=0:=rfl
theorem af9(h:a.length+b.length<=1000):gD .Add ⟨.str (S a),f⟩ ⟨.str (S b),g⟩=hb ⟨.str (S (a++b)),.d⟩:=by(refine(alG (by rw[lF,lF];exact aid h)).trans ?_;rw[qW])
noncomputable def ql:Hn HG:=(H0 26).map (97+·)
theorem ahB:HA ""=KQ:=by decide +kernel
theorem ac8(h0:0<=i)(h1:i<26):e7 ql i=hb (97+i.toNat):=by refine(aez h0).trans ?_;unfold ql;(refine Iz.trans ?_;rw[Nl ((Lz (by decide)).mpr h1)]);rfl
noncomputable def run(m:ar->Hp Out)(L:ar):Hp Out:=m L
theorem kL(f:HG->α)(n:HG):(H0 (n+1)).map f=(H0 n).map f++[f n]:=by(refine P4.symm▸?_;refine HJ.symm▸?_);rfl
variable{i:HG}
theorem jD(f:HG->α)(h:i<n):((H0 n).map f)[i]? =hb (f i):=by(refine Iz.trans ?_;refine(Nl h).symm▸?_);rfl
mutual
theorem rg:∀x:Ho,nd x=Hq->IX x x=Hq
 |.none,_=>by assumption
 |.bool _,_=>Ih _
 |.int _,_=>Ih _
 |.str _,_=>Ih _
 |.list B,h=>oy B h
 |.tuple B,h=>oy B h
 |.dict _,h=>Iu h
theorem oy:∀B:Hn Ho,xP B=Hq->KE B B=Hq
 |[],_=>by assumption
 |x::B,h=>by
  simp only[xP,HU]at h;simp[KE,rg x h.1,oy B h.2]
end
def plain(k:HG)(x:Ho):Prop:=nd x=Hq/\x.depth<=k
variable{k:HG}{x:Ho}
theorem b7{j:HG}(h:plain j x)(hk:j<=k):plain k x:=⟨h.1,Hs h.2 hk⟩
theorem aay:plain 1 .none:=⟨rfl,JS _⟩
theorem eT(b:HI):plain 1 (.int b):=⟨rfl,JS _⟩
theorem bT(b:HP):plain 1 (.str b):=⟨rfl,JS _⟩
variable{B:Hn Ho}
theorem aan:(∀x∈B,x.depth<=k)->Mb B<=k:=by
 induction B with
 |nil=>intro _;exact JS _
 |cons x B bX=>intro h;obtain h2:=bX λy hy=>h y (.tail _ hy);simp only[Mb];exact Nat.max_le_of_le_of_le (h x (.head _)) h2
theorem cV(h:∀x∈B,plain k x):plain (k+1) (.list B):=by
 refine⟨?_,?_⟩
 ·exact(tx B).mpr λx hx=>(h x hx).1
 ·have:=aan λx hx=>(h x hx).2;simp only[Qc];exact Im this 1
theorem hY(h:∀x∈B,plain k x):plain (k+1) (.tuple B):=by
 refine⟨?_,?_⟩
 ·exact(tx B).mpr λx hx=>(h x hx).1
 ·have:=aan λx hx=>(h x hx).2;simp only[Qc];exact Im this 1
theorem AN(hx:plain 60 x)(hy:plain 60 nV):bV .NotEq x nV=hb (!IX x nV):=by
 have:(nd x&&nd nV&&decide (min x.depth nV.depth<=60))=Hq:=by have:=hx.2;simp only[hx.1,hy.1,MG,Qs,Ik];exact Hs (Mm _ _) this
 exact HL (Jo (!·)) (H5 this)
theorem A6(hx:plain 60 x)(hy:plain 60 nV):bV .Eq x nV=hb (IX x nV):=by
 have:(nd x&&nd nV&&decide (min x.depth nV.depth<=60))=Hq:=by have:=hx.2;simp only[hx.1,hy.1,MG,Qs,Ik];exact Hs (Mm _ _) this
 exact H5 this
theorem aa7(hx:plain 60 x):bV .Eq x x=hb Hq:=by(refine(A6 hx hx).trans ?_;exact HL _ (rg x hx.1))
section
section
variable{ae s s':HM}{X C:Hn Hv}{K:Ke}{L:ar}{O:Hn (HP×Hn Hv)}
theorem du.aiu(I:du Y w Hz U ae X K C L O s)(k:I8 s s')(x:HP){D:Hv}(hD:s.heap.get? D=Hu)(hD':s'.heap.get? D=hb o)(ho:¬jV o):
  du Y w Hz U ae X K C (L.del x) ((x,[D])::O) s':=by
 have hW:∀b,b∈WW K C ((x,[D])::O)->b=D∨b∈WW K C O:=by
  intro b aO;simp only[WW,IF,Hw,HD,Ia,Kv]at aO⊢;rcases aO with h|h|h|h
  ·exact .inr (.inl h)
  ·exact .inr (.inr (.inl h))
  ·exact .inl h
  ·exact .inr (.inr (.inr h))
 obtain g:=ag k;refine ew (I.toInF.fresh hD) λHk DU=>?_;obtain I':=I.grow k;refine⟨⟨I'.same,I'.base,I'.keep,I'.alive,λa ha=>?_,λa ha=>?_,?_,I.kind,I.glob,I.jJ,I.rQ,?_,λy vv e1 e2=>?_⟩,I.fc,I.ma,I'.ie⟩
 ·rcases hW a ha with rfl|ha
  ·exact i12 o hD' ho
  ·exact I'.cO a ha
 ·rcases hW a ha with rfl|ha
  ·refine gQ ?_ (λ_=>Hk);cases e:U.get? a with
   |none=>rfl
   |some o'=>exact no (hD.symm.trans (I.base.grow _ _ e))
  ·exact I.b8 a ha
 ·refine Nw ?_ (HZ.mpr ⟨DU,I.b9⟩);unfold WW;exact IF.symm▸(O6 ..).trans (O7 _ PK.symm)
 ·refine aQ I.ns λm R hv=>i12 m (R.keeps g) (λy vv e1 e2=>?_);have d3:(if y=x then Hu else L y)=hb vv:=e1;by_cases hy:y=x
  ·rw[H5 hy]at d3;exact no d3
  ·rw[Ir hy]at d3;exact aQ (hv y vv d3 e2) λu a b=>i12 u a ((b.more hD hW hy).grow g)
 ·have d3:(if y=x then Hu else L y)=hb vv:=e1;by_cases hy:y=x
  ·rw[H5 hy]at d3;exact no d3
  ·rw[Ir hy]at d3;exact j8 (I.cell y vv d3 e2) λc u a b d=>mz c u a (et b g) ((d.more hD hW hy).grow g)
theorem aef(k:I8 s s')(x:HP){D:Hv}(hD:s.heap.get? D=Hu):Step s.heap s'.heap (WW K C O) (WW K C ((x,[D])::O)):=by
 refine⟨λb ob e _=>ag k b ob e,λb aO=>?_⟩;simp only[WW,IF,Hw,HD,Ia,Kv]at aO⊢;rcases aO with h|h|h|h
 ·exact .inl (.inl h)
 ·exact .inl (.inr (.inl h))
 ·exact .inr (h▸hD)
 ·exact .inl (.inr (.inr h))
end
def BO(Y:IB)(w:Ja)(U:Iv)(n:HG)(sc:IH)(e:HR)(m:ar->Hp (Hn Ho)):Prop:=
 ∀{{A:Jh}} {{Hz:Hn Hv}} {{K:Ke}} {{ae:HM}} {{X C:Hn Hv}} {{L:ar}} {{O:Hn (HP×Hn Hv)}} {{s:HM}} {{ys:Hn Ho}} {{Q:HE->HM->Prop}} {{E:HE->HM->Prop}},
  K.scope=sc->eu A n->InF Y w Hz U ae X K C L O s->m L=hb ys->
  (∀D cs s',I8 s s'->RD Y w Hz s'.heap (.ref D) (.list ys) (D::cs)->wf (.list ys)=Hq->(∀a∈D::cs,s.heap.get? a=Hu)->Q (.ref D) s')->wpAny (Iq Y w) A (Jf e K) Q E s
variable{sc:IH}{bind:V->ar->Hp ar}
theorem BO.comp{jn gR iter:HR}{jk:Hn HR}{pos:J3}{mi:ar->Hp (Hn Ho×Fl)}{mt:ar->Hp Ig}{me:ar->Hp V}(ok:jA scope sc locs=Hq)
  (hi:It Y w U n sc gR iter mi)(ht:xW Y w U (dE scope sc) locs gR bind)(yp:ya Y w U n (dE scope sc) jk mt)(he:Ev Y w U n (dE scope sc) jn me):
  BO Y w U n sc (.ListComp jn [⟨gR,iter,jk,0⟩] scope pos) (q6 mi locs bind mt me):=by
 intro A Hz K ae X C L O s ys Q E hs hA I p7 hQ;obtain⟨⟨B,f⟩,hv,hd⟩:=ao p7;obtain OK:=om.of ok;obtain p6:∀p∈scope.names,p.2=.free->∃c,K.cells.lookup p.1=hb c:=λp hp e=>I.rQ p.1 (by unfold KG;exact hs.symm▸OK.free p hp e);refine M5 (g:=⟨gR,iter,jk,0⟩) (gs:=[]) rfl (hi.1 K) (iB p6) OK.kind (λx hx e=>(OK.locs x hx e).1) (oQ OK hi ht yp he hs hA I hv hd λD C' s' cs m k rd cw fr hC hn=>i12 m hn (λh' AE=>?_));obtain k':I8 s {s' with heap:=h'}:=by refine mx k λh1 t1 e1 g1=>?_;clear he yp ht hi ok pos jk iter gR jn p6 OK hd hv f B k p7 I hA hs E O L C X ae K A;subst e1;exact Ct h' t1 rfl (λb o e=>(AE.2 b λq=>by rw[q,hC]at e;exact no e).trans (g1 b o e))
 refine hQ D cs _ k' (rd.off (W:=[C']) (λb o e hc=>?_) (λa ha=>by simpa using(fr a ha).2)) cw λa ha=>(fr a ha).1;refine(AE.2 b λq=>?_).trans e;refine vd hn λo' es ep jU kQ o1=>?_;rcases hc with hc|hc
 ·exact hc (by simp[q])
 ·rw[q,jU]at e;have e:=si e;subst e;clear e;refine pT hc λo1 o2 z=>?_;rw[z]at kQ;cases kQ
theorem BO.def{x:HP}{k:HG}{es:Hn HR}{np pos:J3}{ms:ar->Hp (Hn V)}{m:Hn Ho->Hp Ho}(h:q0 Y w U k x m)(yC:rM Y w U n sc es ms)(hx:aY sc x=Hq)(hk:k<=n)
  (er:∀K:Ke,(J4 pos (Ie es K)).any (·.1)=HH):
  BO Y w U n sc (.Call (.Name x np) es [] pos) (λL=>(ms L).bind λvs=>(m (vs.map (·.x))).bind λy=>match y with|.list ys=>hb ys|_=>Hu):=by
 refine Ax h λa o fd g ho hd hf=>?_;intro A Hz K ae X C L O s ys Q E hs hA I;refine ak λvs nh=>ak λy hy R hQ=>?_;split at R
 ·have e:=si R;subst e;clear R;refine Ht (di I (by exact hs.symm▸hx) g (dZ (.inr (.inr ⟨a,o,fd,rfl,ho,hd⟩)) (er K) (yC hs hA I nh λus ay ah aL=>⟨(I.grow ah).base.grow,?_⟩)));refine kK aL.yv λas rd c o1=>(hf.mono hk) hA.toRoom (I.grow ah).base rd c hy λu bs s' k ru cu fr=>?_;obtain H:=ru.listI;clear er hk hx yC h pos np es ru c rd aL us hy nh I hA hs E X A hf hd ho g fd o a L;induction H with|mk o1 o2 o3 o4 a1 a2=>?_
  refine hQ _ _ s' (ab ah k) (.list a1 a2) cu λb aO=>?_;clear m ms x a2 a1 o3 o2 cu k s' hQ Q Hz;cases e:s.heap.get? b with
  |none=>rfl
  |some ob=>exact IG (fr b aO) (by refine(ag ah _ _ e).symm▸?_;nofun)
 ·exact no R
theorem S1.apD{x:HP}{e:HR}{p pos:J3}{m:ar->Hp (Hn Ho)}(h:BO Y w U n sc e m)(hv:aA sc x=Hq)(iS:∀K:Ke,K.scope=sc->JU e (hb (.Name x p)) pos.line K=pure HH):
  S1 Y w U n sc (.Assign [.Name x p] e pos) (λL=>(m L).bind λys=>if bZ ys=Hq then hb (.next (L.set x (.own (.lst ys))))else Hu):=by
 intro A Hz K ae X C L O s r Q E hs hA I;refine ak λys p7=>jl λyd R hQ=>?_
 ·have e:=si R;subst e;clear R;refine Kk (h hs hA I.toInF p7 λD cs ay ah rd c fr=>?_) (iS K hs);refine CO rd.fK λo1 o2 o3 o4 q1 q2 a1 a2=>?_;clear iS h pos p rd p7 hA;cases q1;cases q2
  ·obtain e:=a2.bR yd;clear m yd;subst e;obtain hD:=fr D (.head _);refine(I.aiu ah x hD a1 (bw _ _)).store (v:=.own (.lst ys)) (by exact hs.symm▸hv) ⟨[D],by(refine HK.trans ?_;rw[Ih]),.lst a1 a2 c da.nil⟩ λs' I' t=>hQ _ s' (by rw[<-nu];exact I') ((aef ah x hD).trans t)
section
end
def gK:Ho->Hp (Hn (Ho×Ho))
 |.dict aW=>if dQ aW=Hq then hb aW else Hu
 |_=>Hu
theorem gH(h:gK x=hb aW):x=.dict aW/\dQ aW=Hq:=by
 cases x with
 |dict k=>
  change(if dQ k=Hq then hb k else Hu)=hb aW at h;by_cases hp:dQ k=Hq
  ·rw[H5 hp]at h;have e:=si h;subst e;clear h;exact⟨rfl,hp⟩
  ·rw[Ir hp]at h;exact no h
 |_=>exact no h
noncomputable def ry(B:Hn (HI×HP))(k:HI):Hp HP:=(B.find? λp=>p.1=k).map (·.2)
theorem eJ.get{aW:Hn (HI×HE)}(h:eJ aW dU)(k:HI):(K2 aW k=Hu/\ry dU k=Hu)∨∃x t,K2 aW k=hb (.str x t)/\ry dU k=hb x/\(k,x)∈dU:=by
 dsimp only[K2,ry];induction h with
 |nil=>exact .inl ⟨rfl,rfl⟩
 |cons i x t _ ih=>
  refine Lx.symm▸?_;refine Lx.symm▸?_;by_cases e:i=k
  ·exact(Ip e).symm▸.inr ⟨x,t,rfl,rfl,e▸.head _⟩
  ·exact(Iw e).symm▸ih.imp id λ⟨x,t,a,b,c⟩=>⟨x,t,a,b,.tail _ c⟩
def ani(p:Ho×Ho):Hp (HI×HP):=(cD p.1).bind λi=>(fW p.2).map λt=>(i,t)
noncomputable def tA:Hn (Ho×Ho)->Hp (Hn (HI×HP))
 |[]=>hb []
 |p::r=>(ani p).bind λq=>(tA r).map (q::·)
noncomputable def anS:Ho->Hp (Hn (Ho×Ho))
 |.dict aW=>hb aW
 |_=>Hu
def apE(aW:Hn (Ho×Ho)):Hp (Hn (HI×HP)):=match aW with
 |[p]=>(match p.1 with
  |.none=>(anS p.2).bind tA
  |_=>Hu)
 |_=>Hu
def xV(x:Ho):Hp (Hn (HI×HP)):=(anS x).bind apE
theorem acd(B:Hn (HI×HP)):xV (oZ B)=hb B:=by
 show tA (B.map λp=>(.int p.1,.str p.2))=hb B;induction B with
 |nil=>rfl
 |cons p B ih=>show(tA (B.map λp=>(.int p.1,.str p.2))).map (p::·)=_;refine ih.symm▸?_;rfl
theorem agO{B:Hn (HP×Ho)}:xV (dictOf B)=Hu:=by
 cases B with
 |nil=>rfl
 |cons p t=>cases t<;>rfl
def yL(a k d:V):Hp V:=(xV a.x).bind λB=>(cD k.x).map λi=>match ry B i with
 |some x=>⟨.str x,.d⟩
 |none=>d
inductive aoL(k d:V)(B:Hn (HI×HP)):V->Prop
 |mk (i:HI) (hk:k.x=.int i):aoL k d B (match ry B i with|some x=>⟨.str x,.d⟩|none=>d)
theorem aeD(h:yL s6 Bt d=hb v):∃B,xV s6.x=hb B/\aoL Bt d B v:=by obtain⟨B,h1,h⟩:=ao h;exact aQ (H6.mp h) λi h2 h=>h▸i12 B h1 (.mk i (bJ h2))
inductive aoE(Y:IB)(w:Ja)(h:Iv)(u:HE)(x:Ho)(B:Hn (HI×HP)):Prop
 |mk (a:Hv) (h1:u=.ref a) (h2:x=oZ B) (i:lB Y w h a B):aoE Y w h u x B
variable{h:Iv}{u:HE}{as:Hn Hv}
theorem RD.num_inv(r:RD Y w Hz h u x as)(e:xV x=hb dU):aoE Y w h u x dU:=by revert e;refine r.casesOn (λe=>no e) (λ_ e=>no e) (λ_ _ e=>no e) (λ_ _ e=>no e) (λ_ _ e=>no e) (λ_ _ _ e=>no e) (λ_ _ _ _ e=>no (agO.symm.trans e)) (λ_ e=>no e) (λ_ _ e=>no e) (λ_ _ _ _ _ e=>no e) (λi e=>?_);rw[acd]at e;exact(si e)▸⟨_,rfl,rfl,i⟩
variable{e:HR}{ap pos:J3}
theorem Ev.apO{mo me mf:ar->Hp V}(ho:Ev Y w U n sc o mo)(he:Ev Y w U n sc e me)(hf:Ev Y w U n sc jo mf)(hl:(ap.endLine==pos.line)=Hq)
  (d4:∀K:Ke,J2 o (HA "get") K (Jf o K)=Jf o K)(qv:∀K,Ie [e,jo] K=[(HH,Jf e K),(HH,Jf jo K)]):
  Ev Y w U n sc (.Call (.Attribute o (HA "get") ap) [e,jo] [] pos) (λL=>(mo L).bind λa=>(me L).bind λk=>(mf L).bind λd=>yL a k d):=by
 intro A Hz K ae X C L O s v Q E hs hA I;refine ak λa ha=>ak λk hk=>ak λd hd R hQ=>aQ (aeD R) λB hx H=>?_;clear R;obtain⟨kx,kf⟩:=k;induction H with|mk i ek=>?_
 subst ek;refine J5 (d4 K) (by rw[qv];rfl) hl N5 F.slot_dict_get F.type_dict_get (ho hs hA I ha λu ay ah aL=>?_);obtain⟨as,rd,c,fl⟩:=aL;obtain⟨l,rfl,ex,aW,a1,g,b⟩:=rd.num_inv hx;rw[ex,ahq]at c;refine lW a1.typeIs (λa' ea=>by cases ea;exact a1.mapOf.noDict _ rfl) ?_;rw[qv];refine wpAny_dict_get2 (knd:=intKind Y w) g (he hs hA (I.grow ah) hk λrE aM aI cY=>hf hs hA ((I.grow ah).grow aI) hd λaqw dN dO pb=>?_);obtain⟨_,rk,_,_⟩:=cY;obtain H:=rk.dR;clear rk;induction H with|mk t=>?_
 refine mz i _ (intKind_is _ _ _ _) ((a1.keep ((ag aI).trans (ag dO))).mapOf) ?_;obtain kk:=ab ah (ab aI (ab dO (aK _ _)));rcases b.get i with⟨h1,h2⟩|⟨x,t,h1,h2,h3⟩
 ·refine h1.symm▸?_;rw[h2]at hQ;exact hQ _ _ kk (pb.grow (bA.refl _))
 ·refine h1.symm▸?_;rw[h2]at hQ;exact hQ _ _ kk (dK.str (c.2 _ h3))
def nT(Y:IB)(w:Ja)(U:Iv)(x:HP)(d:Ho):Prop:=∃v as,bt U x v/\RD Y w [] U v d as/\wf d=Hq
variable{x:HP}{d:Ho}
theorem Ev.ant(h:nT Y w U x d)(hx:aY sc x=Hq):Ev Y w U n sc (.Name x pos) (λ_=>hb (V.fix d .s)):=by exact j8 h λv as g r c=>Ev.glob hx g r c
theorem S1.afg{m:ar->Hp V}(h:Ev Y w U n sc e m)(ht:Tg Y w U sc gR bind)(iS:∀K:Ke,K.scope=sc->swapsWithSole [gR] e pos.line K=pure HH)
  (hw:∀K:Ke,swappedStores [gR] e K=pure Hu)(he:∀K:Ke,(N3 [gR] K).map (·.2)=[PySem.assign gR K]):
  S1 Y w U n sc (.Assign [gR] e pos) (λL=>(m L).bind λv=>(bind v L).map .next):=by
 intro A Hz K ae X C L O s r Q E hs hA I;refine ak λv hv R hQ=>?_;induction dI R with|mk ft aO=>?_
 refine wpAny_Assign_stores (h hs hA I.toInF hv λu ay ah aL=>?_) (iS K hs) (hw K);rw[he];exact ht hs hA.handled (I.grow ah) aL aO λs' I' T=>hQ O s' I' ((Step.cN (ag ah)).trans T)
inductive BM(Y:IB)(w:Ja)(Hz:Hn Hv)(ae:Iv)(W:Hn Hv)(h:Iv):Hn (HE×HE)->Hn (HP×V)->Prop
 |nil:BM Y w Hz ae W h [] []
 |cons {x:HP} {t:Pk} {u:HE} {v:V} {us:Hn (HE×HE)} {vs:Hn (HP×V)}:wf (.str x)=Hq->dK Y w Hz ae W h u v->BM Y w Hz ae W h us vs->BM Y w Hz ae W h ((.str x t,u)::us) ((x,v)::vs)
def AF(Y:IB)(w:Ja)(U:Iv)(n:HG)(sc:IH)(ks:Hn (Hp HR))(es:Hn HR)(m:ar->Hp (Hn (HP×V))):Prop:=
 ∀{{A:Jh}} {{Hz:Hn Hv}} {{K:Ke}} {{ae:HM}} {{X C:Hn Hv}} {{L:ar}} {{O:Hn (HP×Hn Hv)}} {{s:HM}} {{r:Hn (HP×V)}} {{pos:J3}} {{Q:Hn (HE×HE)->HM->Prop}} {{E:HE->HM->Prop}},
  K.scope=sc->eu A n->InF Y w Hz U ae X K C L O s->m L=hb r->(∀us s',I8 s s'->BM Y w Hz ae.heap (WW K C O) s'.heap us r->Q us s')->wpAny (Iq Y w) A (evalPairs (pairTrees ks es K pos)) Q E s
theorem AF.nil:AF Y w U n sc [] [] (λ_=>hb []):=by intro A Hz K ae X C L O s r pos Q E hs hA I R hQ;(have e:=si R;subst e;clear R);exact Qt (hQ [] s (aD s) .nil)
variable{es:Hn HR}
theorem AF.cons{ks:Hn (Hp HR)}{m:ar->Hp V}{ms:ar->Hp (Hn (HP×V))}(h:Ev Y w U n sc e m)(hr:AF Y w U n sc ks es ms)(hx:wf (.str x)=Hq):
  AF Y w U n sc (hb (.Constant (.str x) k kp)::ks) (e::es) (λL=>do let a<-m L;let r<-ms L;hb ((x,a)::r)):=by
 intro A Hz K ae X C L O s r pos Q E hs hA I;refine ak λa ha=>ak λas has R hQ=>?_;have e:=si R;subst e;clear R;refine Qd (MK ?_);obtain o8:=aK s (s.toks+1);exact h hs hA (I.grow o8) ha λu ay ah aL=>hr hs hA ((I.grow o8).grow ah) has λus aM aI cY=>hQ _ _ (ab o8 (ab ah aI)) (.cons hx (aL.grow (ag aI)) cY)
variable{ae:Iv}{W:Hn Hv}{us:Hn (HE×HE)}
theorem BM.str{vs:Hn (HP×V)}(r:BM Y w Hz ae W h us vs):allStrKeys us=Hq/\(Nb us).map (·.1)=vs.map (·.1):=by
 induction r with
 |nil=>exact⟨rfl,rfl⟩
 |cons _ _ _ ih=>exact⟨ih.1,by simp only[Nb,HS,ih.2]⟩
theorem BM.yv{vs:Hn (HP×V)}(r:BM Y w Hz ae W h us vs)(hf:bZ (vs.map (·.2.x))=Hq):
  bH Y w Hz h ((Nb us).map (·.2)) (vs.map (·.2.x)) []/\(∀p∈vs,wf (.str p.1)=Hq/\wf p.2.x=Hq):=by
 induction r with
 |nil=>exact⟨.nil,λ_ q=>nomatch q⟩
 |cons a b _ ih=>
  simp only[HS,bZ,HU]at hf;obtain⟨as,rd,c,_⟩:=b;have:=rd.bR hf.1;subst this;refine⟨.cons (as:=[]) rd (ih hf.2).1,λp hp=>?_⟩;rcases Hw.mp hp with rfl|hp
  ·exact⟨a,c⟩
  ·exact(ih hf.2).2 p hp
def ajt(r:Hn (HP×V)):Hp V:=if(r.map (·.1)).Nodup/\bZ (r.map (·.2.x))=Hq/\r.length<=sizeLine then hb ⟨dictOf (r.map λp=>(p.1,p.2.x)),.d⟩else Hu
variable{keys:Hn (Hp HR)}{values:Hn HR}
theorem Ev.dict{m:ar->Hp (Hn (HP×V))}(h:AF Y w U n sc keys values m)(iG:keys.all (·.isSome)=Hq)(hl:keys.length=values.length)(h0:keys≠[])
  (a8:keys.length<=15):Ev Y w U n sc (.Dict keys values pos) (λL=>(m L).bind ajt):=by
 intro A Hz K ae X C L O s v Q E hs hA I;refine ak λr hr R hQ=>?_;revert R;refine jl λhc R=>?_
 ·have e:=si R;subst e;clear R;refine Q6 (knd:=strKind Y w) iG hl h0 a8 ?_;obtain o8:=bE s {cls:=.type "dict",data:=.dict #[]};refine h hs hA (I.grow o8) hr λus ay ah aL=>ew aL.str λq1 q2=>ew (aL.yv hc.2.1) λq3 q4=>?_;obtain wk:(s.heap.objs.size==Kd)=HH:=by rw[HO];intro e;refine dA I.base.mods λo ho=>?_;have:=I.base.grow _ _ ho;rw[<-e,aT _ (Io _)]at this;exact no this
  have hd:ay.heap.DictOf (strKind Y w) s.heap.objs.size []:=(MB s.heap).keep (ag ah);refine rL (Nb us) (QS Y w us q1) hd (λh' qx gy=>?_);rw[Qe _ (by rw[q2];exact hc.1)]at qx;obtain g:bA s.heap h':=λb o e=>by
   obtain gu:b≠s.heap.objs.size:=λe'=>by rw[e',aT _ (Io _)]at e;exact no e
   exact(gy.2 b gu).trans<|ag ah _ _ (bA.push _ _ _ _ e)
  obtain of:Off [s.heap.objs.size] ay.heap h':=by
   intro b o e aO;obtain gu:b≠s.heap.objs.size:=by
    rcases aO with aO|⟨vs,kk,rfl⟩
    ·exactλe'=>aO (by rw[e'];exact .head _)
    ·intro e';refine vd hd λo' es ep jU hx o1=>?_;rw[e',jU]at e;have e:=si e;subst e;clear e;have:=hx.1;simp at this
   exact(gy.2 b gu).trans e
  refine mx (ab o8 ah) λh1 t1 e1 o1=>hQ _ _ ⟨h',_,by rw[e1],g⟩ ⟨[s.heap.objs.size],.dict qx wk (by(refine q2.trans ?_;refine Ii.symm▸?_);rfl) ?_,oV.mpr ⟨by simpa using hc.2.2,λp hp=>?_⟩,λa ha=>?_⟩
  ·have:=q3.off of (λ_ q=>nomatch q);exact Ii.symm▸this
  ·refine aQ (HX.mp hp) λq hq o1=>?_;subst o1;exact q4 q hq
  ·exact(HB.mp ha).symm▸I.mT
theorem acx(a b:HG):L6 (a:HI) (b:HI) 1=b-a:=by
 unfold L6;rw[H5 (show(1:HI)>0 by decide),OQ];by_cases h:a<b
 ·rw[H5 (Jj.mpr h),PD];exact QC b a
 ·refine(Ir λq=>h (Jj.mp q)).symm▸(KZ (JQ h)).symm▸?_;rfl
theorem aae(vs:Hn α)(a b:HG):(vs.take (min b vs.length)).drop (min a vs.length)=(vs.take b).drop a:=by
 by_cases U:b<=vs.length
 ·refine(Jk U).symm▸?_;by_cases ha:a<=vs.length
  ·exact Kx (HL _ (Jk ha)) _
  ·refine(MY (by(refine(KP (Ll ha)).symm▸?_;refine J9.symm▸?_);exact I7 _ _)).trans ?_;(exact(MY (by simp;exact Hs (I7 _ _) (IK (PB.mp ha)))).symm)
 ·refine(KP (Ll U)).symm▸JD.symm▸(Kl (Ll U)).symm▸?_;by_cases ha:a<=vs.length
  ·exact Kx (HL _ (Jk ha)) _
  ·exact(KP (Ll ha)).symm▸KN.symm▸(MY (Ll ha)).symm▸rfl
variable{vs:Hn HE}
theorem bH.slice(r:bH Y w Hz h vs B as)(a b:HG):∃bs,bH Y w Hz h ((vs.take b).drop a) ((B.take b).drop a) bs/\∀c∈bs,c∈as:=by refine aQ (r.part ((H0 (min b vs.length-min a vs.length)).map λk=>min a vs.length+k)) λbs q hq=>?_;rw[iU vs _ _ (I7 _ _),aae]at q;rw[show vs.length=B.length from r.length,iU B _ _ (I7 _ _),aae]at q;exact i12 bs q hq
theorem af6{a b:HG}(h:wf (.tuple B)=Hq):wf (.tuple ((B.take b).drop a))=Hq:=by
 rw[dk]at*;refine⟨Hs ?_ h.1,?_⟩
 ·refine Li.symm▸J9.symm▸?_;exact Hs (M1 _ _) (I7 _ _)
 ·exact(cM _).mpr λy hy=>((cM _).mp h.2) y (Kc (Lc hy))
noncomputable def mc(O:Hn (HP×Hn Hv))(x:HP):Hn (HP×Hn Hv):=O.filter λp=>p.1 !=x
variable{O:Hn (HP×Hn Hv)}
theorem acG(h:y≠x):(mc O x).lookup y=O.lookup y:=by
 unfold mc;induction O with
 |nil=>rfl
 |cons p O ih=>
  by_cases hp:p.1=x
  ·rw[Jm (by simp[hp]),ih,HK,HO.mpr (λe=>h (e.trans hp))]
  ·rw[Jy (by simp[hp]),HK,HK,ih]
theorem ady{p:HP×Hn Hv}(h:p∈mc O x):p∈O/\p.1≠x:=by unfold mc at h;rw[KB]at h;exact⟨h.1,by simpa using h.2⟩
theorem lU:((mc O x).flatMap (·.2)).Sublist (O.flatMap (·.2)):=by
 unfold mc;induction O with
 |nil=>exact Me _
 |cons p O ih=>
  by_cases hp:p.1=x
  ·rw[Jm (by simp[hp]),IF];exact ih.trans (Oq _ _)
  ·rw[Jy (by simp[hp]),IF,IF];exact(Me _).append ih
theorem oS{sp sq:Hn Hv}{b:Hv}(hy:y≠x)(h1:b∈sp)(h2:b∈sq):(O.flatMap (·.2)).Nodup->(x,sp)∈O->(y,sq)∈O->Jg:=by
 induction O with
 |nil=>intro _ m _;exact nomatch m
 |cons p O bX=>
  intro nd m1 m2;rw[IF,H8]at nd;rcases Hw.mp m1 with e1|m1<;>rcases Hw.mp m2 with e2|m2
  ·rw[<-e1]at e2;exact hy (HL ND e2)
  ·exact nd.2.2 b (by rw[<-e1];exact h1) b (IS.mpr ⟨_,m2,h2⟩) rfl
  ·exact nd.2.2 b (by rw[<-e2];exact h2) b (IS.mpr ⟨_,m1,h1⟩) rfl
  ·exact bX nd.2.1 m1 m2
theorem da.turn(o:da ae W f as)(al:∀b∈as,∃ob,h.get? b=hb ob)(hW:∀b∈W',b∈W∨h.get? b=Hu):da ae W' f as:=by
 obtain ne:∀b∈as,b∉W->b∉W':=λb U h1 h2=>(hW b h2).elim h1 λe=>by
  exact dA (al b U) λob q=>no (e.symm.trans q)
 induction f with
 |d=>exactλb U=>⟨(o b U).1,ne b U (o b U).2⟩
 |s=>exactλb U=>ne b U (o b U)
 |t=>trivial
variable{h':Iv}
theorem cj.turn{Z:Hn Hv}(k:Off W h h')(k':∀b ob,h.get? b=hb ob->b∉Z->h'.get? b=hb ob)(r:cj Y w Hz ae W O h x u vv)
  (hz:∀sp,O.lookup x=hb sp->∀a∈sp,a∉Z)(hW:∀b∈W',b∈W∨h.get? b=Hu)(hO:O'.lookup x=O.lookup x):cj Y w Hz ae W' O' h' x u vv:=by
 induction vv with
 |val v=>
  refine ew r λf r=>?_;obtain⟨as,r,c,o⟩:=r;refine⟨f,as,r.off k ?_,c,o.turn r.alive hW⟩;rcases f with f|f<;>rw[f]at o
  ·exactλa ha=>(o a ha).2
  ·exact o
 |own o=>
  refine aQ r λsp e r=>i12 sp (hO.trans e) ?_;obtain hz:=hz sp e;induction r with
  |lst a b c d=>exact .lst (k' _ _ a (hz _ (.head _))) (b.off k λx hx=>(d x hx).2) c (d.turn b.alive hW)
  |lq a g=>exact .lq (a.kept λo e _ _=>k' _ o e (hz _ (.head _))) g
  |tree a b c e' f=>exact .tree (a.off (W:=Z) (λb o e q=>q.elim (k' b o e) λt=>k b o e (.inr t)) hz) b c e' f
variable{a:Hv}
theorem dX(r:RD Y w Hz h (.ref a) d as)(hn:dD d=Hq):∃bs,as=a::bs:=by
 cases d with
 |list B=>refine e43 r.fK λa' o1 o2 bs e1 e2 o3=>?_;cases e1;exact⟨bs,e2⟩
 |dict B=>exact mx r.head.1 λa' bs e1 e2=>by cases e1;exact⟨bs,e2⟩
 |_=>cases hn
section
variable{K:Ke}{C:Hn Hv}{eS:Hn Hv}
theorem agR(hO:O.lookup x=hb as)(hn:∀a∈eS,a∈as∨h.get? a=Hu):∀b∈WW K C ((x,eS)::mc O x),b∈WW K C O∨h.get? b=Hu:=by
 intro b aO;unfold WW at aO;rw[IF]at aO;rcases Hw.mp aO with rfl|aO
 ·exact .inl (.head _)
 ·rcases HD.mp aO with aO|aO
  ·exact .inl (I5 _ (HF _ aO))
  ·rcases HD.mp aO with aO|aO
   ·exact(hn b aO).imp (cB hO) id
   ·exact .inl (I5 _ (Hx _ (lU.subset aO)))
variable{ae s:HM}{X:Hn Hv}{L:ar}
theorem du.lV(I:du Y w Hz U ae X K C L O s){x:HP}{ro:Hp Hv}{d d':Ho}{as eS:Hn Hv}{h':Iv}{tk:HG}(hx:L x=hb (.own (.tree ro d)))(hO:O.lookup x=hb as)
  (hs:∀b o,s.heap.get? b=hb o->b∉as->h'.get? b=hb o)(ha:∀a∈as,∃o,h'.get? a=hb o)
  (hn:∀a∈eS,(a∈as∨s.heap.get? a=Hu)/\∃o,h'.get? a=hb o/\¬jV o)(rN:eS.Nodup)(qb:wf d'=Hq)(vo:dD d'=Hq)
  (hr:∀a,RD Y w Hz s.heap (.ref a) d as->RD Y w Hz h' (.ref a) d' eS):
  du Y w Hz U ae X K C (L.set x (.own (.tree ro d'))) ((x,eS)::mc O x) {s with heap:=h',toks:=tk}:=by
 obtain w1:fh Y Hz U h':=⟨λz hz=>by
  obtain⟨q,o,e,t⟩:=I.base.hide z hz;refine⟨q,o,hs z o e (λzY=>?_),t⟩;refine aQ (I.cO z (cB hO zY)) λo' e' nt=>?_;rw[e]at e';have e:=si e';subst e;clear e';exact nt t,I.base.lim,I.base.seer,I.base.tree,I.base.mods,λb o e=>hs b o (I.base.grow b o e) λhz=>by
  exact no (((I.b8 b (cB hO hz)).1).symm.trans e)⟩
 obtain w2:∀b o,ae.heap.get? b=hb o->b∉X->h'.get? b=hb o:=λb o e hx=>hs b o (I.keep b o e hx) λhz=>by
  exact no (((I.b8 b (cB hO hz)).2 hx).symm.trans e)
 obtain w3:∀b o,ae.heap.get? b=hb o->∃o',h'.get? b=hb o':=λb o e=>by
  by_cases hz:b∈as
  ·exact ha b hz
  ·exact dA (I.alive b o e) λo' e'=>vb o' (hs b o' e' hz)
 obtain w5:Off (WW K C O) s.heap h':=λb o e hc=>hs b o e λhz=>by
  rcases hc with hc|hc
  ·exact hc (cB hO hz)
  ·refine aQ (I.cO b (cB hO hz)) λo' e' q=>?_;rw[e]at e';have e:=si e';subst e;clear e';exact q hc
 refine pT I.same λh0 t0 e0=>?_;have hW:=agR (K:=K) (C:=C) hO λa h=>(hn a h).1;have wq:∀a∈as,a≠K.locals/\a∉C:=λa h=>fE I.b9 hO h;have m1:=cH hO;have N:=I.b9;unfold WW at N;rw[HZ,H8]at N;have rK:∀a∈WW K C O,∀b,s.heap.get? b=Hu->a≠b:=λa h b aO e=>by
  refine aQ (I.cO a h) λo q o1=>?_;rw[e,aO]at q;exact no q
 have other:∀y,y≠x->∀sp,O.lookup y=hb sp->∀b∈sp,b∉as:=λy hy sp lb b h1 h2=>oS hy h2 h1 N.2.2.1 m1 (cH lb);have jj:((x,eS)::mc O x).lookup x=hb eS:=by rw[HK,Ih]
 have wB:∀y,y≠x->((x,eS)::mc O x).lookup y=O.lookup y:=λy hy=>by
  rw[HK,HO.mpr hy];exact acG hy
 have aoS:∀u,cj Y w Hz ae.heap (WW K C O) O s.heap x u (.own (.tree ro d))->cj Y w Hz ae.heap (WW K C ((x,eS)::mc O x)) ((x,eS)::mc O x) h' x u (.own (.tree ro d')):=by
  rintro u ⟨sp,e,r⟩;rw[hO]at e;have e:=si e;subst e;clear e;clear ha hO;induction r.pq with|mk _ a b c e f=>?_
  exact i12 eS jj (.tree (hr _ a) rN qb vo f)
 have ahy:∀y,y≠x->∀u vv,cj Y w Hz ae.heap (WW K C O) O s.heap y u vv->cj Y w Hz ae.heap (WW K C ((x,eS)::mc O x)) ((x,eS)::mc O x) h' y u vv:=
  λy hy u vv r=>r.turn w5 hs (other y hy) hW (wB y hy)
 refine⟨⟨⟨h',tk,by rw[e0]⟩,w1,w2,w3,λa h=>?_,λa h=>?_,?_,I.kind,I.glob,I.jJ,I.rQ,?_,λy vv e1 e2=>?_⟩,I.fc,I.ma,λz c hc=>?_⟩
 ·by_cases h2:a∈eS
  ·exact(hn a h2).2
  ·have h3:a∈WW K C O/\a∉as:=by
    unfold WW at h;rw[IF]at h;clear hr vo qb ha hO tk wB jj other w5 w3 w2 w1 e0 t0 h0;rcases Hw.mp h with rfl|q
    ·exact gQ (.head _) (λq=>(wq _ q).1 rfl)
    ·rcases HD.mp q with q|q
     ·exact gQ (I5 _ (HF _ q)) (λq'=>(wq _ q').2 q)
     ·rcases HD.mp q with q|q
      ·exact IG q h2
      ·refine gQ (I5 _ (Hx _ (lU.subset q))) (λq'=>aQ (IS.mp q) λo1 m2 hq=>?_);obtain⟨y,sq⟩:=o1;exact ew (ady m2) λm2 hy=>oS hy q' hq N.2.2.1 m1 m2
   exact aQ (I.cO a h3.1) λo e t=>i12 o (hs a o e h3.2) t
 ·rcases hW a h with h|h
  ·exact I.b8 a h
  ·refine gQ ?_ (λ_=>(I.toInF.fresh h).1);clear hr vo qb ha hO tk wB jj other hW w5 w3 w2 w1 e0 t0 h0;cases e:U.get? a with
   |none=>rfl
   |some o=>exact no (h.symm.trans (I.base.grow _ _ e))
 ·unfold WW;rw[IF,HZ,H8,H8];obtain EN:∀b,b∈(mc O x).flatMap (·.2)->b∈WW K C O:=λb q=>I5 _ (Hx _ (lU.subset q));refine zz (λq=>?_) N.2.1 ⟨rN,N.2.2.1.sublist lU,λa ET b aO e=>?_⟩ (λa ET b aO e=>?_)
  ·rcases HD.mp q with q|q
   ·exact N.1 (HF _ q)
   ·rcases HD.mp q with q|q
    ·rcases(hn _ q).1 with q|q
     ·exact(wq _ q).1 rfl
     ·exact rK _ (.head _) _ q rfl
    ·exact N.1 (Hx _ (lU.subset q))
  ·clear hr vo qb rN ha hO tk wB jj other hW w5 w3 w2 w1 e0 t0 h0;subst e;rcases(hn _ ET).1 with q|q
   ·refine aQ (IS.mp aO) λo1 m2 hq=>?_;obtain⟨y,sq⟩:=o1;exact ew (ady m2) λm2 hy=>oS hy q hq N.2.2.1 m1 m2
   ·exact rK _ (EN _ aO) _ q rfl
  ·clear hr vo qb rN ha hO tk EN wB jj other m1 hW w5 w3 w2 w1 e0 t0 h0;subst e;rcases HD.mp aO with q|q
   ·rcases(hn _ q).1 with q|q
    ·exact(wq _ q).2 ET
    ·exact rK _ (I5 _ (HF _ ET)) _ q rfl
   ·exact N.2.2.2 a ET a (lU.subset q) rfl
 ·refine aQ I.ns λm R hv=>uR R λo es ep ho R=>i12 m ⟨o,es,ep,hs _ _ ho λq=>(wq _ q).1 rfl,R⟩ (λy vv e1 e2=>?_);obtain d3:=(eW _ _ _ _).symm.trans e1;by_cases hy:y=x
  ·clear hr vo qb rN hn ha hO wB jj other rK N m1 hW w5 w3 w2 w1 R e0 t0 h0;subst hy;rw[H5 rfl]at d3;have e:=si d3;subst e;clear d3;exact aQ (hv y _ hx e2) λu b r=>i12 u b (aoS u r)
  ·rw[Ir hy]at d3;exact aQ (hv y vv d3 e2) λu b r=>i12 u b (ahy y hy u vv r)
 ·obtain d3:=(eW _ _ _ _).symm.trans e1;refine aQ (I.fc y e2) λc hc yr=>?_;have EI:c∉as:=λq=>(wq c q).2 yr;by_cases hy:y=x
  ·clear hr vo qb rN hn ha hO wB jj other rK N m1 hW w5 w3 w2 w1 yr e1 e0 t0 h0;subst hy;rw[H5 rfl]at d3;have e:=si d3;subst e;clear d3;refine j8 (I.cell y _ hx e2) λc' u b1 o1 r=>?_;obtain⟨o,ho,b2⟩:=o1;rw[hc]at b1;have e:=si b1;subst e;clear b1;exact mz c u hc ⟨o,hs _ _ ho EI,b2⟩ (aoS u r)
  ·rw[Ir hy]at d3;refine j8 (I.cell y vv d3 e2) λc' u b1 o1 r=>?_;obtain⟨o,ho,b2⟩:=o1;rw[hc]at b1;have e:=si b1;subst e;clear b1;exact mz c u hc ⟨o,hs _ _ ho EI,b2⟩ (ahy y hy u vv r)
 ·obtain⟨q',v,⟨o,ho,hv⟩⟩:=I.ie z c hc;exact⟨q',v,⟨o,hs _ _ ho λq=>(wq c q).2 q',hv⟩⟩
theorem iR(hO:O.lookup x=hb as)(hs:∀b o,s.heap.get? b=hb o->b∉as->h'.get? b=hb o)(hn:∀a∈eS,a∈as∨s.heap.get? a=Hu):
  Step s.heap h' (WW K C O) (WW K C ((x,eS)::mc O x)):=⟨λb o e hw=>hs b o e λq=>hw (cB hO q),agR hO hn⟩
theorem du.oB(I:du Y w Hz U ae X K C L O s){ro:Hp Hv}{A:Jh}{E:HE->HM->Prop}{Q:HE->HM->Prop}(hv:aA K.scope x=Hq)(hx:L x=hb (.own (.tree ro d)))
  (hQ:∀ad as,O.lookup x=hb as->RD Y w Hz s.heap (.ref ad) d as->as.Nodup->wf d=Hq->dD d=Hq->Q (.ref ad) s):wpAny (Iq Y w) A (Jf (.Name x pos) K) Q E s:=by
 simp only[aA,HU,JA,Ik,JI]at hv;obtain⟨hv,hd⟩:=hv;have fin:∀u sp,O.lookup x=hb sp->jz Y w Hz ae.heap (WW K C O) s.heap u (.tree ro d) sp->Q u s:=by
  intro u sp e r;induction r.pq with|mk _ a b c e' f=>?_
  exact hQ _ _ e a b c e'
 rcases hv with hv|hv
 ·obtain⟨m,yh,R⟩:=I.ns;obtain⟨u,hu,sp,e,r⟩:=R x _ hx hv;exact MJ (Lo I.kind hv yh hu (fin u sp e r)) hd
 ·obtain⟨c,u,hc,hu,sp,e,r⟩:=I.cell x _ hx hv;exact MJ (MA I.kind hv hc hu (fin u sp e r)) hd
end
def i0(h h':Iv)(ps:Hn Hv):Prop:=∀b o,h.get? b=hb o->(b∈ps∨jV o)->h'.get? b=hb o
theorem i0.mono(k:i0 h h' ps)(hq:∀b∈qs,b∈ps):i0 h h' qs:=λb o e q=>k b o e (q.imp (hq b) id)
theorem cK:(∀{v x as},RD Y w Hz h v x as->i0 h h' as->RD Y w Hz h' v x as)/\∀{vs B as},bH Y w Hz h vs B as->i0 h h' as->bH Y w Hz h' vs B as:=
 RD.both (λ_=>.none) (λb _=>.bool b) (λi t _=>.int i t) (λi t _=>.str i t) (λa _ r k=>.list (k _ _ a (.inl (.head _))) (r (k.mono λ_ q=>.tail _ q))) (λa z _ r k=>.tuple (k _ _ a (.inr ⟨_,_,rfl⟩)) z (r k))
  (λq g e _ r k=>.dict (by exact uR q λo es ep ho q=>Ar o es ep (k _ _ ho (.inl (.head _))) q) g e (r (k.mono λ_ q=>.tail _ q))) (λi k=>.val (i.kept λc hc o e=>k c o e (.inl hc))) (λi _ r k=>.store (i.kept λc hc o e=>k c o e (.inl (HF _ hc))) (r (k.mono λ_ q=>Hx _ q))) (λi p e n _ r k=>.inst (i.kept (λo eo=>k _ o eo (.inl (.head _))) (λo eo=>k _ o eo (.inl (.tail _ (.head _))))) p e n (r (k.mono λ_ q=>.tail _ (.tail _ q)))) (λi k=>.num (i.kept λo e _ _=>k _ o e (.inl (.head _)))) (λ_=>.nil) (λ_ _ a r k=>.cons (a (k.mono λ_ q=>HF _ q)) (r (k.mono λ_ q=>Hx _ q)))
section
variable(Y w Hz)
inductive xi(h:Iv)(vs:Hn HE)(B:Hn Ho)(i:HG)(x:Ho):Hn Hv->Prop
 |mk (v:HE) (l b m:Hn Hv) (h1:vs[i]? =hb v) (h2:RD Y w Hz h v x b) (h3:∀(h':Iv)x' b',i0 h h' (l++m)->RD Y w Hz h' v x' b'->bH Y w Hz h' vs (B.set i x') (l++(b'++m))):xi h vs B i x (l++(b++m))
end
variable{x:Ho}
theorem bH.hole(r:bH Y w Hz h vs B as)(e:B[i]? =hb x):xi Y w Hz h vs B i x as:=by
 refine bH.ind (aH:=λvs B as=>∀i:HG,B[i]? =hb x->xi Y w Hz h vs B i x as) (λi e=>by simp at e) (λ{u us y ys as bs} a q r i e=>?_) r i e;cases i with
 |zero=>rw[LF]at e;(have e:=si e;subst e;clear e);exact xi.mk (l:=[]) u as bs rfl a λh' x' b' k r'=>show bH Y w Hz h' (u::us) (x'::ys) (b'++bs)from .cons r' (cK.2 q k)
 |succ i=>
  obtain⟨v,l,b,m,h1,h3,h4⟩:=r i e;rw[<-I6];refine⟨v,as++l,b,m,h1,h3,λh' x' b' k r'=>?_⟩;rw[I6];exact .cons (cK.1 a (k.mono λ_ q=>HF _ (HF _ q))) (h4 h' x' b' (k.mono λc q=>by
   rcases HD.mp q with q|q
   ·exact HF _ (Hx _ q)
   ·exact Hx _ q) r')
structure jY(Y:IB)(w:Ja)(Hz:Hn Hv)(h:Iv)(u:HE)(d:Ho)(as:Hn Hv)(v:HE)(x:Ho)(b:Hn Hv)(up:Ho->Ho):Prop where
 node:RD Y w Hz h v x b
 xZ:wf x=Hq
 Ee:∀x',wf x'=Hq->wf (up x')=Hq
 top:∀x',dD x'=Hq->dD (up x')=Hq
 own:dD d=Hq
 split:∃l m,as=l++(b++m)/\∀(h':Iv)x' b',i0 h h' (l++m)->RD Y w Hz h' v x' b'->RD Y w Hz h' u (up x') (l++(b'++m))
theorem jY.root(r:RD Y w Hz h u d as)(c:wf d=Hq)(hn:dD d=Hq):jY Y w Hz h u d as u d as id:=
 ⟨r,c,λ_ q=>q,λ_ q=>q,hn,[],[],by simp,λh' x' b' _ r'=>by simpa using r'⟩
variable{v:HE}{b:Hn Hv}
theorem jY.grow{up:Ho->Ho}(H:jY Y w Hz h u d as v x b up)(k:bA h h'):jY Y w Hz h' u d as v x b up:=by refine mx H.split λl m e f=>⟨H.node.grow k,H.xZ,H.Ee,H.top,H.own,l,m,e,λqw x' b' k' r'=>f qw x' b' (λc o q p=>k' c o (k c o q) p) r'⟩
theorem adW(h:fy B=Hq)(hx:wf x=Hq):fy (B.set i x)=Hq:=by
 rw[cM]at*;intro y hy;rcases List.mem_or_eq_of_mem_set hy with q|q
 ·exact h y q
 ·exact q.symm▸hx
section
variable(Y w Hz)
inductive ajL(h:Iv)(u:HE)(d:Ho)(as:Hn Hv)(B:Hn Ho)(i:HG)(x:Ho)(up:Ho->Ho):HE->Prop
 |mk (a:Hv) (vs:Hn HE) (n:HG) (v':HE) (b':Hn Hv) (h1:h.get? a=hb (cA vs n)) (h2:vs.length=B.length) (h3:vs[i]? =hb v') (h4:jY Y w Hz h u d as v' x b' (λy=>up (.list (B.set i y)))):ajL h u d as B i x up (.ref a)
inductive amR(h:Iv)(u:HE)(d:Ho)(as:Hn Hv)(aW:Hn (Ho×Ho))(k:HP)(x:Ho)(up:Ho->Ho)(f:HP->Ho->Hn (Ho×Ho)->Hn (Ho×Ho)):HE->Prop
 |mk (a:Hv) (ks:Hn (HP×HE)) (v':HE) (b':Hn Hv) (h1:h.DictOf (strKind Y w) a ks) (h2:(a==Kd)=HH) (h3:K2 ks k=hb v') (h4:jY Y w Hz h u d as v' x b' (λy=>up (.dict (f k y aW)))):amR h u d as aW k x up f (.ref a)
end
theorem jY.item{up:Ho->Ho}(H:jY Y w Hz h u d as v (.list B) b up)(e:B[i]? =hb x):
  ajL Y w Hz h u d as B i x up v:=by
 induction H.node.listI with|mk a vs n bs h1 h2=>?_
 induction h2.hole e with|mk v' l' b' m' g1 g3 g4=>?_
 refine mx H.split λl m e' f=>?_;have c:=aV.mp H.xZ;refine⟨a,vs,n,v',b',h1,h2.length,g1,g3,tH c.2 e,λx' vq=>H.Ee _ (aV.mpr ⟨by simpa using c.1,adW c.2 vq⟩),λ_ _=>H.top _ rfl,H.own,l++a::l',m'++m,?_,λh' x' B1 k r'=>?_⟩
 ·rw[e'];simp
 ·have:=f h' (.list (B.set i x')) (a::(l'++(B1++m'))) (k.mono λy hy=>?_) (.list (k _ _ h1 (.inl ?_)) (g4 h' x' B1 (k.mono λy hy=>?_) r'))
  ·simpa using this
  ·simp only[HD,Hw]at hy⊢;rcases hy with hy|hy
   ·exact .inl (.inl hy)
   ·exact .inr (.inr hy)
  ·simp
  ·simp only[HD,Hw]at hy⊢;rcases hy with hy|hy
   ·exact .inl (.inr (.inr hy))
   ·exact .inr (.inl hy)
noncomputable def ll(k:HP)(y:Ho):Hn (Ho×Ho)->Hn (Ho×Ho)
 |[]=>[]
 |(.str x,v)::r=>if x=k then(.str x,y)::r else(.str x,v)::ll k y r
 |p::r=>p::ll k y r
variable{k:HP}{ks:Hn (HP×HE)}
theorem amF:∀{ys:Hn (HP×Ho)},ks.map (·.1)=ys.map (·.1)->atKey k (ys.map λp=>(.str p.1,p.2))=hb x->
  ∃i,(ys.map (·.2))[i]? =hb x/\K2 ks k=(ks.map (·.2))[i]? /\∀y,∃zs:Hn (HP×Ho),ll k y (ys.map λp=>(.str p.1,p.2))=(zs.map λp=>(.str p.1,p.2))/\zs.map (·.1)=ys.map (·.1)/\zs.map (·.2)=(ys.map (·.2)).set i y:=by
 induction ks with
 |nil=>
  intro ys e h;induction ys with
  |nil=>exact no h
  |cons q ys=>cases e
 |cons p ks ih=>
  intro ys e h;induction ys with
  |nil=>cases e
  |cons q ys=>
   refine ew (IP e) λe0 e1=>?_;change(if q.1=k then hb q.2 else atKey k (ys.map λp=>(.str p.1,p.2)))=hb x at h;by_cases hk:q.1=k
   ·rw[H5 hk]at h;have e:=si h;subst e;clear h;refine rL 0 rfl (aao (e0.trans hk)) (λy=>⟨(q.1,y)::ys,?_,rfl,rfl⟩);show(if q.1=k then(JF q.1,y)::_ else _)=_;rw[H5 hk];rfl
   ·rw[Ir hk]at h;refine kK (ih e1 h) λi h1 h2 h3=>rL (i+1) h1 ((aaj λe=>hk (e0.symm.trans e)).trans h2) (λy=>kK (h3 y) λzs g1 g2 g3=>rL (q::zs) ?_ (by rw[HS,HS,g2]) (by rw[HS,HS,g3];rfl));show(if q.1=k then _ else(JF q.1,q.2)::ll k y _)=_;rw[Ir hk,g1];rfl
theorem fY:∀{aW:Hn (Ho×Ho)},x5 aW=Hq↔∀p∈aW,wf p.1=Hq/\wf p.2=Hq
 |[]=>⟨(λ_ _ q=>nomatch q),λ_=>rfl⟩
 |(a,b)::aW=>by simp[x5,fY (aW:=aW),and_assoc]
variable{y:Ho}{aW:Hn (Ho×Ho)}
theorem ag8:∀{p:Ho×Ho},p∈ll k y aW->p∈aW∨∃q∈aW,p=(q.1,y):=by
 induction aW with
 |nil=>exactλh=>nomatch h
 |cons c r ih=>
  intro p h;obtain⟨a,v⟩:=c;have tl:p∈(a,v)::ll k y r->p∈(a,v)::r∨∃q∈(a,v)::r,p=(q.1,y):=λh=>(Hw.mp h).elim (λe=>.inl (e▸.head _)) λh=>(ih h).imp (.tail _) λh=>h.imp λq h=>⟨.tail _ h.1,h.2⟩;cases a with
  |str x=>
   change p∈(if x=k then(JF x,y)::r else(.str x,v)::ll k y r)at h;by_cases e:x=k
   ·rw[H5 e]at h;exact(Hw.mp h).elim (λh=>.inr ⟨(.str x,v),.head _,h⟩) λh=>.inl (.tail _ h)
   ·rw[Ir e]at h;exact tl h
  |_=>exact tl h
theorem ri:∀{aW:Hn (Ho×Ho)},(ll k y aW).length=aW.length
 |[]=>rfl
 |(.str x,v)::r=>by
  show(if x=k then(JF x,y)::r else(.str x,v)::ll k y r).length=_;split
  ·rfl
  ·rw[Ju,ri,Ju]
 |(.none,v)::r|(.bool _,v)::r|(.int _,v)::r|(.list _,v)::r|(.tuple _,v)::r|(.dict _,v)::r=>by
  exact Ju.symm▸ri.symm▸Ju.symm▸rfl
theorem adK(h:wf (.dict aW)=Hq)(hy:wf y=Hq):wf (.dict (ll k y aW))=Hq:=by
 simp only[wf,HU,Ik]at*;refine⟨by rw[ri];exact h.1,fY.mpr λp hp=>?_⟩;rcases ag8 hp with q|⟨q,hq,rfl⟩
 ·exact fY.mp h.2 p q
 ·exact⟨(fY.mp h.2 q hq).1,hy⟩
theorem jY.key{v:HE}{aW:Hn (Ho×Ho)}{b:Hn Hv}{up:Ho->Ho}(H:jY Y w Hz h u d as v (.dict aW) b up)(e:atKey k aW=hb x):
  amR Y w Hz h u d as aW k x up ll v:=by
 induction H.node.nq (H.node.ab6 e)with|mk a ks ys bs b1 b2 b3 b4=>?_
 refine kK (amF b3 e) λi i1 i2 i3=>?_;clear e b aW v;induction b4.hole i1 with|mk v' l' b' m' g1 g3 g4=>?_
 refine mx H.split λl m e' f=>?_;have c:=H.xZ;obtain hx:wf x=Hq:=by simp only[wf,HU]at c;clear b4 bs;refine aQ (HX.mp (Il i1)) λq hq o1=>?_;subst o1;exact vQ c.2 hq
 refine⟨a,ks,v',b',b1,b2,i2.trans g1,g3,hx,λx' vq=>H.Ee _ (adK c vq),λ_ _=>H.top _ rfl,H.own,l++a::l',m'++m,?_,λh' x' B1 k' r'=>?_⟩
 ·rw[e'];simp
 ·refine kK (i3 x') λzs z1 z2 z3=>uR b1 λo es ep ho rest=>?_;obtain z8:RD Y w Hz h' (.ref a) (.dict (ll k x' (ys.map λp=>(.str p.1,p.2)))) (a::(l'++(B1++m'))):=by
   refine z1.symm▸RD.dict (B:=zs) ⟨o,es,ep,(k' _ _ ho (.inl (by simp))),rest⟩ b2 (b3.trans z2.symm) ?_;exact z3.symm▸g4 h' x' B1 (k'.mono λy hy=>by
    simp only[HD,Hw]at hy⊢;rcases hy with hy|hy
    ·exact .inl (.inr (.inr hy))
    ·exact .inr (.inl hy)) r'
  have:=f h' _ _ (k'.mono λy hy=>by
   simp only[HD,Hw]at hy⊢;rcases hy with hy|hy
   ·exact .inl (.inl hy)
   ·exact .inr (.inr hy)) z8
  simpa using this
theorem cL:(∀{v x as},RD Y w Hz h v x as->∀a∈as,∃o,h.get? a=hb o/\¬jV o)/\∀{vs B as},bH Y w Hz h vs B as->∀a∈as,∃o,h.get? a=hb o/\¬jV o:=
 RD.both (λ_ q=>nomatch q) (λ_ _ q=>nomatch q) (λ_ _ _ q=>nomatch q) (λ_ _ _ q=>nomatch q) (λa _ r b q=>(Hw.mp q).elim (λe=>⟨_,e▸a,bw _ _⟩) (r b)) (λ_ _ _ r b q=>r b q)
  (λp _ _ _ r b q=>(Hw.mp q).elim (λe=>by obtain⟨o,_,_,ho,hx,_⟩:=p;exact i12 o (e▸ho) (hZ hx.1)) (r b)) (λi c q=>by obtain⟨m,t,u,i,_⟩:=i;exact i.alive c q) (λi _ r c q=>(HD.mp q).elim (i.alive c) (r c)) (λ{a dx _ _ _ _ _ as} i _ _ _ _ r c q=>(HD.mp (show c∈[a,dx]++as from q)).elim (i.alive c) (r c)) (λi c q=>by exact(HB.mp q).symm▸i.there.imp λ_ h=>⟨h.1,h.2.2⟩) (λ_ q=>nomatch q) (λ_ _ a r b q=>(HD.mp q).elim (a b) (r b))
section
variable{ae s:HM}{X C:Hn Hv}{K:Ke}{L:ar}
theorem du.put(I:du Y w Hz U ae X K C L O s)(kt:I8 s t){ro:Hp Hv}{ad:Hv}{iQ b':Hn Hv}{up:Ho->Ho}(tk:HG)(hx:L gc=hb (.own (.tree ro d)))(hO:O.lookup gc=hb as)(nd:as.Nodup)
  (hu:RD Y w Hz t.heap (.ref ad) d as)(H:jY Y w Hz t.heap (.ref ad) d as (.ref a) y (a::iQ) up)(hs:∀c o,t.heap.get? c=hb o->c≠a->h'.get? c=hb o)(hy:RD Y w Hz h' (.ref a) y' (a::b'))
  (aO:∀c∈b',c∈iQ∨s.heap.get? c=Hu)(qc:b'.Nodup)(hw:wf y'=Hq)(vo:dD y'=Hq):
  ∃O',du Y w Hz U ae X K C (L.set gc (.own (.tree ro (up y')))) O' {s with heap:=h',toks:=tk}/\Step s.heap h' (WW K C O) (WW K C O'):=by
 refine mx H.split λl m e f=>?_;have al:=cL.1 hu;obtain EG:∀c∈as,∃o,s.heap.get? c=hb o/\¬jV o:=λc hc=>I.cO c (cB hO hc);have FR:=cL.1 hy;have ha:a∈as:=by rw[e];simp
 obtain e8:∀c∈iQ,c∈as:=λc hc=>by rw[e];simp[hc]
 have hl:∀c∈l,c∈as:=λc hc=>by rw[e];simp[hc]
 have R:∀c∈m,c∈as:=λc hc=>by rw[e];simp[hc]
 have uk:a∉l/\a∉m/\a∉iQ/\l.Nodup/\m.Nodup/\(∀c∈l,c∉iQ/\c∉m)/\∀c∈iQ,c∉m:=by rw[e]at nd;simp only[H8,Lj,HZ,HD,Hw,LR]at nd;refine xg nd λn1 o1 n7=>?_;obtain⟨⟨n2,n3⟩,n4,n5,n6⟩:=o1;exact i07 (λq=>n7 a q a (.inl rfl) rfl) n3 n2 n1 n5 (λc hc=>⟨λq=>n7 c hc c (.inr (.inl q)) rfl,λq=>n7 c hc c (.inr (.inr q)) rfl⟩) (λc hc q=>n6 c hc c q rfl)
 have wo:∀c∈as,∀c',s.heap.get? c'=Hu->c≠c':=λc hc c' h0 q=>by
  refine aQ (EG c hc) λo ho o1=>?_;rw[q,h0]at ho;exact no ho
 have GS:a∉b':=λq=>(aO a q).elim uk.2.2.1 λh0=>wo a ha a h0 rfl;have old:∀c∈as,∃o,h'.get? c=hb o/\¬jV o:=λc hc=>by
  by_cases q:c=a
  ·clear nd tk kt EG;subst q;exact FR c (.head _)
  ·exact aQ (al c hc) λo ho ht=>i12 o (hs c o ho q) ht
 have new:∀c∈l++(a::b'++m),(c∈as∨s.heap.get? c=Hu)/\∃o,h'.get? c=hb o/\¬jV o:=by
  intro c hc;simp only[HD,Lj,Hw]at hc;rcases hc with hc|hc|hc|hc
  ·exact gQ (.inl (hl c hc)) (old c (hl c hc))
  ·clear nd tk kt EG;subst hc;exact gQ (.inl ha) (old c ha)
  ·exact gQ ((aO c hc).imp (e8 c) id) (FR c (.tail _ hc))
  ·exact gQ (.inl (R c hc)) (old c (R c hc))
 obtain EM:(l++(a::b'++m)).Nodup:=by
  simp only[H8,Lj,HZ,HD,Hw,LR];refine lW uk.2.2.2.1 ⟨⟨GS,uk.2.1⟩,qc,uk.2.2.2.2.1,λc hc c' hU q=>?_⟩ (λc hc c' hU q=>?_)
  ·clear qc nd tk kt GS e8 FR EG;subst q;rcases aO c hc with h0|h0
   ·exact uk.2.2.2.2.2.2 c h0 hU
   ·exact wo c (R c hU) c h0 rfl
  ·clear qc nd tk kt GS R e8 FR EG;subst q;rcases hU with hU|hU|hU
   ·subst hU;exact uk.1 hc
   ·rcases aO c hU with h0|h0
    ·exact(uk.2.2.2.2.2.1 c hc).1 h0
    ·exact wo c (hl c hc) c h0 rfl
   ·exact(uk.2.2.2.2.2.1 c hc).2 hU
 obtain gy:∀c o,s.heap.get? c=hb o->c∉as->h'.get? c=hb o:=λc o q hc=>hs c o ((ag kt) c o q) λq'=>hc (q'▸ha);have hr:∀a',RD Y w Hz s.heap (.ref a') d as->RD Y w Hz h' (.ref a') (up y') (l++(a::b'++m)):=by
  intro a' DY;obtain euu:a'=ad:=by refine dA (dX DY H.own) λo1 q1=>dA (dX hu H.own) λo1 q2=>?_;rw[q1]at q2;exact(IP q2).1
  refine euu.symm▸f h' y' (a::b') (λc o q p=>?_) hy;rcases p with p|p
  ·refine hs c o q λq'=>?_;rw[q']at p;exact(HD.mp p).elim uk.1 uk.2.1
  ·refine hs c o q λq'=>aQ (al a ha) λo' jU ht=>?_;rw[q',jU]at q;have e:=si q;subst e;clear q;exact ht p
 exact i12 _ (I.lV hx hO gy (λc hc=>(old c hc).imp λ_ q=>q.1) new EM (H.Ee _ hw) (H.top _ vo) hr) (iR hO gy λc hc=>(new c hc).1)
end
def place(x k:Ho):Hp (Ho×(Ho->Ho)):=match x with
 |.dict aW=>(fW k).bind λkey=>(atKey key aW).map λy=>(y,λz=>.dict (ll key z aW))
 |.list B=>(cD k).bind λi=>if 0<=i then(B[i.toNat]?).map λy=>(y,λz=>.list (B.set i.toNat z))else Hu
 |_=>Hu
def Pa(Y:IB)(w:Ja)(U:Iv)(n:HG)(sc:IH)(x:HP)(e:HR)(m:ar->Ho->Hp (Ho×(Ho->Ho))):Prop:=
 ∀{{A:Jh}} {{Hz:Hn Hv}} {{K:Ke}} {{ae:HM}} {{X C:Hn Hv}} {{L:ar}} {{O:Hn (HP×Hn Hv)}} {{s:HM}} {{ro:Hp Hv}} {{d y:Ho}} {{up:Ho->Ho}} {{Q:HE->HM->Prop}} {{E:HE->HM->Prop}},
  K.scope=sc->eu A n->du Y w Hz U ae X K C L O s->L x=hb (.own (.tree ro d))->m L d=hb (y,up)->
  (∀ad as v b s',I8 s s'->O.lookup x=hb as->as.Nodup->RD Y w Hz s'.heap (.ref ad) d as->jY Y w Hz s'.heap (.ref ad) d as v y b up->Q v s')->wpAny (Iq Y w) A (Jf e K) Q E s
variable{x:HP}
theorem Pa.name(hv:aA sc x=Hq):Pa Y w U n sc x (.Name x pos) (λ_ d=>hb (d,id)):=by intro A Hz K ae X C L O s ro d y up Q E hs hA I hx R hQ;cases R;exact I.oB (by exact hs.symm▸hv) hx λad as hO r nd c hn=>hQ ad as _ as s (aD s) hO nd r (jY.root r c hn)
theorem Pa.idx{pos:J3}{m:ar->Ho->Hp (Ho×(Ho->Ho))}{mi:ar->Hp V}(h:Pa Y w U n sc x e m)(hi:Ev Y w U n sc BS mi)(gy:∀o j,∃jx,Lp BS HH o j=Nh jx (L2 o j)):
  Pa Y w U n sc x (.Subscript e BS pos) (λL d=>(m L d).bind λp=>(mi L).bind λk=>(place p.1 k.x).map λq=>(q.1,λz=>p.2 (q.2 z))):=by
 intro A Hz K ae X C L O s ro d y up Q E hs hA I hx;refine ak λz0 hz=>ak λz1 hk R hQ=>?_;obtain⟨z,aoW⟩:=z0;obtain⟨k,kf⟩:=z1;refine aQ (H6.mp R) λo1 hp R=>?_;obtain⟨y',f⟩:=o1;cases R;dsimp only at hp;refine PyProof.Rows.Subscript_ (h hs hA I hx hz λad as v b ay ah hO nd r H=>hi hs hA (I.grow ah).toInF hk λu' aM aI cY=>dA (gy v u') λjx eo=>?_);obtain⟨ks,rk,_,_⟩:=cY;have H:=H.grow (ag aI);have r:=r.grow (ag aI);obtain kk:=ab ah aI;clear gy hi h pos aI ah R hk hx I hA hs ro X;cases z with
 |dict aW=>
  obtain⟨key,e1,hp⟩:=ao hp;refine aQ (H6.mp hp) λy'' e2 e3=>?_;clear mi;cases e3;obtain H:=dh e1;clear e1;subst H;have H:=rk.ij;clear rk;induction H with|mk t=>?_
  clear u';induction H.key e2 with|mk a aqi v' b' b1 b2 b3 H'=>?_
  exact PyProof.Rows.tail_any (T:="dict") b1.typeIs Ob.lookup (Om (lC _ _) b1.mapOf b3 (hQ ad as v' b' _ (ab kk (aK aM _)) hO nd r H')) eo
 |list B=>
  obtain⟨i',e1,D3⟩:=ao hp;clear hp;clear mi;obtain rfl:=bJ e1;have H:=rk.dR;clear rk;induction H with|mk t=>?_
  split at D3
  ·rename_i hi0;refine aQ (H6.mp D3) λy'' e2 e3=>?_;clear e1 u';cases e3;induction H.item e2 with|mk a vs n' v' b' b1 b2 b3 H'=>?_
   obtain kl:=(H2.mp b3).1;exact PyProof.Rows.tail_any (T:="list") ⟨_,b1,rfl⟩ NM (N1 ⟨_,b1,rfl,_,rfl⟩ hi0 (Ka (HY (LO _) (I4.mpr (Hs (IK kl) (b2▸((aV.mp H.xZ).1))))) en) (by simpa using b3) (hQ ad as v' b' _ kk hO nd r H')) eo
  ·exact no D3
 |_=>exact no hp
noncomputable def bL(L:ar)(x:HP):Hp (Hp Hv×Ho):=match L x with
 |some (.own (.tree a d))=>hb (a,d)
 |_=>Hu
variable{L:ar}
theorem bU{d:Hp Hv×Ho}(h:bL L x=hb d):L x=hb (.own (.tree d.1 d.2)):=by
 unfold bL at h;generalize L x=o at h⊢;cases o with
 |none=>exact no h
 |some v=>cases v with
  |val _=>exact no h
  |own o=>cases o with
   |tree a d=>(have e:=si h;subst e;clear h);rfl
   |_=>exact no h
noncomputable def listOfD:Ho->Hp (Hn Ho)
 |.list B=>hb B
 |_=>Hu
theorem cU(h:listOfD gc=hb B):gc=.list B:=by
 cases gc with
 |list k=>(have e:=si h;subst e;clear h);rfl
 |_=>exact no h
theorem jY.nodup{up:Ho->Ho}(H:jY Y w Hz h u d as v gc b up)(nd:as.Nodup):b.Nodup:=by refine mx H.split λl m e o1=>?_;rw[e,H8,H8]at nd;exact nd.2.1.1
theorem g7{h':Iv}(nd:(a::iQ).Nodup)(hs:∀c o,h.get? c=hb o->c≠a->h'.get? c=hb o)(ha:∃o,h.get? a=hb o/\¬jV o):i0 h h' iQ:=by
 rw[HZ]at nd;intro c o e q;refine hs c o e λq'=>?_;clear hs h';subst q';rcases q with q|q
 ·exact nd.1 q
 ·refine aQ ha λo' e' t=>?_;rw[e]at e';have e:=si e';subst e;clear e';exact t q
theorem jq{f:PR->PR}:∀c o,h.get? c=hb o->c≠a->(h.update a f).get? c=hb o:=λc _ e hc=>((JL h a f).2 c hc).trans e
def qp(x:HP)(mp:ar->Ho->Hp (Ho×(Ho->Ho)))(m:ar->Hp V):ar->Hp Out:=λL=>(bL L x).bind λd=>(mp L d.2).bind λp=>(listOfD p.1).bind λB=>(m L).bind λv=>if flat v.x=Hq/\B.length+1<=sizeLine then hb (.next (L.set x (.own (.tree d.1 (p.2 (.list (B++[v.x])))))))else Hu
theorem S1.aic{x:HP}{pe e:HR}{ap cp pos:J3}{mp:ar->Ho->Hp (Ho×(Ho->Ho))}{m:ar->Hp V}(hp:Pa Y w U n sc x pe mp)(h:Ev Y w U n sc e m)(he:∀K,Ie [e] K=[(HH,Jf e K)])(hl:(ap.endLine==cp.line)=Hq)
  (d4:∀K:Ke,J2 pe (HA "append") K (Jf pe K)=Jf pe K)(hi:∀K:Ke,K.scope=sc->KJ K=HH):
  S1 Y w U n sc (.Expr (.Call (.Attribute pe (HA "append") ap) [e] [] cp) pos)
   (qp x mp m):=by
 intro A Hz K ae X C L O s r Q E hs hA I;refine ak λd hd=>ak λz1 hy=>ak λB s4=>ak λv hv R hQ=>?_;obtain⟨y,up⟩:=z1;obtain rfl:=cU s4;obtain hx:=bU hd;revert R;refine jl λhz R=>?_
 ·cases R;refine LP (J5 (d4 K) (by rw[he];rfl) hl LY NN NO (hp hs hA I hx hy λad as v' b ay ah hO nd r H=>?_)) (hi K hs);induction H.node.listI with|mk a vs k iQ a1 a2=>?_
  refine lW ⟨_,a1,rfl⟩ (λa' ea=>by cases ea;exact⟨_,a1,rfl⟩) ?_;rw[he];show wpAny _ _ (Lq cp (.builtin "list.append") [.ref a] [(HH,Jf e K)] []) _ _ _;refine OO (h hs hA (I.grow ah).toInF hv λuu aM aI cY=>?_);obtain⟨bs,rv,cv,_⟩:=cY;obtain rfl:=rv.bR hz.1;obtain g:=ag aI;obtain H:=H.grow g;have a1:=g _ _ a1;have a2:=a2.grow g;have c:=aV.mp H.xZ;refine mz vs.toArray k (by simp[a2.length];exact c.1) a1<|dA (gn vs k (λB=>B.push uu)) λk' ek=>?_;obtain hJ:(aM.heap.update a (JB λB=>B.push uu)).get? a=hb (cA (vs++[uu]) k'):=by(refine(Jb _ a1 rfl).trans ?_;refine ek.symm▸?_);simp
  obtain kb:=g7 (H.nodup nd) (jq (h:=aM.heap) (a:=a) (f:=JB λB=>B.push uu)) ⟨_,a1,bw _ _⟩;obtain E1:RD Y w Hz (aM.heap.update a (JB λB=>B.push uu)) (.ref a) (.list (B++[v.x])) (a::(iQ++[])):=
   .list hJ ((cK.2 a2 kb).append (.cons (as:=[]) (cK.1 rv (kb.mono λ_ q=>nomatch q)) .nil))
  refine aQ (((I.grow ah).grow aI).put (aD aM) aM.toks hx hO nd (r.grow g) H jq E1 (λc hc=>.inl (by simpa using hc)) (by simpa using(HZ.mp (H.nodup nd)).2) (aV.mpr ⟨by simpa using hz.2,by rw[eG,c.2];simp[fy,cv]⟩) rfl) λO' I' T'=>?_;exact hQ O' _ I' ((Step.cN (ag (ab ah aI))).trans T')
def rn(x:HP)(mp:ar->Ho->Hp (Ho×(Ho->Ho)))(ms:ar->Hp (Hn V)):ar->Hp Out:=λL=>(bL L x).bind λd=>(mp L d.2).bind λp=>(listOfD p.1).bind λB=>(ms L).bind λvs=>if bZ (vs.map (·.x))=Hq/\vs.length<=sizeLine/\B.length+1<=sizeLine then hb (.next (L.set x (.own (.tree d.1 (p.2 (.list (B++[.list (vs.map (·.x))])))))))else Hu
theorem S1.agh{pe:HR}{es:Hn HR}{lp ap cp pos:J3}{mp:ar->Ho->Hp (Ho×(Ho->Ho))}{ms:ar->Hp (Hn V)}(hp:Pa Y w U n sc x pe mp)(h:rM Y w U n sc es ms)(he:∀K,Ie [.List es lp] K=[(HH,Jf (.List es lp) K)])(hl:(ap.endLine==cp.line)=Hq)
  (d4:∀K:Ke,J2 pe (HA "append") K (Jf pe K)=Jf pe K)(hi:∀K:Ke,K.scope=sc->KJ K=HH):
  S1 Y w U n sc (.Expr (.Call (.Attribute pe (HA "append") ap) [.List es lp] [] cp) pos)
   (rn x mp ms):=by
 intro A Hz K ae X C L O s r Q E hs hA I;refine ak λd hd=>ak λz1 hy=>ak λB s4=>ak λws hv R hQ=>?_;obtain⟨y,up⟩:=z1;obtain rfl:=cU s4;obtain hx:=bU hd;revert R;refine jl λhz R=>?_
 ·clear s4 hd;cases R;refine LP (J5 (d4 K) (by rw[he];rfl) hl LY NN NO (hp hs hA I hx hy λad as v' b ay ah hO nd r H=>?_)) (hi K hs);clear hi d4 hl hp pos ap pe hy;induction H.node.listI with|mk a vs k iQ a1 a2=>?_
  refine lW ⟨_,a1,rfl⟩ (λa' ea=>by cases ea;exact⟨_,a1,rfl⟩) ?_;rw[he];show wpAny _ _ (Lq cp (.builtin "list.append") [.ref a] [(HH,Jf (.List es lp) K)] []) _ _ _;refine OO (OL (h hs hA (I.grow ah).toInF hv λus aM aI cY=>⟨by exact cY.length.symm▸hz.2.1,?_⟩));refine kK cY.yv λbs rv cv o1=>?_;clear he h mp cp lp es o1 cY b v' hv hA hs E A;obtain rfl:=rv.bR hz.1;obtain g:=ag aI;have H:=H.grow g;have a1:=g _ _ a1;have a2:=a2.grow g;have c:=aV.mp H.xZ;obtain gp:=bA.push aM.heap (cA us 0);have FD:aM.heap.get? aM.heap.objs.size=Hu:=aT _ (Io _);obtain hDa:aM.heap.objs.size≠a:=λq=>by rw[q,a1]at FD;cases FD
  refine mz vs.toArray k (by simp[a2.length];exact c.1) (gp _ _ a1) ?_;generalize hDD:aM.heap.objs.size=D at*;refine dA (gn vs k (λB=>B.push (.ref D))) λk' ek=>?_;generalize hh:(aM.heap.push (cA us 0)).update a (JB λB=>B.push (.ref D))=h' at*;obtain hJ:h'.get? a=hb (cA (vs++[.ref D]) k'):=by(refine hh▸?_;(refine(Jb _ (gp _ _ a1) rfl).trans ?_;rw[ek]));simp
  have iG:∀c o,aM.heap.get? c=hb o->c≠a->h'.get? c=hb o:=λc o q hc=>by exact hh▸jq c o (gp c o q) hc
  obtain hDn:h'.get? D=hb (cA us 0):=by exact hh▸jq D _ (by exact hDD▸H7 _ rfl) hDa
  obtain kb:=g7 (H.nodup nd) iG ⟨_,a1,bw _ _⟩;obtain E1:RD Y w Hz h' (.ref a) (.list (B++[.list (ws.map (·.x))])) (a::(iQ++([D]++[]))):=
   .list hJ ((cK.2 a2 kb).append (.cons (.list hDn (cK.2 rv (kb.mono λ_ q=>nomatch q))) .nil))
  have hDb:∀c∈iQ,c≠D:=λc hc q=>by
   refine dA (a2.alive c hc) λo ho=>?_;rw[q,FD]at ho;exact no ho
  obtain⟨O',I',T'⟩:=((I.grow ah).grow aI).put (aD aM) aM.toks hx hO nd (r.grow g) H iG E1 (λc hc=>by
   rcases HD.mp hc with hc|hc
   ·exact .inl hc
   ·rw[IA,HB]at hc;exact .inr (hc▸FD)) (by
   rw[IA,H8];exact lW ((HZ.mp (H.nodup nd)).2) (HZ.mpr ⟨Ia,I9⟩) (λc hc c' hU q=>hDb c hc (q.trans (HB.mp hU)))) (aV.mpr ⟨by simpa using hz.2.2,by
   rw[eG,c.2];have:wf (.list (ws.map (·.x)))=Hq:=aV.mpr ⟨by simpa using hz.2.1,cv⟩;simp[fy,this]⟩) rfl
  exact hQ O' _ I' ((Step.cN (ag (ab ah aI))).trans T')
variable{bs:Hn Hv}
theorem bH.setAt(r:bH Y w Hz h vs B as)(hi:i<B.length)(ru:RD Y w Hz h u y bs):
  ∃l b m,as=l++(b++m)/\bH Y w Hz h (vs.set i u) (B.set i y) (l++(bs++m)):=by
 refine bH.ind (aH:=λvs B as=>∀i:HG,i<B.length->∃l b m,as=l++(b++m)/\bH Y w Hz h (vs.set i u) (B.set i y) (l++(bs++m))) (λi e=>by simp at e) (λ{v vs x B as cs} a q r i e=>?_) r i hi;induction i with
 |zero=>exact Ar ([]) as cs rfl (show bH Y w Hz h (u::vs) (y::B) (bs++cs)from .cons ru q)
 |succ i=>refine uR (r i (Nat.lt_of_succ_lt_succ e)) λl b m h2 h4=>Ar (as++l) b m (by rw[h2,I6]) ?_;rw[I6];exact .cons a h4
def lg(k:HP)(y:Ho)(aW:Hn (Ho×Ho)):Hn (Ho×Ho):=if dz k aW then ll k y aW else aW++[(.str k,y)]
variable{ys:Hn (HP×Ho)}
theorem amj:dz k (ys.map λp=>(.str p.1,p.2))=Hq->∃i,(ys.map (·.1))[i]? =hb k/\∀y,ll k y (ys.map λp=>(.str p.1,p.2))=(ys.set i (k,y)).map λp=>(.str p.1,p.2):=by
 induction ys with
 |nil=>intro h;cases h
 |cons q ys bX=>
  intro h;change(decide (q.1=k)||dz k (ys.map λp=>(.str p.1,p.2)))=Hq at h;by_cases hk:q.1=k
  ·refine i12 0 (hk▸rfl) (λy=>?_);show(if q.1=k then(JF q.1,y)::_ else _)=_;refine iT hk ?_;rw[hk];rfl
  ·rw[Iw hk,Bool.false_or]at h;refine aQ (bX h) λi h1 h2=>i12 (i+1) h1 (λy=>?_);show(if q.1=k then _ else(JF q.1,q.2)::ll k y _)=_;refine iF hk ?_;rw[h2 y];rfl
theorem acA(nd:(ks.map (·.1)).Nodup)(hi:(ks.map (·.1))[i]? =hb k):ML ks k u=ks.set i (k,u):=by
 obtain aqj:ks.any (λkv=>decide (kv.1=k))=Hq:=by exact aQ (HX.mp (Il hi)) λp hp e=>NY.mpr ⟨p,hp,by simpa using e⟩
 unfold ML;refine iT aqj<|NG λj=>?_;refine Iz.trans ?_;rw[NH];by_cases hj:i=j
 ·subst hj;refine DN _ rfl ?_;rw[Iz]at hi;refine aQ (H6.mp hi) λp hp e=>?_;refine hp.symm▸(H5 (H2.mp hp).1).symm▸?_;simp[e]
 ·refine Fa _ hj ?_;cases hp:ks[j]?with
  |none=>rfl
  |some p=>
   have:¬p.1=k:=λe=>by
    obtain h2:(ks.map (·.1))[j]? =hb k:=by(refine Iz.trans ?_;rw[hp]);exact HL hb e
    refine dA (H2.mp hi) λh3 o1=>?_;exact hj ((PE h3 nd).mp (hi.trans h2.symm))
   simp[this]
theorem abC:dz k (ys.map λp=>(.str p.1,p.2))=HH->∀p∈ys,p.1≠k:=by
 induction ys with
 |nil=>intro _ _ h;exact nomatch h
 |cons q ys bX=>
  intro h p hp;change(decide (q.1=k)||dz k (ys.map λp=>(.str p.1,p.2)))=HH at h;rw[Jn]at h;rcases Hw.mp hp with rfl|hp
  ·exact Ji h.1
  ·exact bX h.2 p hp
theorem ahA{iQ:Hn Hv}(nd:(ks.map (·.1)).Nodup)(R:(a==Kd)=HH)(hk:ks.map (·.1)=ys.map (·.1))(r:bH Y w Hz h' (ks.map (·.2)) (ys.map (·.2)) iQ)
  (ru:RD Y w Hz h' u y bs)(hd:h'.DictOf (strKind Y w) a (ML ks k u))(n0:iQ.Nodup)(nb:bs.Nodup)(uU:∀c∈bs,c∉iQ):
  ∃b',RD Y w Hz h' (.ref a) (.dict (lg k y (ys.map λp=>(.str p.1,p.2)))) (a::b')/\b'.Nodup/\∀c∈b',c∈iQ∨c∈bs:=by
 unfold lg;cases hh:dz k (ys.map λp=>(.str p.1,p.2))with
 |true=>
  refine(H5 rfl).symm▸aQ (amj hh) λi h1 h2=>(h2 y).symm▸?_;have yB:i<(ys.map (·.2)).length:=by have:=(H2.mp h1).1;simpa using this
  refine uR (r.setAt yB ru) λl b m e r'=>?_;rw[acA nd (by rw[hk];exact h1)]at hd;obtain aoY:∀{β:Type}(zs:Hn (HP×β))(v:β),zs.map (·.1)=ys.map (·.1)->(zs.set i (k,v)).map (·.1)=ys.map (·.1):=by
   intro β zs v hz;refine NI.trans ?_;rw[hz];refine NG λj=>NH.trans ?_;split
   ·rename_i q;subst q;refine iT (by simpa using yB) ?_;rw[h1]
   ·rfl
  refine rL (l++(bs++m)) (RD.dict (B:=ys.set i (k,y)) hd R ((aoY ks u hk).trans (aoY ys y rfl).symm) (by(refine NI.symm▸?_;refine NI.symm▸?_);exact r')) ?_ (λc hc=>?_)
  ·rw[e]at n0 uU;rw[H8,H8]at n0⊢;refine lW n0.1 ⟨nb,n0.2.1.2.1,λc hc c' hU q=>uU c hc (by rw[q];exact Hx _ (Hx _ (‹_›)))⟩ (λc hc c' hU q=>?_);rcases HD.mp hU with hU|hU
   ·exact uU c' hU (by exact q▸HF _ ‹_›)
   ·exact n0.2.2 c hc c' (Hx _ hU) q
  ·refine e.symm▸?_;simp only[HD]at hc⊢;rcases hc with hc|hc|hc
   ·exact .inl (.inl hc)
   ·exact .inr hc
   ·exact .inl (.inr (.inr hc))
 |false=>
  rw[Ir ID];obtain qv:ML ks k u=ks++[(k,u)]:=by
   unfold ML;rw[Ir];intro q;refine aQ (NY.mp q) λp hp e=>?_;have:p.1∈ys.map (·.1):=by exact hk▸HX.mpr ⟨p,hp,rfl⟩
   exact aQ (HX.mp this) λp' hp' e'=>(abC hh) p' hp' (e'.trans (IW e))
  rw[qv]at hd;refine rL (iQ++(bs++[])) ?_ ?_ (λc hc=>?_)
  ·have:=RD.dict (B:=ys++[(k,y)]) hd R (by(refine HJ.trans ?_;rw[HJ,hk]);rfl) (by rw[HJ,HJ];exact r.append (.cons ru .nil));rw[show(dictOf (ys++[(k,y)]))=.dict ((ys.map λp=>(JF p.1,p.2))++[(.str k,y)]) by unfold dictOf;rw[HJ];rfl]at this;exact this
  ·rw[IA,H8];exact lW n0 nb (λc hc c' hU q=>uU c' hU (q▸hc))
  ·rw[IA]at hc;exact HD.mp hc
theorem aiC(h:wf (.dict aW)=Hq)(hk:wf (.str k)=Hq)(hy:wf y=Hq)(hz:aW.length+1<=sizeLine):wf (.dict (lg k y aW))=Hq:=by
 unfold lg;split
 ·exact adK h hy
 ·simp only[wf,HU,Ik]at h⊢;refine⟨by simpa using hz,fY.mpr λp hp=>?_⟩;rcases HD.mp hp with q|q
  ·exact fY.mp h.2 p q
  ·exact(HB.mp q).symm▸⟨by simpa[wf]using hk,hy⟩
section
theorem ac3(b:h.DictOf (strKind Y w) a ks):(ks.map (·.1)).Nodup:=by obtain⟨_,_,_,_,_,_,_,_,q⟩:=b;exact q
variable{ae s t:HM}{X C:Hn Hv}{K:Ke}
theorem du.ag2{A:Jh}{E:HE->HM->Prop}{Q:Nq->HM->Prop}(I:du Y w Hz U ae X K C L O s)(kt:I8 s t){ro:Hp Hv}{ad:Hv}{d:Ho}{v:HE}{aW:Hn (Ho×Ho)}{b:Hn Hv}{up:Ho->Ho}{tk:Pk}(hx:L x=hb (.own (.tree ro d)))(hO:O.lookup x=hb as)
  (nd:as.Nodup)(hu:RD Y w Hz t.heap (.ref ad) d as)(H:jY Y w Hz t.heap (.ref ad) d as v (.dict aW) b up)(rv:RD Y w Hz t.heap z y bs)(yA:∀c∈bs,s.heap.get? c=Hu)(nb:bs.Nodup)(EX:wf y=Hq)(hwk:wf (.str k)=Hq)(n8:aW.length+1<=sizeLine)(rO:dQ aW=Hq)
  (hQ:∀O' s',du Y w Hz U ae X K C (L.set x (.own (.tree ro (up (.dict (lg k y aW)))))) O' s'->Step s.heap s'.heap (WW K C O) (WW K C O')->Q () s'):wpAny (Iq Y w) A (OG v (.str k tk) z) Q E t:=by
 induction H.node.nq rO with|mk a ks ys iQ b1 b2 b3 b4=>?_
 obtain a8:ks.length=ys.length:=by simpa using HL Km b3
 refine NP (knd:=strKind Y w) (lC _ _) b1 (λh' qx gy=>?_) (by refine a8.symm▸?_;simp at n8;exact NQ n8);have iG:∀c o,t.heap.get? c=hb o->c≠a->h'.get? c=hb o:=λc o q hc=>(gy.2 c hc).trans q;have uk:=H.nodup nd;have D5:=cL.1 H.node a (.head _);have kb:=g7 uk iG D5;have ue:∀c∈bs,c∉as:=λc hc q=>by
  exact aQ (I.cO c (cB hO q)) λo ho o1=>no ((yA c hc).symm.trans ho)
 obtain e8:∀c∈a::iQ,c∈as:=λc hc=>by
  exact mx H.split λl m e o1=>e.symm▸Hx _ (HF _ hc)
 have kv:i0 t.heap h' bs:=λc o q p=>iG c o q λq'=>by
  clear rO tk b aW v E A a8 gy;subst q';rcases p with p|p
  ·exact ue c p (e8 c (.head _))
  ·refine aQ D5 λo' jU ht=>?_;rw[q]at jU;have e:=si jU;subst e;clear jU;exact ht p
 have ndk:=ac3 b1;refine kK (ahA (k:=k) ndk b2 b3 (cK.2 b4 kb) (cK.1 rv kv) qx (HZ.mp uk).2 nb (λc hc q=>ue c hc (e8 c (.tail _ q)))) λb' n1 n2 n3=>aQ (I.put kt (t.toks+1) hx hO nd hu H iG n1 (λc hc=>(n3 c hc).imp id (yA c)) n2 (aiC H.xZ hwk EX n8) rfl) λO' I' T'=>?_;clear rO n8 hwk EX nb yA rv H hu nd hO hx tk b aW v d ad I E A b4 b3 b2 b1 ndk kv e8 ue kb D5 uk iG a8 n3 n2 n1 b' gy qx;refine mx kt λh1 t1 o1 o2=>?_;subst o1;exact hQ O' _ I' T'
end
def AV(x:HP)(mp:ar->Ho->Hp (Ho×(Ho->Ho)))(mi m:ar->Hp V):ar->Hp Out:=λL=>(bL L x).bind λd=>(m L).bind λv=>(mp L d.2).bind λq=>(gK q.1).bind λaW=>(mi L).bind λk=>(fW k.x).bind λkey=>if flat v.x=Hq/\aW.length+1<=sizeLine then hb (.next (L.set x (.own (.tree d.1 (q.2 (.dict (lg key v.x aW)))))))else Hu
theorem S1.apS{x:HP}{pe i e:HR}{p pos:J3}{mp:ar->Ho->Hp (Ho×(Ho->Ho))}{mi m:ar->Hp V}(hp:Pa Y w U n sc x pe mp)(hi:Ev Y w U n sc i mi)(h:Ev Y w U n sc e m)(iS:∀K:Ke,JU e (hb (.Subscript pe i p)) pos.line K=pure HH):
  S1 Y w U n sc (.Assign [.Subscript pe i p] e pos)
   (AV x mp mi m):=by
 intro A Hz K ae X C L O s r Q E hs hA I;refine ak λd hd=>ak λv hv=>ak λz2 hy=>ak λaW AD=>ak λz4 hk=>ak λkey sj R hQ=>?_;obtain⟨y,up⟩:=z2;obtain⟨kx,kf⟩:=z4;dsimp only at AD sj;refine ew (gH AD) λo1 rO=>?_;subst o1;obtain rfl:=dh sj;have hx:=bU hd;revert R;refine jl λhz R=>?_
 ·have e:=si R;subst e;clear R;refine Kr (h hs hA I.toInF hv λz ay ah aL=>hp hs hA (I.grow ah) hx hy λad as v' b aM aI hO nd r H=>hi hs hA ((I.grow ah).grow aI).toInF hk λku dN dO pb=>?_) (iS K);obtain⟨cs,rk,ck,_⟩:=pb;obtain H:=rk.ij;clear rk;induction H with|mk t=>?_
  obtain⟨bs,rv,cv,_⟩:=aL;obtain rfl:=rv.bR hz.1;obtain g:=ag dO;exact I.ag2 (ab ah (ab aI dO)) hx hO nd (r.grow g) (H.grow g) (rv.grow (ag (ab aI dO))) (λ_ q=>nomatch q) I9 cv ck hz.2 rO λO' s' I' T'=>hQ O' s' I' T'
def uI(x:HP)(mp:ar->Ho->Hp (Ho×(Ho->Ho)))(mi:ar->Hp V)(m:ar->Hp (Hn Ho)):ar->Hp Out:=λL=>(bL L x).bind λd=>(m L).bind λys=>(mp L d.2).bind λq=>(gK q.1).bind λaW=>(mi L).bind λk=>(fW k.x).bind λkey=>if bZ ys=Hq/\aW.length+1<=sizeLine then hb (.next (L.set x (.own (.tree d.1 (q.2 (.dict (lg key (.list ys) aW)))))))else Hu
theorem S1.ang{pe i e:HR}{p pos:J3}{mp:ar->Ho->Hp (Ho×(Ho->Ho))}{mi:ar->Hp V}{m:ar->Hp (Hn Ho)}(hp:Pa Y w U n sc x pe mp)(hi:Ev Y w U n sc i mi)(h:BO Y w U n sc e m)(iS:∀K:Ke,JU e (hb (.Subscript pe i p)) pos.line K=pure HH):
  S1 Y w U n sc (.Assign [.Subscript pe i p] e pos)
   (uI x mp mi m):=by
 intro A Hz K ae X C L O s r Q E hs hA I;refine ak λd hd=>ak λys hv=>ak λz2 hy=>ak λaW AD=>ak λz4 hk=>ak λkey sj R hQ=>?_;obtain⟨y,up⟩:=z2;obtain⟨kx,kf⟩:=z4;dsimp only at AD sj;refine ew (gH AD) λo1 rO=>?_;subst o1;clear AD;obtain rfl:=dh sj;have hx:=bU hd;revert R;refine jl λhz R=>?_
 ·have e:=si R;subst e;clear R;refine Kr (h hs hA I.toInF hv λD cs' ay ah rv cv fr=>hp hs hA (I.grow ah) hx hy λad as v' b aM aI hO nd r H=>hi hs hA ((I.grow ah).grow aI).toInF hk λku dN dO pb=>?_) (iS K);obtain⟨cs,rk,ck,_⟩:=pb;obtain H:=rk.ij;clear rk;induction H with|mk t=>?_
  refine CO rv.fK λo1 o2 o3 o4 o5 e2 o6 q=>?_;clear iS h hi hp pos p i pe e o6 o5 o3 ku sj hk hy hv hd hA hs;obtain rfl:=(IP e2).2;clear m mi mp e2 o1;obtain rfl:=q.bR hz.1;obtain g:=ag dO;exact I.ag2 (ab ah (ab aI dO)) hx hO nd (r.grow g) (H.grow g) (rv.grow (ag (ab aI dO))) fr (HZ.mpr ⟨Ia,I9⟩) cv ck hz.2 rO λO' s' I' T'=>hQ O' s' I' T'
def qm(x:HP)(mp:ar->Ho->Hp (Ho×(Ho->Ho)))(m:ar->Hp V):ar->Hp Out:=λL=>(bL L x).bind λd=>(mp L d.2).bind λp=>(listOfD p.1).bind λB=>(m L).bind λv=>(listOfD v.x).bind λys=>if bZ ys=Hq/\B.length+ys.length<=sizeLine/\v.fl=.d then hb (.next (L.set x (.own (.tree d.1 (p.2 (.list (B++ys)))))))else Hu
theorem S1.ahE{pe:HR}{ap cp pos:J3}{mp:ar->Ho->Hp (Ho×(Ho->Ho))}{m:ar->Hp V}(hp:Pa Y w U n sc x pe mp)(h:Ev Y w U n sc e m)(he:∀K,Ie [e] K=[(HH,Jf e K)])(hl:(ap.endLine==cp.line)=Hq)
  (d4:∀K:Ke,J2 pe (HA "extend") K (Jf pe K)=Jf pe K)(hi:∀K:Ke,K.scope=sc->KJ K=HH):
  S1 Y w U n sc (.Expr (.Call (.Attribute pe (HA "extend") ap) [e] [] cp) pos)
   (qm x mp m):=by
 intro A Hz K ae X C L O s r Q E hs hA I;refine ak λd hd=>ak λz1 hy=>ak λB s4=>ak λz3 hv=>ak λys p7 R hQ=>?_;obtain⟨y,up⟩:=z1;obtain⟨vx,vf⟩:=z3;dsimp only at s4 p7;obtain rfl:=cU s4;clear s4;obtain rfl:=cU p7;obtain hx:=bU hd;revert R;refine jl λhz R=>?_
 ·clear p7 hd;cases R;refine LP (J5 (d4 K) (by rw[he];rfl) hl LY PZ P0 (hp hs hA I hx hy λad as v' b ay ah hO nd r H=>?_)) (hi K hs);clear hi d4 hl hp pos ap pe hy;induction H.node.listI with|mk a vs k iQ a1 a2=>?_
  refine lW ⟨_,a1,rfl⟩ (λa' ea=>by cases ea;exact⟨_,a1,rfl⟩) ?_;rw[he];show wpAny _ _ (Lq cp (.builtin "list.extend") [.ref a] [(HH,Jf e K)] []) _ _ _;refine Q5 (h hs hA (I.grow ah).toInF hv λuu aM aI cY=>?_);obtain⟨bs,rv,cv,ov⟩:=cY;dsimp only at rv cv ov;obtain H:=rv.listI;clear rv;induction H with|mk D us k2 wx b1 b2=>?_
  clear he mp cp ov bs uu b v' hv hA hs E A;obtain rfl:=b2.bR hz.1;have g:=ag aI;have H:=H.grow g;have a1:=g _ _ a1;have a2:=a2.grow g;have c:=aV.mp H.xZ;refine Fo D vs.toArray us.toArray k k2 (by simp[a2.length];exact c.1) (by simp[a2.length,b2.length];exact JZ hz.2.1) (PyProof.Rows.extend_door (by simp[a2.length,b2.length];exact hz.2.1)) rfl a1 b1<|dA (gn vs k (λB=>B++us.toArray)) λk' ek=>?_;obtain hJ:(aM.heap.update a (JB λB=>B++us.toArray)).get? a=hb (cA (vs++us) k'):=by(refine(Jb _ a1 rfl).trans ?_;rw[ek]);simp
  obtain kb:=g7 (H.nodup nd) (jq (h:=aM.heap) (a:=a) (f:=JB λB=>B++us.toArray)) ⟨_,a1,bw _ _⟩;obtain E1:RD Y w Hz (aM.heap.update a (JB λB=>B++us.toArray)) (.ref a) (.list (B++ys)) (a::(iQ++[])):=
   .list hJ ((cK.2 a2 kb).append (cK.2 b2 (kb.mono λ_ q=>nomatch q)))
  refine aQ (((I.grow ah).grow aI).put (aD aM) aM.toks hx hO nd (r.grow g) H jq E1 (λc hc=>.inl (by simpa using hc)) (by simpa using(HZ.mp (H.nodup nd)).2) (aV.mpr ⟨by simpa using hz.2.1,by rw[eG,c.2,(aV.mp cv).2];rfl⟩) rfl) λO' I' T'=>?_;exact hQ O' _ I' ((Step.cN (ag (ab ah aI))).trans T')
variable{s:HM}
theorem alD{A:Jh}{E:HE->HM->Prop}{k:HG}{j:HI}{Q:Nq->HM->Prop}(ho:s.heap.get? a=hb (cA vs k))(h0:0<=j)(hz:j<2^63)(hj:j.toNat<vs.length)
  (hQ:Q () {s with heap:=s.heap.update a (JB λys=>ys.setIfInBounds j.toNat v)}):wpAny (Iq Y w) A (OG (.ref a) (.int j t) v) Q E s:=by
 obtain ty:s.TypeIs (.ref a) "list":=⟨_,ho,rfl⟩;obtain get:vs.toArray[j.toNat]? =hb vs[j.toNat]:=by simp[hj]
 obtain body:wpAny (Iq Y w) A.in1 (Builtin.«list.__setitem__» ⟨[.ref a,.int j t,v],[]⟩) (λr s'=>∃x,r=.done (.ret x)/\Q () s') E s:=by change wpAny _ _ (LX (.int j t)>>=_) _ _ s;refine Ht (wpAny_listSubscript_int (fitsIndex_of h0 hz) ?_);clear hz;obtain⟨i,rfl⟩:=MT h0;change wpAny _ _ ((seqItemAt a i>>=λr=>pure (r.map (i,·)))>>=_) _ _ s;refine Ht (Ht (wpAny_seqItemAt ho rfl (HV (get.symm▸?_))));change wpAny _ _ (setSeqItemAt a i v>>=_) _ _ s;exact Ht (wpAny_setSeqItemAt ho rfl (HV ⟨.none,rfl,hQ⟩))
 refine KR<|Ht (Od ty (by decide) (Ht (JV (name:=HA "__setitem__") ty MZ (KU MZ ty Qu (Kf body (λr s' h=>?_) λ_ _ e=>e) (QH _ _ _)))));obtain⟨x,e,q⟩:=h;exact i12 x e (HV q)
def Cj(x:HP)(mp:ar->Ho->Hp (Ho×(Ho->Ho)))(mi m:ar->Hp V):ar->Hp Out:=λL=>(bL L x).bind λd=>(mp L d.2).bind λq=>(listOfD q.1).bind λB=>(mi L).bind λk=>(cD k.x).bind λj=>if 0<=j then(B[j.toNat]?).bind λy=>(cD y).bind λa=>(m L).bind λv=>(cD v.x).bind λb=>hb (.next (L.set x (.own (.tree d.1 (q.2 (.list (B.set j.toNat (.int (a+b)))))))))else Hu
theorem S1.apQ{pe i e:HR}{p pos:J3}{mp:ar->Ho->Hp (Ho×(Ho->Ho))}{mi m:ar->Hp V}(hp:Pa Y w U n sc x pe mp)(hi:Ev Y w U n sc i mi)(h:Ev Y w U n sc e m)
  (DQ:∀ov iv new,augStore i ov iv new=(do Oa [new,ov,iv] (OG ov iv new);release [new,ov,iv] [];pure .next)):
  S1 Y w U n sc (.AugAssign (.Subscript pe i p) .Add e pos)
   (Cj x mp mi m):=by
 intro A Hz K ae X C L O s r Q E hs hA I;refine ak λd hd=>ak λz1 hy=>ak λB s4=>ak λz3 hk=>ak λj hj z6 hQ=>?_;obtain⟨y,up⟩:=z1;obtain⟨kx,kf⟩:=z3;obtain rfl:=cU s4;clear s4;obtain rfl:=bJ hj;obtain hx:=bU hd;split at z6
 ·rename_i G6;obtain⟨o,ho,z6⟩:=ao z6;obtain⟨ai,ha,EU⟩:=ao z6;clear z6;clear hj hd;obtain rfl:=bJ ha;obtain⟨⟨vx,vf⟩,hv,EP⟩:=ao EU;clear EU;obtain⟨bi,hbi,EJ⟩:=ao EP;clear EP;clear ha;obtain rfl:=bJ hbi;have e:=si EJ;subst e;clear EJ;refine wpAny_AugAssign_SubscriptAny (hp hs hA I hx hy λad as v' b ay ah hO nd r H=>hi hs hA (I.grow ah).toInF hk λku aM aI cY=>?_) DQ;obtain⟨cs,rk,ck,_⟩:=cY;have H:=rk.dR;clear rk;induction H with|mk t=>?_
  obtain g:=ag aI;obtain H:=H.grow g;obtain r:=r.grow g;clear DQ hi hp pos p i pe g ck hbi ku hk hy;induction H.node.listI with|mk a vs k iQ a1 a2=>?_
  have c:=aV.mp H.xZ;obtain hz:=en;refine j8 (a2.get ho) λov ob e1 e2 o1=>?_;obtain H:=e2.dR;clear e2;induction H with|mk t'=>?_
  have kl:=(H2.mp e1).1;obtain a8:=a2.length;refine N1 ⟨_,a1,rfl,_,rfl⟩ G6 (Ka (LO _) (x4 (Hs (IK (a8▸kl)) c.1) hz)) (by simpa using e1) (h hs hA ((I.grow ah).grow aI).toInF hv λuu dN dO pb=>?_);obtain⟨bs,rv,cv,_⟩:=pb;obtain H:=rv.dR;clear rv;induction H with|mk t''=>?_
  refine PySem.AutoIntOps.iadd_0 ?_;have kk:=ab ah (ab aI dO);have g3:=ag dO;have H:=H.grow g3;have a1:=g3 _ _ a1;have a2:=a2.grow g3;refine alD a1 G6 (Ka (LO _) (x4 (Hs (IK (a8▸kl)) c.1) hz)) (NR kl)<|dA (gn vs k (λys=>ys.setIfInBounds j.toNat (.int (ai+bi) dN.toks))) λk' ek=>?_;have hJ:(dN.heap.update a (JB λys=>ys.setIfInBounds j.toNat (.int (ai+bi) dN.toks))).get? a=hb (cA (vs.set j.toNat (.int (ai+bi) dN.toks)) k'):=by(refine(Jb _ a1 rfl).trans ?_;rw[ek]);simp
  have kb:=g7 (H.nodup nd) (jq (h:=dN.heap) (a:=a) (f:=JB λys=>ys.setIfInBounds j.toNat (.int (ai+bi) dN.toks))) ⟨_,a1,bw _ _⟩;obtain hjx:=Nv kl a8;refine uR ((cK.2 a2 kb).setAt hjx (.int (ai+bi) dN.toks)) λl b m' eb yv=>?_;have nb:=(HZ.mp (H.nodup nd)).2;obtain⟨O',I',T'⟩:=I.put kk (dN.toks+1) hx hO nd (r.grow g3) H jq (.list hJ yv) (λc hc=>.inl (by
   refine eb.symm▸?_;simp only[HD,Ia,false_or]at hc⊢;exact hc.imp id .inr)) (by
   rw[eb]at nb;simp only[KX];rw[H8,H8]at nb;rw[H8];exact lW nb.1 nb.2.1.2.1 (λc hc c' hU=>nb.2.2 c hc c' (Hx _ hU))) (aV.mpr ⟨by simpa using c.1,adW c.2 rfl⟩) rfl
  clear h mi mp t'' t nb hjx kb hJ a2 a1 g3 a8 kl hz e hx cv hv ho c yv eb m' l ek k' dO uu e1 ov aI H nd hO ah b v' G6 I hA hs E r A;refine mx kk λh1 t1 o1 o2=>?_;subst o1;exact hQ O' _ I' T'
 ·exact no z6
variable{ps:Hn HP}
theorem ly{k:HP->Hp LL}:∀{us:Hn HE}{m c:HP->Hp HE},ps.Nodup->∀{y:HP}{u:HE},(ps.zip us).lookup y=hb u->
  (k y=hb .local->Oc k (ps.zip us) m y=hb u)/\(k y≠hb .local->Ox k (ps.zip us) c y=hb u):=by
 induction ps with
 |nil=>exactλ_ _ _ e=>no e
 |cons p ps ih=>
  intro us m c hn y u e;cases us with
  |nil=>exact no e
  |cons v us=>
  rw[HZ]at hn;simp only[IT,HK]at e;by_cases hy:y=p
  ·subst hy;simp only[Ih]at e;have e:=si e;subst e;clear e;refine⟨λhk=>?_,λhk=>?_⟩
   ·rw[IT,Oc,aam (lY hn.1),H5 hk];exact H5 rfl
   ·rw[IT,Ox,aap (lY hn.1),Ir hk];exact H5 rfl
  ·obtain hyp:(y==p)=HH:=by simpa using hy
   rw[hyp]at e;exact ih hn.2 e
theorem ago{B:Hn α}{us:Hn HE}{y:HP}{x:α}(hl:ps.length=us.length)(h:(ps.zip B).lookup y=hb x):∃u,(ps.zip us).lookup y=hb u:=
 IV.mp (aau hl y (Ky (cH h)).1)
structure pg(Y:IB)(w:Ja)(Hz:Hn Hv)(U h:Iv)(ps:Hn HP)(px:HP)(us:Hn HE)(B:Hn Ho)(a:Hv)(d:Ho)(as:Hn Hv):Prop where
 val:(ps.zip us).lookup px=hb (.ref a)
 dat:(ps.zip B).lookup px=hb d
 tree:RD Y w Hz h (.ref a) d as
 node:dD d=Hq
 nodup:as.Nodup
 new:∀c∈as,U.get? c=Hu
 args:∀y u x,(ps.zip us).lookup y=hb u->(ps.zip B).lookup y=hb x->y≠px->∃bs,RD Y w Hz h u x bs/\∀c∈bs,c∉as
variable{px:HP}
theorem du.wi{s':HM}(b:fh Y Hz U s.heap)(ni:K.scope=sc)(hk:sc.kind=.function)(hg:K.globals=I3)(uV:K.builtins=K1)
  (pn:K.cells=LV (K.locals+1) sc.names [])(Aj:j4 sc=Hq)(rN:ps.Nodup)(rd:bH Y w Hz s.heap yk B pM)(hw:fy B=Hq)(a8:ps.length=yk.length)(T:pg Y w Hz U s.heap ps px yk B a d as)
  (x:InCallC s K.locals (Oc K.kindOf (ps.zip yk) λ_=>Hu) K.cells (Ox K.kindOf (ps.zip yk) λ_=>Hu) s'):
  du Y w Hz U s as K (K.cells.map (·.2)) ((nO ps B).set px (.own (.tree (hb a) d))) [(px,as)] s':=by
 have I:=du.start (w:=w) b ni hk hg uV pn Aj rN rd hw x;have keep:=x.toInCall.keep;have De:∀c,c∈WW K (K.cells.map (·.2)) [(px,as)]↔c∈WW K (K.cells.map (·.2)) []∨c∈as:=by intro c;simp[WW,or_assoc]
 have ue:∀c∈WW K (K.cells.map (·.2)) [],s.heap.get? c=Hu:=λc hc=>(I.b8 c hc).2 Ia;have yG:=cL.1 T.tree;obtain gu:∀c∈WW K (K.cells.map (·.2)) [],c∉as:=λc hc q=>by
  exact aQ (yG c q) λo e o1=>no ((ue c hc).symm.trans e)
 have vars:∀y vv,((nO ps B).set px (.own (.tree (hb a) d))) y=hb vv->∃u,cj Y w Hz s.heap (WW K (K.cells.map (·.2)) [(px,as)]) [(px,as)] s'.heap y u vv/\
   (K.kindOf y=hb .local->Oc K.kindOf (ps.zip yk) (λ_=>Hu) y=hb u)/\(K.kindOf y≠hb .local->Ox K.kindOf (ps.zip yk) (λ_=>Hu) y=hb u):=by
  intro y vv e;obtain e':=(eW _ _ _ _).symm.trans e;by_cases hy:y=px
  ·rw[H5 hy]at e';have e:=si e';subst e;clear e';subst hy;refine rL (.ref a) ⟨as,by rw[HK,Ih],.tree (T.tree.grow keep) T.nodup ?_ T.node λ_ q=>(H4 q).symm⟩ ((ly (m:=λ_=>Hu) (c:=λ_=>Hu) rN T.val).1) ((ly (m:=λ_=>Hu) (c:=λ_=>Hu) rN T.val).2);exact(cM _).mp hw _ (Ky (cH T.dat)).2
  ·rw[Ir hy]at e';rw[adv]at e';induction dI e' with|mk z hz=>?_
   refine dA (ago a8 hz) λu hu=>aQ (T.args y u z hu hz hy) λbs q1 q2=>rL u ⟨?_,dK.fixed (q1.grow keep) ((cM _).mp hw _ (Ky (cH hz)).2) λc hc hq=>?_⟩ ((ly (m:=λ_=>Hu) (c:=λ_=>Hu) rN hu).1) ((ly (m:=λ_=>Hu) (c:=λ_=>Hu) rN hu).2)
   ·unfold V.fix;split
    ·exact .inl rfl
    ·exact .inr rfl
   ·refine dA (q1.alive c hc) λo eo=>?_;rcases(De c).mp hq with hq|hq
    ·exact no ((ue c hq).symm.trans eo)
    ·exact q2 c hc hq
 refine⟨⟨I.same,I.base,λc o e _=>keep c o e,I.alive,λc hc=>?_,λc hc=>?_,?_,I.kind,I.glob,I.jJ,I.rQ,⟨_,x.toInCall.ns,λy vv e1 e2=>?_⟩,λy vv e1 e2=>?_⟩,I.fc,I.ma,I.ie⟩
 ·rcases(De c).mp hc with hc|hc
  ·exact I.cO c hc
  ·exact aQ (yG c hc) λo e t=>i12 o (keep c o e) t
 ·rcases(De c).mp hc with hc|hc
  ·exact gQ ((I.b8 c hc).1) (λ_=>ue c hc)
  ·exact gQ (T.new c hc) (λq=>IG hc q)
 ·have:WW K (K.cells.map (·.2)) [(px,as)]=WW K (K.cells.map (·.2)) []++as:=by simp[WW]
  refine this.symm▸?_;rw[H8];exact lW I.b9 T.nodup (λc hc c' hU q=>gu c hc (q▸hU))
 ·exact kK (vars y vv e1) λu r q1 o1=>i12 u (q1 e2) r
 ·refine kK (vars y vv e1) λu r o1 q2=>aQ (I.fc y e2) λc hc o1=>mz c u hc ?_ r;have:=x.cell _ c hc;rw[q2 (by rw[e2];simp)]at this;exact this
def Du(Y:IB)(w:Ja)(U:Iv)(n:HG)(f:Hv)(ps:Hn HP)(px:HP)(m:Hn Ho->Hp Ho):Prop:=
 ∀{{A:Jh}} {{Hz:Hn Hv}} {{s:HM}} {{us:Hn HE}} {{B:Hn Ho}} {{pM as:Hn Hv}} {{a:Hv}} {{d d':Ho}} {{Q:HE->HM->Prop}} {{E:HE->HM->Prop}},
  Room A n->fh Y Hz U s.heap->bH Y w Hz s.heap us B pM->fy B=Hq->ps.length=us.length->pg Y w Hz U s.heap ps px us B a d as->m B=hb d'->
  (∀eS s',(∃h tk,s'={s with heap:=h,toks:=tk})->(∀b o,s.heap.get? b=hb o->b∉as->s'.heap.get? b=hb o)->(∀b o,s.heap.get? b=hb o->∃o',s'.heap.get? b=hb o')->RD Y w Hz s'.heap (.ref a) d' eS->eS.Nodup->wf d'=Hq->
   (∀c∈eS,c∈as∨s.heap.get? c=Hu)->Q .none s')->wpAny (Iq Y w) A (call (.ref f) us) Q E s
def lH(ps:Hn HP)(px:HP)(m:ar->Hp Out)(a:Hv)(B:Hn Ho):Hp Ho:=
 if B.length=ps.length then((ps.zip B).lookup px).bind λd=>(m ((nO ps B).set px (.own (.tree (hb a) d)))).bind λo=>match o with
  |.next L=>(bL L px).bind λq=>if q.1=hb a then hb q.2 else Hu
  |_=>Hu
 else Hu
variable{body:Hn IM}
theorem Du.def{m:ar->Hp Out}{spec:Hn Ho->Hp Ho}(D:ju U jo sc ps body)(DX:px∈ps)(h:St Y w U n sc body m)(R:∀a B d',spec B=hb d'->lH ps px m a B=hb d'):Du Y w U (n+1) jo ps px spec:=by
 intro A Hz s us B pM as a d d' Q E hA b rd hw a8 T lb hQ;obtain vk:=R a B d' lb;obtain⟨fo,fd,args,ho,hd,hp,qa,sk,ni,p6,yq,yg,uV,yj⟩:=D.there;unfold lH at vk;split at vk
 ·rename_i G5;obtain⟨ap9,rD,vk⟩:=ao vk;rw[T.dat]at rD;have e:=si rD;subst e;clear rD;obtain⟨o,jU,hy⟩:=ao vk;obtain xw:args.length=ps.length:=by simpa using HL Km qa
  obtain ye:=xw.trans a8;obtain hV:(args.map (·.arg)).Nodup:=by rw[qa];exact D.names
  refine N4 (Le (fd:=fd) (body:=body) (by have:=hA.depth;exact HC (Hs (Ib _ _) (Ib _ _)) this) (b.grow _ _ ho) hd (by rw[ni];exact D.co) (by rw[ni];exact D.gen) sk (yj.keeps b.grow) ?_);rw[iW hp yq ye hV,qa,ni,yg,p6,uV];refine HV (Kz D.kind (λz hz=>?_) λK he s' x=>?_)
  ·refine(dY (D.vars _ (Ky hz).1)).imp id λq=>⟨q,gm _ _ _ (.inl q)⟩
  ·have e1:K.scope=sc:=by rw[he];rfl
   have e2:K.globals=I3:=by rw[he];rfl
   have e3:K.builtins=K1:=by rw[he];rfl
   obtain e4:K.cells=LV (K.locals+1) sc.names []:=by rw[he];rfl
   have I:=du.wi (w:=w) b e1 D.kind e2 e3 e4 D.once D.names rd hw a8 T x;refine gQ I.base.nolimit (Ni ?_);obtain pe:iX K:=⟨by rw[e1];exact D.gen,by rw[e1];exact D.co,e3,e2⟩;refine h e1 (hA.deeper pe) I jU ?_;clear R h pe I e4 e3 e2 hV ye xw jU yj uV yg yq p6 ni sk qa hp hd ho args fo x he G5 lb T a8 hw rd b hA pM us A;induction o with
   |next L=>
    obtain⟨⟨a',EK⟩,ht,CU⟩:=ao hy;clear hy;dsimp only at CU;split at CU
    ·rename_i ea;clear spec fd;obtain rfl:=H4 CU;subst ea;obtain hx:=bU ht;dsimp only at hx;intro O' jR J T';obtain aqc:∃eS,O'.lookup px=hb eS/\RD Y w Hz jR.heap (.ref a) EK eS/\eS.Nodup/\wf EK=Hq:=by
      have fin:∀u,cj Y w Hz s.heap (WW K (K.cells.map (·.2)) O') O' jR.heap px u (.own (.tree (hb a) EK))->∃eS,O'.lookup px=hb eS/\RD Y w Hz jR.heap (.ref a) EK eS/\eS.Nodup/\wf EK=Hq:=by
       rintro u ⟨sp,e,r⟩;clear ht T' s' E;induction r.pq with|mk _ q1 q2 q3 _ q5=>?_
       exact Dv _ e (by exact(q5 a rfl).symm▸q1) q2 q3
      rcases dY (D.vars px DX)with q|q
      ·exact aQ J.ns λmm yh hv=>aQ (hv px _ hx (by unfold KG;exact e1.symm▸q)) λu o1 r=>fin u r
      ·exact j8 (J.cell px _ hx (by unfold KG;exact e1.symm▸q)) λc u o1 o2 r=>fin u r
     refine Cw aqc λeS r1 r2 r3 r4=>hQ eS jR J.same (λc o e q=>J.keep c o e q) J.alive r2 r3 r4 λc hc=>?_;by_cases q:c∈as
     ·exact .inl q
     ·exact .inr ((J.b8 c (cB r1 hc)).2 q)
    ·exact no CU
   |ret z=>exact no hy
   |fU z L=>exact no hy
   |brk L=>exact no hy
   |cont L=>exact no hy
 ·exact no vk
def zd(Y:IB)(w:Ja)(U:Iv)(n:HG)(x:HP)(ps:Hn HP)(px:HP)(m:Hn Ho->Hp Ho):Prop:=
 ∃a o fd,bt U x (.ref a)/\U.get? a=hb o/\o.data=.func fd/\Du Y w U n a ps px m
theorem zd.of{m:ar->Hp Out}{spec:Hn Ho->Hp Ho}(D:lD U x sc ps body)(DX:px∈ps)(h:St Y w U n sc body m)(R:∀a B d',spec B=hb d'->lH ps px m a B=hb d'):zd Y w U (n+1) x ps px spec:=by exact aQ D λa g D=>vd D.there λfo fd args ho hd o1=>A8 a fo fd g ho hd (Du.def D DX h R)
theorem aeu{o:Hp Ho}(h:(o.bind λd'=>if dD d'=Hq then hb d' else Hu)=hb d):o=hb d/\dD d=Hq:=by
 obtain⟨d',h1,h2⟩:=ao h;split at h2
 ·rename_i hn;have e:=si h2;subst e;clear h2;exact⟨h1,hn⟩
 ·exact no h2
def sG(x:HP)(m1 m3:ar->Hp V)(m:Hn Ho->Hp Ho):ar->Hp Out:=λL=>(bL L x).bind λd=>(m1 L).bind λv1=>(m3 L).bind λv3=>if v1.fl≠.t/\flat v3.x=Hq then((m [v1.x,d.2,v3.x]).bind λd'=>if dD d'=Hq then hb d' else Hu).map λd'=>.next (L.set x (.own (.tree d.1 d')))else Hu
variable{k:HG}
theorem S1.amQ{f p1 p3:HP}{e1 e3:HR}{np xp cp pos:J3}{m1 m3:ar->Hp V}{m:Hn Ho->Hp Ho}(h:zd Y w U k f [p1,px,p3] px m)(h1:Ev Y w U n sc e1 m1)(h3:Ev Y w U n sc e3 m3)(hv:aA sc x=Hq)(vq:aY sc f=Hq)(hk:k<=n)
  (gu:p1≠px/\p3≠px/\p3≠p1)(qv:∀K,Ie [e1,.Name x xp,e3] K=(HH,Jf e1 K)::Ie [.Name x xp,e3] K)
  (zP:∀K,Ie [.Name x xp,e3] K=(HH,Jf (.Name x xp) K)::Ie [e3] K)(Ak:∀K,Ie [e3] K=(HH,Jf e3 K)::Ie [] K)(er:∀K:Ke,(J4 cp (Ie [e1,.Name x xp,e3] K)).any (·.1)=HH)
  (hi:∀K:Ke,K.scope=sc->KJ K=HH):
  S1 Y w U n sc (.Expr (.Call (.Name f np) [e1,.Name x xp,e3] [] cp) pos)
   (sG x m1 m3 m):=by
 intro A Hz K ae X C L O s r Q E hs hA I;refine ak λd hd=>ak λv1 hv1=>ak λv3 FO R hQ=>?_;obtain hx:=bU hd;split at R
 ·rename_i hz;clear hd;induction dI R with|mk d' kQ=>?_
  refine ew (aeu kQ) λkQ vo=>Ax h λfa fo fd g ho BX hf=>LP ?_ (hi K hs);show wpAny _ _ (Jf (.Name f np) K>>=λf=>Lq cp f [] (J4 cp (Ie [e1,.Name x xp,e3] K)) []) _ _ s;refine Ht (di I.toInF (by exact hs.symm▸vq) g (dZ (.inr (.inr ⟨fa,fo,fd,rfl,ho,BX⟩)) (er K) (Kt (h1 hs hA I.toInF hv1 λu1 ay ah aL=>Kt ((I.grow ah).oB (by exact hs.symm▸hv) hx λad as hO rt nd ct cn=>Kt (h3 hs hA (I.grow ah).toInF FO λu3 aM aI cY=>LM ?_) (Ak _)) (zP _)) (qv _))));have gP:=(I.grow ah).grow aI;have g2:=ag aI;refine gQ gP.base.grow ?_;obtain⟨GN,ra,ca,C4⟩:=aL;obtain⟨as3,rc,cc,_⟩:=cY;clear hi er Ak zP qv vq hv h3 h1 h pos cp xp np e3 e1 BX ho g fd fo FO hv1 I hs r;obtain rfl:=rc.bR hz.2;have ra:=ra.grow g2;have rt:=rt.grow g2;obtain uU:∀c∈GN,c∉as:=by
   intro c hc q;obtain hw:=cB (K:=K) (C:=C) hO q;clear m3 m1 g2 f E;cases e:v1.fl with
   |d=>rw[e]at C4;exact(C4 c hc).2 hw
   |s=>rw[e]at C4;exact C4 c hc hw
   |t=>exact hz.1 e
  have l1:=HO.mpr (K9 gu.1);have l3:=HO.mpr gu.2.2;obtain l4:=HO.mpr gu.2.1;obtain H:pg Y w Hz U aM.heap [p1,px,p3] px [u1,.ref ad,u3] [v1.x,d.2,v3.x] ad d.2 as:=by
   refine⟨by simp[HK,l1],by simp[HK,l1],rt,cn,nd,λc hc=>(gP.b8 c (cB hO hc)).1,λy u z q1 q2 q3=>?_⟩;simp only[IT,HK]at q1 q2;by_cases y1:y=p1
   ·clear gu m3 m1 l4 l3 l1 g2 C4 nd f hz E;subst y1;simp only[Ih]at q1 q2;have e:=si q1;subst e;clear q1;have e:=si q2;subst e;clear q2;exact i12 GN ra uU
   ·rw[HO.mpr y1]at q1 q2;simp only at q1 q2;rw[HO.mpr q3]at q1 q2;simp only at q1 q2;by_cases y3:y=p3
    ·clear gu m3 m1 l4 l3 l1 uU g2 C4 q3 nd f hz E;subst y3;simp only[Ih]at q1 q2;have e:=si q1;subst e;clear q1;have e:=si q2;subst e;clear q2;exact i12 ([]) rc (λ_ q=>nomatch q)
    ·rw[HO.mpr y3]at q1;exact no q1
  refine hf (hA.toRoom.mono hk) gP.base (.cons ra (.cons rt (.cons rc .nil))) (by simp[fy,ca,ct,cc]) rfl H kQ λeS s' sm kp al zX qc BW fr=>?_;obtain hn:∀c∈eS,(c∈as∨aM.heap.get? c=Hu)/\∃o,s'.heap.get? c=hb o/\¬jV o:=λc hc=>⟨fr c hc,cL.1 zX c hc⟩;obtain ha:∀c∈as,∃o,s'.heap.get? c=hb o:=λc hc=>by
   exact aQ (gP.cO c (cB hO hc)) λo e o1=>al c o e
  clear gu hk m3 m1 H l4 l3 l1 uU g2 cc rc C4 ca ra fr al u3 ct nd f hf fa kQ hz hA E A;refine pT sm λh' tk o1=>?_;subst o1;obtain I':=gP.lV (tk:=tk) hx hO kp ha hn qc BW vo (λa' q=>by
   refine dA (dX q cn) λo1 z1=>dA (dX rt cn) λo1 z2=>?_;rw[z1]at z2;exact((IP z2).1).symm▸zX)
  exact hQ _ _ I' ((Step.cN (ag (ab ah aI))).trans (iR hO kp λc hc=>(hn c hc).1))
 ·exact no R
def l0(Y:IB)(w:Ja)(U:Iv)(n:HG)(sc:IH)(e:HR)(m:ar->Hp Ho):Prop:=
 ∀{{A:Jh}} {{Hz:Hn Hv}} {{K:Ke}} {{ae:HM}} {{X C:Hn Hv}} {{L:ar}} {{O:Hn (HP×Hn Hv)}} {{s:HM}} {{d:Ho}} {{Q:HE->HM->Prop}} {{E:HE->HM->Prop}},
  K.scope=sc->eu A n->InF Y w Hz U ae X K C L O s->m L=hb d->
  (∀u as s',I8 s s'->RD Y w Hz s'.heap u d as->as.Nodup->wf d=Hq->(∀a∈as,s.heap.get? a=Hu)->Q u s')->wpAny (Iq Y w) A (Jf e K) Q E s
theorem l0.flat{m:ar->Hp V}(h:Ev Y w U n sc e m):l0 Y w U n sc e (λL=>(m L).bind λv=>if flat v.x=Hq then hb v.x else Hu):=by
 intro A Hz K ae X C L O s d Q E hs hA I;refine ak λv hv=>jl λhf R hQ=>?_
 ·have e:=si R;subst e;clear R;refine h hs hA I hv λu s' k r=>?_;obtain⟨as,rd,c,_⟩:=r;obtain rfl:=rd.bR hf;exact hQ u [] s' k rd I9 c λ_ q=>nomatch q
theorem l0.nil:l0 Y w U n sc (.List [] pos) (λ_=>hb (.list [])):=by
 intro A Hz K ae X C L O s d Q E hs hA I R hQ;have e:=si R;subst e;clear R;refine OL (LM ⟨JS _,?_⟩);exact hQ _ [s.heap.objs.size] _ (bE s _) (.list (vs:=[]) (H7 _ rfl) .nil) (HZ.mpr ⟨Ia,I9⟩) (by decide) λa ha=>by
  exact(HB.mp ha).symm▸aT _ (Io _)
theorem l0.emp:l0 Y w U n sc (.Dict [] [] pos) (λ_=>hb (.dict [])):=by
 intro A Hz K ae X C L O s d Q E hs hA I R hQ;have e:=si R;subst e;clear R;refine QP ?_;obtain wk:(s.heap.objs.size==Kd)=HH:=by refine dA I.base.mods λo ho=>?_;have:=II (I.base.grow _ _ ho);simpa using(KT this)
 exact hQ _ [s.heap.objs.size] _ (bE s _) (RD.dict (aW:=[]) (B:=[]) (MB _) wk rfl .nil) (HZ.mpr ⟨Ia,I9⟩) (by decide) λa ha=>by
  exact(HB.mp ha).symm▸aT _ (Io _)
inductive DL(Y:IB)(w:Ja)(Hz:Hn Hv)(h:Iv):Hn (HE×HE)->Hn (HP×Ho)->Hn Hv->Prop
 |nil:DL Y w Hz h [] [] []
 |cons {x:HP} {t:Pk} {u:HE} {d:Ho} {us:Hn (HE×HE)} {ds:Hn (HP×Ho)} {as bs:Hn Hv}:wf (.str x)=Hq->wf d=Hq->RD Y w Hz h u d as->DL Y w Hz h us ds bs->DL Y w Hz h ((.str x t,u)::us) ((x,d)::ds) (as++bs)
def AX(Y:IB)(w:Ja)(U:Iv)(n:HG)(sc:IH)(ks:Hn (Hp HR))(es:Hn HR)(m:ar->Hp (Hn (HP×Ho))):Prop:=
 ∀{{A:Jh}} {{Hz:Hn Hv}} {{K:Ke}} {{ae:HM}} {{X C:Hn Hv}} {{L:ar}} {{O:Hn (HP×Hn Hv)}} {{s:HM}} {{r:Hn (HP×Ho)}} {{pos:J3}} {{Q:Hn (HE×HE)->HM->Prop}} {{E:HE->HM->Prop}},
  K.scope=sc->eu A n->InF Y w Hz U ae X K C L O s->m L=hb r->(∀us as s',I8 s s'->DL Y w Hz s'.heap us r as->as.Nodup->(∀a∈as,s.heap.get? a=Hu)->Q us s')->wpAny (Iq Y w) A (evalPairs (pairTrees ks es K pos)) Q E s
theorem AX.nil:AX Y w U n sc [] [] (λ_=>hb []):=by intro A Hz K ae X C L O s r pos Q E hs hA I R hQ;(have e:=si R;subst e;clear R);exact Qt (hQ [] [] s (aD s) .nil I9 λ_ q=>nomatch q)
theorem AX.cons{x:HP}{k:HG}{kp:J3}{e:HR}{ks:Hn (Hp HR)}{es:Hn HR}{m:ar->Hp Ho}{ms:ar->Hp (Hn (HP×Ho))}(h:l0 Y w U n sc e m)(hr:AX Y w U n sc ks es ms)(hx:wf (.str x)=Hq):
  AX Y w U n sc (hb (.Constant (.str x) k kp)::ks) (e::es) (λL=>(m L).bind λa=>(ms L).bind λr=>hb ((x,a)::r)):=by
 intro A Hz K ae X C L O s r pos Q E hs hA I;refine ak λa ha=>ak λr' Hc R hQ=>?_;have e:=si R;subst e;clear R;refine Qd (MK ?_);obtain o8:=aK s (s.toks+1);refine h hs hA (I.grow o8) ha λu as ay ah aL nd c fr=>hr hs hA ((I.grow o8).grow ah) Hc λus bs aM aI cY nd2 DU=>hQ _ (as++bs) _ (ab o8 (ab ah aI)) (.cons hx c (aL.grow (ag aI)) cY) ?_ λy hy=>?_
 ·rw[H8];refine lW nd nd2 (λy hy z hz q=>dA (aL.alive y hy) λo ho=>?_);rw[q,DU z hz]at ho;exact no ho
 ·rcases HD.mp hy with hy|hy
  ·exact fr y hy
  ·cases e:s.heap.get? y with
   |none=>rfl
   |some o=>have:=ag ah y o e;exact no ((DU y hy).symm.trans this)
theorem DL.str(r:DL Y w Hz h us ds as):allStrKeys us=Hq/\(Nb us).map (·.1)=ds.map (·.1)/\bH Y w Hz h ((Nb us).map (·.2)) (ds.map (·.2)) as/\∀p∈ds,wf (.str p.1)=Hq/\wf p.2=Hq:=by
 induction r with
 |nil=>exact zz rfl rfl .nil (λ_ q=>nomatch q)
 |cons a b c _ ih=>
  refine zz ih.1 (by simp only[Nb,HS,ih.2.1]) (.cons c ih.2.2.1) (λp hp=>?_);rcases Hw.mp hp with rfl|hp
  ·exact gQ a b
  ·exact ih.2.2.2 p hp
theorem l0.dict{m:ar->Hp (Hn (HP×Ho))}(h:AX Y w U n sc keys values m)(iG:keys.all (·.isSome)=Hq)(hl:keys.length=values.length)(h0:keys≠[])
  (a8:keys.length<=15):l0 Y w U n sc (.Dict keys values pos) (λL=>(m L).bind λr=>if(r.map (·.1)).Nodup/\r.length<=sizeLine then hb (dictOf r)else Hu):=by
 intro A Hz K ae X C L O s d Q E hs hA I;refine ak λr hr=>jl λhc R hQ=>?_
 ·cases R;refine Q6 (knd:=strKind Y w) iG hl h0 a8 ?_;obtain o8:=bE s {cls:=.type "dict",data:=.dict #[]};refine h hs hA (I.grow o8) hr λus as ay ah aL nd fr=>AZ aL.str λq1 q2 q3 q4=>?_;obtain hz:=aT _ (Io _);obtain wk:(s.heap.objs.size==Kd)=HH:=by refine dA I.base.mods λo ho=>?_;have:=II (I.base.grow _ _ ho);simpa using(KT this)
  have hd:ay.heap.DictOf (strKind Y w) s.heap.objs.size []:=(MB s.heap).keep (ag ah);have ao7:s.heap.objs.size∉as:=λq=>by
   have:=fr _ q;exact no (this.symm.trans (H7 s.heap rfl))
  refine rL (Nb us) (QS Y w us q1) hd (λh' qx gy=>?_);rw[Qe _ (by rw[q2];exact hc.1)]at qx;obtain g:bA s.heap h':=λb o e=>by
   obtain gu:b≠s.heap.objs.size:=λe'=>by rw[e',hz]at e;exact no e
   exact(gy.2 b gu).trans<|ag ah _ _ (bA.push _ _ _ _ e)
  obtain kb:i0 ay.heap h' as:=λb o e q=>by
   obtain gu:b≠s.heap.objs.size:=λe'=>by
    subst e';rcases q with q|⟨vs,kk,rfl⟩
    ·exact ao7 q
    ·refine vd hd λo' es ep jU hx o1=>?_;rw[jU]at e;have e:=si e;subst e;clear e;have:=hx.1;simp at this
   exact(gy.2 b gu).trans e
  refine mx (ab o8 ah) λh1 t1 e1 o1=>hQ _ (s.heap.objs.size::as) _ ⟨h',_,by rw[e1],g⟩ (.dict qx wk q2 (cK.2 q3 kb)) (HZ.mpr ⟨ao7,nd⟩) (oV.mpr ⟨hc.2,q4⟩) λa ha=>?_;rcases Hw.mp ha with rfl|ha
  ·exact hz
  ·cases e:s.heap.get? a with
   |none=>rfl
   |some o=>have:=bA.push s.heap {cls:=.type "dict",data:=.dict #[]} a o e;exact no ((fr a ha).symm.trans this)
section
variable{ae s':HM}{X C:Hn Hv}{K:Ke}
theorem du.ab9(I:du Y w Hz U ae X K C L O s)(k:I8 s s')(x:HP){as:Hn Hv}(hf:∀a∈as,s.heap.get? a=Hu)(ha:∀a∈as,∃o,s'.heap.get? a=hb o/\¬jV o)(nd:as.Nodup):
  du Y w Hz U ae X K C (L.del x) ((x,as)::O) s':=by
 have hW:∀b,b∈WW K C ((x,as)::O)->b∈WW K C O∨b∈as:=by
  intro b aO;simp only[WW,IF,Hw,HD]at aO⊢;rcases aO with h|h|h|h
  ·exact .inl (.inl h)
  ·exact .inl (.inr (.inl h))
  ·exact .inr h
  ·exact .inl (.inr (.inr h))
 obtain hW':∀b∈WW K C ((x,as)::O),b∈WW K C O∨s.heap.get? b=Hu:=λb h=>(hW b h).imp id (hf b);have g:=ag k;obtain I':=I.grow k;have ne:∀a∈as,a∉WW K C O:=λa h=>(I.toInF.fresh (hf a h)).2;have turn:∀y,y≠x->∀u vv,cj Y w Hz ae.heap (WW K C O) O s.heap y u vv->cj Y w Hz ae.heap (WW K C ((x,as)::O)) ((x,as)::O) s'.heap y u vv:=λy hy u vv r=>
  r.turn (Z:=[]) (Off.cN g) (λb o e _=>g b o e) (λ_ _ _ _ q=>nomatch q) hW' (by(refine HK.trans ?_;rw[HO.mpr hy]))
 refine⟨⟨I'.same,I'.base,I'.keep,I'.alive,λa h=>?_,λa h=>?_,?_,I.kind,I.glob,I.jJ,I.rQ,?_,λy vv e1 e2=>?_⟩,I.fc,I.ma,I'.ie⟩
 ·exact(hW a h).elim (I'.cO a) (ha a)
 ·rcases hW a h with h|h
  ·exact I.b8 a h
  ·refine gQ ?_ (λ_=>(I.toInF.fresh (hf a h)).1);cases e:U.get? a with
   |none=>rfl
   |some o'=>have:=I.base.grow _ _ e;exact no ((hf a h).symm.trans this)
 ·have N:=I.b9;unfold WW at N⊢;rw[HZ,H8]at N;refine IF.symm▸?_;rw[HZ,H8,H8];refine zz (λq=>?_) N.2.1 ⟨nd,N.2.2.1,λa h b h' e=>ne a h (e▸I5 _ (Hx _ h'))⟩ (λa h b h' e=>?_)
  ·rcases HD.mp q with q|q
   ·exact N.1 (HF _ q)
   ·rcases HD.mp q with q|q
    ·exact ne _ q (.head _)
    ·exact N.1 (Hx _ q)
  ·rcases HD.mp h' with h'|h'
   ·exact ne b h' (e▸I5 _ (HF _ h))
   ·exact N.2.2.2 a h b h' e
 ·refine aQ I.ns λm R hv=>i12 m (R.keeps g) (λy vv e1 e2=>?_);have d3:(if y=x then Hu else L y)=hb vv:=e1;by_cases hy:y=x
  ·rw[H5 hy]at d3;exact no d3
  ·rw[Ir hy]at d3;exact aQ (hv y vv d3 e2) λu a b=>i12 u a (turn y hy u vv b)
 ·have d3:(if y=x then Hu else L y)=hb vv:=e1;by_cases hy:y=x
  ·rw[H5 hy]at d3;exact no d3
  ·rw[Ir hy]at d3;exact j8 (I.cell y vv d3 e2) λc u a b d=>mz c u a (et b g) (turn y hy u vv d)
end
def yS(Y:IB)(w:Ja)(U:Iv)(n:HG)(x:HP)(d:Ho):Prop:=
 ∃f o fd,bt U x (.ref f)/\U.get? f=hb o/\o.data=.func fd/\∀{{A:Jh}} {{Hz:Hn Hv}} {{s:HM}} {{Q:HE->HM->Prop}} {{E:HE->HM->Prop}},Room A n->fh Y Hz U s.heap->
  (∀u as s',I8 s s'->RD Y w Hz s'.heap u d as->as.Nodup->wf d=Hq->(∀a∈as,s.heap.get? a=Hu)->Q u s')->wpAny (Iq Y w) A (call (.ref f) []) Q E s
theorem yS.of{m:ar->Hp Ho}(D:lD U x sc [] [.Return (hb e) pos])(h:l0 Y w U n sc e m)(R:m (nO [] [])=hb d):yS Y w U (n+1) x d:=by
 refine aQ D λf g D=>?_;obtain⟨fo,fd,args,ho,hd,hp,qa,sk,ni,p6,yq,yg,uV,yj⟩:=D.there;refine A8 f fo fd g ho hd ?_;intro A Hz s Q E hA b hQ;obtain ye:args.length=([]:Hn HE).length:=by simpa using HL Km qa
 obtain hV:(args.map (·.arg)).Nodup:=by exact qa.symm▸I9
 refine N4 (Le (fd:=fd) (body:=[.Return (hb e) pos]) (by have:=hA.depth;exact HC (Hs (Ib _ _) (Ib _ _)) this) (b.grow _ _ ho) hd (by exact ni.symm▸D.co) (by exact ni.symm▸D.gen) sk (yj.keeps b.grow) ?_);refine(iW hp yq ye hV).symm▸qa.symm▸ni.symm▸yg.symm▸p6.symm▸uV.symm▸?_;refine HV (Kz D.kind (λz hz=>nomatch hz) λK he s' x=>?_);have e1:K.scope=sc:=by refine he.symm▸?_;rfl
 have e2:K.globals=I3:=by refine he.symm▸?_;rfl
 have e3:K.builtins=K1:=by refine he.symm▸?_;rfl
 obtain e4:K.cells=LV (K.locals+1) sc.names []:=by refine he.symm▸?_;rfl
 have I:=du.start (w:=w) (ps:=[]) b e1 D.kind e2 e3 e4 D.once D.names .nil rfl x;refine gQ I.base.nolimit (Ni ?_);obtain pe:iX K:=⟨by exact e1.symm▸D.gen,by exact e1.symm▸D.co,e3,e2⟩;refine M8 (L3 (h e1 (hA.deeper pe) I.toInF R λu as jR k rd nd c fr=>?_));have kk:I8 s s':=by exact pT I.same λh' tk e=>Ct h' tk e (λb o eb=>by have:=I.keep b o eb Ia;rw[e]at this;exact this)
 refine hQ u as jR (ab kk k) rd nd c λa ha=>?_;cases e:s.heap.get? a with
 |none=>rfl
 |some o=>have:=ag kk a o e;exact no ((fr a ha).symm.trans this)
theorem S1.ajj{np cp p pos:J3}(h:yS Y w U k jo d)(hn:dD d=Hq)(hv:aA sc x=Hq)(vq:aY sc jo=Hq)(hk:k<=n)(er:∀K:Ke,(J4 cp (Ie [] K)).any (·.1)=HH)
  (iS:∀K:Ke,K.scope=sc->JU (.Call (.Name jo np) [] [] cp) (hb (.Name x p)) pos.line K=pure HH):
  S1 Y w U n sc (.Assign [.Name x p] (.Call (.Name jo np) [] [] cp) pos) (λL=>hb (.next (L.set x (.own (.tree Hu d))))):=by
 intro A Hz K ae X C L O s r Q E hs hA I R hQ;have e:=si R;subst e;clear R;refine Ax h λfa fo fd g ho BX hf=>Kk ?_ (iS K hs);show wpAny _ _ (Jf (.Name jo np) K>>=λjo=>Lq cp jo [] (J4 cp (Ie [] K)) []) _ _ s;refine Ht (di I.toInF (by exact hs.symm▸vq) g (dZ (.inr (.inr ⟨fa,fo,fd,rfl,ho,BX⟩)) (er K) (LM ⟨I.base.grow,?_⟩)));refine hf (hA.toRoom.mono hk) I.base λu as ay ah rd nd c fr=>?_;have al:=cL.1 rd;have gP:=I.ab9 ah x fr al nd;have hu:∃a,u=.ref a:=by
  clear iS er hk vq pos p cp np al hf BX ho g fd fo fa I hA E A;cases d with
  |list B=>exact e42 rd.fK λa o1 o2 o3 e o4=>⟨a,e⟩
  |dict B=>exact mx rd.head.1 λa _ e _=>⟨a,e⟩
  |_=>cases hn
 clear iS er hk vq pos p cp np al hf BX ho g fd fo fa I hA;refine dA hu λa o1=>?_;subst o1;refine gP.store (v:=.own (.tree Hu d)) (by exact hs.symm▸hv) ⟨as,by(refine HK.trans ?_;rw[Ih]),.tree rd nd c hn (λ_ q=>nomatch q)⟩ λs' I' t=>hQ _ s' (by rw[<-nu];exact I') (Step.trans ⟨λb o e _=>ag ah b o e,λb aO=>?_⟩ t);simp only[WW,IF,Hw,HD]at aO⊢;rcases aO with h|h|h|h
 ·exact .inl (.inl h)
 ·exact .inl (.inr (.inl h))
 ·exact .inr (fr b h)
 ·exact .inl (.inr (.inr h))
end
section
section
end
end
structure jX(ns:Hn HP)(U:Iv)(C:Hv)(mN:HP->Hp HE):Prop where
 here:∃N,PyProof.Rows.ClsAt U C N mN
 ga:mN "__getattribute__"=Hu
 gh:mN "__getattr__"=Hu
 sa:mN "__setattr__"=Hu
 attrs:∀y∈ns,mN y=Hu
 obj:∀y∈ns,Kw (.type "object") y=pure Hu
variable{h:Iv}{v:HE}{as:Hn Hv}
theorem RD.handed(r:RD Y w Hz h v x as):handedOut v=pure v:=
 r.casesOn rfl (λ_=>rfl) (λ_ _=>rfl) (λ_ _=>rfl) (λ_ _=>rfl) (λ_ _ _=>rfl) (λ_ _ _ _=>rfl) (λ_=>rfl) (λ_ _=>rfl) (λ_ _ _ _ _=>rfl) (λ_=>rfl)
variable{C a dx:Hv}{mN m:HP->Hp HE}{s:HM}{A:Jh}{E:HE->HM->Prop}{nl:Hn HP}
theorem iq{ex:Ig}{Q:HE->HM->Prop}(aU:jX nl U C mN)(b:bA U s.heap)(i:oJ s.heap a dx C m)(hy:y∈nl)(hv:m y=hb v)(hh:handedOut v=pure v)(hQ:∀s',I8 s s'->s'.heap=s.heap->Q v s'):
  wpAny (Iq Y w) A (getAttr (.ref a) y ex) Q E s:=by
 obtain⟨h,g,d,t,os⟩:=s;refine dA aU.here λN X=>?_;obtain⟨nm,q,bs,sn,sub,col,dd,k0,k1,k2,k3,k5,hC⟩:=(X.keeps b).obj;exact load_attr hC (X.keeps b).ns aU.ga (aU.attrs y hy) (aU.obj y hy) i.inst hv hh (hQ _ (aK _ _) rfl)
theorem qX{nl:Hn HP}{ns:Hn HP}{Q:Nq->HM->Prop}(aU:jX nl U C mN)(b:bA U s.heap)(i:oJ s.heap a dx C m)(hy:y∈nl)(hn:Within m ns)(hl:ns.length<=20)(hf:U.get? a=Hu)
  (hQ:∀h' tk,oJ h' a dx C (λz=>if z=y then hb v else m z)->(∀c o,c≠a->c≠dx->s.heap.get? c=hb o->h'.get? c=hb o)->Q () {s with heap:=h',toks:=tk}):
  wpAny (Iq Y w) A (setAttr (.ref a) y v) Q E s:=by
 obtain⟨h,g,d,t,os⟩:=s;refine dA aU.here λN X=>?_;obtain⟨nm,q,bs,sn,sub,col,dd,k0,k1,k2,k3,k5,zQ⟩:=X.obj;have hxC:a≠C:=by rintro rfl;exact no (hf.symm.trans zQ)
 have hz:ns.length<=sizeLine:=Hs hl (by decide);refine store_attr PySem.F.store_object (b _ _ zQ) (X.keeps b).ns aU.sa (aU.attrs y hy) (aU.obj y hy) hxC i.inst (λh' GF I' hk aku=>?_) hn hz;obtain⟨o,e1,e2,e3,e4,e5,e6⟩:=i;refine e15 (aku o e1) λrC f1 f2 f3 f4 f5=>Cw I' λo' g1 g2 g3 g4=>?_;clear hf hl hn hy b aU nl hz hxC e6 e2 zQ k5 k3 k2 k1 k0 dd col sub sn bs nm g3 f4 f2 aku I' X N;obtain rfl:=H4 (f1.symm.trans g1);refine hQ h' GF ⟨rC,f1,g2,(by exact f3.symm▸e3),f5 dx e4,e5,?_⟩ λc ob h1 h2 q=>hk c ob h1 (λaqt d' q1 q2=>by
  clear hQ Q ns e5 e3 h1 g2 g1 f3 f1 hk GF;obtain rfl:=H4 (e1.symm.trans q1);clear e1 q1;obtain rfl:=H4 (e4.symm.trans q2);exact h2) q
 rcases g4 with⟨g4,_⟩|⟨d',g4,_,g5⟩
 ·exact no (g4.symm.trans (f5 dx e4))
 ·clear hQ Q ns e5 e3 e1 os t d g q g2 g1 f3 f1 hk GF;obtain rfl:=H4 ((f5 dx e4).symm.trans g4);exact g5
noncomputable def AQ:Ho->Hp (Ho×Ho)
 |.dict [kv]=>hb kv
 |_=>Hu
noncomputable def uP:Ho->Hp (Hn Ho)
 |.tuple B=>hb B
 |_=>Hu
def gk(C V:Hv)(x:Ho):Hp (HI×Hn Ho):=(AQ x).bind λkv=>(uP kv.1).bind λks=>(uP kv.2).bind λfs=>
 if(ks[0]?.bind cD)=hb (C:HI)/\(ks[1]?.bind cD)=hb (V:HI)then(ks[2]?.bind cD).map λp=>(p,fs)else Hu
def Cy(V:Hv)(x:Ho):Hp (HI×HI):=(AQ x).bind λkv=>(cD kv.1).bind λv=>if v=(V:HI)then(uP kv.2).bind λfs=>(fs[0]?.bind cD).bind λa=>(fs[1]?.bind cD).map λb=>(a,b)else Hu
noncomputable def vR(f:jr):Hn Ho:=[f.told,.int f.opened,f.given,f.bD,.tuple (f.held.map λq=>.tuple [.str q.1,.int q.2]),.tuple (f.aC.map λq=>.tuple [.int q.1,.int q.2])]
theorem d1(C V p:Hv)(f:jr):gk C V (aE C V p f)=hb ((p:HI),vR f):=by show(if hb (C:HI)=hb (C:HI)/\hb (V:HI)=hb (V:HI)then hb ((p:HI),vR f)else Hu)=_;exact(H5 ⟨rfl,rfl⟩)
theorem afQ(V:Hv)(x y:HI):Cy V (oH V x y)=hb (x,y):=by show(if(V:HI)=(V:HI)then hb (x,y)else Hu)=_;exact(H5 rfl)
theorem oA{B:Hn (HP×Ho)}{kv:Ho×Ho}(h:AQ (dictOf B)=hb kv):∃k,kv.1=.str k:=by
 rcases B with _|⟨p,_|⟨q,B⟩⟩
 ·exact no h
 ·have e:=si h;subst e;clear h;exact⟨_,rfl⟩
 ·exact no h
section
variable(Y w Hz)
inductive agS(h:Iv)(C V:Hv):HE->Ho->HI×Hn Ho->Hn Hv->Prop
 |mk (a dx hd p:Hv) (aJ:Hn (Hv×Hv)) (f:jr) (vs:Hn HE) (m:HP->Hp HE) (ks:Hn (HP×HE)) (bs:Hn Hv) (i:bj Y w h a dx C V p hd aJ f vs m ks) (r:bH Y w Hz h vs [f.told,f.given,f.bD] bs):agS h C V (.ref a) (aE C V p f) ((p:HI),vR f) (bP a dx hd aJ++bs)
inductive agU(h:Iv)(C V:Hv)(u:HE)(x:Ho)(q:HI×Hn Ho)(as:Hn Hv):Prop
 |mk (a dx hd p:Hv) (aJ:Hn (Hv×Hv)) (f:jr) (vs:Hn HE) (m:HP->Hp HE) (ks:Hn (HP×HE)) (bs:Hn Hv) (h1:u=.ref a) (h2:x=aE C V p f) (h3:q=((p:HI),vR f)) (h4:as=bP a dx hd aJ++bs) (i:bj Y w h a dx C V p hd aJ f vs m ks) (r:bH Y w Hz h vs [f.told,f.given,f.bD] bs):agU h C V u x q as
end
variable{u:HE}
theorem RD.vY{V:Hv}{q:HI×Hn Ho}(r:RD Y w Hz h u x as)(e:gk C V x=hb q):agS Y w Hz h C V u x q as:=by
 revert e;refine r.casesOn (λe=>no e) (λ_ e=>no e) (λ_ _ e=>no e) (λ_ _ e=>no e) (λ_ _ e=>no e) (λ_ _ _ e=>no e) (λ_ _ _ _ e=>by
  obtain⟨kv,h1,h2⟩:=ao e;refine dA (oA h1) λk hk=>?_;rw[hk]at h2;exact no h2) (λ_ e=>no e) (λ{a dx C' V' p hd aJ f vs m ks bs} i rs e=>?_) (λ_ _ _ _ _ e=>no e) (λ_ e=>no e)
 replace e:(if hb (C':HI)=hb (C:HI)/\hb (V':HI)=hb (V:HI)then hb ((p:HI),vR f)else Hu)=hb q:=e;by_cases hv:hb (C':HI)=hb (C:HI)/\hb (V':HI)=hb (V:HI)
 ·rw[H5 hv]at e;obtain rfl:=H4 e;obtain rfl:=J7 (H4 hv.1);obtain rfl:=J7 (H4 hv.2);exact⟨a,dx,hd,p,aJ,f,vs,m,ks,bs,i,rs⟩
 ·rw[Ir hv]at e;exact no e
theorem RD.kg{V:Hv}{q:HI×Hn Ho}(r:RD Y w Hz h u x as)(e:gk C V x=hb q):agU Y w Hz h C V u x q as:=by
 induction r.vY e with|mk a dx hd p aJ f vs m ks bs i rs=>?_
 exact⟨a,dx,hd,p,aJ,f,vs,m,ks,bs,rfl,rfl,rfl,rfl,i,rs⟩
theorem RD.val_inv{V:Hv}{q:HI×HI}(r:RD Y w Hz h u x as)(e:Cy V x=hb q):∃b db,u=.ref b/\as=[b,db]/\ic h V b db q.1 q.2:=by
 revert e;refine r.casesOn (λe=>no e) (λ_ e=>no e) (λ_ _ e=>no e) (λ_ _ e=>no e) (λ_ _ e=>no e) (λ_ _ _ e=>no e) (λ_ _ _ _ e=>by
  obtain⟨kv,h1,h2⟩:=ao e;refine dA (oA h1) λk hk=>?_;rw[hk]at h2;exact no h2) (λ{V' b db y z} i e=>?_) (λ_ _ e=>no e) (λ_ _ _ _ _ e=>no e) (λ_ e=>no e)
 replace e:(if(V':HI)=(V:HI)then hb (y,z)else Hu)=hb q:=e;by_cases hv:(V':HI)=(V:HI)
 ·rw[H5 hv]at e;obtain rfl:=H4 e;obtain rfl:=J7 hv;exact mz b db rfl rfl i
 ·rw[Ir hv]at e;exact no e
def tK(V:Hv)(ws:Hn Ho)(i:Ho):Ho:=match((cD i).bind λk=>ws[k.toNat]?).bind λt=>(uP t).bind λB=>(B[0]?.bind cD).bind λa=>(B[1]?.bind cD).map λb=>(a,b)with
 |some q=>oH V q.1 q.2
 |none=>.none
def aj7(V:Hv)(ws:Hn Ho)(t:Ho):Ho×Ho:=match uP t with
 |some [k,i]=>(k,tK V ws i)
 |_=>(.none,.none)
def wZ(V:Hv)(fs:Hn Ho):Ho:=match(fs[4]?.bind uP),(fs[5]?.bind uP)with
 |some hs,hb ws=>.dict (hs.map (aj7 V ws))
 |_,_=>.none
def aht(V:Hv)(fs:Hn Ho):Hn (HP×Ho):=(["told","opened","given","standing"]:Hn HP).zip fs++[(("held":HP),wZ V fs)]
def iw(C V:Hv)(y:HP)(x:Ho):Hp Ho:=match gk C V x with
 |some q=>(aht V q.2).lookup y
 |none=>(Cy V x).bind λq=>([("amount",.int q.1),("opening",.int q.2)]:Hn (HP×Ho)).lookup y
theorem ik(C V p:Hv)(f:jr)(y:HP):iw C V y (aE C V p f)=(aht V (vR f)).lookup y:=by unfold iw;rw[d1]
theorem acC(C V p:Hv)(f:jr):iw C V "told" (aE C V p f)=hb f.told:=(ik ..).trans (by kernel_rfl)
theorem aah(C V p:Hv)(f:jr):iw C V "opened" (aE C V p f)=hb (.int f.opened):=(ik ..).trans (by kernel_rfl)
theorem acq(C V p:Hv)(f:jr):iw C V "given" (aE C V p f)=hb f.given:=(ik ..).trans (by kernel_rfl)
theorem aaa(C V p:Hv)(f:jr):iw C V "standing" (aE C V p f)=hb f.bD:=(ik ..).trans (by kernel_rfl)
theorem ac1(C V p:Hv)(f:jr):iw C V "held" (aE C V p f)=hb (wZ V (vR f)):=(ik ..).trans (by kernel_rfl)
theorem abg(C V:Hv)(x y:HI)(z:HP):iw C V z (oH V x y)=([("amount",.int x),("opening",.int y)]:Hn (HP×Ho)).lookup z:=by unfold iw;(refine(show gk C V (oH V x y)=Hu from rfl).symm▸?_;rw[afQ]);rfl
theorem abt(C V:Hv)(x y:HI):iw C V "amount" (oH V x y)=hb (.int x):=(abg ..).trans (by kernel_rfl)
theorem aaI(C V:Hv)(x y:HI):iw C V "opening" (oH V x y)=hb (.int y):=(abg ..).trans (by kernel_rfl)
def valOf(V:Hv)(ws:Hn (HI×HI))(i:HG):Ho:=match ws[i]?with
 |some q=>oH V q.1 q.2
 |none=>.none
def sv(V:Hv)(f:jr):Ho:=dictOf (f.held.map λq=>(q.1,valOf V f.aC q.2))
theorem ab0(V:Hv)(f:jr):wZ V (vR f)=sv V f:=by
 show NS ((f.held.map λq=>Mh [.str q.1,.int q.2]).map (aj7 V (f.aC.map λq=>.tuple [.int q.1,.int q.2])))=_;unfold sv dictOf;refine Ii.symm▸Ii.symm▸?_;congr 1;refine J0 λq _=>?_;show(JF q.1,tK V _ (.int q.2))=(JF q.1,valOf V f.aC q.2);congr 1;dsimp only[tK,valOf];obtain e:((cD (.int (q.2:HI))).bind λk=>(f.aC.map λq=>Mh [.int q.1,.int q.2])[k.toNat]?)=(f.aC[q.2]?).map λq=>Mh [.int q.1,.int q.2]:=by show(f.aC.map λq=>Mh [.int q.1,.int q.2])[q.2]? =_;exact Iz
 refine e.symm▸?_;cases f.aC[q.2]? <;>rfl
section
variable(Y w Hz)
inductive an7(h:Iv)(f:jr)(m:HP->Hp HE):Hn HE->Hn Hv->Prop
 |mk (v1 v2 v3:HE) (b1 b2 b3:Hn Hv) (g1:m "told"=hb v1) (g2:m "given"=hb v2) (g3:m "standing"=hb v3) (r1:RD Y w Hz h v1 f.told b1) (r2:RD Y w Hz h v2 f.given b2) (r3:RD Y w Hz h v3 f.bD b3):an7 h f m [v1,v2,v3] (b1++(b2++b3))
end
variable{f:jr}{vs:Hn HE}{bs:Hn Hv}
theorem bj.get{a dx C Va p hd:Hv}{aJ:Hn (Hv×Hv)}{ks:Hn (HP×HE)}(i:bj Y w h a dx C Va p hd aJ f vs m ks)(r:bH Y w Hz h vs [f.told,f.given,f.bD] bs):
  an7 Y w Hz h f m vs bs:=by
 obtain e:=i.three;clear i ks aJ hd p Va C dx a;have H:=r.yw;clear r;induction H with|mk v1 vs b1 c1 r1 r=>?_
 have H:=r.yw;clear r;induction H with|mk v2 vs b2 c2 r2 r=>?_
 have H:=r.yw;clear r;induction H with|mk v3 vs b3 c3 r3 r=>?_
 refine ew r.nil_inv λo1 o2=>?_;subst o1;subst o2;rw[IA];exact ew (IP e) λe1 e=>ew (IP e) λe2 e=>⟨_,_,_,_,_,_,e1,e2,(IP e).1,r1,r2,r3⟩
variable{Va p:Hv}
theorem abe(c:wf (aE C Va p f)=Hq):wf f.told=Hq/\wf f.given=Hq/\wf f.bD=Hq:=by have q:=wT (wD c);exact lW (A2 q) (A2 (vX (vX q))) (A2 (vX (vX (vX q))))
variable{aJ:Hn (Hv×Hv)}
theorem bH.held{V:Hv}{ws:Hn (HI×HI)}(hl:aJ.length=ws.length)(each:∀(i:HG)(b db:Hv)(x y:HI),aJ[i]? =hb (b,db)->ws[i]? =hb (x,y)->ic h V b db x y)(hs:Hn (HP×HG)):(∀q∈hs,q.2<aJ.length)->∃bs,bH Y w Hz h (hs.map λq=>.ref (aJ.getD q.2 (0,0)).1) (hs.map λq=>valOf V ws q.2) bs/\∀c∈bs,c∈aJ.flatMap λq=>[q.1,q.2]:=by
 induction hs with
 |nil=>intro _;exact⟨[],.nil,λ_ q=>nomatch q⟩
 |cons q hs bX=>
  intro U;refine aQ (bX λq hq=>U q (.tail _ hq)) λbs r sub=>?_;have h1:=U q (.head _);obtain e1:=HQ h1;obtain e2:=HQ _;obtain e3:aJ.getD q.2 (0,0)=aJ[q.2]:=by(refine JX.trans ?_;rw[e1]);rfl
  obtain e4:valOf V ws q.2=oH V (ws[q.2]'(hl▸h1)).1 (ws[q.2]'(hl▸h1)).2:=by unfold valOf;exact e2▸rfl
  refine i12 ([aJ[q.2].1,aJ[q.2].2]++bs) ?_ (λc hc=>(HD.mp hc).elim (λhc=>IS.mpr ⟨_,KM h1,hc⟩) (sub c));refine HS.symm▸HS.symm▸e3.symm▸e4.symm▸?_;exact .cons (.val (each q.2 aJ[q.2].1 aJ[q.2].2 _ _ e1 e2)) r
theorem bj.amv{C p hd:Hv}{vs:Hn HE}{m:HP->Hp HE}{ks:Hn (HP×HE)}(i:bj Y w h a dx C Va p hd aJ f vs m ks):
  ∃bs,RD Y w Hz h (.ref hd) (sv Va f) (hd::bs)/\∀c∈hd::bs,c∈bP a dx hd aJ:=by
 refine aQ (bH.held (Hz:=Hz) (Y:=Y) (w:=w) i.len i.each f.held i.bound) λbs r sub=>i12 bs (.dict (aW:=ks) (B:=f.held.map λq=>(q.1,valOf Va f.aC q.2)) i.dict i.mods (by exact Ii.symm▸i.keys) (by(refine i.vals.symm▸?_;refine Ii.symm▸?_);exact r)) (λc hc=>?_);clear i ks m vs p C r;rcases Hw.mp hc with rfl|hc
 ·exact .tail _ (.tail _ (.head _))
 ·exact .tail _ (.tail _ (.tail _ (sub c hc)))
theorem af8(V:Hv)(ws:Hn (HI×HI))(i:HG):wf (valOf V ws i)=Hq:=by
 unfold valOf;cases ws[i]?with
 |none=>rfl
 |some q=>
  obtain h1:1<=sizeLine:=by decide
  obtain h2:2<=sizeLine:=by decide
  rfl
theorem ai4(c:wf (aE C Va p f)=Hq):wf (sv Va f)=Hq:=by refine ew (dk.mp (A2 (vX (vX (vX (vX (wT (wD c)))))))) λhl hk=>?_;rw[Hr]at hl;rw[sv,oV];refine⟨by rw[Hr];exact hl,λq hq=>?_⟩;refine aQ (HX.mp hq) λx hx o1=>?_;subst o1;refine⟨?_,af8 _ _ _⟩;have:=(cM _).mp hk _ (HX.mpr ⟨x,hx,rfl⟩);rw[dk]at this;exact(cM _).mp this.2 _ (.head _)
section
variable(Y w Hz)
inductive wX(h:Iv)(C Va:Hv)(y:HP)(z:Ho)(as:Hn Hv):HE->Prop
 |mk (a dx D:Hv) (m:HP->Hp HE) (v:HE) (bs:Hn Hv) (h1:D=C/\y∈aG∨D=Va/\y∈valNames) (h2:oJ h a dx D m) (h3:m y=hb v) (h4:RD Y w Hz h v z bs) (h5:∀c∈bs,c∈as) (h6:wf z=Hq):wX h C Va y z as (.ref a)
end
variable{z:Ho}
set_option tactic.hygienic true in
theorem RD.attr{x:Ho}{as:Hn Hv}(r:RD Y w Hz h u x as)(e:iw C Va y x=hb z)(c:wf x=Hq):wX Y w Hz h C Va y z as u:=by
 unfold iw at e;split at e
 ·rename_i q hq;induction r.vY hq with|mk a dx hd p aJ f vs m ks bs i rs=>?_
  clear as x;induction i.get rs with|mk v1 v2 v3 b1 b2 b3 g1 g2 g3 r1 r2 r3=>?_
  refine dA i.opened λt ht=>xg (abe c) λc1 c2 c3=>?_;obtain R:(y,z)∈([("told",f.told),("opened",.int f.opened),("given",f.given),("standing",f.bD),("held",wZ Va (vR f))]:Hn (HP×Ho)):=cH e;rw[ab0]at R;refine aQ (i.amv (Hz:=Hz)) λbs r4 sub=>?_;exact fm (P:=λq:HP×Ho=>wX Y w Hz h C Va q.1 q.2 (bP a dx hd aJ++(b1++(b2++b3))) (.ref a)) ⟨a,dx,C,m,v1,b1,.inl ⟨rfl,show("told":HP)∈aG by decide⟩,i.obj,g1,r1,λc hc=>Hx _ (HF _ hc),c1⟩
   (fm ⟨a,dx,C,m,_,[],.inl ⟨rfl,show("opened":HP)∈aG by decide⟩,i.obj,ht,.int _ _,λc hc=>(nomatch hc),rfl⟩
   (fm ⟨a,dx,C,m,v2,b2,.inl ⟨rfl,show("given":HP)∈aG by decide⟩,i.obj,g2,r2,λc hc=>Hx _ (Hx _ (HF _ hc)),c2⟩
   (fm ⟨a,dx,C,m,v3,b3,.inl ⟨rfl,show("standing":HP)∈aG by decide⟩,i.obj,g3,r3,λc hc=>Hx _ (Hx _ (Hx _ hc)),c3⟩
   (fm ⟨a,dx,C,m,_,_,.inl ⟨rfl,show("held":HP)∈aG by decide⟩,i.obj,i.held,r4,λc hc=>HF _ (sub c hc),ai4 c⟩ wV)))) _ R
 ·obtain⟨q,hq,e⟩:=ao e;obtain⟨b,db,rfl,rfl,m,t,u,i,g1,g2,_⟩:=r.val_inv hq;exact fm (P:=λq:HP×Ho=>wX Y w Hz h C Va q.1 q.2 [b,db] (.ref b)) ⟨b,db,Va,m,_,[],.inr ⟨rfl,show("amount":HP)∈valNames by decide⟩,i,g1,.int _ _,λc hc=>(nomatch hc),rfl⟩ (fm ⟨b,db,Va,m,_,[],.inr ⟨rfl,show("opening":HP)∈valNames by decide⟩,i,g2,.int _ _,λc hc=>(nomatch hc),rfl⟩ wV) _ (cH e)
abbrev lK(e:HR)(y:HP)(pos:J3):Prop:=∀K:Ke,Jf (.Attribute e y pos) K=(do
   let o<-Jf e K
   Pu pos.atName
   let r<-Oa [o] (getAttr o y Hq)
   letTemporaryGo e o r
   pure r)
variable{sc:IH}{mC mV:HP->Hp HE}
theorem Ev.attr{e:HR}{pos:J3}{m:ar->Hp V}(KC:jX aG U C mC)(KV:jX valNames U Va mV)(h:Ev Y w U n sc e m)(he:lK e y pos):
  Ev Y w U n sc (.Attribute e y pos) (λL=>(m L).bind λv=>(iw C Va y v.x).map λx=>V.fix x v.fl):=by
 intro A Hz K ae X C' L O s v Q E hs hA I;refine ak λv0 hv R hQ=>?_;induction dI R with|mk z hz=>?_
 refine PyProof.Rows.Attribute_any_ (h hs hA I hv λu ay ah aL=>?_) (he K);obtain⟨as,rd,c,fl⟩:=aL;clear he h pos R hv hA hs v;induction rd.attr hz c with|mk a dx D mm v' bs hD i hg r' e8 c'=>?_
 obtain g:=(I.grow ah).base.grow;obtain fin:∀s',I8 ay s'->s'.heap=ay.heap->Q v' s':=λs' k e=>hQ _ _ (ab ah k) (dK.fixed (by exact e.symm▸r') c' (fl.mono e8));clear m c' e8 hz fl c rd as e ah u hQ v0 I s O C' X ae K L;rcases hD with⟨rfl,nc⟩|⟨rfl,nc⟩
 ·exact iq KC g i nc hg r'.handed fin
 ·exact iq KV g i nc hg r'.handed fin
def qH(Y:IB)(w:Ja)(U:Iv)(p:Hv)(ps:Hn Ho):Prop:=∃vs k,U.get? p=hb (cA vs k)/\bH Y w [] U vs ps []/\wf (.list ps)=Hq
def nG(C Va p:Hv)(ps:Hn Ho)(x:Ho):Hp V:=(gk C Va x).bind λq=>if q.1=(p:HI)then hb ⟨.list ps,.s⟩else Hu
theorem jL(C Va p:Hv)(ps:Hn Ho)(f:jr):nG C Va p ps (aE C Va p f)=hb ⟨.list ps,.s⟩:=by unfold nG;(rw[d1,HT];exact(H5 rfl))
theorem Ev.kU{e:HR}{pos:J3}{m:ar->Hp V}(KC:jX aG U C mC)(P:qH Y w U p ps)(h:Ev Y w U n sc e m)(he:lK e (HA "plots") pos):
  Ev Y w U n sc (.Attribute e (HA "plots") pos) (λL=>(m L).bind λv=>nG C Va p ps v.x):=by
 intro A Hz K ae X C' L O s v Q E hs hA I;refine ak λv0 hv=>ak λq hk=>jl λhp R hQ=>?_
 ·have e:=si R;subst e;clear R;refine PyProof.Rows.Attribute_any_ (h hs hA I hv λu ay ah aL=>?_) (he K);obtain⟨as,rd,c,fl⟩:=aL;have gU:=I.grow ah;have g:=gU.base.grow;clear he h pos e fl hv I hA hs;obtain⟨a,dx,hd,p',aJ,f,vs,m',ks,bs,rfl,hx,rfl,rfl,i,rs⟩:=rd.kg hk;clear m rs hx rd hk;obtain rfl:=J7 hp;refine j8 P λus k e1 e2 e3=>iq KC g i.obj (by decide) i.kU rfl λs' k' e'=>hQ _ _ (ab ah k') ⟨[p'],?_,e3,?_⟩
  ·exact e'.symm▸.list (g _ _ e1) (((ajR λz hz=>(gU.base.hide z hz).1).2 e2).grow g)
  ·intro c hc hw;rw[HB.mp hc]at hw;have:=(gU.b8 _ hw).1;exact no (this.symm.trans e1)
variable{K:Ke}{o e:HR}{rest:Hn HR}{name:HP}{pos:J3}{Q:HE->HM->Prop}
theorem aa4{fo:PR}{fd:Ri}{r:Hp HE}(KC:jX nl U C mC)(hf:mC name=hb (.ref jo))(vn:U.get? jo=hb fo)(wt:fo.cls=.type "function")(BX:fo.data=.func fd)
  (hB:Kw (.type "object") name=pure r)(d4:J2 o name K (Jf o K)=Jf o K)
  (pd:((J4 pos (Ie (e::rest) K)).all (λx=> !x.1)&&(Ny pos (Mp [] K)).all (λx=>x.1.isSome)&&decide ((e::rest).length+([]:Hn Ks).length+(if([]:Hn Ks).isEmpty then 0 else 1)<30))=Hq)
  (iI:(apos.endLine==pos.line)=Hq)(he:Ie (e::rest) K=(HH,Jf e K)::Ie rest K)
  (h:wpAny (Iq Y w) A (Jf o K) (λov ay=>∃a dx m,ov=.ref a/\oJ ay.heap a dx C m/\m name=Hu/\bA U ay.heap/\
   wpAny (Iq Y w) A (QE (J4 pos (Ie (e::rest) K))) (λvs aM=>bA U aM.heap/\wpAny (Iq Y w) A (call (.ref jo) (.ref a::vs)) Q E aM) E ay) E s):
  wpAny (Iq Y w) A (Jf (.Call (.Attribute o name apos) (e::rest) [] pos) K) Q E s:=by
 rw[arm_eval_Call,d4];refine Ht (Kf h (λov ay eY=>?_) λ_ _ e=>e);refine e35 eY λa dx m o1 i R g hc=>?_;subst o1;refine Ht (M4 ?_);have ao6:methodCallForm ((e::rest).length+([]:Hn Ks).length) (J4 pos (Ie (e::rest) K)) (Ny pos (Mp [] K))=Hq:=pd;obtain ap6:methodCallPos Hq o K apos pos=pure pos:=by unfold methodCallPos;simp[iI]
 unfold methodCall;refine ao6.symm▸?_;obtain⟨hh,gg,d,t,os⟩:=ay;refine dA KC.here λN X=>?_;obtain⟨nm,q,bs,sn,sub,col,dd,k0,k1,k2,k3,k5,hC⟩:=(X.keeps g).obj;exact Ht (KR (method_of hC (X.keeps g).ns KC.ga KC.gh hf (g _ _ vn) wt hB i.inst R (Ht (P5 ap6 (PyProof.Rows.callWith_meth (h₀:=U) BX vn hc he)))))
structure uw(Y:IB)(w:Ja)(U:Iv)(n:HG)(C:Hv)(y:HP)(m:Hn Ho->Hp Ho):Prop where
 there:∃mC f fo fd r,jX aG U C mC/\mC y=hb (.ref f)/\U.get? f=hb fo/\fo.cls=.type "function"/\fo.data=.func fd/\Kw (.type "object") y=pure r/\Fn Y w U n f m
 own:y∉aG
def gX(C Va:Hv)(x:Ho):Ig:=(gk C Va x).isSome
theorem dW(C Va p:Hv)(f:jr):gX C Va (aE C Va p f)=Hq:=by unfold gX;rw[d1];rfl
variable{ms:ar->Hp (Hn V)}
theorem Ev.ap3{o:HR}{rest:Hn HR}{ap pos:J3}{mo:ar->Hp V}{m:Hn Ho->Hp Ho}(M:uw Y w U k C y m)(ho:Ev Y w U n sc o mo)(yC:rM Y w U n sc (e::rest) ms)(hk:k<=n)
  (d4:∀K:Ke,J2 o y K (Jf o K)=Jf o K)
  (pd:∀K:Ke,((J4 pos (Ie (e::rest) K)).all (λx=> !x.1)&&(Ny pos (Mp [] K)).all (λx=>x.1.isSome)&&decide ((e::rest).length+([]:Hn Ks).length+(if([]:Hn Ks).isEmpty then 0 else 1)<30))=Hq)
  (iI:(ap.endLine==pos.line)=Hq)(he:∀K:Ke,Ie (e::rest) K=(HH,Jf e K)::Ie rest K):
  Ev Y w U n sc (.Call (.Attribute o y ap) (e::rest) [] pos) (λL=>(mo L).bind λv=>(ms L).bind λvs=>if gX C Va v.x=Hq then(m (v.x::vs.map (·.x))).map λz=>⟨z,.d⟩else Hu):=by
 intro A Hz K ae X C' L O s v Q E hs hA I;refine ak λv0 hv=>ak λvs nh R hQ=>?_;split at R
 ·rename_i qv;induction dI R with|mk z hz=>?_
  obtain⟨⟨mC,f,fo,fd,r,KC,h1,h2,h3,h4,h5,h6⟩,u0⟩:=M;refine aa4 (U:=U) KC h1 h2 h3 h4 h5 (d4 K) (pd K) iI (he K) (ho hs hA I hv λu ay ah aL=>?_);obtain⟨as,rd,c,fl⟩:=id aL;obtain gU:=I.grow ah;obtain⟨pf,ED⟩:=IV.mp qv;clear he iI pd d4 ho ap o fl c h5 h4 h3 h2 h1 KC r fd fo mC qv hv I;obtain⟨a,dx,hd,p',aJ,f',us,m',ks,bs,rfl,hx,_,rfl,i,rs⟩:=rd.kg ED;refine i35 a dx m' rfl i.obj ?_ gU.base.grow (yC hs hA gU nh λEz aM aI cY=>?_)
  ·clear yC mo pos rest rs hx ED rd nh hs E;cases e:m' y with
   |none=>rfl
   |some v=>exact IG (i.names _ (by refine e.symm▸?_;nofun)) u0
  ·exact gQ ((gU.grow aI).base.grow)<|cg.fn (h6.mono hk) hA (gU.grow aI) (.cons (aL.grow (ag aI)) cY) (show((m ((v0::vs).map (·.x))).map λy=>(⟨y,.d⟩:V))=hb ⟨z,.d⟩ by(refine HS.symm▸?_;refine hz.symm▸?_);rfl) λu s' k' r'=>hQ u s' (ab ah (ab aI k')) r'
 ·exact no R
noncomputable def fld(y:HP):Hp (Fin 3):=if y="told"then hb 0 else if y="given"then hb 1 else if y="standing"then hb 2 else Hu
noncomputable def yb:Fin 3->HG
 |0=>0
 |1=>2
 |2=>3
noncomputable def jr.put(f:jr):Fin 3->Ho->jr
 |0,z=>{f with told:=z}
 |1,z=>{f with given:=z}
 |2,z=>{f with bD:=z}
noncomputable abbrev jr.three(f:jr):Hn Ho:=[f.told,f.given,f.bD]
noncomputable def wb(j:HG)(z:Ho):Ho->Ho
 |.dict [(k,.tuple fs)]=>.dict [(k,.tuple (fs.set j z))]
 |x=>x
theorem AP{P:Fin 3->Prop}(a:P 0)(b:P 1)(c:P 2)(i:Fin 3):P i:=by
 rcases i with⟨_|_|_|i,hi⟩
 ·exact a
 ·exact b
 ·exact c
 ·exact IG hi (JH.mpr (Jl 3 i))
theorem acL(C Va p:Hv)(f:jr)(i:Fin 3)(z:Ho):wb (yb i) z (aE C Va p f)=aE C Va p (f.put i z):=AP (P:=λi=>wb (yb i) z (aE C Va p f)=aE C Va p (f.put i z)) rfl rfl rfl i
def tZ(C Va:Hv)(y:HP)(x:Ho):Hp (Ho×(Ho->Ho)):=
 (fld y).bind λi=>(gk C Va x).bind λr=>(r.2[yb i]?).map λz=>(z,λz'=>wb (yb i) z' x)
theorem j3:wf (aE C Va p f)=Hq↔wf f.told=Hq/\wf f.given=Hq/\wf f.bD=Hq/\wf (.tuple (f.held.map λq=>.tuple [.str q.1,.int q.2]))=Hq/\wf (.tuple (f.aC.map λq=>.tuple [.int q.1,.int q.2]))=Hq:=by refine⟨λc=>?_,λc=>CQ c λa b d e f=>wK rfl (wL rfl (wS a (wS rfl (wS b (wS d (wS e (wS f rfl)))))))⟩;have q:=wT (wD c);have q':=vX (vX q);have q'':=vX (vX q');exact Ei (A2 q) (A2 q') (A2 (vX q')) (A2 q'') (A2 (vX q''))
theorem akP(c:wf (aE C Va p f)=Hq)(i:Fin 3)(hz:wf z=Hq):wf (aE C Va p (f.put i z))=Hq:=by
 rw[j3]at c⊢;rcases i with⟨_|_|_|i,hi⟩
 ·exact gQ hz c.2
 ·exact lW c.1 hz c.2.2
 ·exact zz c.1 c.2.1 hz c.2.2.2
 ·exact IG ‹_+1+1+1<3› (JH.mpr (Jl 3 _))
variable{ks:Hn (HP×HE)}
theorem bj.put{hd:Hv}(i:bj Y w h a dx C Va p hd aJ f vs m ks)(j:Fin 3)(z:Ho):
  bj Y w h a dx C Va p hd aJ (f.put j z) vs m ks:=by
 rcases j with⟨_|_|_|j,hj⟩
 ·exact⟨i.obj,i.held,i.opened,i.kU,i.three,i.names,i.dict,i.mods,i.keys,i.vals,i.bound,i.len,i.each⟩
 ·exact⟨i.obj,i.held,i.opened,i.kU,i.three,i.names,i.dict,i.mods,i.keys,i.vals,i.bound,i.len,i.each⟩
 ·exact⟨i.obj,i.held,i.opened,i.kU,i.three,i.names,i.dict,i.mods,i.keys,i.vals,i.bound,i.len,i.each⟩
 ·exact IG ‹_+1+1+1<3› (JH.mpr (Jl 3 _))
variable{i:Fin 3}
theorem ag1(h:fld y=hb i):y∈aG/\∀m:HP->Hp HE,[m "told",m "given",m "standing"][i.val]? =hb (m y):=by
 unfold fld at h;split at h
 ·rename_i hy;subst hy;have e:=si h;subst e;clear h;exact⟨by decide,λ_=>rfl⟩
 split at h
 ·rename_i hy;subst hy;have e:=si h;subst e;clear h;exact⟨by decide,λ_=>rfl⟩
 split at h
 ·rename_i hy;subst hy;have e:=si h;subst e;clear h;exact⟨by decide,λ_=>rfl⟩
 ·exact no h
section
variable(Y w Hz)
inductive ajG(h:Iv)(u:HE)(d:Ho)(as:Hn Hv)(C:Hv)(y:HP)(z:Ho)(up g:Ho->Ho):HE->Prop
 |mk (a dx:Hv) (mm:HP->Hp HE) (v':HE) (b':Hn Hv) (h1:oJ h a dx C mm) (h2:mm y=hb v') (h3:y∈aG) (h4:jY Y w Hz h u d as v' z b' (λt=>up (g t))):ajG h u d as C y z up g (.ref a)
end
theorem aql(f:jr)(x:Ho):∀i:Fin 3,f.three.set i.val x=(f.put i x).three:=AP rfl rfl rfl
theorem wf3(c:wf f.told=Hq/\wf f.given=Hq/\wf f.bD=Hq):f.three[i.val]? =hb z->wf z=Hq:=AP (P:=λi=>f.three[i.val]? =hb z->wf z=Hq) (λe=>si e▸c.1) (λe=>si e▸c.2.1) (λe=>si e▸c.2.2) i
theorem apy(f:jr):∀i:Fin 3,(vR f)[yb i]? =f.three[i.val]? :=AP rfl rfl rfl
theorem aoC{g:Ho->Ho}(h:(vR f)[yb i]? =hb z')(e:(z',λz=>wb (yb i) z (aE C Va p f))=(z,g)):f.three[i.val]? =hb z/\g=λz=>aE C Va p (f.put i z):=by cases e;exact⟨(apy f i).symm.trans h,funext λz'=>acL C Va p f i z'⟩
variable{d:Ho}
theorem jY.attr{v:HE}{x:Ho}{b:Hn Hv}{up g:Ho->Ho}(H:jY Y w Hz h u d as v x b up)(e:tZ C Va y x=hb (z,g)):
  ajG Y w Hz h u d as C y z up g v:=by
 obtain⟨i,hi,e⟩:=ao e;obtain⟨r,hr,e⟩:=ao e;induction H.node.vY hr with|mk a dx hd p aJ f vs m ks bs I rs=>?_
 ··refine ew (ag1 hi) λnc Dc=>aQ (H6.mp e) λz' zY e=>?_;obtain⟨e3,eg⟩:=aoC (C:=C) (Va:=Va) (p:=p) zY e;clear b x v hr r hi zY;induction rs.hole e3 with|mk v' l' b' m' g1 g3 g4=>?_
   refine mx H.split λl mr e' ff=>?_;obtain k9:m y=hb v':=by obtain q:=Dc m;rw[I.three,Iz,g1]at q;exact(H4 q).symm
   refine⟨a,dx,m,v',b',I.obj,k9,nc,g3,(wf3 (abe H.xZ) e3),λx' vq=>?_,λ_ _=>H.top _ (by refine eg.symm▸?_;rfl),H.own,l++(bP a dx hd aJ++l'),m'++mr,?_,λh' x' B1 k r'=>?_⟩
   ·exact eg.symm▸H.Ee _ (akP H.xZ i vq)
   ·refine e'.trans ?_;simp
   ·have qv:=(I.kept λc hc o eo=>k c o eo (.inl (HF _ (Hx _ (HF _ (‹_›)))))).put i x';obtain z8:bH Y w Hz h' vs (f.put i x').three (l'++(B1++m')):=by
     have q:=g4 h' x' B1 (k.mono λc hc=>by
      simp only[HD]at hc⊢;rcases hc with hc|hc
      ·exact .inl (.inr (.inr hc))
      ·exact .inr (.inl hc)) r'
     exact(aql f x' i)▸q
    have:=ff h' _ _ (k.mono λc hc=>by
     simp only[HD]at hc⊢;rcases hc with hc|hc
     ·exact .inl (.inl hc)
     ·exact .inr (.inr hc)) (RD.store qv z8)
    refine eg.symm▸?_;simpa using this
theorem Pa.attr{m:ar->Ho->Hp (Ho×(Ho->Ho))}(KC:jX aG U C mC)(h:Pa Y w U n sc gc e m)(he:lK e y pos):
  Pa Y w U n sc gc (.Attribute e y pos) (λL d=>(m L d).bind λp=>(tZ C Va y p.1).map λq=>(q.1,λz=>p.2 (q.2 z))):=by
 intro A Hz K ae X C' L O s ro d z up Q E hs hA I hx;refine ak λz0 hz R hQ=>?_;obtain⟨z0,aoW⟩:=z0;refine aQ (H6.mp R) λo1 hp R=>?_;obtain⟨z',g⟩:=o1;cases R;refine PyProof.Rows.Attribute_any_ (h hs hA I hx hz λad as v b ay ah hO nd r H=>?_) (he K);induction H.attr hp with|mk a dx mm v' b' i hv nc H'=>?_
 refine iq KC (I.grow ah).base.grow i nc hv H'.node.handed λs' k e'=>?_;obtain g':=ag k;exact hQ ad as v' b' s' (ab ah k) hO nd (r.grow g') (H'.grow g')
theorem abJ(C Va p:Hv)(f:jr)(a:HI):wb 1 (.int a) (aE C Va p f)=aE C Va p {f with opened:=a}:=rfl
theorem aew(c:wf (aE C Va p f)=Hq)(a:HI):wf (aE C Va p {f with opened:=a})=Hq:=by rw[j3]at c⊢;exact c
variable{h':Iv}
theorem bj.aeW{hd:Hv}(i:bj Y w h a dx C Va p hd aJ f vs m ks){x:HI}
  (hi:oJ h' a dx C (λz=>if z=HA "opened"then hb (.int x t)else m z))(k:∀c∈bP a dx hd aJ,c≠a->c≠dx->∀o,h.get? c=hb o->h'.get? c=hb o)(nd:(bP a dx hd aJ).Nodup):
  bj Y w h' a dx C Va p hd aJ {f with opened:=x} vs (λz=>if z=HA "opened"then hb (.int x t)else m z) ks:=by
 have ne:∀c∈hd::aJ.flatMap (λq=>[q.1,q.2]),c≠a/\c≠dx:=λc hc=>by
  simp only[bP,HZ,Hw,LR]at nd;simp only[Hw]at hc;refine gQ ?_ ?_
  ·rintro rfl;rcases hc with rfl|hc
   ·exact nd.1.2.1 rfl
   ·exact nd.1.2.2 hc
  ·rintro rfl;rcases hc with rfl|hc
   ·exact nd.2.1.1 rfl
   ·exact nd.2.1.2 hc
 have kk:∀c∈hd::aJ.flatMap (λq=>[q.1,q.2]),∀o,h.get? c=hb o->h'.get? c=hb o:=λc hc=>k c (by simp only[bP,Hw]at hc⊢;exact .inr (.inr hc)) (ne c hc).1 (ne c hc).2;refine⟨hi,?_,⟨t,H5 rfl⟩,?_,?_,λz hz=>?_,?_,i.mods,i.keys,i.vals,i.bound,i.len,λj b db y z e1 e2=>?_⟩
 ·exact iF (by decide) i.held
 ·exact iF (by decide) i.kU
 ·rw[Ir (by decide),Ir (by decide),Ir (by decide)];exact i.three
 ·by_cases e:z=HA "opened"
  ·refine e.symm▸?_;decide
  ·rw[Ir e]at hz;exact i.names z hz
 ·exact uR i.dict λo es ep ho r=>Ar o es ep (kk hd (.head _) o ho) r
 ·exact(i.each j b db y z e1 e2).kept λc hc=>kk c (by refine I5 _ (IS.mpr ⟨_,Il e1,?_⟩);simpa using hc)
def kG(C Va:Hv)(x:HP)(m:ar->Hp V):ar->Hp Out:=λL=>(bL L x).bind λd=>(m L).bind λv=>(gk C Va d.2).bind λq=>(q.2[1]?).bind λz=>(cD z).bind λa=>(cD v.x).bind λb=>hb (.next (L.set x (.own (.tree d.1 (wb 1 (.int (a+b)) d.2)))))
variable{x:HP}{m:ar->Hp V}{L:ar}{ro:Hp Hv}{fl:Fl}
theorem abF{b:HI}(h1:bL L x=hb (ro,aE C Va p f))(h2:m L=hb ⟨.int b,fl⟩):
  kG C Va x m L=hb (.next (L.set x (.own (.tree ro (aE C Va p {f with opened:=f.opened+b}))))):=by
 unfold kG;refine bI h1 ?_;rw[h2,HT,d1,HT];rfl
theorem S1.opened{np tp pos:J3}{m:ar->Hp V}(KC:jX aG U C mC)(h:Ev Y w U n sc e m)(hv:aA sc x=Hq):
  S1 Y w U n sc (.AugAssign (.Attribute (.Name x np) (HA "opened") tp) .Add e pos) (kG C Va x m):=by
 intro A Hz K ae X C' L O s r Q E hs hA I;refine ak λz0 hd=>ak λv k9=>ak λq hq=>ak λz hz=>ak λa ha=>ak λb aO R hQ=>?_;obtain⟨ro,d⟩:=z0
 ·cases R;obtain rfl:=bJ ha;obtain hx:=bU hd;dsimp only at hx hq;refine OC (I.oB (by exact hs.symm▸hv) hx λad as hO rt nd ct cn=>?_);clear hv pos tp np ha hd;obtain⟨a',dx,uj,p,aJ,f,vs,mm,ks,bs,e1,rfl,rfl,rfl,i,rs⟩:=rt.kg hq
  ·clear rt hq;cases e1;refine dA i.opened λt ht=>iq KC I.base.grow i.obj (by decide) ht rfl λay ah aqg=>h hs hA (I.grow ah).toInF k9 λu aM aI cY=>?_;obtain⟨as2,rv,_,_⟩:=cY;clear h aqg ht k9 hA hs;obtain rfl:a=f.opened:=by obtain q:(vR f)[1]? =hb (.int f.opened):=rfl;rw[q]at hz;cases hz;rfl
   rw[bJ aO]at rv;clear m aO hz;induction rv.dR with|mk t2=>?_
   refine PySem.AutoIntOps.iadd_0 ?_;have kk:=ab ah aI;have g:=ag kk;obtain gP:=I.grow kk;obtain t5:=i.kept λc _ o eo=>g c o eo;obtain ao8:=rs.grow g;have ndf:(bP ad dx uj aJ).Nodup:=nd.sublist (MH _ _);have ue:U.get? ad=Hu:=(I.b8 ad (cB hO (.head _))).1;clear rv rs i aI u ah ay t I;refine mx kk λh2 tk2 o1 o2=>?_;subst o1;refine qX (s:=_) KC gP.base.grow t5.obj (by decide) t5.names (by decide) ue λh' tk i' keep=>?_;have out:∀c∈bs,c≠ad/\c≠dx:=λc hc=>by
    rw[H8]at nd;exact⟨λq=>nd.2.2 ad (.head _) c hc q.symm,λq=>nd.2.2 dx (.tail _ (.head _)) c hc q.symm⟩
   have z9:∀c,c=ad∨c=dx->∃o,h2.get? c=hb o/\¬jV o:=λc hc=>t5.obj.alive c (by rcases hc with rfl|rfl<;>simp);have rs3:bH Y w Hz h' vs [f.told,f.given,f.bD] bs:=cK.2 ao8 λc o eo q=>by
    refine keep c o ?_ ?_ eo
    ·rintro rfl;rcases q with q|q
     ·exact(out c q).1 rfl
     ·refine aQ (z9 c (.inl rfl)) λo' wA nt=>?_;have G0:h2.get? c=hb o:=eo;rw[G0]at wA;have e:=si wA;subst e;clear wA;exact nt q
    ·rintro rfl;rcases q with q|q
     ·exact(out c q).2 rfl
     ·refine aQ (z9 c (.inr rfl)) λo' wA nt=>?_;have G0:h2.get? c=hb o:=eo;rw[G0]at wA;have e:=si wA;subst e;clear wA;exact nt q
   have E2:RD Y w Hz h' (.ref ad) (aE C Va p {f with opened:=f.opened+b}) (bP ad dx uj aJ++bs):=.store (t5.aeW i' (λc _ n1 n2 o eo=>keep c o n1 n2 eo) ndf) rs3;have al:=cL.1 E2;have Ak:∀c o,h2.get? c=hb o->c∉bP ad dx uj aJ++bs->h'.get? c=hb o:=λc o eo q=>keep c o (λe=>q (by rw[e];exact .head _)) (λe=>q (by rw[e];exact .tail _ (.head _))) eo;obtain I':=gP.lV (tk:=tk) hx hO Ak (λc hc=>(al c hc).imp λ_ q=>q.1) (λc hc=>⟨.inl hc,al c hc⟩) nd (aew ct _) rfl (λa' q=>by
    refine dA (dX q cn) λo1 z1=>?_;obtain z2:bP ad dx uj aJ++bs=ad::(dx::uj::aJ.flatMap (λq=>[q.1,q.2])++bs):=rfl;rw[z2]at z1;rw[<-(IP z1).1];exact E2)
   rw[abJ]at hQ;exact hQ _ _ I' ((Step.cN g).trans (iR hO Ak λc hc=>.inl hc))
def Fj(Y:IB)(w:Ja)(U:Iv)(n:HG)(f:Hv)(ps:Hn HP)(px:HP)(m:Hn Ho->Hp (Ho×Ho)):Prop:=
 ∀{{A:Jh}} {{Hz:Hn Hv}} {{s:HM}} {{us:Hn HE}} {{B:Hn Ho}} {{pM as:Hn Hv}} {{a:Hv}} {{d z d':Ho}} {{Q:HE->HM->Prop}} {{E:HE->HM->Prop}},
  Room A n->fh Y Hz U s.heap->bH Y w Hz s.heap us B pM->fy B=Hq->ps.length=us.length->pg Y w Hz U s.heap ps px us B a d as->m B=hb (z,d')->
  (∀u eS s',(∃h tk,s'={s with heap:=h,toks:=tk})->(∀b o,s.heap.get? b=hb o->b∉as->s'.heap.get? b=hb o)->(∀b o,s.heap.get? b=hb o->∃o',s'.heap.get? b=hb o')->RD Y w Hz s'.heap (.ref a) d' eS->eS.Nodup->wf d'=Hq->
   (∀c∈eS,c∈as∨s.heap.get? c=Hu)->RD Y w Hz s'.heap u z []->wf z=Hq->Q u s')->wpAny (Iq Y w) A (call (.ref f) us) Q E s
def apT(px:HP)(a:Hv):Out->Hp (Ho×Ho)
 |.next L=>(bL L px).bind λq=>if q.1=hb a then hb (.none,q.2)else Hu
 |.fU z L=>(bL L px).bind λq=>if q.1=hb a then hb (z,q.2)else Hu
 |_=>Hu
def pI(ps:Hn HP)(px:HP)(m:ar->Hp Out)(a:Hv)(B:Hn Ho):Hp (Ho×Ho):=
 if B.length=ps.length then((ps.zip B).lookup px).bind λd=>(m ((nO ps B).set px (.own (.tree (hb a) d)))).bind (apT px a)else Hu
variable{px:HP}
theorem ace{x y:Ho}(h:((bL L px).bind λq=>if q.1=hb a then hb (z,q.2)else Hu)=hb (x,y)):x=z/\L px=hb (.own (.tree (hb a) y)):=by
 obtain⟨⟨r,d⟩,h1,h2⟩:=ao h;dsimp only at h2;split at h2
 ·rename_i e;clear h;cases h2;have:=bU h1;dsimp only at this;rw[e]at this;exact⟨rfl,this⟩
 ·exact no h2
theorem du.tO{s s':HM}{as:Hn Hv}{K:Ke}{C:Hn Hv}{L:ar}{O:Hn (HP×Hn Hv)}{px:HP}{a:Hv}{d:Ho}(J:du Y w Hz U s as K C L O s')(hx:L px=hb (.own (.tree (hb a) d)))(hv:aA K.scope px=Hq):
  ∃eS,RD Y w Hz s'.heap (.ref a) d eS/\eS.Nodup/\wf d=Hq/\∀c∈eS,c∈as∨s.heap.get? c=Hu:=by
 have fin:∀u,cj Y w Hz s.heap (WW K C O) O s'.heap px u (.own (.tree (hb a) d))->∃eS,RD Y w Hz s'.heap (.ref a) d eS/\eS.Nodup/\wf d=Hq/\∀c∈eS,c∈as∨s.heap.get? c=Hu:=by
  rintro u ⟨sp,e,r⟩;induction r.pq with|mk _ q1 q2 q3 _ q5=>?_
  refine Dv sp (by exact(q5 a rfl).symm▸q1) q2 q3 (λc hc=>?_);by_cases q:c∈as
  ·exact .inl q
  ·exact .inr ((J.b8 c (cB e hc)).2 q)
 rcases dY hv with q|q
 ·exact aQ J.ns λmm yh R=>aQ (R px _ hx q) λu o1 r=>fin u r
 ·exact j8 (J.cell px _ hx q) λc u o1 o2 r=>fin u r
variable{ps:Hn HP}
theorem Fj.def{f:Hv}{body:Hn IM}{m:ar->Hp Out}{spec:Hn Ho->Hp (Ho×Ho)}(D:ju U f sc ps body)(DX:px∈ps)(h:St Y w U n sc body m)(R:∀a B r,spec B=hb r->pI ps px m a B=hb r):Fj Y w U (n+1) f ps px spec:=by
 intro A Hz s us B pM as a d z d' Q E hA b rd hw a8 T lb hQ;obtain vk:=R a B _ lb;obtain⟨fo,fd,args,ho,hd,hp,qa,sk,ni,p6,yq,yg,uV,yj⟩:=D.there;unfold pI at vk;split at vk
 ·rename_i G5;obtain⟨ap9,rD,vk⟩:=ao vk;rw[T.dat]at rD;have e:=si rD;subst e;clear rD;obtain⟨o,jU,hy⟩:=ao vk;obtain xw:args.length=ps.length:=by simpa using HL Km qa
  obtain ye:=xw.trans a8;obtain hV:(args.map (·.arg)).Nodup:=by exact qa.symm▸D.names
  refine N4 (Le (fd:=fd) (body:=body) (by have:=hA.depth;exact HC (Hs (Ib _ _) (Ib _ _)) this) (b.grow _ _ ho) hd (by exact ni.symm▸D.co) (by exact ni.symm▸D.gen) sk (yj.keeps b.grow) ?_);refine(iW hp yq ye hV).symm▸qa.symm▸ni.symm▸yg.symm▸p6.symm▸uV.symm▸?_;refine HV (Kz D.kind (λz hz=>?_) λK he s' x=>?_)
  ·refine(dY (D.vars _ (Ky hz).1)).imp id λq=>⟨q,gm _ _ _ (.inl q)⟩
  ·have e1:K.scope=sc:=by refine he.symm▸?_;rfl
   have e2:K.globals=I3:=by refine he.symm▸?_;rfl
   have e3:K.builtins=K1:=by refine he.symm▸?_;rfl
   obtain e4:K.cells=LV (K.locals+1) sc.names []:=by refine he.symm▸?_;rfl
   have I:=du.wi (w:=w) b e1 D.kind e2 e3 e4 D.once D.names rd hw a8 T x;refine⟨I.base.nolimit,Ni ?_⟩;obtain pe:iX K:=⟨by exact e1.symm▸D.gen,by exact e1.symm▸D.co,e3,e2⟩;refine h e1 (hA.deeper pe) I jU ?_;obtain hvp:aA K.scope px=Hq:=by exact e1.symm▸D.vars px DX
   clear R h DX D pe I e4 e3 e2 e1 hV ye xw jU yj uV yg yq p6 ni sk qa hp hd ho args fo x he G5 lb T a8 hw rd b hA pM us A;induction o with
   |next L=>clear spec body f fd;refine ew (ace hy) λo1 hx=>?_;subst o1;intro O' jR J T';exact Cw (J.tO hx hvp) λeS r1 r2 r3 r4=>hQ .none eS jR J.same (λc o e q=>J.keep c o e q) J.alive r1 r2 r3 r4 .none rfl
   |fU z' L=>clear spec body f fd;refine ew (ace hy) λo1 hx=>?_;subst o1;intro u O' jR J ru cu;exact Cw (J.tO hx hvp) λeS r1 r2 r3 r4=>hQ u eS jR J.same (λc o e q=>J.keep c o e q) J.alive r1 r2 r3 r4 ru cu
   |ret z=>exact no hy
   |brk L=>exact no hy
   |cont L=>exact no hy
 ·exact no vk
theorem S1.fU{e:HR}{pos:J3}(h:Ev Y w U n sc e m):S1 Y w U n sc (.Return (hb e) pos) (λL=>(m L).bind λv=>if flat v.x=Hq then hb (.fU v.x L)else Hu):=by
 intro A Hz K ae X C L O s r Q E hs hA I;refine ak λv k9=>jl λhf R hQ=>?_
 ·have e:=si R;subst e;clear R;refine L3 (h hs hA I.toInF k9 λu ay ah aL=>?_);obtain⟨as,ra,ca,oa⟩:=aL;clear h pos e oa k9 hA hs E A;obtain rfl:=ra.bR hf;exact hQ u O ay (I.grow ah) ra ca
variable{st:IM}
theorem S1.dead:S1 Y w U n sc st (λ_=>Hu):=by intro A Hz K ae X C L O s r Q E hs hA I R hQ;exact no R
structure pD(Y:IB)(w:Ja)(U:Iv)(n:HG)(C:Hv)(y p0 p1:HP)(m:Hn Ho->Hp (Ho×Ho)):Prop where
 there:∃mC f fo fd r,jX aG U C mC/\mC y=hb (.ref f)/\U.get? f=hb fo/\fo.cls=.type "function"/\fo.data=.func fd/\Kw (.type "object") y=pure r/\Fj Y w U n f [p0,p1] p0 m
 own:y∉aG
 ne:p1≠p0
def uN(C Va:Hv)(x:HP)(m1:ar->Hp (Hn V))(m:Hn Ho->Hp (Ho×Ho))(k:ar->Ho->Hp Out):ar->Hp Out:=λL=>(bL L x).bind λd=>(m1 L).bind λvs=>match vs with
 |[v]=>if gX C Va d.2=Hq/\flat v.x=Hq then(m [d.2,v.x]).bind λq=>if dD q.2=Hq/\flat q.1=Hq then k (L.set x (.own (.tree d.1 q.2))) q.1 else Hu else Hu
 |_=>Hu
variable{p0:HP}{k':HG}{m1:ar->Hp (Hn V)}{m:Hn Ho->Hp (Ho×Ho)}{kk:ar->Ho->Hp Out}{ae:HM}{C':Hn Hv}{O:Hn (HP×Hn Hv)}
theorem abb{y p1:HP}{e:HR}{np ap cp:J3}(M:pD Y w U k' C y p0 p1 m)(h1:rM Y w U n sc [e] m1)(hv:aA sc x=Hq)(hk:k'<=n)
  (d4:∀K:Ke,J2 (.Name x np) y K (Jf (.Name x np) K)=Jf (.Name x np) K)
  (pd:∀K:Ke,((J4 cp (Ie [e] K)).all (λx=> !x.1)&&(Ny cp (Mp [] K)).all (λx=>x.1.isSome)&&decide ([e].length+([]:Hn Ks).length+(if([]:Hn Ks).isEmpty then 0 else 1)<30))=Hq)
  (iI:(ap.endLine==cp.line)=Hq)(he:∀K:Ke,Ie [e] K=(HH,Jf e K)::Ie [] K)
  {A:Jh}{X:Hn Hv}{r:Out}{E:HE->HM->Prop}(hs:K.scope=sc)(hA:eu A n)(I:du Y w Hz U ae X K C' L O s)(R:uN C Va x m1 m kk L=hb r)
  (hQ:∀u z ft O' s',kk ft z=hb r->du Y w Hz U ae X K C' ft O' s'->Step s.heap s'.heap (WW K C' O) (WW K C' O')->RD Y w Hz s'.heap u z []->wf z=Hq->flat z=Hq->Q u s'):
  wpAny (Iq Y w) A (Jf (.Call (.Attribute (.Name x np) y ap) [e] [] cp) K) Q E s:=by
 obtain⟨⟨ro,d⟩,hd,R⟩:=ao R;obtain⟨vs,nh,R⟩:=ao R;split at R
 ·rename_i v;split at R
  ·rename_i hz;obtain⟨⟨z,d'⟩,kQ,R⟩:=ao R;split at R
   ·rename_i vo;obtain hx:=bU hd;dsimp only at hx;obtain⟨⟨mC,f,fo,fd,rr,KC,g1,g2,g3,g4,g5,hf⟩,u0,gu⟩:=M;refine aa4 (U:=U) KC g1 g2 g3 g4 g5 (d4 K) (pd K) iI (he K) (I.oB (by exact hs.symm▸hv) hx λad as hO rt nd ct cn=>dA (IV.mp hz.1) λpf ED=>?_);obtain⟨a,dx,uj,p',aJ,f',us,m',ks,bs,e1,vq,_,ape,i,rs⟩:=rt.kg ED
    ··clear he iI pd d4 hv ap np rs ape vq bs g5 g4 g3 g1 KC rr fd mC hd ED;cases e1;refine i35 ad dx m' rfl i.obj ?_ I.base.grow (h1 hs hA I.toInF nh λEz aM aI cY=>?_)
      ·clear hs E h1 cp nh;cases e:m' y with
       |none=>rfl
       |some v=>exact IG (i.names _ (by refine e.symm▸?_;nofun)) u0
      ·have gP:=I.grow aI;have g2:=ag aI;refine gQ gP.base.grow ?_;clear I hs h1 cp i ks m' us aJ uj dx u0 nh aI;cases cY with
       |@cons u1 _ _ _ r1 r2=>
        clear y;cases r2;obtain⟨GN,ra,ca,_⟩:=r1;obtain rfl:=ra.bR hz.2;have rt:=rt.grow g2;obtain l1:=HO.mpr gu;obtain H:pg Y w Hz U aM.heap [p0,p1] p0 [.ref ad,u1] [d,v.x] ad d as:=by
         refine⟨by simp,by simp,rt,cn,nd,λc hc=>(gP.b8 c (cB hO hc)).1,λy' u z' q1 q2 q3=>?_⟩;simp only[IT,HK]at q1 q2;rw[HO.mpr q3]at q1 q2;simp only at q1 q2;by_cases y1:y'=p1
         ·clear E l1 gu q3 nd hz;subst y1;simp only[Ih]at q1 q2;have e:=si q1;subst e;clear q1;have e:=si q2;subst e;clear q2;exact i12 ([]) ra (λ_ q=>nomatch q)
         ·rw[HO.mpr y1]at q1;simp at q1
        refine hf (hA.toRoom.mono hk) gP.base (.cons rt (.cons ra .nil)) (by simp[fy,ca,ct]) rfl H kQ λu eS s' sm kp al zX qc BW fr ru cu=>?_;obtain hn:∀c∈eS,(c∈as∨aM.heap.get? c=Hu)/\∃o,s'.heap.get? c=hb o/\¬jV o:=λc hc=>⟨fr c hc,cL.1 zX c hc⟩;obtain ha:∀c∈as,∃o,s'.heap.get? c=hb o:=λc hc=>by
         exact aQ (gP.cO c (cB hO hc)) λo e o1=>al c o e
        clear hA E A hk H l1 ca ra gu hf kQ e fr al ct nd hz;refine pT sm λh' tk o1=>?_;subst o1;obtain I':=gP.lV (tk:=tk) hx hO kp ha hn qc BW vo.1 (λa' q=>by
         refine dA (dX q cn) λo1 z1=>dA (dX rt cn) λo1 z2=>?_;rw[z1]at z2;rw[(IP z2).1];exact zX)
        exact hQ u z _ _ _ R I' ((Step.cN g2).trans (iR hO kp λc hc=>(hn c hc).1)) ru cu vo.2
   ·exact no R
  ·exact no R
 ·exact no R
theorem S1.aoq{x y p0 p1:HP}{e:HR}{np ap cp pos:J3}{k':HG}(M:pD Y w U k' C y p0 p1 m)(h1:rM Y w U n sc [e] m1)(hv:aA sc x=Hq)(hk:k'<=n)
  (d4:∀K:Ke,J2 (.Name x np) y K (Jf (.Name x np) K)=Jf (.Name x np) K)
  (pd:∀K:Ke,((J4 cp (Ie [e] K)).all (λx=> !x.1)&&(Ny cp (Mp [] K)).all (λx=>x.1.isSome)&&decide ([e].length+([]:Hn Ks).length+(if([]:Hn Ks).isEmpty then 0 else 1)<30))=Hq)
  (iI:(ap.endLine==cp.line)=Hq)(he:∀K:Ke,Ie [e] K=(HH,Jf e K)::Ie [] K)
  (hi:∀K:Ke,K.scope=sc->KJ K=HH):
  S1 Y w U n sc (.Expr (.Call (.Attribute (.Name x np) y ap) [e] [] cp) pos) (uN C Va x m1 m λL z=>if isNone z=Hq then hb (.next L)else Hu):=by
 intro A Hz K ae X C' L O s r Q E hs hA I R hQ;refine LP (abb M h1 hv hk d4 pd iI he hs hA I R λu z ft O' s' hr I' t ru _ _=>?_) (hi K hs);split at hr
 ·rename_i hz;have e:=si hr;subst e;clear hr;have hu:u=.none:=by
   clear hi he iI pd d4 hk hv h1 M k' pos cp ap np p1 p0 y e R I hA hs E A L x;cases z with
   |none=>exact ru.none_inv
   |_=>cases hz
  clear hi he iI pd d4 hk hv h1 M k' pos cp ap np p1 p0 y e hz ru R I hA hs E A L x;subst hu;exact hQ O' s' I' t
 ·exact no hr
variable{np cp:J3}
theorem S1.aok{p1:HP}(M:pD Y w U k' C y p0 p1 m)(h1:rM Y w U n sc [e] m1)(hv:aA sc x=Hq)(hv2:aA sc fb=Hq)(hk:k'<=n)
  (d4:∀K:Ke,J2 (.Name x np) y K (Jf (.Name x np) K)=Jf (.Name x np) K)
  (pd:∀K:Ke,((J4 cp (Ie [e] K)).all (λx=> !x.1)&&(Ny cp (Mp [] K)).all (λx=>x.1.isSome)&&decide ([e].length+([]:Hn Ks).length+(if([]:Hn Ks).isEmpty then 0 else 1)<30))=Hq)
  (iI:(ap.endLine==cp.line)=Hq)(he:∀K:Ke,Ie [e] K=(HH,Jf e K)::Ie [] K)
  (iS:∀K:Ke,K.scope=sc->JU (.Call (.Attribute (.Name x np) y ap) [e] [] cp) (hb (.Name fb nj)) pos.line K=pure HH):
  S1 Y w U n sc (.Assign [.Name fb nj] (.Call (.Attribute (.Name x np) y ap) [e] [] cp) pos) (uN C Va x m1 m λL z=>hb (.next (L.set fb (.val ⟨z,.d⟩)))):=by
 intro A Hz K ae X C' L O s r Q E hs hA I R hQ;refine Kk (abb M h1 hv hk d4 pd iI he hs hA I R λu z ft O' s' hr I' t ru cu hf=>?_) (iS K hs);have e:=si hr;subst e;clear hr;exact I'.store (v:=.val ⟨z,.d⟩) (by exact hs.symm▸hv2) ⟨.inl rfl,[],ru,cu,da.nil⟩ λjR EY t'=>hQ O' jR EY (t.trans t')
noncomputable def Am(k:HP):Ho->Ig
 |.str x=>decide (x=k)
 |_=>HH
def uA(k:HP)(aW:Hn (Ho×Ho)):Hn (Ho×Ho):=aW.filter λp=> !Am k p.1
noncomputable def afH:Ho->Ig
 |.int _=>Hq
 |_=>HH
theorem abA(k:HP):∀ys:Hn (HP×Ho),uA k (ys.map λp=>(.str p.1,p.2))=((ys.filter λp=>decide (p.1≠k)).map λp=>(.str p.1,p.2)):=by
 intro ys;induction ys with
 |nil=>rfl
 |cons p ys ih=>
  unfold uA at ih⊢;by_cases h:p.1=k
  ·((rw[HS];refine(Jm (by simp[Am,h])).trans ?_;rw[Jm (by simp[h])]);exact ih)
  ·rw[HS];refine(Jy (by simp[Am,h])).trans ?_;rw[Jy (by simp[h]),HS,ih]
theorem bH.without{k:HP}:∀{ys:Hn (HP×Ho)}{bs:Hn Hv},ks.map (·.1)=ys.map (·.1)->bH Y w Hz h (ks.map (·.2)) (ys.map (·.2)) bs->
  ∃wx,bH Y w Hz h ((PySem.without ks k).map (·.2)) ((ys.filter λp=>decide (p.1≠k)).map (·.2)) wx/\wx.Sublist bs/\(PySem.without ks k).map (·.1)=(ys.filter λp=>decide (p.1≠k)).map (·.1):=by
 induction ks with
 |nil=>
  intro ys bs e r;cases ys with
  |nil=>exact rL ([]) .nil (List.nil_sublist _) rfl
  |cons _ _=>exact nomatch e
 |cons p ks ih=>
  intro ys bs e r;cases ys with
  |nil=>exact nomatch e
  |cons q ys=>
  refine ew (IP e) λe0 e1=>?_;dsimp only at e0;refine j8 r.cons_inv λb1 b2 o1 r1 r2=>?_;subst o1;refine kK (ih e1 r2) λwx g1 g2 g3=>?_;unfold PySem.without at g1 g3⊢;by_cases hk:p.1=k
  ·have h1:(decide (p.1≠k))=HH:=Iw λh=>h hk;have h2:(decide (q.1≠k))=HH:=Iw λh=>h (e0▸hk);rw[Jm (by rw[h1];exact ID),Jm (by rw[h2];exact ID)];exact rL wx g1 (g2.trans (Oq _ _)) g3
  ·have h1:=Ip hk;have h2:(decide (q.1≠k))=Hq:=Ip λh=>hk (e0.trans h);rw[Jy (by rw[h1]),Jy (by rw[h2])];exact rL (_++wx) (.cons r1 g1) ((Me _).append g2) (by rw[HS,HS,g3,e0])
theorem ahF{k:HP}(h:wf (.dict aW)=Hq):wf (.dict (uA k aW))=Hq:=by simp only[wf,HU,Ik]at*;exact⟨Hs (KY _ _) h.1,fY.mpr λp hp=>fY.mp h.2 p (KB.mp hp).1⟩
def AH(x:HP)(mp:ar->Ho->Hp (Ho×(Ho->Ho)))(m:ar->Hp V):ar->Hp Out:=λL=>(bL L x).bind λd=>(mp L d.2).bind λq=>(gK q.1).bind λaW=>(m L).bind λk=>(fW k.x).bind λkey=>(atKey key aW).bind λz=>if afH z=Hq then hb (.next (L.set x (.own (.tree d.1 (q.2 (.dict (uA key aW)))))))else Hu
theorem S1.ap2{pe e:HR}{ap cp pos:J3}{mp:ar->Ho->Hp (Ho×(Ho->Ho))}{m:ar->Hp V}(hp:Pa Y w U n sc x pe mp)(h:Ev Y w U n sc e m)(he:∀K,Ie [e] K=[(HH,Jf e K)])(hl:(ap.endLine==cp.line)=Hq)
  (d4:∀K:Ke,J2 pe (HA "pop") K (Jf pe K)=Jf pe K)(hi:∀K:Ke,K.scope=sc->KJ K=HH):
  S1 Y w U n sc (.Expr (.Call (.Attribute pe (HA "pop") ap) [e] [] cp) pos) (AH x mp m):=by
 intro A Hz K ae X C L O s r Q E hs hA I;refine ak λd hd Ay hQ=>?_;obtain⟨⟨y,up⟩,hy,z6⟩:=ao Ay;obtain⟨aW,AD,EU⟩:=ao z6;obtain⟨⟨kx,kf⟩,hk,EP⟩:=ao EU;obtain⟨key,sj,EJ⟩:=ao EP;obtain⟨z,hz,GH⟩:=ao EJ;clear Ay z6 EU EP EJ;dsimp only at AD sj;refine ew (gH AD) λo1 rO=>?_;subst o1;clear AD;obtain rfl:=dh sj;obtain hx:=bU hd;split at GH
 ·rename_i hint;clear sj hd;cases GH;refine LP (J5 (d4 K) (by rw[he];rfl) hl N5 F.slot_dict_pop F.type_dict_pop (hp hs hA I hx hy λad as v b ay ah hO nd r H=>?_)) (hi K hs);clear hi d4 hl hp pos ap pe hy;induction H.node.nq rO with|mk a ks ys bs b1 b2 b3 b4=>?_
  refine lW b1.typeIs (λa' ea=>by cases ea;exact b1.mapOf.noDict _ rfl) ?_;rw[he];show wpAny _ _ (Lq cp (.builtin "dict.pop") [.ref a] [(HH,Jf e K)] []) _ _ _;refine M9 rfl (Nx (Ly (h hs hA (I.grow ah).toInF hk λu aM aI cY=>LB ?_)));obtain⟨_,rk,_,_⟩:=cY;obtain H:=rk.ij;clear rk;induction H with|mk t=>?_
  have g:=ag aI;have H:=H.grow g;have r:=r.grow g;have b1:=b1.keep g;have b4:=b4.grow g;have kt:=ab ah aI;refine j8 ((adJ (k:=key) b3 b4).1 z hz) λvv ds e1 e2 o1=>?_;obtain a8:ks.length=ys.length:=by simpa using HL Km b3
  obtain n8:ks.length<=sizeLine:=by obtain c:=H.xZ;simp only[wf,HU,Ik]at c;have:=c.1;rw[Hr]at this;exact OM a8 this
  have hint':∃i t',vv=.int i t':=by
   clear he h mp cp t a8 g hz hk aW aI u ah b v rO hA hs E A;cases z with
   |int i=>exact dA e2.int_inv λt' e=>CL i t' e
   |_=>cases hint
  refine call_meetsIn PySem.F.slot_dict_pop b1.typeIs PySem.F.entry_dict_pop (PySem.F.args_dict_pop_2 _ _) (meets_dict_pop_there (strKind Y w) a (lC _ _) [] (.inl rfl) rfl) ⟨ks,vv,b1,n8,e1,λh' vk gy=>?_⟩;clear he h mp cp t n8 a8 b1 g hz hk aW e e2 e1 aI u ah b v hint rO hA hs A;refine pT hint' λi t' o1=>?_;subst o1;have iG:∀c o,aM.heap.get? c=hb o->c≠a->h'.get? c=hb o:=λc o q hc=>(gy.2 c hc).trans q;have uk:=H.nodup nd;have D5:=cL.1 H.node a (.head _);have kb:=g7 uk iG D5;refine kK ((cK.2 b4 kb).without (k:=key) b3) λwx g1 g2 g3=>?_;obtain z8:RD Y w Hz h' (.ref a) (.dict (uA key (ys.map λp=>(.str p.1,p.2)))) (a::wx):=by rw[abA];exact RD.dict vk b2 g3 g1
  refine aQ (I.put kt (aM.toks+1) hx hO nd r H iG z8 (λc hc=>.inl (g2.subset hc)) ((HZ.mp uk).2.sublist g2) (ahF H.xZ) rfl) λO' I' T'=>?_;clear m b3 b2 z8 kb D5 uk iG hint' b4 b1 hx g3 g2 g1 wx gy vk H nd hO I r;refine mx kt λh1 t1 o1 o2=>?_;subst o1;exact hQ O' _ I' T'
 ·exact no GH
def MethAt(U:Iv)(C:Hv)(y:HP)(sc:IH)(ps:Hn HP)(body:Hn IM):Prop:=
 ∃mC f fo fd r,jX aG U C mC/\mC y=hb (.ref f)/\U.get? f=hb fo/\fo.cls=.type "function"/\fo.data=.func fd/\Kw (.type "object") y=pure r/\ju U f sc ps body
variable{body:Hn IM}{m:ar->Hp Out}
theorem uw.of(D:MethAt U C y sc ps body)(h:St Y w U n sc body m)(spec:Hn Ho->Hp Ho)(R:∀B z,spec B=hb z->BE ps m B=hb z)(u0:y∉aG):uw Y w U (n+1) C y spec:=by refine Dx D λmC f fo fd r h1 h2 h3 h4 h5 h6 h7=>⟨⟨mC,f,fo,fd,r,h1,h2,h3,h4,h5,h6,?_⟩,u0⟩;intro A Hz s us B as z Q E hA b rd hw hz hQ;exact Fn.def h7 h hA b rd hw (R B z hz) hQ
theorem pD.of{p1:HP}(D:MethAt U C y sc [p0,p1] body)(h:St Y w U n sc body m)(spec:Hn Ho->Hp (Ho×Ho))(R:∀a B r,spec B=hb r->pI [p0,p1] p0 m a B=hb r)(gu:p1≠p0)(u0:y∉aG):
  pD Y w U (n+1) C y p0 p1 spec:=by
 exact Dx D λmC f fo fd r h1 h2 h3 h4 h5 h6 h7=>⟨⟨mC,f,fo,fd,r,h1,h2,h3,h4,h5,h6,Fj.def h7 (.head _) h R⟩,u0,gu⟩
open Classical in
def tc(ps:Hn HP)(px:HP)(m:ar->Hp Out)(B:Hn Ho):Hp (Ho×Ho):=if∀a,pI ps px m a B=pI ps px m 0 B then pI ps px m 0 B else Hu
theorem acT{r:Ho×Ho}(h:tc ps px m B=hb r)(a:Hv):pI ps px m a B=hb r:=by
 unfold tc at h;split at h
 ·rename_i hq;exact(hq a).trans h
 ·exact no h
theorem aeH{r:Ho×Ho}(h:∀a,pI ps px m a B=hb r):tc ps px m B=hb r:=by exact iT (λa=>(h a).trans (h 0).symm) (h 0)
section
noncomputable def sJ:Hn Ho->Hp (Hn HI)
 |[]=>hb []
 |.int i::r=>(sJ r).map (i::·)
 |_::_=>Hu
theorem ac0:∀{ns:Hn HI},sJ B=hb ns->B=ns.map .int:=by
 induction B with
 |nil=>intro ns h;(have e:=si h;subst e;clear h);rfl
 |cons x B bX=>
  intro ns h;cases x with
  |int i=>refine aQ (H6.mp h) λr h1 h2=>?_;(refine h2▸(bX h1).symm▸?_);rfl
  |_=>exact no h
theorem aeK(ns:Hn HI):sJ (ns.map .int)=hb ns:=by
 induction ns with
 |nil=>exact rfl
 |cons i ns bX=>show(sJ (ns.map .int)).map (i::·)=_;refine bX.symm▸?_;rfl
theorem bH.adz:∀{ns:Hn HI}{vs:Hn HE}{as:Hn Hv},bH Y w Hz h vs (ns.map .int) as->PyProof.Rows.IntsAre vs ns
 |[],vs,as,r=>r.nil_inv.1▸.nil
 |i::ns,vs,as,r=>by
  have H:=r.yw;clear r;induction H with|mk u us bs cs a b=>?_
  have H:=a.dR;clear a;induction H with|mk t=>?_
  exact .cons i t b.adz
theorem afR{ns:Hn HI}(x:PyProof.Rows.IntsAre vs ns):bH Y w Hz h vs (ns.map .int) []:=by
 induction x with
 |nil=>exact .nil
 |cons i t _ ih=>exact .cons (as:=[]) (.int i t) ih
theorem aaN{r:α->α->Prop}(aqf:∀a b,r a b->r b a->a=b){l:Hn α}:∀{m:Hn α},l.Perm m->l.Pairwise r->m.Pairwise r->l=m:=by
 induction l with
 |nil=>exactλp _ _=>(List.nil_perm.mp p).symm
 |cons a l ih=>
  intro m p h1 h2;cases m with
  |nil=>exact nomatch p.length_eq
  |cons b m=>
  rw[Mr]at h1 h2;obtain e:a=b:=by
   rcases Hw.mp (p.subset (.head _):a∈b::m)with x|x
   ·exact x
   ·rcases Hw.mp (p.symm.subset (.head _):b∈a::l)with y|y
    ·exact y.symm
    ·exact aqf a b (h1.1 b y) (h2.1 a x)
  subst e;exact HL _ (ih ((List.perm_cons a).mp p) h1.2 h2.2)
theorem aar{l m:Hn HI}:l.Perm m->l.Pairwise (·<=·)->m.Pairwise (·<=·)->l=m:=aaN λ_ _ h k=>Int.le_antisymm h k
noncomputable def sortI(ns:Hn HI):Hn HI:=ns.mergeSort λa b=>decide (a<=b)
theorem sortI_perm(ns:Hn HI):(sortI ns).Perm ns:=Pb ns _
theorem aai(ns:Hn HI):(sortI ns).Pairwise (·<=·):=by have:=OD (le:=λa b:HI=>decide (a<=b)) (by intro a b c;simp;exactλa a_1=>HY a a_1) (by intro a b;simp;exact QR _ _) ns;exact this.imp λh=>by simpa using h
def sH(v:V):Hp V:=(listOfD v.x).bind λB=>(sJ B).bind λns=>if ns.length<64 then hb ⟨.list ((sortI ns).reverse.map .int),.d⟩else Hu
theorem Ev.aen{kp:J3}{m:ar->Hp V}(hg:bt U "sorted" (.builtin "sorted"))(h:Ev Y w U n sc e m)(hx:aY sc "sorted"=Hq)(he:∀K:Ke,Ie [e] K=[(HH,Jf e K)]):
  Ev Y w U n sc (.Call (.Name (HA "sorted") np) [e] [⟨hb (HA "reverse"),.Constant (.bool Hq) k bp,kp⟩] pos) (λL=>(m L).bind sH):=by
 intro A Hz K ae X C L O s v Q E hs hA I;refine ak λa ha=>ak λB h1=>ak λns h2=>jl λEB R hQ=>?_
 ·have e:=si R;subst e;clear R;refine Ht (di I (by exact hs.symm▸hx) hg (PyProof.Rows.callWith_kw (e:=e) (rest:=[]) ?_ (by rw[he];rfl) (by rw[he];rfl)));rw[he];refine Ly (h hs hA I ha λu ay ah aL=>LB (PyProof.Rows.kws_cons (Qb (PyProof.Rows.kws_nil ?_))));obtain⟨as,ra,ca,oa⟩:=aL;rw[cU h1]at ra ca;obtain rfl:=ac0 h2;obtain H:=ra.listI;clear ra;induction H with|mk d us mm cs a1 a2=>?_
  obtain hl:us.length=ns.length:=by have:=a2.length;simpa using this
  refine PyProof.Rows.sorted_ints_rev (b:=Hq) ⟨_,a1,rfl,_,rfl⟩ a2.adz (Rp hl EB) λout FP b1 b2 b3=>?_;have b3':FP.reverse.Pairwise (·<=·):=by rw[List.pairwise_reverse];exact b3
  obtain rfl:FP=(sortI ns).reverse:=by(refine((aar (((List.reverse_perm FP).trans b2).trans (sortI_perm ns).symm) b3' (aai ns)))▸?_;rw[List.reverse_reverse])
  refine dA (PyProof.Rows.sortedAll_at ay.heap us out) λee hee=>?_;obtain kk:I8 ay {ay with heap:=PyProof.Rows.sortedAll ay.heap us out}:=⟨_,ay.toks,rfl,λb o q=>PyProof.Rows.sortedAll_old q⟩;refine hQ _ _ (ab ah kk) ⟨[ay.heap.objs.size+1],.list (vs:=out.toList) (n:=ee) (by simpa using hee) (afR b1),?_,?_⟩
  ·rw[aV];refine⟨Hs ?_ (by decide:64<=sizeLine),(cM _).mpr λx hx=>?_⟩
   ·have:=(sortI_perm ns).length_eq;simp;exact this▸IK EB
   ·refine aQ (HX.mp hx) λi o1 o2=>?_;subst o2;rfl
  ·intro c hc;exact(HB.mp hc).symm▸(I.grow ah).fresh (aT _ (J1 _))
def qE(y:HP)(k:Hn Ho):Ig:=k.any λt=>decide (((uP t).bind λB=>B[0]?.bind fW)=hb y)
noncomputable def apH:Ho->Hp (Hn (Ho×Ho))
 |.dict aW=>hb aW
 |_=>Hu
def qz(C:Hv)(x:Ho):Hp (Hn Ho×Hn (Ho×Ho)):=(AQ x).bind λkv=>(listOfD kv.1).bind λks=>(apH kv.2).bind λfs=>if(ks[0]?.bind cD)=hb (C:HI)then hb (ks.drop 1,fs)else Hu
theorem eU(C:Hv)(rs:Hn (HP×Hv))(fs:Hn (HP×Ho)):qz C (ec C rs fs)=hb (rs.map (λq=>.tuple [.str q.1,.int q.2]),fs.map λp=>(.str p.1,p.2)):=by show(if hb (C:HI)=hb (C:HI)then hb (rs.map (λq=>Mh [.str q.1,.int q.2]),fs.map λp=>((.str p.1,p.2):Ho×Ho))else Hu)=_;exact(H5 rfl)
def zp(C:Hv)(y:HP)(z d:Ho):Hp Ho:=(qz C d).bind λq=>if qE y q.1=HH/\dz y q.2=HH/\q.1.length+q.2.length<=18 then hb (.dict [(.list (.int C::q.1),.dict (q.2++[(.str y,z)]))])else Hu
section
variable(Y w Hz)
inductive ajV(h:Iv)(C:Hv)(u:HE)(x:Ho)(q:Hn Ho×Hn (Ho×Ho))(as:Hn Hv):Prop
 |mk (a dx:Hv) (rs:Hn (HP×Hv)) (gs:Hn (HP×Ho)) (vs:Hn HE) (m:HP->Hp HE) (bs:Hn Hv) (h1:u=.ref a) (h2:x=ec C rs gs) (h3:as=a::dx::bs) (h4:q=(rs.map (λq=>.tuple [.str q.1,.int q.2]),gs.map λp=>(.str p.1,p.2)))
   (i:oJ h a dx C m) (h5:∀q∈rs,m q.1=hb (.ref q.2)) (h6:gs.map (λp=>m p.1)=vs.map hb) (h7:Within m (rs.map (·.1)++gs.map (·.1))) (r:bH Y w Hz h vs (gs.map (·.2)) bs):ajV h C u x q as
end
theorem RD.j9{q:Hn Ho×Hn (Ho×Ho)}(r:RD Y w Hz h u gc as)(e:qz C gc=hb q):
  ajV Y w Hz h C u gc q as:=by
 revert e;refine r.casesOn (λe=>no e) (λ_ e=>no e) (λ_ _ e=>no e) (λ_ _ e=>no e) (λ_ _ e=>no e) (λ_ _ _ e=>no e) (λ_ _ _ _ e=>by
  obtain⟨kv,h1,h2⟩:=ao e;refine dA (oA h1) λk hk=>?_;rw[hk]at h2;exact no h2) (λ_ e=>no e) (λ_ _ e=>no e) (λ{a dx C' rs gs vs m bs} i q' e' n r e=>?_) (λ_ e=>no e)
 replace e:(if hb (C':HI)=hb (C:HI)then hb (rs.map (λq=>Mh [.str q.1,.int q.2]),gs.map λp=>((.str p.1,p.2):Ho×Ho))else Hu)=hb q:=e;by_cases hv:hb (C':HI)=hb (C:HI)
 ·rw[H5 hv]at e;obtain rfl:=H4 e;obtain rfl:=J7 (H4 hv);exact⟨a,dx,rs,gs,vs,m,bs,rfl,rfl,rfl,rfl,i,q',e',n,r⟩
 ·rw[Ir hv]at e;exact no e
variable{rs:Hn (HP×Hv)}{gs:Hn (HP×Ho)}
theorem qk{BZ:Hn (HP×Hv)}(h:ec C rs gs=ec C BZ gs'):rs=BZ/\gs=gs':=by
 obtain e:=HL (qz C) h;rw[eU,eU]at e;injection e with e;injection e with e1 e2;refine⟨(Mt λx y q=>?_).mp e1,(Mt λx y q=>?_).mp e2⟩
 ·injection q with q;injection q with q1 q2;injection q1 with q1;injection q2 with q2 _;injection q2 with q2;exact MN q1 (J7 q2)
 ·injection q with q1 q2;injection q1 with q1;exact MN q1 q2
theorem acN:qE y (rs.map λq=>.tuple [.str q.1,.int q.2])=HH->∀q∈rs,q.1≠y:=by
 induction rs with
 |nil=>intro _ q hq;exact nomatch hq
 |cons r rs bX=>
  intro h q hq;rw[HS,qE,Qq,Jn]at h;rcases Hw.mp hq with rfl|hq
  ·exactλe=>Ji h.1 (HL hb e)
  ·exact bX h.2 q hq
theorem acV:dz y (gs.map λp=>(.str p.1,p.2))=HH->∀q∈gs,q.1≠y:=by
 induction gs with
 |nil=>intro _ q hq;exact nomatch hq
 |cons r gs bX=>
  intro h q hq;replace h:=Jn.mp (show(decide (r.1=y)||dz y (gs.map λp=>(.str p.1,p.2)))=HH from h);rcases Hw.mp hq with rfl|hq
  ·simpa using h.1
  ·exact bX h.2 q hq
section
variable{X:Hn Hv}
theorem du.adL{nl:Hn HP}{C:Hv}{mC:HP->Hp HE}{x y:HP}{np:J3}{ro:Hp Hv}{d d':Ho}{u:HE}{t:HM}{Q:Nq->HM->Prop}{bs:Hn Hv}(KC:jX nl U C mC)(hy:y∈nl)(I:du Y w Hz U ae X K C' L O s)(kt:I8 s t)(hv:aA K.scope x=Hq)
  (hx:L x=hb (.own (.tree ro d)))(ue:∀b∈bs,s.heap.get? b=Hu)(hbn:bs.Nodup)(qb:wf d'=Hq)(vo:dD d'=Hq)(a8:∀a as,RD Y w Hz s.heap (.ref a) d as->∃dx m ns ir,as=a::dx::ir/\oJ s.heap a dx C m/\Within m ns/\ns.length<=20/\
   ∀h',oJ h' a dx C (λz=>if z=y then hb u else m z)->(∀c o,c≠a->c≠dx->t.heap.get? c=hb o->h'.get? c=hb o)->(a::dx::ir).Nodup->(∀b∈bs,b≠a/\b≠dx)->RD Y w Hz h' (.ref a) d' (a::dx::(ir++bs)))
  (hQ:∀O' s',du Y w Hz U ae X K C' (L.set x (.own (.tree ro d'))) O' s'->Step s.heap s'.heap (WW K C' O) (WW K C' O')->Q () s'):
  wpAny (Iq Y w) A (Jf (.Name x np) K) (λov aM=>wpAny (Iq Y w) A (setAttr ov y u) Q E aM) E t:=by
 obtain It:=I.grow kt;obtain gt:=ag kt;refine It.oB hv hx λad as hO rt nd ct cn=>?_;have GY:RD Y w Hz s.heap (.ref ad) d as:=by
  have fin:∀u',cj Y w Hz ae.heap (WW K C' O) O s.heap x u' (.own (.tree ro d))->∃a',u'=.ref a'/\RD Y w Hz s.heap (.ref a') d as:=by
   rintro u' ⟨sp,e,r⟩;rw[hO]at e;have e:=si e;subst e;clear e;clear np ct;induction r.pq with|mk _ q1 q2 q3 q4 q5=>?_
   exact i12 _ rfl q1
  have key:∃a',RD Y w Hz s.heap (.ref a') d as:=by
   rcases dY hv with q|q
   ·exact aQ I.ns λmm yh R=>aQ (R x _ hx q) λu' o1 r=>aQ (fin u' r) λa' o1 r=>vb a' r
   ·exact j8 (I.cell x _ hx q) λc u' o1 o2 r=>aQ (fin u' r) λa' o1 r=>vb a' r
  refine dA key λa' r=>dA (dX r cn) λo1 z1=>dA (dX rt cn) λo1 z2=>?_;rw[z1]at z2;exact((IP z2).1)▸r
 clear hv np ct rt;refine GD (a8 ad as GY) λdx m ns ir o1 i hw hl aqd=>?_;subst o1;obtain t5:=i.kept (λo e=>gt _ _ e) (λo e=>gt _ _ e);obtain Dh:=(I.b8 ad (cB hO (.head _))).1;obtain yG:=cL.1 GY;have C8:∀b∈bs,b∉ad::dx::ir:=λb aO q=>by
  exact aQ (yG b q) λo e o1=>no ((ue b aO).symm.trans e)
 clear a8 yG GY i;refine mx kt λh2 tk2 o1 o2=>?_;subst o1;refine qX (s:=_) KC It.base.grow t5 hy hw hl Dh λh' tk i' keep=>?_;have E2:=aqd h' i' keep nd λb aO=>⟨λq=>C8 b aO (q▸.head _),λq=>C8 b aO (q▸.tail _ (.head _))⟩;obtain al:=cL.1 E2;have Ak:∀c o,s.heap.get? c=hb o->c∉ad::dx::ir->h'.get? c=hb o:=λc o eo q=>keep c o (λe=>q (by rw[e];exact .head _)) (λe=>q (by rw[e];exact .tail _ (.head _))) (gt c o eo);have apd:∀c,c∈ad::dx::(ir++bs)->c∈ad::dx::ir∨s.heap.get? c=Hu:=λc hc=>by
  rcases HD.mp (show c∈(ad::dx::ir)++bs from hc)with q|q
  ·exact .inl q
  ·exact .inr (ue c q)
 obtain qc:(ad::dx::(ir++bs)).Nodup:=by show((ad::dx::ir)++bs).Nodup;rw[H8];exact lW nd hbn (λa ha b aO e=>C8 b aO (e▸ha))
 obtain I':=I.lV (tk:=tk) hx hO Ak (λc hc=>(al c (by
  show c∈(ad::dx::ir)++bs;exact HF _ hc)).imp λ_ q=>q.1) (λc hc=>⟨apd c hc,al c hc⟩) qc qb vo (λa' q=>by
   exact dA (dX q cn) λo1 z1=>((IP z1).1)▸E2)
 exact hQ _ _ I' (iR hO Ak λc hc=>apd c hc)
end
def zh(C:Hv)(x:HP)(y:HP)(m:ar->Hp Ho):ar->Hp Out:=λL=>(bL L x).bind λd=>(m L).bind λz=>(zp C y z d.2).map λd'=>.next (L.set x (.own (.tree d.1 d')))
theorem afr(h:zp C y z d=hb d'):∃q,qz C d=hb q/\qE y q.1=HH/\dz y q.2=HH/\q.1.length+q.2.length<=18/\d'=.dict [(.list (.int C::q.1),.dict (q.2++[(.str y,z)]))]:=by
 obtain⟨q,h1,h2⟩:=ao h;split at h2
 ·rename_i hc;exact i15 q h1 hc.1 hc.2.1 hc.2.2 ((H4 h2).symm)
 ·exact no h2
theorem ae1:wf (ec C rs gs)=Hq↔((rs.length+1<=sizeLine/\fy (rs.map λq=>.tuple [.str q.1,.int q.2])=Hq)/\gs.length<=sizeLine/\x5 (gs.map λp=>(.str p.1,p.2))=Hq):=by
 obtain h1:1<=sizeLine:=by decide
 simp[ec,wf,x5,fy,h1]
theorem amd(cd:wf (ec C rs gs)=Hq)(cy:wf (.str y)=Hq)(cz:wf z=Hq)(hl:rs.length+gs.length<=18):wf (ec C rs (gs++[(y,z)]))=Hq:=by
 rw[ae1]at cd⊢;refine lW cd.1 (Hs (by simp;exact Nat.le_of_add_left_le hl) (by decide:19<=sizeLine)) ?_;rw[HJ,fY];intro p hp;rcases HD.mp hp with hp|hp
 ·exact fY.mp cd.2.2 p hp
 ·exact(HB.mp hp).symm▸gQ cy cz
theorem S1.setAttr{nl:Hn HP}{mC:HP->Hp HE}{e:HR}{np tp pos:J3}{m:ar->Hp Ho}(KC:jX nl U C mC)(h:l0 Y w U n sc e m)(hy:y∈nl)(EX:wf (.str y)=Hq)(hv:aA sc x=Hq)
  (iS:∀K:Ke,JU e (hb (.Attribute (.Name x np) y tp)) pos.line K=pure HH):
  S1 Y w U n sc (.Assign [.Attribute (.Name x np) y tp] e pos) (zh C x y m):=by
 intro A Hz K ae X C' L O s r Q E hs hA I;refine ak λz0 hd=>ak λz hz R hQ=>?_;obtain⟨ro,d⟩:=z0;induction dI R with|mk d' kQ=>?_
 obtain hx:=bU hd;dsimp only at hx kQ;refine Oh (h hs hA I.toInF hz λu bs ay ah ru nd cz fr=>?_) (iS K);clear iS h pos tp hz hd hA;refine e15 (afr kQ) λq hq g1 g2 g3 o1=>?_;subst o1;have z8:∃a as,RD Y w Hz s.heap (.ref a) d as/\wf d=Hq:=by
  have fin:∀u',cj Y w Hz ae.heap (WW K C' O) O s.heap x u' (.own (.tree ro d))->∃a as,RD Y w Hz s.heap (.ref a) d as/\wf d=Hq:=by
   rintro u' ⟨sp,e,r⟩;clear m np kQ E A;induction r.pq with|mk _ q1 q2 q3 q4 q5=>?_
   exact Ct _ _ q1 q3
  rcases dY (show aA K.scope x=Hq by exact hs.symm▸hv)with q|q
  ·exact aQ I.ns λmm yh R=>aQ (R x _ hx q) λu' o1 r=>fin u' r
  ·exact j8 (I.cell x _ hx q) λc u' o1 o2 r=>fin u' r
 refine mx z8 λo1 o2 rt0 cd=>?_;clear m kQ z8 R r;obtain⟨_,_,rs,gs,_,_,_,_,rfl,_,rfl,_⟩:=rt0.j9 hq;rw[show NS [(.list (.int C::(rs.map λq=>.tuple [.str q.1,.int q.2])),.dict ((gs.map λp=>(.str p.1,p.2))++[(.str y,z)]))]=ec C rs (gs++[(y,z)]) by unfold ec;rw[HJ];rfl]at hQ;obtain g1':=acN g1;obtain g2':=acV g2;simp only[Hr]at g3;refine I.adL (d':=ec C rs (gs++[(y,z)])) KC hy ah (by exact hs.symm▸hv) hx fr nd (amd cd EX cz g3) rfl (λa as rt=>?_) λO' s' I' t=>hQ O' s' I' t;obtain⟨a',dx,BZ,gs',vs,mm,ir,e0,ex,rfl,_,i,q,e,nn,rr⟩:=rt.j9 (eU C rs gs);cases e0;refine ew (qk ex) λo1 o2=>?_;subst o1;subst o2;refine i45 dx mm _ ir rfl i nn (by simp;exact K3 g3) (λh' i' keep qc gu=>?_);have apk:∀c∈ir,c≠a/\c≠dx:=λc hc=>by
  simp only[HZ,Hw,LR]at qc;exact gQ (λq=>qc.1.2 (q▸hc)) (λq=>qc.2.1 (q▸hc))
 have kp:∀{wx:Hn Hv},(∀c∈wx,c≠a/\c≠dx)->i0 ay.heap h' wx:=λ{wx} aO c o eo qq=>by
  obtain z9:∀c,c=a∨c=dx->∃o,ay.heap.get? c=hb o/\¬jV o:=λc hc=>(i.kept (λo e=>ag ah _ _ e) (λo e=>ag ah _ _ e)).alive c (by rcases hc with rfl|rfl<;>simp);refine keep c o ?_ ?_ eo
  ·intro hc;rcases qq with qq|qq
   ·exact(aO c qq).1 hc
   ·refine aQ (z9 c (.inl hc)) λo' wA nt=>?_;rw[eo]at wA;have e:=si wA;subst e;clear wA;exact nt qq
  ·intro hc;rcases qq with qq|qq
   ·exact(aO c qq).2 hc
   ·refine aQ (z9 c (.inr hc)) λo' wA nt=>?_;rw[eo]at wA;have e:=si wA;subst e;clear wA;exact nt qq
 have:=RD.inst (Y:=Y) (w:=w) (Hz:=Hz) (rs:=rs) (fs:=gs++[(y,z)]) (vs:=vs++[u]) i' (λq' vp=>by exact iF (g1' q' vp)<|q q' vp) (by
  refine HJ.trans ?_;rw[HJ];congr 1
  ·exact e▸J0 λp hp=>(Ir (g2' p hp))
  ·simp) (λz' zY=>by
  by_cases ez:z'=y
  ·clear hv EX hy KC np mC nl kp apk g2' g1' hx rr i ex gu qc keep i' rt a cd rt0 e g3 g2 g1 hq fr cz nd ru ah ay hQ I hs E Q O L C' X ae K A;subst ez;simp
  ·rw[Ir ez]at zY;have:=nn z' zY;simp only[HJ,HD]at this⊢;rcases this with q|q
   ·exact .inl q
   ·exact .inr (.inl q)) (as:=ir++(bs++[])) (by
  exact HJ.symm▸(cK.2 (rr.grow (ag ah)) (kp apk)).append (.cons (cK.1 ru (kp gu)) .nil))
 rw[IA]at this;exact this
variable{us:Hn HE}
theorem Room.under(h:Room A (n+1)):Room (A.under (.builtin "type.__call__" ⟨.ref C::us,[]⟩)) n:=by
 refine dA h.frames λl hl=>⟨h.handled,?_,?_,⟨l,?_⟩⟩
 ·have:=h.depth;exact rm1 this
 ·have:=h.units;obtain hc:Code.cUnits (.builtin "type.__call__" ⟨.ref C::us,[]⟩)<=8:=by exact IE rfl
  exact aoN this hc
 ·clear h;cases A;cases hl;rfl
theorem ack{A:Jh}{E:HE->HM->Prop}{nl:Hn HP}{fI:Hv}{oI:PR}{us:Hn HE}{Q:HE->HM->Prop}(KC:jX nl U C mC)(hi:mC "__init__"=hb (.ref fI))(vn:U.get? fI=hb oI)(wt:oI.cls=.type "function")(g:bA U s.heap)
  (hq:∀h' x dx,bA s.heap h'->s.heap.get? x=Hu->s.heap.get? dx=Hu->oJ h' x dx C (λ_=>Hu)->
   wpAny (Iq Y w) (A.under (.builtin "type.__call__" ⟨.ref C::us,[]⟩)) (call (.ref fI) (.ref x::us)) (λr s'=>r=.none/\Q (.ref x) s') E {s with heap:=h'}):
  wpAny (Iq Y w) A (call (.ref C) us) Q E s:=by
 refine dA KC.here λN X=>?_;obtain⟨hh,gg,d,t,os⟩:=s;obtain⟨nm,q,bs,sn,sub,col,dd,k0,k1,k2,k3,k5,hC⟩:=(X.keeps g).obj;refine wpAny_call_obj_init PySem.F.objNew hC (X.keeps g).ns hi (g _ _ vn) wt λh' x dx Mk=>hq h' x dx Mk.keeps Mk.newX Mk.newD (Cw Mk.inst λox hx hcx aqh yE=>?_);obtain uj:=Mk.dict ox hx;rcases yE with⟨D9,_⟩|⟨d',kQ,gu,yh⟩
 ·exact no (D9.symm.trans uj)
 ·clear hq g wt vn hi KC Q us oI fI nl E A hC k5 k3 k2 k1 k0 dd col sub sn bs q nm os t d gg Mk X N;obtain rfl:=H4 (kQ.symm.trans uj);exact⟨ox,hx,hcx,aqh,uj,gu,yh⟩
theorem alw:∀{us:Hn HE}{B:Hn Ho}{as:Hn Hv},bH Y w Hz h us B as->(ps.zip us).lookup y=hb u->(ps.zip B).lookup y=hb gc->∃bs,RD Y w Hz h u gc bs/\∀c∈bs,c∈as:=by
 induction ps with
 |nil=>exactλ_ e _=>no e
 |cons p ps ih=>
  intro us B as r e1 e2;cases us with
  |nil=>exact no e1
  |cons v us=>cases B with
  |nil=>exact no e2
  |cons z B=>
  refine j8 r.cons_inv λbs cs o1 r1 r2=>?_;subst o1;rw[IT,HK]at e1 e2;by_cases hy:y=p
  ·subst hy;rw[Ih]at e1 e2;have e:=si e1;subst e;clear e1;have e:=si e2;subst e;clear e2;exact i12 bs r1 (λc hc=>HF _ hc)
  ·rw[HO.mpr hy]at e1 e2;exact aQ (ih r2 e1 e2) λds q1 q2=>i12 ds q1 (λc hc=>Hx _ (q2 c hc))
structure s5(Y:IB)(w:Ja)(U:Iv)(n:HG)(C:Hv)(ps:Hn HP)(m:Hn Ho->Hp Ho):Prop where
 there:∃nl mC fI oI,jX nl U C mC/\mC "__init__"=hb (.ref fI)/\U.get? fI=hb oI/\oI.cls=.type "function"/\Du Y w U n fI ("self"::ps) "self" m
theorem agT(C:Hv):wf (ec C [] [])=Hq:=by
 obtain h1:1<=sizeLine:=by decide
 rfl
theorem aer{A:Jh}{E:HE->HM->Prop}{k:HG}{C:Hv}{m:Hn Ho->Hp Ho}{us:Hn HE}{B:Hn Ho}{as:Hn Hv}{Q:HE->HM->Prop}{ps:Hn HP}(M:s5 Y w U k C ps m)(hA:Room A (k+1))(b:fh Y Hz U s.heap)(r:bH Y w Hz s.heap us B as)(hw:fy B=Hq)
  (R:m (ec C [] []::B)=hb d)(DT:ps.length=B.length)
  (hQ:∀a eS s',I8 s s'->RD Y w Hz s'.heap (.ref a) d eS->eS.Nodup->wf d=Hq->(∀c∈eS,s.heap.get? c=Hu)->Q (.ref a) s'):wpAny (Iq Y w) A (call (.ref C) us) Q E s:=by
 refine GD M.there λnl mC fI oI KC hi vn wt hf=>ack KC hi vn wt b.grow λh' x dx g hx yE i=>?_;obtain r':=r.grow g;obtain b':=b.trans g;have nd:[x,dx].Nodup:=by obtain⟨_,_,_,_,_,gu,_⟩:=i;simp[K9 gu]
 have jj:RD Y w Hz h' (.ref x) (ec C [] []) [x,dx]:=RD.inst (rs:=[]) (fs:=[]) (vs:=[]) i (λ_ q=>nomatch q) rfl (λy hy=>IG rfl hy) .nil;have new:∀c∈[x,dx],s.heap.get? c=Hu:=λc hc=>by
  exact Cb c hc hx yE
 obtain apa:∀c∈[x,dx],U.get? c=Hu:=λc hc=>by
  clear M E i yE hx wt vn hi KC oI mC nl;cases e:U.get? c with
  |none=>rfl
  |some o=>have:=b.grow _ _ e;exact no ((new c hc).symm.trans this)
 refine hf (A:=A.under _) (s:={s with heap:=h'}) (us:=.ref x::us) (B:=ec C [] []::B) (a:=x) (d:=ec C [] []) (as:=[x,dx]) (Room.under hA) b' (.cons jj r') (by assumption) (by simp[DT,r.length]) ?_ R λeS s' sm kp al rd qc BW fr=>?_
 ·refine⟨by rfl,by rfl,jj,rfl,nd,apa,λy u z e1 e2 hy=>?_⟩;simp only[IT,HK]at e1 e2;rw[HO.mpr hy]at e1 e2;exact aQ (alw r e1 e2) λbs q1 q2=>i12 bs (q1.grow g) (λc hc hq=>dA (q1.alive c hc) λo e=>no ((new c hq).symm.trans e))
 ·clear DT R hw r b hA M E A apa jj nd b' r' al i yE hx hf wt vn hi KC oI fI mC nl;refine pT sm λqw tk o1=>?_;subst o1;refine gQ rfl (hQ x eS _ ⟨qw,tk,rfl,λc o e=>kp c o (g c o e) λq=>?_⟩ rd qc BW λc hc=>?_)
  ·exact no ((new c q).symm.trans e)
  ·rcases fr c hc with q|q
   ·exact new c q
   ·clear hQ ps Q as B us m C k new fr BW qc rd kp sm hc dx x;cases e:s.heap.get? c with
    |none=>rfl
    |some o=>obtain q:h'.get? c=Hu:=q;exact no (q.symm.trans (g c o e))
theorem Ev.ofT{m:ar->Hp Ho}(h:l0 Y w U n sc e m):Ev Y w U n sc e (λL=>(m L).map λd=>⟨d,.d⟩):=by
 intro A Hz K ae X C L O s v Q E hs hA I R hQ;induction dI R with|mk d hd=>?_
 exact h hs hA I hd λu as s' k r _ c fr=>hQ u s' k ⟨as,r,c,λa ha=>I.fresh (fr a ha)⟩
theorem du.aha{Q:Nq->HM->Prop}{X:Hn Hv}(I:du Y w Hz U ae X K BA L O s)(ah:I8 s ay)(hv:aA K.scope x=Hq)(rd:RD Y w Hz ay.heap (.ref a) d as)(nd:as.Nodup)(c:wf d=Hq)(hn:dD d=Hq)(fr:∀b∈as,s.heap.get? b=Hu)
  (hQ:∀s',du Y w Hz U ae X K BA (L.set x (.own (.tree Hu d))) ((x,as)::O) s'->Step s.heap s'.heap (WW K BA O) (WW K BA ((x,as)::O))->Step ay.heap s'.heap (WW K BA ((x,as)::O)) (WW K BA ((x,as)::O))->Q () s'):wpAny (Iq Y w) A (Pn K x (.ref a)) Q E ay:=by
 refine(I.ab9 ah x fr (cL.1 rd) nd).store (v:=.own (.tree Hu d)) hv ⟨as,by(refine HK.trans ?_;rw[Ih]),.tree rd nd c hn (λ_ q=>nomatch q)⟩ λs' I' t=>hQ s' (by rw[<-nu];exact I') (Step.trans ⟨λb o e _=>ag ah b o e,λb aO=>?_⟩ t) t;simp only[WW,IF,Hw,HD]at aO⊢;rcases aO with h|h|h|h
 ·exact .inl (.inl h)
 ·exact .inl (.inr (.inl h))
 ·exact .inr (fr b h)
 ·exact .inl (.inr (.inr h))
theorem l0.new{m:Hn Ho->Hp Ho}(M:s5 Y w U k C ps m)(hg:bt U cls (.ref C))(yC:rM Y w U n sc (e::rest) ms)(hk:k+1<=n)(hx:aY sc cls=Hq)
  (he:∀K:Ke,Ie (e::rest) K=(HH,Jf e K)::Ie rest K)(amO:∀K:Ke,(J4 pos (Ie rest K)).any (·.1)=HH):
  l0 Y w U n sc (.Call (.Name cls np) (e::rest) [] pos) (λL=>(ms L).bind λvs=>if vs.length=ps.length then m (ec C [] []::vs.map (·.x))else Hu):=by
 intro A Hz K ae X C' L O s d Q E hs hA I;refine ak λvs nh R hQ=>?_;split at R
 ·rename_i hl;refine GD (id M.there) λnl mC fI oI KC hi vn wt hf=>dA KC.here λN X=>Ht (di I (by exact hs.symm▸hx) hg (PyProof.Rows.callWith_cls X (yC hs hA I nh λus ay ah aL=>⟨(I.grow ah).base.grow,?_⟩) (he K) (amO K)));refine kK aL.yv λas rd hw o1=>aer M (hA.toRoom.mono hk) (I.grow ah).base rd hw R (by rw[Hr,hl]) λa eS s' k' zX qc BW fr=>hQ _ eS s' (ab ah k') zX qc BW λc hc=>?_;cases e:s.heap.get? c with
  |none=>rfl
  |some o=>have:=ag ah _ _ e;exact no ((fr c hc).symm.trans this)
 ·exact no R
theorem agF(rd:RD Y w Hz h u d as)(hn:dD d=Hq):∃a,u=.ref a:=by
 cases d with
 |list B=>exact e42 rd.fK λa _ _ _ e _=>⟨a,e⟩
 |dict ps=>exact mx rd.head.1 λa _ e _=>⟨a,e⟩
 |_=>cases hn
theorem S1.apN{x:HP}{e:HR}{p pos:J3}{m:ar->Hp Ho}(h:l0 Y w U n sc e m)(hv:aA sc x=Hq)(iS:∀K:Ke,K.scope=sc->JU e (hb (.Name x p)) pos.line K=pure HH):
  S1 Y w U n sc (.Assign [.Name x p] e pos) (λL=>(m L).bind λd=>if dD d=Hq then hb (.next (L.set x (.own (.tree Hu d))))else Hu):=by
 intro A Hz K ae X C' L O s r Q E hs hA I;refine ak λd hd=>jl λhn R hQ=>?_
 ·have e:=si R;subst e;clear R;refine Kk (h hs hA I.toInF hd λu as ay ah rd nd c fr=>?_) (iS K hs);refine dA (agF rd hn) λa o1=>?_;subst o1;exact I.aha ah (by exact hs.symm▸hv) rd nd c hn fr λs' I' t _=>hQ _ s' I' t
variable{rest:Hn IM}
theorem acQ{E:HE->HM->Prop}{fI:Hv}{mC:HP->Hp HE}{p1 p2 p3 p4:J3}{bs:Hn Hv}
  (KC:jX aG U C mC)(D:ju U fI sc ["self","plots"] (.Assign [.Attribute (.Name (HA "self") p1) (HA "plots") p2] (.Name (HA "plots") p3) p4::rest))(wy:sc.names.lookup (HA "plots")=hb .local)(h:St Y w U k sc rest m)
  (R:∀L,L "self"=hb (.own (.tree (hb a) (ec C [(HA "plots",p)] [])))->∃ft,m L=hb (.next ft)/\ft "self"=hb (.own (.tree (hb a) d')))
  (hA:Room A (k+1))(b:fh Y Hz U s.heap)(i:oJ s.heap a dx C λ_=>Hu)(GZ:U.get? a=Hu)(rN:U.get? dx=Hu)(rp:RD Y w Hz s.heap (.ref p) nV bs)(cp:wf nV=Hq)(yA:∀c∈bs,c≠a/\c≠dx)
  (hQ:∀eS s',(∃h tk,s'={s with heap:=h,toks:=tk})->(∀c o,s.heap.get? c=hb o->c∉[a,dx]->s'.heap.get? c=hb o)->RD Y w Hz s'.heap (.ref a) d' eS->eS.Nodup->wf d'=Hq->(∀c∈eS,c∈[a,dx]∨s.heap.get? c=Hu)->Q .none s'):
  wpAny (Iq Y w) A (call (.ref fI) [.ref a,.ref p]) Q E s:=by
 obtain⟨fo,fd,args,ho,hd,hp,qa,sk,ni,p6,yq,yg,uV,yj⟩:=D.there;have nd:[a,dx].Nodup:=by obtain⟨_,_,_,_,_,gu,_⟩:=i;simp[K9 gu]
 have jj:RD Y w Hz s.heap (.ref a) (ec C [] []) [a,dx]:=RD.inst (rs:=[]) (fs:=[]) (vs:=[]) i (λ_ q=>nomatch q) rfl (λnV hy=>IG rfl hy) .nil;obtain T:pg Y w Hz U s.heap ["self","plots"] "self" [.ref a,.ref p] [ec C [] [],nV] a (ec C [] []) [a,dx]:=by
  refine⟨by rfl,by rfl,jj,rfl,nd,λc hc=>?_,λz u x e1 e2 hy=>?_⟩
  ·exact Cb c hc GZ rN
  ·simp only[IT,HK]at e1 e2;rw[HO.mpr hy]at e1 e2;by_cases hz:z="plots"
   ·clear rN GZ i E nd hy;subst hz;simp only[Ih]at e1 e2;have e:=si e1;subst e;clear e1;have e:=si e2;subst e;clear e2;refine i12 bs rp (λc hc hq=>?_);simp only[Hw,Ia,Kv]at hq;rcases hq with hq|hq
    ·exact(yA c hc).1 hq
    ·exact(yA c hc).2 hq
   ·rw[HO.mpr hz]at e1;exact no e1
 obtain ye:args.length=[NT a,.ref p].length:=by simpa using HL Km qa
 obtain hV:(args.map (·.arg)).Nodup:=by exact qa.symm▸D.names
 refine N4 (Le (fd:=fd) (body:=_::rest) (by have:=hA.depth;exact HC (Hs (Ib _ _) (Ib _ _)) this) (b.grow _ _ ho) hd (by exact ni.symm▸D.co) (by exact ni.symm▸D.gen) sk (yj.keeps b.grow) ?_);refine(iW hp yq ye hV).symm▸qa.symm▸ni.symm▸yg.symm▸p6.symm▸uV.symm▸?_;refine HV (Kz D.kind (λz hz=>?_) λK he s' x=>?_)
 ·refine(dY (D.vars _ (Ky hz).1)).imp id λq=>⟨q,gm _ _ _ (.inl q)⟩
 ·have e1:K.scope=sc:=by refine he.symm▸?_;rfl
  have e2:K.globals=I3:=by refine he.symm▸?_;rfl
  have e3:K.builtins=K1:=by refine he.symm▸?_;rfl
  have e4:K.cells=LV (K.locals+1) sc.names []:=by refine he.symm▸?_;rfl
  have I:=du.wi (w:=w) b e1 D.kind e2 e3 e4 D.once D.names (.cons jj (.cons rp .nil)) (by simp[fy,agT,cp]) rfl T x;refine gQ I.base.nolimit (Ni ?_);have pe:iX K:=⟨by exact e1.symm▸D.gen,by exact e1.symm▸D.co,e3,e2⟩;have GG:K.kindOf (HA "plots")=hb .local:=by unfold KG;exact e1.symm▸wy
  obtain uZ:Oc K.kindOf ((["self","plots"]:Hn HP).zip [.ref a,.ref p]) (λ_=>Hu) (HA "plots")=hb (.ref p):=(ly (c:=λ_=>Hu) D.names (show((["self","plots"]:Hn HP).zip [NT a,.ref p]).lookup (HA "plots")=hb (.ref p)from by kernel_rfl)).1 GG;refine M8 (Oh (MJ (Lo I.kind GG x.toInCall.ns uZ ?_) (by decide)) rfl);refine I.adL (d':=ec C [(HA "plots",p)] []) (bs:=[]) KC (by decide) (aD _) (by exact e1.symm▸D.vars _ (.head _)) (by rw[eW];exact H5 rfl) (λ_ q=>nomatch q) I9 ?_ rfl (λa' as rt=>?_) λO' aM gP CR=>?_
  ·exact wK (k:=.list _) (wL rfl (wS rfl (wS (wL rfl (wS (show wf (.str (HA "plots"))=Hq by decide +kernel) rfl)) rfl))) rfl
  ·clear yA cp rp rN GZ i b wy KC bs mC E uZ GG I e4 e3 hV ye T jj nd yj uV yg yq p6 ni sk qa hp hd ho args fo he e2 x;obtain⟨a'',dx',rs,gs,vs,mm,ir,e0,ex,rfl,_,i',q,e,nn,rr⟩:=rt.j9 (eU C [] []);clear fd rt;cases e0;refine ew (qk ex) λo1 o2=>?_;subst o1;subst o2;clear ex;refine ew rr.nil_inv λo1 o2=>?_;subst o1;subst o2;exact i45 dx' mm ([]) ([]) rfl i' nn (by decide) (λh' i'' keep qc gu=>RD.inst (rs:=[(HA "plots",p)]) (fs:=[]) (vs:=[]) i'' (λq' vp=>by exact(HB.mp vp).symm▸H5 rfl) rfl (λz hz=>by
    by_cases ez:z=HA "plots"
    ·rw[ez];exact .head _
    ·rw[Ir ez]at hz;exact IG (nn z hz) Ia) .nil)
  ·refine aQ (R (((nO ["self","plots"] [ec C [] [],nV]).set "self" (.own (.tree (hb a) (ec C [] [])))).set "self" (.own (.tree (hb a) (ec C [(HA "plots",p)] [])))) (by rw[eW];exact H5 rfl)) λft q1 q2=>h e1 (hA.deeper pe) gP q1 ?_;intro aqy dN J apq;refine Cw (J.tO q2 (by exact e1.symm▸D.vars _ (.head _))) λeS r1 r2 r3 r4=>?_;exact hQ eS dN J.same (λc o e q=>J.keep c o e q) r1 r2 r3 r4
noncomputable def DG:jr:=⟨.list [],0,.list [],.dict [],[],[]⟩
def newD(C p:Hv):Ho:=ec C [(HA "plots",p)] [(HA "told",.list []),(HA "opened",.int 0),(HA "given",.list []),(HA "standing",.dict []),(HA "held",.dict [])]
theorem RD.aiy{V:Hv}(r:RD Y w Hz h (.ref a) (newD C p) as)(nd:as.Nodup):∃eS,RD Y w Hz h (.ref a) (aE C V p DG) eS/\eS.Nodup/\∀c∈eS,c∈as:=by
 obtain⟨a',dx,rs,gs,vs,m,bs,e0,ex,rfl,_,i,q,e,nn,rr⟩:=r.j9 (eU C _ _);clear r;cases e0;refine ew (qk ex) λo1 o2=>?_;subst o1;subst o2;obtain H:=rr.yw;clear rr;induction H with|mk v1 vs b1 c1 r1 EA=>?_
 have H:=EA.yw;clear EA;induction H with|mk v2 vs b2 c2 r2 E4=>?_
 have H:=E4.yw;clear E4;induction H with|mk v3 vs b3 c3 r3 rr3=>?_
 have H:=rr3.yw;clear rr3;induction H with|mk v4 vs b4 c4 r4 rr4=>?_
 have H:=rr4.yw;clear rr4;induction H with|mk v5 vs b5 c5 r5 rr5=>?_
 clear c4 c3 c2 c1 bs;refine ew rr5.nil_inv λo1 o2=>?_;subst o1;subst o2;refine ew (IP e) λ(m1:m (HA "told")=hb v1) e=>ew (IP e) λ(m2:m (HA "opened")=hb v2) e=>ew (IP e) λ(m3:m (HA "given")=hb v3) e=>ew (IP e) λ(m4:m (HA "standing")=hb v4) e=>?_;obtain m5:=(IP e).1;clear rr5 vs;induction r2.dR with|mk t2=>?_
 clear v2 vs;obtain rfl:=r2.bR rfl;clear r2 vs;refine e47 (r5.agP rfl) λhd ks B b5' o1 o2 ex q1 q2 q3 q4=>?_;subst o1;subst o2;obtain s4:B=[]:=by induction B with|nil=>rfl|cons x B=>cases ex
 clear r5 vs ex;subst s4;obtain hks:ks=[]:=by induction ks with|nil=>rfl|cons x B=>cases q3
 clear vs q3 ex;subst hks;cases q4;obtain st:bj Y w h a dx C V p hd [] DG [v1,v3,v4] m []:=by
  refine⟨i,m5,⟨t2,m2⟩,q _ (.head _),?_,?_,q1,q2,rfl,rfl,λ_ q=>(nomatch q),rfl,λj b db x y e=>no e⟩
  ·refine m1.symm▸m3.symm▸m4.symm▸?_;rfl
  ·intro z hz;have:=nn z hz;simp only[HS,MX,Lj,KX,Hw,Ia,Kv]at this;clear V nn i hz e q q2 q1 m5 m4 m3 m2 m1;rcases this with rfl|rfl|rfl|rfl|rfl|rfl<;>decide
 refine rL _ (RD.store st (.cons r1 (.cons r3 (.cons r4 .nil)))) ?_ ?_
 ·simp only[bP,PL,KX,IA]at nd⊢;refine Nw ?_ nd;refine .cons _ (.cons _ ?_);rw[<-I6,<-I6,<-I6];exact List.perm_append_comm
 ·intro c hc;replace hc:c∈a::dx::hd::(b1++(b3++(b4++[]))):=hc;rw[IA]at hc;show c∈a::dx::(b1++(b3++(b4++[hd])));rcases Hw.mp hc with h|hc
  ·exact h▸.head _
  rcases Hw.mp hc with h|hc
  ·exact h▸.tail _ (.head _)
  refine .tail _ (.tail _ ?_);rcases Hw.mp hc with h|hc
  ·exact h▸Hx _ (Hx _ (Hx _ (.head _)))
  rcases HD.mp hc with h|hc
  ·exact HF _ h
  refine Hx _ ?_;rcases HD.mp hc with h|hc
  ·exact HF _ h
  exact Hx _ (HF _ hc)
noncomputable def pC(W:Hn Hv)(h:Iv):Iv:=⟨h.objs.mapIdx λi o=>if i∈W then{o with data:=.freed}else o,h.life⟩
theorem j2(W:Hn Hv)(h:Iv)(b:Hv):(pC W h).get? b=if b∈W then Hu else h.get? b:=by
 unfold Heap.get? pC;refine Array.getElem?_mapIdx.symm▸?_;cases e:h.objs[b]?with
 |none=>simp
 |some o=>
  by_cases hw:b∈W
  ·simp[hw]
  ·simp[hw]
theorem aeC{W:Hn Hv}:bA (pC W h) h:=λb o e=>by
 rw[j2]at e;split at e
 ·exact no e
 ·exact e
theorem acI:(∀{v x as},RD Y w Hz h v x as->(∀b o,h.get? b=hb o->(b∈as∨(jV o/\b∉Hz))->h'.get? b=hb o)->RD Y w [] h' v x as)/\∀{vs B as},bH Y w Hz h vs B as->(∀b o,h.get? b=hb o->(b∈as∨(jV o/\b∉Hz))->h'.get? b=hb o)->bH Y w [] h' vs B as:=
 RD.both (λ_=>.none) (λb _=>.bool b) (λi t _=>.int i t) (λi t _=>.str i t) (λa _ r k=>.list (k _ _ a (.inl (.head _))) (r λb o e q=>k b o e (q.imp (.tail _) id))) (λa z _ r k=>.tuple (k _ _ a (.inr ⟨⟨_,_,rfl⟩,z⟩)) (λq=>nomatch q) (r k))
  (λp g e _ r k=>.dict (by exact uR p λo es ep ho p=>Ar o es ep (k _ _ ho (.inl (.head _))) p) g e (r λb o e q=>k b o e (q.imp (.tail _) id)))
  (λi k=>.val (i.kept λc hc o e=>k c o e (.inl hc))) (λi _ r k=>.store (i.kept λc hc o e=>k c o e (.inl (HF _ hc))) (r λb o e q=>k b o e (q.imp (Hx _) id)))
  (λi p e n _ r k=>.inst (i.kept (λo eo=>k _ o eo (.inl (.head _))) (λo eo=>k _ o eo (.inl (.tail _ (.head _))))) p e n (r λb o e q=>k b o e (q.imp (λq=>.tail _ (.tail _ q)) id))) (λi k=>.num (i.kept λo e _ _=>k _ o e (.inl (.head _)))) (λ_=>.nil)
  (λ_ _ a r k=>.cons (a λb o e q=>k b o e (q.imp (HF _) id)) (r λb o e q=>k b o e (q.imp (Hx _) id)))
variable{aO:Iv}
theorem fh.back(aH:fh Y [] U U)(g:bA U aO)(b:fh Y Hz aO h):fh Y Hz U h:=by
 refine⟨λz hz=>⟨?_,(b.hide z hz).2⟩,aH.lim,aH.seer,aH.tree,aH.mods,g.trans b.grow⟩;cases e:U.get? z with
 |none=>rfl
 |some o=>have:=g _ _ e;exact no (((b.hide z hz).1).symm.trans this)
theorem fh.up(aH:fh Y [] U U)(g:bA U aO):fh Y [] aO aO:=by exact dA aH.mods λo ho=>⟨λ_ q=>(nomatch q),aH.lim.keeps g,aH.seer.keeps g,aH.tree,⟨o,g _ _ ho⟩,bA.refl _⟩
theorem bt.up(g:bA U aO)(h:bt U x v):bt aO x v:=by
 rcases h with⟨mg,R,hv⟩|⟨mg,mb,R,h0,qx,hv⟩
 ·exact .inl ⟨mg,R.keeps g,hv⟩
 ·exact .inr ⟨mg,mb,R.keeps g,h0,qx.keeps g,hv⟩
theorem BF.up(g:bA U aO)(fq:BF U):BF aO:=⟨fq.len.up g,fq.isinstance.up g,fq.range.up g,fq.int.up g,fq.bool.up g,fq.str.up g,fq.list.up g,fq.tuple.up g⟩
theorem jX.up(g:bA U aO)(aU:jX ns U C mC):jX ns aO C mC:=by exact dA aU.here λN X=>⟨⟨N,X.keeps g⟩,aU.ga,aU.gh,aU.sa,aU.attrs,aU.obj⟩
theorem ju.up(g:bA U aO)(D:ju U jo sc ps body):ju aO jo sc ps body:=by obtain⟨fo,fd,args,h1,h2,h3,h4,h5,h6,h7,h8,h9,h10,h11⟩:=D.there;exact⟨⟨fo,fd,args,g _ _ h1,h2,h3,h4,h5,h6,h7,h8,h9,h10,h11.keeps g⟩,D.kind,D.gen,D.co,D.once,D.names,D.vars⟩
theorem MethAt.up(g:bA U aO)(D:MethAt U C y sc ps body):MethAt aO C y sc ps body:=by exact Dx D λmC f fo fd r h1 h2 h3 h4 h5 h6 h7=>Fo mC f fo fd r (h1.up g) h2 (g _ _ h3) h4 h5 h6 (h7.up g)
section
variable{X C:Hn Hv}
theorem du.back(aH:fh Y [] U U)(g:bA U aO)(I:du Y w Hz aO ae X K C L O s):du Y w Hz U ae X K C L O s:=by
 refine⟨⟨I.same,aH.back g I.base,I.keep,I.alive,I.cO,λa ha=>⟨?_,(I.b8 a ha).2⟩,I.b9,I.kind,I.glob,I.jJ,I.rQ,I.ns,I.cell⟩,I.fc,I.ma,I.ie⟩;cases e:U.get? a with
 |none=>rfl
 |some o=>have:=g _ _ e;exact no (((I.b8 a ha).1).symm.trans this)
theorem Ends.up(aH:fh Y [] U U)(g:bA U aO){r:Out}{Q:Flow->HM->Prop}(h:Ends Y w Hz U ae X K C O s r Q):Ends Y w Hz aO ae X K C O s r Q:=by
 induction r with
 |next L=>exactλuY jR I t=>h uY jR (I.back aH g) t
 |brk L=>exactλuY jR I t=>h uY jR (I.back aH g) t
 |cont L=>exactλuY jR I t=>h uY jR (I.back aH g) t
 |ret x=>exactλu as O' L s' I r c f=>h u as O' L s' (I.back aH g) r c f
 |fU x L=>exactλu O' s' I r c=>h u O' s' (I.back aH g) r c
theorem du.rebase(I:du Y w Hz U ae X K C L O s):du Y w Hz (pC (WW K C O++Hz) s.heap) ae X K C L O s/\bA U (pC (WW K C O++Hz) s.heap):=by
 have g:bA U (pC (WW K C O++Hz) s.heap):=λb o e=>by
  rw[j2,Ir]
  ·exact I.base.grow b o e
  ·intro q;rcases HD.mp q with q|q
   ·exact no (((I.b8 b q).1).symm.trans e)
   ·exact no (((I.base.hide b q).1).symm.trans e)
 refine⟨⟨⟨I.same,?_,I.keep,I.alive,I.cO,λa ha=>⟨?_,(I.b8 a ha).2⟩,I.b9,I.kind,I.glob,I.jJ,I.rQ,I.ns,I.cell⟩,I.fc,I.ma,I.ie⟩,g⟩
 ·refine dA I.base.mods λo ho=>⟨λz hz=>⟨?_,(I.base.hide z hz).2⟩,I.base.lim.keeps g,I.base.seer.keeps g,I.base.tree,⟨o,g _ _ ho⟩,aeC⟩;rw[j2];exact(H5 (Hx _ hz))
 ·rw[j2];exact(H5 (HF _ ha))
end
def am1(Y:IB)(w:Ja)(U:Iv)(n:HG)(sc:IH)(rest:Hn IM)(C Va:Hv)(x:HP)(z:Ho)(ps:Hn Ho)(L:ar):Prop:=
 ∀(aO:Iv)(p:Hv),bA U aO->fh Y [] aO aO->qH Y w aO p ps->∃m',St Y w aO n sc rest m'/\run m' (L.set x (.own (.tree Hu (aE C Va p DG))))=hb (.ret z)
open Classical in
def Bl(Y:IB)(w:Ja)(U:Iv)(n:HG)(sc:IH)(rest:Hn IM)(C Va:Hv)(x:HP)(z:Ho)(m:ar->Hp V):ar->Hp Out:=λL=>(m L).bind λv=>(listOfD v.x).bind λps=>if v.fl≠.t/\bZ ps=Hq/\am1 Y w U n sc rest C Va x z ps L then hb (.ret z)else Hu
variable{m:ar->Hp V}
theorem afU{ps:Hn Ho}(h1:m L=hb ⟨.list ps,fl⟩)(h2:fl≠.t)(h3:bZ ps=Hq)(h4:am1 Y w U n sc rest C Va x z ps L):run (Bl Y w U n sc rest C Va x z m) L=hb (.ret z):=by refine bI h1 ?_;(exact(H5 ⟨h2,h3,h4⟩))
structure aaZ(Y:IB)(w:Ja)(U:Iv)(k:HG)(C:Hv):Prop where
 there:∃mC fI oI Ca p1 p2 p3 p4 s3 mI,jX aG U C mC/\mC "__init__"=hb (.ref fI)/\U.get? fI=hb oI/\oI.cls=.type "function"/\
  ju U fI Ca ["self","plots"] (.Assign [.Attribute (.Name (HA "self") p1) (HA "plots") p2] (.Name (HA "plots") p3) p4::s3)/\Ca.names.lookup (HA "plots")=hb .local/\St Y w U k Ca s3 mI/\
  ∀(a p:Hv)(L:ar),L "self"=hb (.own (.tree (hb a) (ec C [(HA "plots",p)] [])))->∃ft,mI L=hb (.next ft)/\ft "self"=hb (.own (.tree (hb a) (newD C p)))
theorem St.af3{np cp pos:J3}(z:Ho)(aH:fh Y [] U U)(M:aaZ Y w U k C)(hg:bt U "Store" (.ref C))(h:Ev Y w U n sc e m)(hk:k+2<=n)(hv:aA sc x=Hq)(hx:aY sc "Store"=Hq)
  (he:∀K:Ke,Ie [e] K=(HH,Jf e K)::Ie [] K)(iS:∀K:Ke,K.scope=sc->JU (.Call (.Name (HA "Store") np) [e] [] cp) (hb (.Name x nj)) pos.line K=pure HH):
  St Y w U n sc (.Assign [.Name x nj] (.Call (.Name (HA "Store") np) [e] [] cp) pos::rest) (Bl Y w U n sc rest C Va x z m):=by
 intro A Hz K ae X C' L O s r Q E hs hA I;refine ak λv k9=>ak λps xw R hQ=>?_;split at R
 ·rename_i hc;refine xg hc λyd EW hJ=>?_;cases R;obtain⟨mC,fI,oI,Ca,p1,p2,p3,p4,s3,mI,KC,hi,vn,wt,D,wy,FK,FX⟩:=M.there;refine dA KC.here λN XC=>M8 (Kk ?_ (iS K hs));refine Ht (di I.toInF (by exact hs.symm▸hx) hg (PyProof.Rows.callWith_cls XC ?_ (he K) rfl));refine(he K).symm▸Ly (h hs hA I.toInF k9 λu ay ah aL=>LB ⟨(I.grow ah).base.grow,?_⟩);obtain⟨as,rd,cw,fo⟩:=aL;rw[cU xw]at rd cw;clear iS he hx hg M pos cp np XC N xw k9;induction rd.listI with|mk nj us kk bs a1 a2=>?_
  obtain hfW:∀c∈nj::bs,c∉WW K C' O:=by
   clear as u E;cases hf:v.fl with
   |d=>rw[hf]at fo;exactλc hc=>(fo c hc).2
   |s=>rw[hf]at fo;exact fo
   |t=>exact IG hf yd
  clear fo as u yd;obtain rfl:=a2.bR EW;have gU:=I.grow ah;refine ack KC hi vn wt gU.base.grow λh' a dx g ha yE i=>?_;obtain nb:∀c,ay.heap.get? c=Hu->U.get? c=Hu:=λc hc=>by
   clear wt vn hi oI EW E;cases e:U.get? c with
   |none=>rfl
   |some o=>have:=gU.base.grow _ _ e;exact no (hc.symm.trans this)
  refine acQ (A:=A.under _) (s:={ay with heap:=h'}) KC D wy FK (FX a nj) (Room.under (hA.toRoom.mono hk)) (gU.base.trans g) i (nb a ha) (nb dx yE) (rd.grow g) cw (λc hc=>?_) λeS aM sm kp xy xj Ad xI=>?_
  ·exact dA (rd.alive c hc) λo eo=>gQ (λq=>(by rw[q,ha]at eo;exact no eo)) (λq=>(by rw[q,yE]at eo;exact no eo))
  ·refine gQ rfl<|kK (xy.aiy (V:=Va) xj) λuW zV apt ud=>?_;have new:∀c∈[a,dx],ay.heap.get? c=Hu:=λc hc=>by
    exact Cb c hc ha yE
   have zZ:∀c∈uW,ay.heap.get? c=Hu:=λc hc=>by
    rcases xI c (ud c hc)with q|q
    ·exact new c q
    ·clear hk nb FX FK wy D wt vn hi KC mI s3 p4 p3 p2 p1 Ca oI fI mC ud xI Ad xj xy eS i yE ha EW E;cases e:ay.heap.get? c with
     |none=>rfl
     |some o=>have q:=q;exact no (q.symm.trans (g c o e))
   have aI:I8 ay aM:=by clear hk nb FX FK wy D wt vn hi KC mI s3 p4 p3 p2 p1 Ca oI fI mC ud xI Ad xj xy eS i yE ha EW E;refine pT sm λqw tk o1=>?_;subst o1;exact Ct qw tk rfl (λc o e=>kp c o (g c o e) λq=>no ((new c q).symm.trans e))
   obtain fr:∀c∈uW,s.heap.get? c=Hu:=λc hc=>by
    clear hk new nb FX FK wy D wt vn hi KC mI s3 p4 p3 p2 p1 Ca oI fI mC ud xI Ad xj xy kp sm eS i yE ha g dx h' EW E;cases e:s.heap.get? c with
    |none=>rfl
    |some o=>have:=ag ah _ _ e;exact no ((zZ c hc).symm.trans this)
   obtain wfS:wf (aE C Va nj DG)=Hq:=by rw[j3];exact Ei (by decide) (by decide) (by decide) (by decide) (by decide)
   refine I.aha (ab ah aI) (by exact hs.symm▸hv) zV apt wfS rfl fr λdN p5 apq C0=>ew p5.rebase λJ gJ=>?_;have EN:∀c,c∈WW K C' ((x,uW)::O)->c∈uW∨c∈WW K C' O:=λc hq=>by
    simp only[WW,IF,Hw,HD]at hq⊢;rcases hq with h|h|h|h
    ·exact .inr (.inl h)
    ·exact .inr (.inr (.inl h))
    ·exact .inl h
    ·exact .inr (.inr (.inr h))
   obtain pW:nj∉WW K C' ((x,uW)::O):=λq=>by
    refine dA (rd.alive nj (.head _)) λo eo=>?_;rcases EN nj q with h|h
    ·exact no ((zZ nj h).symm.trans eo)
    ·exact hfW nj (.head _) h
   obtain pH:nj∉Hz:=λq=>by
    obtain⟨_,o,eo,t⟩:=gU.base.hide nj q;rw[a1]at eo;have e:=si eo;subst e;clear eo;exact bw _ _ t
   have up:∀c o,ay.heap.get? c=hb o->c∉WW K C' ((x,uW)::O)->c∉Hz->(pC (WW K C' ((x,uW)::O)++Hz) dN.heap).get? c=hb o:=λc o e h1 h2=>by
    rw[j2];refine iF (λq=>(HD.mp q).elim h1 h2) ?_;exact C0.keep c o (ag aI c o e) h1
   have hL:qH Y w (pC (WW K C' ((x,uW)::O)++Hz) dN.heap) nj ps:=by
    refine mz us kk (up nj _ a1 pW pH) (acI.2 a2 λc o e q=>?_) cw;rcases q with q|⟨q1,q2⟩
    ·exact nomatch q
    ·refine up c o e (λhq=>?_) q2;rcases EN c hq with h|h
     ·exact no ((zZ c h).symm.trans e)
     ·refine aQ (gU.cO c h) λo' e' nt=>?_;rw[e]at e';have e:=si e';subst e;clear e';exact nt q1
   exact aQ (hJ _ nj gJ (aH.up gJ) hL) λm' ap5 qx=>ap5 hs hA J (show m' _=_ from qx) (Ends.up aH gJ (Ends.trans apq hQ))
 ·exact no R
noncomputable def my:Hp (HG×Pk)->HE
 |none=>.none
 |some (a,t)=>.int a t
noncomputable def q7(p:Hp (HG×Pk)):Hp HI:=p.map λq=>(q.1:HI)
noncomputable def pz(p:Hp (HG×Pk))(n:HG):HG:=min ((p.map (·.1)).getD 0) n
noncomputable def uf(p:Hp (HG×Pk))(n:HG):HG:=min ((p.map (·.1)).getD n) n
theorem ac5(a b:Hp (HG×Pk))(n:HG):Nt (q7 a) (q7 b) 1 ((n:HG):HI)=(((pz a n:HG):HI),((uf b n:HG):HI)):=by
 unfold Nt;cases a with
 |none=>
  cases b with
  |none=>simp[q7,pz,uf]
  |some b=>have h2:¬((b.1:HI)<0):=Kq.mpr (H3 _);simp only[q7,Lr,PF,show¬((1:HI)<0) by decide,h2,K8,pz,uf,LW,MF];refine(show min (b.1:HI) (n:HI)=((min b.1 n:HG):HI) by exact tT _ _).symm▸?_;rfl
 |some a=>
  have h1:¬((a.1:HI)<0):=Kq.mpr (H3 _);cases b with
  |none=>simp only[q7,Lr,PF,show¬((1:HI)<0) by decide,h1,K8,pz,uf,LW,MF];refine(show min (a.1:HI) (n:HI)=((min a.1 n:HG):HI) by exact tT _ _).symm▸?_;simp
  |some b=>have h2:¬((b.1:HI)<0):=Kq.mpr (H3 _);simp only[q7,Lr,show¬((1:HI)<0) by decide,h1,h2,K8,pz,uf,LW];(refine(show min (a.1:HI) (n:HI)=((min a.1 n:HG):HI) by exact tT _ _).symm▸?_;exact(show min (b.1:HI) (n:HI)=((min b.1 n:HG):HI) by exact tT _ _).symm▸rfl)
theorem aac{Q:Hp HI->HM->Prop}{p:Hp (HG×Pk)}(h:Q (q7 p) s):wpAny (Iq Y w) A (QT (my p)) Q E s:=by
 cases p with
 |none=>exact PyProof.Rows.slicePart_none h
 |some p=>exact PyProof.Rows.slicePart_int h
theorem aag{a b:Hp (HG×Pk)}(ht:PyProof.Rows.IsTup s.heap t vs.toArray)(hs:s.heap.IsSliceOf sl (my a) (my b) .none)
  (h0:pz a vs.length=0->uf b vs.length=vs.length->Q (.ref t) s)
  (h:Q (.ref s.heap.objs.size) {s with heap:=s.heap.push {cls:=.type "tuple",data:=.seq ((vs.take (uf b vs.length)).drop (pz a vs.length)).toArray}})
  (n8:vs.length<=sizeLine):wpAny (Iq Y w) A (L2 (.ref t) (.ref sl)) Q E s:=by
 obtain xk:sizeOk (.seq ((vs.take (uf b vs.length)).drop (pz a vs.length)).toArray):=by show((vs.take (uf b vs.length)).drop (pz a vs.length)).toArray.size<=sizeLine;refine Jd.symm▸Li.symm▸J9.symm▸?_;exact Hs (M1 _ _) (Hs (I7 _ _) n8)
 refine kK (id hs) λos Bw G2 Dk=>?_;obtain FG:s.TypeIs (.ref sl) "slice":=⟨os,Bw,G2⟩;unfold L2
 try with_reducible refine KR ?_
 first|refine Ht (HV ?_)|skip
 refine Ht (Od ht.typeIs (by decide) (Ht (JV (name:=HA "__getitem__") ht.typeIs PyProof.Rows.slot_tuple_getitem
  (KU PyProof.Rows.slot_tuple_getitem ht.typeIs PyProof.Rows.entry_tuple_getitem ?_ (PyProof.Rows.args_tuple_getitem _ _)))))
 show wpAny _ _ (QU (.ref t)>>=_) _ _ s;refine Ht (PyProof.Rows.tupleItemsOf_ ht (Ht (L7 FG (wI (by decide) ?_))));obtain ap4:∀{Q:HI×HI×HG->HM->Prop},Q (((pz a vs.length:HG):HI),1,uf b vs.length-pz a vs.length) s->wpAny (Iq Y w) A.in1 (QV (.ref sl) (pure ((vs.toArray.size:HG):HI))) Q E s:=by intro Q h;refine Ht (Ht (Jx Bw Dk (x:=my a) rfl (Ht (Jx Bw Dk (x:=my b) rfl (Ht (Jx Bw Dk (x:=.none) rfl (HV (Ht (PyProof.Rows.slicePart_none (wN (by decide)<|Ht (aac (Ht (aac (Ht (HV ((ac5 a b _).symm▸?_))))))))))))))));show wpAny _ _ (pure (((pz a vs.length:HG):HI),(1:HI),L6 ((pz a vs.length:HG):HI) ((uf b vs.length:HG):HI) 1)) _ _ s;exact(acx _ _).symm▸HV h
 refine Ht (ap4 ?_);by_cases hw:(((pz a vs.length:HG):HI)==0&&(1:HI)==1&&(uf b vs.length-pz a vs.length)==vs.toArray.size)=Hq
 ·refine wI hw ?_;simp only[HU,KA,Jd]at hw;obtain hl:=J7 hw.1.1;obtain hh:=(HL (_-·) (Int.ofNat_eq_zero.mp hw.1.1)).symm.trans hw.2
  first
   |exact HV ⟨_,rfl,HV (h0 hl hh)⟩
   |exact Ht (HV (HV ⟨_,rfl,HV (h0 hl hh)⟩))
   |(refine Ht ?_
     exact Ht (L7 ht.typeIs (HV (wI (by decide) (Ht (Nj (HV ⟨_,rfl,HV (h0 hl hh)⟩)))))))
 ·obtain aoV:((H0 (uf b vs.length-pz a vs.length)).filterMap λ(k:HG)=>vs.toArray[(((pz a vs.length:HG):HI)+(k:HI)*1).toNat]?).toArray=((vs.take (uf b vs.length)).drop (pz a vs.length)).toArray:=by
   obtain e:(λ(k:HG)=>vs.toArray[(((pz a vs.length:HG):HI)+(k:HI)*1).toNat]?)=(λi=>vs[i]?)∘λk=>pz a vs.length+k:=by funext k;have:(((pz a vs.length:HG):HI)+(k:HI)*1).toNat=pz a vs.length+k:=(Ma _ _ _).symm;refine this.symm▸?_;simp
   exact e.symm▸Pq▸(iU vs (pz a vs.length) (uf b vs.length) (by exact I7 _ _)).symm▸rfl
  refine wN hw ?_;rw[aoV]
  first
   |exact Ht (m:=K4 _) (KL (HV ⟨_,rfl,HV h⟩) xk)
   |exact Ht (m:=K4 _) (KL (Ht (HV (HV ⟨_,rfl,HV h⟩))) xk)
   |exact Ht (Ht (m:=K4 _) (KL (HV (HV ⟨_,rfl,HV h⟩)) xk))
   |exact Ht (Ht (m:=K4 _) (KL (HV ⟨_,rfl,HV h⟩) xk))
noncomputable def td(lo hi:Hp HI)(a:V):Hp V:=match a.x with
 |.tuple B=>if 0<=lo.getD 0/\0<=hi.getD 0 then hb (V.fix (.tuple ((B.take (min (hi.getD B.length).toNat B.length)).drop (min (lo.getD 0).toNat B.length))) a.fl)else Hu
 |_=>Hu
theorem abq{lo hi:Hp HI}(h:td lo hi s6=hb fb):∃B,s6.x=.tuple B/\0<=lo.getD 0/\0<=hi.getD 0/\fb=V.fix (.tuple ((B.take (min (hi.getD B.length).toNat B.length)).drop (min (lo.getD 0).toNat B.length))) s6.fl:=by
 obtain⟨ax,af⟩:=s6;cases ax with
 |tuple B=>
  change(if 0<=lo.getD 0/\0<=hi.getD 0 then hb (V.fix (.tuple ((B.take (min (hi.getD B.length).toNat B.length)).drop (min (lo.getD 0).toNat B.length))) af)else Hu)=hb fb at h;split at h
  ·rename_i hc;exact Dv B rfl hc.1 hc.2 ((H4 h).symm)
  ·exact no h
 |_=>exact no h
theorem abK{p:Hp (HI×Pk)}{l:Hp HI}(h:p.map (·.1)=l)(h0:0<=l.getD 0):∃q:Hp (HG×Pk),KH p=my q/\q.map (·.1)=l.map (·.toNat):=by
 subst h;cases p with
 |none=>exact i12 Hu rfl rfl
 |some p=>
  obtain⟨i,hi⟩:=MT (show 0<=p.1 from h0);refine i12 (hb (i,p.2)) ?_ ?_
  ·exact Kx (HL _ hi) _
  ·simp[hi]
theorem Ev.akN{lo hi:Hp HR}{pos:J3}{m:ar->Hp V}{ml mh:ar->Hp (Hp HI)}(h:Ev Y w U n sc e m)(hl:Pt Y w U n sc lo ml)(hh:Pt Y w U n sc hi mh)
  (gy:∀o j,∃jx,Lp (.Slice lo hi Hu nj) HH o j=Nh jx (L2 o j)):
  Ev Y w U n sc (.Subscript e (.Slice lo hi Hu nj) pos) (λL=>do let a<-m L;let l<-ml L;let u<-mh L;td l u a):=by
 intro A Hz K ae X C L O s v Q E hs hA I;refine ak λa ha=>ak λl Ab=>ak λu DY R hQ=>Cw (abq R) λB e1 hi1 hij o1=>?_;subst o1;refine PyProof.Rows.Subscript_ (h hs hA I ha λAo ay ah aL=>PW (hl hs hA (I.grow ah) Ab λyl aM aI u5=>hh hs hA ((I.grow ah).grow aI) DY λyo dN dO wj=>Pt.no hs hA (((I.grow ah).grow aI).grow dO) rfl λzT jP yf Bx=>aQ (abK u5 hi1) λq2 z2 y2=>aQ (abK wj hij) λq3 z3 y3=>?_));clear pos hij hi1 hA hs;cases zT with
 |some zT=>cases Bx
 |none=>
 refine z2.symm▸z3.symm▸?_;have kk:=ab ah (ab aI (ab dO (ab yf (bE jP {cls:=.type "slice",data:=.fields #[my q2,my q3,.none]}))));obtain kk':=ab aI (ab dO (ab yf (bE jP {cls:=.type "slice",data:=.fields #[my q2,my q3,.none]})));refine dA (gy Ao (.ref jP.heap.objs.size)) λjx e=>?_;obtain⟨as,ra,ca,oa⟩:=aL.grow (ag kk');clear ah aI dO yf kk' u5 wj Bx Ab DY ha R aL hl hh h gy;rw[e1]at ra ca;clear mh ml m z3 z2 dN yo aM yl ay e1;induction ra.tupI with|mk ad vs kd a1 az a2=>?_
 have FH:=a2.length;have l1:pz q2 vs.length=min (l.getD 0).toNat B.length:=by unfold pz;refine y2.symm▸FH.symm▸?_;clear y2 Ao E A;cases l<;>rfl
 have l2:uf q3 vs.length=min (u.getD B.length).toNat B.length:=by unfold uf;refine y3.symm▸FH.symm▸?_;clear y3 y2 Ao E A;cases u<;>rfl
 refine PyProof.Rows.tail_any (T:="tuple") ⟨_,a1,rfl⟩ PyProof.Rows.slot_tuple_getitem.lookup (aag (vs:=vs) (a:=q2) (b:=q3) ⟨_,a1,rfl,_,rfl⟩ ⟨_,H7 _ rfl,rfl,rfl⟩ (λh1 h2=>?_) ?_ (by exact FH.symm▸(dk.mp ca).1)) e
 ·rw[l1]at h1;rw[l2,FH]at h2;refine hQ _ _ kk ?_;refine h1.symm▸h2.symm▸JD.symm▸Oi.symm▸?_;exact dK.fixed ra ca oa
 ·refine aQ (a2.slice (pz q2 vs.length) (uf q3 vs.length)) λbs q hq=>?_;rw[l1,l2]at q⊢;exact hQ _ _ (ab kk (bE _ _)) ((I.grow kk).am4 q (af6 ca) (oa.mono hq))
def xK(Y:IB)(w:Ja)(U:Iv)(n:HG)(sc:IH)(op:L1)(es:Hn HR)(m:ar->Hp V):Prop:=
 ∀{{A:Jh}} {{Hz:Hn Hv}} {{K:Ke}} {{ae:HM}} {{X C:Hn Hv}} {{L:ar}} {{O:Hn (HP×Hn Hv)}} {{s:HM}} {{v:V}} {{pos:J3}} {{Q:HE->HM->Prop}} {{E:HE->HM->Prop}},
  K.scope=sc->eu A n->InF Y w Hz U ae X K C L O s->m L=hb v->(∀u s',I8 s s'->dK Y w Hz ae.heap (WW K C O) s'.heap u v->Q u s')->wpAny (Iq Y w) A (boolOp pos op (Rq es K)) Q E s
theorem xK.one(h:Ev Y w U n sc e m):xK Y w U n sc op [e] m:=by intro A Hz K ae X C L O s v pos Q E hs hA I R hQ;exact h hs hA I R hQ
variable{es:Hn HR}
set_option backward.match.sparseCases true in
theorem xK.and{e':HR}{m':ar->Hp V}(h:Ev Y w U n sc e m)(h':xK Y w U n sc .And (e'::es) m'):xK Y w U n sc .And (e::e'::es) (λL=>do let a<-m L;let b<-g8 a.x;if b then m' L else hb a):=by
 intro A Hz K ae X C L O s v pos Q E hs hA I;refine ak λa ha=>ak λb aO R hQ=>?_;show wpAny _ A (do
  let v<-Jf e K
  Pu pos
  let t<-Oa [v] (Qk v)
  match BoolOp.And,t with
  |.And,HH|.Or,Hq=>pure v
  |_,_=>boolOp pos .And (Rq (e'::es) K)) Q E s
 refine Ht (h hs hA I ha λu ay ah aL=>Ht (M4 (Ht (KR (nN aO aL λaM aI=>?_)))));clear h aO ha;cases b with
 |true=>exact h' hs hA ((I.grow ah).grow aI) R λu s' k r=>hQ u s' (ab ah (ab aI k)) r
 |false=>(have e:=si R;subst e;clear R);exact HV (hQ u aM (ab ah aI) (aL.grow (ag aI)))
set_option backward.match.sparseCases true in
theorem xK.or{e':HR}{m':ar->Hp V}(h:Ev Y w U n sc e m)(h':xK Y w U n sc .Or (e'::es) m'):xK Y w U n sc .Or (e::e'::es) (λL=>do let a<-m L;let b<-g8 a.x;if b then hb a else m' L):=by
 intro A Hz K ae X C L O s v pos Q E hs hA I;refine ak λa ha=>ak λb aO R hQ=>?_;show wpAny _ A (do
  let v<-Jf e K
  Pu pos
  let t<-Oa [v] (Qk v)
  match BoolOp.Or,t with
  |.And,HH|.Or,Hq=>pure v
  |_,_=>boolOp pos .Or (Rq (e'::es) K)) Q E s
 refine Ht (h hs hA I ha λu ay ah aL=>Ht (M4 (Ht (KR (nN aO aL λaM aI=>?_)))));clear h aO ha;cases b with
 |false=>exact h' hs hA ((I.grow ah).grow aI) R λu s' k r=>hQ u s' (ab ah (ab aI k)) r
 |true=>(have e:=si R;subst e;clear R);exact HV (hQ u aM (ab ah aI) (aL.grow (ag aI)))
theorem Ev.bool(h:xK Y w U n sc op es m):Ev Y w U n sc (.BoolOp op es pos) m:=by intro A Hz K ae X C L O s v Q E hs hA I R hQ;exact h hs hA I R hQ
noncomputable def jW(B:Hn Ho):Hn Ho:=B.zipIdx.map λp=>.tuple [.int p.2,p.1]
theorem aa6{i:HG}(h:(jW B)[i]? =hb gc):∃y,B[i]? =hb y/\gc=.tuple [.int i,y]:=by
 unfold jW at h;rw[Iz,OZ]at h;cases e:B[i]?with
 |none=>rw[e]at h;exact no h
 |some y=>rw[e]at h;simp at h;exact i12 y rfl h.symm
theorem aaT(B:Hn Ho):(jW B).length=B.length:=by simp[jW]
theorem Stream.enum(hh:A.handled=Hu){e9:Hn HR}{k:HG}{pos:J3}(Hb:Dl≠it)(hle:l≠Dl)(GU:l≠it)(B:Hn Ho)(F:Hn Hv):
  Stream Y w Hz A (.Tuple e9 k pos) Dl (l::F) [Dl,it] [] (jW B) (λi h=>(∃old,IsEnum h Dl it i old)/\h.IsListIter it l i/\RD Y w Hz h (.ref l) (.list B) (l::F))where
 frame:=λi h h' W st off hF hw=>by
  refine xg st λo1 mH rl=>?_;obtain⟨old,he⟩:=o1;refine lW ⟨old,off _ _ he (.inl (hw Dl (.head _)))⟩ ?_ (rl.off off hF);exact aQ mH λo ho r=>i12 o (off _ _ ho (.inl (hw it (.tail _ (.head _))))) r
 pV:=λ_ _ _ _ q=>nomatch q
 sub:=λ_ q=>nomatch q
 cP:=λi h st b aO _=>by
  refine xg st λo1 o2 rl=>?_;obtain⟨old,he⟩:=o1;obtain⟨o,ho,hc,hd⟩:=o2;clear GU hle pos k e9;rcases Hw.mp aO with rfl|aO
  ·exact yI _ _ _ he rfl rfl
  ·exact(HB.mp aO).symm▸yI o _ _ ho hd hc
 alive:=λi h st=>st.2.2.alive
 turn:=λi x s Q E hx st yG hQ=>by
  refine xg st λo1 mH rl=>?_;obtain⟨old,he⟩:=o1;clear GU hle;refine aQ (aa6 hx) λy hy o1=>?_;subst o1;refine CO rl.fK λo1 o2 o3 o4 q1 q2 a1 a2=>?_;cases q1;cases q2
  ·skip;refine j8 (a2.get hy) λv cs e1 e2 e3=>wpAny_pyNext_enum_item he mH ⟨_,a1,rfl,_,rfl⟩ (by simpa using e1) Hb λh' ho wz hT n8 hk=>wpAny_letOwnedTupleGo_enum ho λqw Ex gy=>?_;have kp:∀b o,b∉[Dl,it]->s.heap.get? b=hb o->qw.get? b=hb o:=λb o aO q=>by
    simp only[Hw,Ia,Kv,LR]at aO;exact(gy.2 b aO.1).trans (hk b o aO.1 aO.2 q)
   have aU:=fR.of (Hz:=Hz) (Zs:=[]) (wr:=[Dl,it]) (λb aO _=>by
    clear pos k e9 hk n8 e1 hy;rcases Hw.mp aO with rfl|aO
    ·exact yI _ _ _ he rfl rfl
    ·exact(HB.mp aO).symm▸kK mH λo ho hc hd=>yI o _ _ ho hd hc) (λ_ q=>nomatch q) kp
   have hTe:=KT (II he);have GR:s.heap.objs.size∉Hz:=λq=>by
    exact dA (yG _ q) λo eo=>IG (II eo) (JW _)
   obtain r2:bH Y w Hz qw [v] [y] (cs++[]):=.cons (e2.cP aU) .nil;obtain r1:bH Y w Hz qw [.int i s.toks,v] [.int i,y] (cs++[]):=.cons (as:=[]) (.int _ _) r2;obtain rT:RD Y w Hz qw (.ref s.heap.objs.size) (.tuple [.int i,y]) (cs++[]):=.tuple (n:=0) ((gy.2 _ hTe).trans hT) GR r1;refine hQ _ (cs++[]) qw (s.toks+1) rT (λa ha=>?_) ⟨⟨v,by simpa using Ex⟩,?_,(RD.list a1 a2).cP aU⟩ kp
   ·rw[IA]at ha;exact .tail _ (e3 a ha)
   ·exact wz.at λo q=>(gy.2 it (K9 Hb)).trans q
 done:=λs Q E st hQ=>by
  refine xg st λo1 mH rl=>?_;obtain⟨old,he⟩:=o1;refine CO rl.fK λo1 o2 o3 o4 q1 q2 a1 a2=>?_;clear GU hle Hb pos k e9 rl;cases q1;cases q2
  ·skip;rw[aaT]at he mH;refine wpAny_pyNext_enum_end hh he mH ⟨_,a1,rfl,_,rfl⟩ (by simp[a2.length]) λh' hx=>hQ h' s.toks λb o aO q=>hx b o (λe'=>aO (by simp[e'])) q
 self:=λi s Q E st hQ=>by
  refine ew st λo1 o2=>?_;obtain⟨old,he⟩:=o1;exact QI he hQ
theorem aeU(h:fy B=Hq):fy (jW B)=Hq:=by rw[cM]at*;intro x hx;refine dA (Nf hx) λi hi=>?_;clear hx;refine aQ (aa6 hi) λy hy o1=>?_;subst o1;rw[dk];refine⟨(by decide:2<=sizeLine),?_⟩;simp[fy,wf,h y (Il hy)]
theorem It.enum{e9:Hn HR}(hg:bt U "enumerate" (.type "enumerate"))(h:Ev Y w U n sc e m)(hx:aY sc "enumerate"=Hq)(he:∀K,Ie [e] K=[(HH,Jf e K)]):
  It Y w U n sc (.Tuple e9 k apg) (.Call (.Name (HA "enumerate") np) [e] [] pos) (λL=>(m L).bind λv=>(listOfD v.x).map λB=>(jW B,v.fl)):=by
 refine⟨λ_ _=>rfl,?_⟩;intro A Hz K ae X C L O s v Q E hs hA I;refine ak λa ha R hQ=>?_;induction dI R with|mk B s4=>?_
 show wpAny _ _ (Jf (.Name (HA "enumerate") np) K>>=λf=>Lq pos f [] (J4 pos (Ie [e] K)) []) _ _ s;refine Ht (di I (by exact hs.symm▸hx) hg (dZ (U:=U) (.inr (.inl ⟨_,rfl⟩)) (by rw[he];rfl) (Kt (h hs hA I ha λu ay ah aL=>LM ⟨(I.grow ah).base.grow,?_⟩) (he K))));obtain⟨as,ra,ca,oa⟩:=aL;rw[cU s4]at ra ca;induction ra.listI with|mk l vs kk bs a1 a2=>?_
 rw[aV]at ca;obtain kl:=II a1;refine call_enumerate_list ⟨_,a1,rfl,_,rfl⟩ λh' g1 g2 g3 g4=>QI g1 ?_;have fresh:∀d,s.heap.get? (ay.heap.objs.size+d)=Hu:=λd=>by
  cases e:s.heap.get? (ay.heap.objs.size+d)with
  |none=>rfl
  |some o=>exact IG (II (ag ah _ _ e)) (JH.mpr (Ib _ _))
 refine hQ _ _ _ [] _ _ (ab ah ⟨h',ay.toks,rfl,g4⟩) (Stream.enum hA.handled (l:=l) (by simp) (Jq (LQ kl)) (Jq kl) B bs) ⟨⟨.none,g1⟩,g2,(RD.list a1 a2).grow g4⟩ oa (aeU ca.2) (by rw[aaT];exact ca.1) λb aO=>?_;rcases Hw.mp aO with rfl|aO
 ·exact fresh 1
 ·exact(HB.mp aO).symm▸fresh 0
noncomputable def qM(B ys:Hn Ho):Hn Ho:=(B.zip ys).map λp=>.tuple [p.1,p.2]
theorem abR{i:HG}(h:(qM B ys)[i]? =hb gc):∃y z,B[i]? =hb y/\ys[i]? =hb z/\gc=.tuple [y,z]:=by unfold qM at h;rw[Iz]at h;obtain⟨⟨y,z⟩,h1⟩:=dI h;rw[List.getElem?_zip_eq_some]at h1;exact mz y z h1.1 h1.2 rfl
theorem ab5(B ys:Hn Ho):(qM B ys).length=min B.length ys.length:=by simp[qM]
theorem ach(hT:Lv h T s6 yF):∃o,h.get? T=hb o/\jV o:=⟨_,hT,[s6,yF],0,rfl⟩
theorem aho(h:fy B=Hq)(h':fy ys=Hq):fy (qM B ys)=Hq:=by rw[cM]at*;intro x hx;refine dA (Nf hx) λi hi=>?_;clear hx;refine j8 (abR hi) λy z hy hz o1=>?_;subst o1;rw[dk];refine⟨(by decide:2<=sizeLine),?_⟩;simp[fy,h y (Il hy),h' z (Il hz)]
theorem aaA{C Va:Hv}(h:aE C Va p f=aE C Va p' f'):p=p'/\f=f':=by
 obtain e:=HL (gk C Va) h;rw[d1,d1]at e;have e:=H4 e;obtain e1:(p:HI)=p':=HL ND e;obtain e2:vR f=vR f':=HL NF e;obtain⟨a1,a2,a3,a4,a5,a6⟩:=f;obtain⟨b1,b2,b3,b4,b5,b6⟩:=f';unfold vR at e2;injection e2 with h1 e2;injection e2 with h2 e2;injection e2 with h3 e2;injection e2 with h4 e2;injection e2 with h5 e2;injection e2 with h6 e2;injection h2 with h2;injection h5 with h5;injection h6 with h6;obtain g5:=(Mt (λx y q=>by
  obtain⟨x1,x2⟩:=x;obtain⟨y1,y2⟩:=y;injection q with q;injection q with q1 q;injection q with q2 q;injection q1 with q1;injection q2 with q2;exact MN q1 (J7 q2))).mp h5
 obtain g6:=(Mt (λx y q=>by
  obtain⟨x1,x2⟩:=x;obtain⟨y1,y2⟩:=y;injection q with q;injection q with q1 q;injection q with q2 q;injection q1 with q1;injection q2 with q2;exact MN q1 q2)).mp h6
 clear h5 h6 h e e2;dsimp only at h1 h2 h3 h4 g5 g6;clear Va C e;subst h1 h2 h3 h4 g5 g6;exact⟨J7 e1,rfl⟩
open Classical in
def kn(C Va:Hv)(d:Ho):Hp (Hv×jr):=if h:∃q:Hv×jr,d=aE C Va q.1 q.2 then hb (OS h)else Hu
theorem kr{q:Hv×jr}(h:kn C Va d=hb q):d=aE C Va q.1 q.2:=by
 unfold kn at h;split at h
 ·rename_i e;exact(H4 h)▸LJ e
 ·exact no h
theorem jG(C Va p:Hv)(f:jr):kn C Va (aE C Va p f)=hb (p,f):=by obtain e:∃q:Hv×jr,aE C Va p f=aE C Va q.1 q.2:=⟨(p,f),rfl⟩;unfold kn;exact(dif_pos e).trans<|ew (aaA (LJ e)) λh1 h2=>HL hb (MN h1.symm h2.symm)
noncomputable def j1(l:Hn (HP×HG))(k:HP)(j:HG):Hn (HP×HG):=if l.any (λp=>decide (p.1=k))then l.map (λp=>if p.1=k then(p.1,j)else p)else l++[(k,j)]
noncomputable def jg(l:Hn (HP×HG))(k:HP):Hp HG:=(l.find? λp=>decide (p.1=k)).map (·.2)
variable{φ:HG->HE}
theorem abY:∀{ks:Hn (HP×HE)}{l:Hn (HP×HG)},ks.map (·.1)=l.map (·.1)->ks.map (·.2)=l.map (λq=>φ q.2)->ks=l.map λq=>(q.1,φ q.2):=by
 intro ks;induction ks with
 |nil=>
  intro l h _;cases l with
  |nil=>rfl
  |cons=>exact nomatch h
 |cons a ks ih=>
  intro l h h';cases l with
  |nil=>exact nomatch h
  |cons b l=>injection h with h1 h2;injection h' with h3 h4;(refine HS.symm▸(ih h2 h4)▸?_);congr 1;exact MN h1 h3
theorem acJ(l:Hn (HP×HG))(k:HP)(j:HG):ML (l.map λq=>(q.1,φ q.2)) k (φ j)=(j1 l k j).map λq=>(q.1,φ q.2):=by
 dsimp only[ML,j1];obtain e:(l.map λq=>(q.1,φ q.2)).any (λkv=>decide (kv.1=k))=l.any λp=>decide (p.1=k):=by refine List.any_map.trans ?_;rfl
 refine e.symm▸?_;split
 ·refine Ii.trans<|Ii.symm▸?_;refine J0 λq _=>?_;show(if q.1=k then(q.1,φ j)else(q.1,φ q.2))=((if q.1=k then(q.1,j)else q).1,φ (if q.1=k then(q.1,j)else q).2);split<;>rfl
 ·refine HJ.symm▸?_;rfl
theorem aco(l:Hn (HP×HG))(k:HP):K2 (l.map λq=>(q.1,φ q.2)) k=(jg l k).map φ:=by dsimp only[K2,jg];refine List.find?_map.symm▸?_;show((l.find? λp=>decide (p.1=k)).map _).map _=_;cases(l.find? λp=>decide (p.1=k))<;>rfl
variable{l:Hn (HP×HG)}{k:HP}{j:HG}
theorem aa0(h:jg l k=hb j):∃q∈l,q.2=j:=by exact aQ (H6.mp h) λq h1 h2=>i12 q (List.mem_of_find?_eq_some h1) h2
theorem age{q:HP×HG}(h:q∈j1 l k j):q∈l∨q.2=j:=by
 unfold j1 at h;split at h
 ·refine aQ (HX.mp h) λp hp o1=>?_;subst o1;split
  ·exact .inr rfl
  ·exact .inl hp
 ·rcases HD.mp h with h|h
  ·exact .inl h
  ·exact(HB.mp h).symm▸.inr rfl
variable{m:HP->Hp HE}{b db:Hv}{more:Hn (Hv×Hv)}
theorem bj.ah4{hd:Hv}(i:bj Y w h a dx C Va p hd aJ f vs m ks){mw:Hn (HI×HI)}
  (hj:(aJ++more)[j]? =hb (b,db))(kQ:h'.DictOf (strKind Y w) hd (ML ks k (.ref b)))(hk:∀c∈bP a dx hd aJ,c≠hd->∀o,h.get? c=hb o->h'.get? c=hb o)(nd:(bP a dx hd aJ).Nodup)
  (a8:more.length=mw.length)(ER:∀(i:HG)(b db:Hv)(x y:HI),more[i]? =hb (b,db)->mw[i]? =hb (x,y)->ic h' Va b db x y):
  bj Y w h' a dx C Va p hd (aJ++more) {f with held:=j1 f.held k j,aC:=f.aC++mw} vs m (ML ks k (.ref b)):=by
 simp only[bP,HZ,Hw,LR]at nd;obtain ao5:∀q∈f.held,(PySem.Value.ref (aJ.getD q.2 (0,0)).1)=.ref ((aJ++more).getD q.2 (0,0)).1:=λq hq=>by
  refine JX.symm▸?_;refine JX.symm▸?_;exact(MC (i.bound q hq)).symm▸rfl
 obtain ek:=abY (φ:=λr=>.ref ((aJ++more).getD r (0,0)).1) i.keys (i.vals.trans (J0 ao5));obtain es:ML ks k (.ref b)=(j1 f.held k j).map λq=>(q.1,PySem.Value.ref ((aJ++more).getD q.2 (0,0)).1):=by refine ek.symm▸Eq.trans ?_ (acJ (φ:=λr=>.ref ((aJ++more).getD r (0,0)).1) f.held k j);show _=ML _ k (PySem.Value.ref ((aJ++more).getD j (0,0)).1);exact(show(aJ++more).getD j (0,0)=(b,db) by(refine JX.trans ?_;rw[hj]);rfl)▸rfl
 refine⟨i.obj.kept (hk a (.head _) nd.1.2.1) (hk dx (.tail _ (.head _)) nd.2.1.1),i.held,i.opened,i.kU,i.three,i.names,kQ,i.mods,?_,?_,λq hq=>?_,?_,λr b' D4 x y e1 e2=>?_⟩
 ·refine es.symm▸Ii.symm▸?_;rfl
 ·refine es.symm▸Ii.symm▸?_;rfl
 ·rcases age hq with q'|q'
  ·have:=i.bound q q';exact HN.symm▸Nat.lt_add_right _ this
  ·exact q'.symm▸((H2.mp hj).1)
 ·show(aJ++more).length=(f.aC++mw).length;exact HN.symm▸HN.symm▸i.len.symm▸a8.symm▸rfl
 ·by_cases hr:r<aJ.length
  ·rw[MC hr]at e1;rw[MC (by rw[<-i.len];exact hr)]at e2;refine(i.each r b' D4 x y e1 e2).kept λc hc=>?_;have R:c∈aJ.flatMap λq=>[q.1,q.2]:=IS.mpr ⟨_,Il e1,by simpa using hc⟩;exact hk c (by simp only[bP,Hw];exact .inr (.inr (.inr R))) (λq=>nd.2.2.1 (q▸R))
  ·rw[Ld (JQ hr)]at e1;rw[Ld (by rw[<-i.len];exact JQ hr),<-i.len]at e2;exact ER _ _ _ _ _ e1 e2
theorem acX{c:Hv}:∀{i j:HG}{q r:Hv×Hv},(aJ.flatMap λq=>[q.1,q.2]).Nodup->aJ[i]? =hb q->aJ[j]? =hb r->i≠j->c∈[q.1,q.2]->c∉[r.1,r.2]:=by
 induction aJ with
 |nil=>intro _ _ _ _ _ h _ _ _;exact no h
 |cons z aJ bX=>
  intro i j q r nd hi hj hn hc;rw[IF,H8]at nd;cases i with
  |zero=>
   induction j with
   |zero=>exact IG rfl hn
   |succ j=>rw[LF]at hi;(have e:=si hi;subst e;clear hi);rw[MO]at hj;exactλh=>nd.2.2 c hc c (IS.mpr ⟨r,Il hj,h⟩) rfl
  |succ i=>
   rw[MO]at hi;induction j with
   |zero=>rw[LF]at hj;(have e:=si hj;subst e;clear hj);exactλh=>nd.2.2 c h c (IS.mpr ⟨q,Il hi,hc⟩) rfl
   |succ j=>rw[MO]at hj;exact bX nd.2.1 hi hj (λe=>hn (HL _ e)) hc
theorem bj.ad5{hd:Hv}(i:bj Y w h a dx C Va p hd aJ f vs m ks){x' y:HI}
  (hj:aJ[j]? =hb (b,db))(hv:ic h' Va b db x' y)(hk:∀c∈bP a dx hd aJ,c≠b->c≠db->∀o,h.get? c=hb o->h'.get? c=hb o)(nd:(bP a dx hd aJ).Nodup):
  bj Y w h' a dx C Va p hd aJ {f with aC:=f.aC.set j (x',y)} vs m ks:=by
 simp only[bP,HZ,Hw,LR]at nd;have nc:∀c,c=b∨c=db->c∈aJ.flatMap λq=>[q.1,q.2]:=λc hc=>IS.mpr ⟨_,Il hj,by simpa using hc⟩;have ka:∀c,c∈bP a dx hd aJ->c∉(aJ.flatMap λq=>[q.1,q.2])->∀o,h.get? c=hb o->h'.get? c=hb o:=λc hc hn=>hk c hc (λe=>hn (nc c (.inl e))) (λe=>hn (nc c (.inr e)));refine⟨i.obj.kept (ka a (.head _) nd.1.2.2) (ka dx (.tail _ (.head _)) nd.2.1.2),i.held,i.opened,i.kU,i.three,i.names,?_,i.mods,i.keys,i.vals,i.bound,?_,λr b' D4 x y' e1 e2=>?_⟩
 ·exact uR i.dict λo es ep ho q=>Ar o es ep (ka hd (.tail _ (.tail _ (.head _))) nd.2.2.1 o ho) q
 ·exact N6.symm▸i.len
 ·obtain e2:(f.aC.set j (x',y))[r]? =hb (x,y'):=e2;rw[NH]at e2;by_cases e:j=r
  ·subst e;rw[H5 rfl]at e2;split at e2
   ·rw[hj]at e1;cases e1;cases e2;exact hv
   ·exact no e2
  ·rw[Ir e]at e2;refine(i.each r b' D4 x y' e1 e2).kept λc hc=>?_;have R:c∈aJ.flatMap λq=>[q.1,q.2]:=IS.mpr ⟨_,Il e1,by simpa using hc⟩;obtain Hl:=acX nd.2.2.2 e1 hj (K9 e) (c:=c) hc;simp only[Hw,Ia,Kv,LR]at Hl;exact hk c (by simp only[bP,Hw];exact .inr (.inr (.inr R))) Hl.1 Hl.2
section
variable{ad hd:Hv}(Y w Hz)in
inductive zi(h:Iv)(C Va p:Hv)(f:jr)(o:Hp (Hn Hv)):Prop
 |mk (ad dx hd:Hv) (aJ:Hn (Hv×Hv)) (vs:Hn HE) (m:HP->Hp HE) (ks:Hn (HP×HE)) (bs:Hn Hv) (h1:o=hb (bP ad dx hd aJ++bs)) (h2:bj Y w h ad dx C Va p hd aJ f vs m ks) (h3:bH Y w Hz h vs [f.told,f.given,f.bD] bs) (h4:(bP ad dx hd aJ++bs).Nodup) (h5:wf (aE C Va p f)=Hq):zi h C Va p f o
variable{X:Hn Hv}
theorem du.oG(I:du Y w Hz U ae X K C' L O s)(hv:aA K.scope x=Hq)(hx:L x=hb (.own (.tree ro (aE C Va p f)))):
  zi Y w Hz s.heap C Va p f (O.lookup x):=by
 have fin:∀u,cj Y w Hz ae.heap (WW K C' O) O s.heap x u (.own (.tree ro (aE C Va p f)))->zi Y w Hz s.heap C Va p f (O.lookup x):=by
  rintro u ⟨sp,e,r⟩;induction r.pq with|mk _ q1 q2 q3 _ _=>?_
  obtain⟨a,dx,hd,p',aJ,f',vs,m,ks,bs,_,h2,_,rfl,i,rs⟩:=q1.kg (d1 C Va p f);refine ew (aaA h2) λo1 o2=>?_;subst o1;subst o2;exact⟨a,dx,hd,aJ,vs,m,ks,bs,e,i,rs,q2,q3⟩
 rcases dY hv with q|q
 ·exact aQ I.ns λmm o1 R=>aQ (R x _ hx q) λu o1 r=>fin u r
 ·exact j8 (I.cell x _ hx q) λc u o1 o2 r=>fin u r
theorem du.tE{np tp:J3}(I:du Y w Hz U ae X K C' L O s)(KC:jX aG U C mC)(hv:aA K.scope x=Hq)(hx:L x=hb (.own (.tree ro (aE C Va p f))))(hO:O.lookup x=hb (bP ad dx hd aJ++bs))(i:bj Y w s.heap ad dx C Va p hd aJ f vs m ks)
  (hQ:∀s',I8 s s'->s'.heap=s.heap->Q (.ref hd) s'):wpAny (Iq Y w) A (Jf (.Attribute (.Name x np) (HA "held") tp) K) Q E s:=by
 refine PyProof.Rows.Attribute_any_ (I.oB hv hx λad' eS Hg rt _ _ cn=>?_) (by with_unfolding_all rfl);rw[hO]at Hg;have e:=si Hg;subst e;clear Hg;obtain⟨_,z⟩:=dX rt cn;clear hO hx hv tp np cn rt;obtain rfl:ad=ad':=(IP z).1;exact iq KC I.base.grow i.obj (by decide) i.held rfl hQ
theorem du.adm{tp:J3}{mi:ar->Hp V}{kf:Fl}(I:du Y w Hz U ae X K C' L O s)(KC:jX aG U C mC)(hv:aA K.scope x=Hq)(hx:L x=hb (.own (.tree ro (aE C Va p f))))(hO:O.lookup x=hb (bP ad dx hd aJ++bs))(i:bj Y w s.heap ad dx C Va p hd aJ f vs m ks)
  (hi:Ev Y w U n sc ix mi)(hs:K.scope=sc)(hA:eu A n)(hk:mi L=hb ⟨.str k,kf⟩)(hj:jg f.held k=hb j)(e8:∀o j,∃jx,Lp ix HH o j=Nh jx (L2 o j))
  (hQ:∀s',I8 s s'->Q (.ref (aJ.getD j (0,0)).1) s'):wpAny (Iq Y w) A (Jf (.Subscript (.Attribute (.Name x np) (HA "held") tp) ix sp) K) Q E s:=by
 refine PyProof.Rows.Subscript_ (I.tE KC hv hx hO i λay ah _=>hi hs hA (I.grow ah).toInF hk λu' aM aI cY=>?_);obtain⟨cs,rk,_,_⟩:=cY;obtain H:=rk.ij;clear rk;induction H with|mk t=>?_
 obtain kk:=ab ah aI;obtain t5:=i.kept (h':=aM.heap) λc _ o eo=>ag kk c o eo;have hva:K2 ks k=hb (.ref (aJ.getD j (0,0)).1):=by exact(abY (φ:=λr=>.ref (aJ.getD r (0,0)).1) i.keys i.vals).symm▸(aco (φ:=λr=>.ref (aJ.getD r (0,0)).1) f.held k).trans (by refine hj.symm▸?_;rfl)
 exact dA (e8 (.ref hd) (.str k t)) λjx e=>PyProof.Rows.tail_any t5.dict.typeIs Ob.lookup (Om (lC _ _) t5.dict.mapOf hva (hQ _ (ab kk (aK aM _)))) e
end
theorem afK:wf (.tuple (l.map λq=>.tuple [.str q.1,.int q.2]))=Hq↔l.length<=sizeLine/\∀q∈l,wf (.str q.1)=Hq:=by
 obtain h2:2<=sizeLine:=by decide
 obtain key:∀l:Hn (HP×HG),fy (l.map λq=>.tuple [.str q.1,.int q.2])=Hq↔∀q∈l,wf (.str q.1)=Hq:=by
  intro l;induction l with
  |nil=>decide
  |cons q l ih=>(refine HS.symm▸?_;rw[fy,HU,ih,OX]);refine and_congr_left λ_=>?_;simp[wf,fy,h2]
 rw[wf,HU,Ik,Hr,key]
theorem l6{l:Hn (HI×HI)}:wf (.tuple (l.map λq=>.tuple [.int q.1,.int q.2]))=Hq↔l.length<=sizeLine:=by
 obtain h2:2<=sizeLine:=by decide
 simp only[wf,HU,Ik,Hr];refine⟨λh=>h.1,λh=>⟨h,?_⟩⟩;clear h;induction l with
 |nil=>rfl
 |cons q l ih=>rw[HS,fy,ih];exact MG _
theorem agI:(j1 l k j).length<=l.length+1:=by unfold j1;split<;>simp
theorem ai5(h:wf (.tuple (l.map λq=>.tuple [.str q.1,.int q.2]))=Hq)(hk:wf (.str k)=Hq)(hl:l.length+1<=sizeLine):wf (.tuple ((j1 l k j).map λq=>.tuple [.str q.1,.int q.2]))=Hq:=by
 rw[afK]at h⊢;refine⟨Hs agI hl,λq hq=>?_⟩;unfold j1 at hq;split at hq
 ·refine aQ (HX.mp hq) λp hp o1=>?_;subst o1;split<;>exact h.2 p hp
 ·rcases HD.mp hq with hq|hq
  ·exact h.2 q hq
  ·exact(HB.mp hq).symm▸hk
section
variable{X:Hn Hv}{t:HM}{ad hd:Hv}
theorem du.abP{Q:Nq->HM->Prop}{f':jr}{more:Hn (Hv×Hv)}{h':Iv}{tk:HG}{m':HP->Hp HE}{FY:Hn (HP×HE)}(I:du Y w Hz U ae X K C' L O s)(kt:I8 s t)(hx:L x=hb (.own (.tree ro (aE C Va p f))))(hO:O.lookup x=hb (bP ad dx hd aJ++bs))(nd:(bP ad dx hd aJ++bs).Nodup)
  (i:bj Y w s.heap ad dx C Va p hd aJ f vs m ks)(rs:bH Y w Hz s.heap vs [f.told,f.given,f.bD] bs)(i':bj Y w h' ad dx C Va p hd (aJ++more) f' vs m' FY)(h3:[f'.told,f'.given,f'.bD]=[f.told,f.given,f.bD])
  (iG:∀c o,t.heap.get? c=hb o->c∉bP ad dx hd aJ->h'.get? c=hb o)(hJ:∀c∈more.flatMap (λq=>[q.1,q.2]),s.heap.get? c=Hu)(Eb:(more.flatMap λq=>[q.1,q.2]).Nodup)(hw:wf (aE C Va p f')=Hq)
  (hQ:∀O' s',du Y w Hz U ae X K C' (L.set x (.own (.tree ro (aE C Va p f')))) O' s'->Step s.heap s'.heap (WW K C' O) (WW K C' O')->Q () s'):Q () {t with heap:=h',toks:=tk}:=by
 obtain g:=ag kt;obtain qc:=H8.mp nd;have BZ:bH Y w Hz h' vs [f'.told,f'.given,f'.bD] bs:=by
  refine h3.symm▸cK.2 (rs.grow g) λc o eo q=>iG c o eo λhc=>?_;rcases q with q|q
  ·exact qc.2.2 c hc c q rfl
  ·refine aQ (i.alive c hc) λo' jU nt=>?_;rw[g c o' jU]at eo;have e:=si eo;subst e;clear eo;exact nt q
 have zX:RD Y w Hz h' (.ref ad) (aE C Va p f') (bP ad dx hd (aJ++more)++bs):=.store i' BZ;obtain al:=cL.1 zX;have ee:bP ad dx hd (aJ++more)++bs=bP ad dx hd aJ++(more.flatMap (λq=>[q.1,q.2])++bs):=by simp[bP]
 have nc:∀c∈bP ad dx hd (aJ++more)++bs,c∈bP ad dx hd aJ++bs∨s.heap.get? c=Hu:=λc hc=>by
  rw[ee]at hc;rcases HD.mp hc with hc|hc
  ·exact .inl (HF _ hc)
  ·rcases HD.mp hc with hc|hc
   ·exact .inr (hJ c hc)
   ·exact .inl (Hx _ hc)
 have Ak:∀c o,s.heap.get? c=hb o->c∉bP ad dx hd aJ++bs->h'.get? c=hb o:=λc o eo q=>iG c o (g c o eo) λe=>q (HF _ e);obtain EM:(bP ad dx hd (aJ++more)++bs).Nodup:=by rw[ee,List.Perm.nodup_iff (List.perm_append_comm_assoc ..),H8];refine lW Eb nd (λa ha b U q=>?_);clear Eb iG h3 i' rs i nd FY m' BZ qc g;subst q;exact aQ (I.cO a (cB hO U)) λo ho o1=>no ((hJ a ha).symm.trans ho)
 have I':=I.lV (tk:=tk) hx hO Ak (λc hc=>(al c (by
  refine ee.symm▸?_;rcases HD.mp hc with hc|hc
  ·exact HF _ hc
  ·exact Hx _ (Hx _ hc))).imp λ_ q=>q.1) (λc hc=>⟨nc c hc,al c hc⟩) EM hw rfl (λa' q=>by
  refine dA (dX q rfl) λo1 z1=>?_;clear hw Eb hJ iG h3 i' rs i nd hx I FY m' tk EM ee al BZ qc g q;obtain rfl:=(IP z1).1;exact zX)
 clear hw Eb hJ iG h3 i' rs i nd hx I FY m' EM ee al zX BZ qc g;refine mx kt λh1 t1 o1 o2=>?_;subst o1;exact hQ _ _ I' (iR hO Ak nc)
theorem du.ads{Q:Nq->HM->Prop}{mw:Hn (HI×HI)}(I:du Y w Hz U ae X K C' L O s)(kt:I8 s t)(hx:L x=hb (.own (.tree ro (aE C Va p f))))(hO:O.lookup x=hb (bP ad dx hd aJ++bs))(nd:(bP ad dx hd aJ++bs).Nodup)
  (i:bj Y w s.heap ad dx C Va p hd aJ f vs m ks)(rs:bH Y w Hz s.heap vs [f.told,f.given,f.bD] bs)(hj:(aJ++more)[j]? =hb (b,db))(hJ:∀c∈more.flatMap (λq=>[q.1,q.2]),s.heap.get? c=Hu)(Eb:(more.flatMap λq=>[q.1,q.2]).Nodup)(hml:more.length=mw.length)
  (ER:∀(i:HG)(b db:Hv)(x y:HI),more[i]? =hb (b,db)->mw[i]? =hb (x,y)->ic t.heap Va b db x y)(ct:wf (aE C Va p f)=Hq)(hk:wf (.str k)=Hq)(n8:f.held.length+1<=sizeLine)(G8:(f.aC++mw).length<=sizeLine)
  (hQ:∀O' s',du Y w Hz U ae X K C' (L.set x (.own (.tree ro (aE C Va p {f with held:=j1 f.held k j,aC:=f.aC++mw})))) O' s'->Step s.heap s'.heap (WW K C' O) (WW K C' O')->Q () s'):wpAny (Iq Y w) A (OG (.ref hd) (.str k tk) (.ref b)) Q E t:=by
 have it:=i.kept (h':=t.heap) λc _ o eo=>(ag kt) c o eo;obtain a8:ks.length=f.held.length:=by simpa using HL Km i.keys
 refine NP (knd:=strKind Y w) (lC _ _) it.dict (λh' qx gy=>?_) (by exact a8.symm▸NQ n8);have iG:∀c o,t.heap.get? c=hb o->c≠hd->h'.get? c=hb o:=λc o q hc=>(gy.2 c hc).trans q;have aoZ:hd∈bP ad dx hd aJ:=.tail _ (.tail _ (.head _));obtain i':=it.ah4 hj qx (λc _ hc o q=>iG c o q hc) (nd.sublist (MH _ _)) hml (λr b' D4 x' y' e1 e2=>(ER r b' D4 x' y' e1 e2).kept λc hc o q=>iG c o q λe=>by
  have hn:=hJ c (IS.mpr ⟨_,Il e1,by simpa using hc⟩);refine aQ (i.alive hd aoZ) λo' jU o1=>?_;rw[e,jU]at hn;cases hn)
 refine I.abP kt hx hO nd i rs i' rfl (λc o q hc=>iG c o q λe=>hc (e▸aoZ)) hJ Eb ?_ hQ;rw[j3]at ct⊢;exact Ei ct.1 ct.2.1 ct.2.2.1 (ai5 ct.2.2.2.1 hk n8) (l6.mpr G8)
end
def g9(C Va:Hv)(x:HP)(mi mj:ar->Hp V):ar->Hp Out:=λL=>(bL L x).bind λd=>(kn C Va d.2).bind λq=>(mj L).bind λvj=>(fW vj.x).bind λkj=>(jg q.2.held kj).bind λj=>(mi L).bind λvi=>(fW vi.x).bind λki=>
 if q.2.held.length+1<=sizeLine then hb (.next (L.set x (.own (.tree d.1 (aE C Va q.1 {q.2 with held:=j1 q.2.held ki j})))))else Hu
variable{ei:HR}{n1 t1:J3}{mi:ar->Hp V}
theorem S1.ahm{t2 p1 p2:J3}{mj:ar->Hp V}(KC:jX aG U C mC)(hi:Ev Y w U n sc ei mi)(hj:Ev Y w U n sc ej mj)(hv:aA sc x=Hq)
  (e8:∀o j,∃jx,Lp ej HH o j=Nh jx (L2 o j))
  (iS:∀K:Ke,JU (.Subscript (.Attribute (.Name x n2) (HA "held") t2) ej p2) (hb (.Subscript (.Attribute (.Name x n1) (HA "held") t1) ei p1)) pos.line K=pure HH):
  S1 Y w U n sc (.Assign [.Subscript (.Attribute (.Name x n1) (HA "held") t1) ei p1] (.Subscript (.Attribute (.Name x n2) (HA "held") t2) ej p2) pos) (g9 C Va x mi mj):=by
 intro A Hz K ae X C' L O s r Q E hs hA I;refine ak λz0 hd=>ak λz1 hq=>ak λz2 FJ=>ak λkj hkj=>ak λj hl=>ak λz5 DS=>ak λki D6=>jl λn8 R hQ=>?_;obtain⟨ro,d⟩:=z0;obtain⟨p,f⟩:=z1;obtain⟨vj,fj⟩:=z2;obtain⟨vi,fi⟩:=z5
 ·have e:=si R;subst e;clear R;obtain H:=kr hq;clear hq;subst H;obtain H:=dh hkj;clear hkj;subst H;obtain rfl:=dh D6;have hx:=bU hd;dsimp only at hx hl n8 hQ;have k9:aA K.scope x=Hq:=by exact hs.symm▸hv
  obtain⟨ad,dx,uj,aJ,vs,mm,ks,bs,hO,i,rs,nd,ct⟩:=I.oG k9 hx;refine Kr (I.adm KC k9 hx hO i hj hs hA FJ hl e8 λay ah=>(I.grow ah).tE KC k9 hx hO (i.kept λc _ o eo=>ag ah c o eo) λaM aI _=>hi hs hA ((I.grow ah).grow aI).toInF DS λku dN dO pb=>?_) (iS K);obtain⟨cs,rk,ck,_⟩:=pb;obtain H:=rk.ij;clear rk;induction H with|mk t=>?_
  refine aQ (aa0 hl) λq Hj G3=>?_;have GO:j<aJ.length:=by exact G3▸i.bound q Hj
  obtain BV:=HQ GO;refine(show(aJ.getD j (0,0)).1=(aJ[j]).1 by rw[JX,BV];rfl).symm▸?_;refine I.ads (more:=[]) (mw:=[]) (db:=(aJ[j]).2) (ab ah (ab aI dO)) hx hO nd i rs (by rw[IA];exact BV) (λ_ q=>nomatch q) I9 rfl (λ_ _ _ _ _ q=>no q) ct ck n8 (by rw[IA];exact l6.mp (j3.mp ct).2.2.2.2) λO' s' I' T'=>?_;rw[IA]at I';exact hQ O' s' I' T'
variable{ki:HP}{fi:Fl}
theorem aaK{mj:ar->Hp V}{fj:Fl}(h1:bL L x=hb (ro,aE C Va p f))(h2:mj L=hb ⟨.str kj,fj⟩)(h3:jg f.held kj=hb j)(h4:mi L=hb ⟨.str ki,fi⟩)(h5:f.held.length+1<=sizeLine):
  g9 C Va x mi mj L=hb (.next (L.set x (.own (.tree ro (aE C Va p {f with held:=j1 f.held ki j}))))):=by
 unfold g9;refine bI h1 ?_;rw[jG,HT,h2,HT];show((jg f.held kj).bind λj=>(mi L).bind λvi=>(fW vi.x).bind λki=>_)=_;refine bI h3<|bI h4 ?_;exact H5 h5
def oj(Va:Hv)(q:HI×HI):Ho:=ec Va [] [(HA "amount",.int q.1),(HA "opening",.int q.2)]
variable{q:HI×HI}
theorem afu{q':HI×HI}(h:oj Va q=oj Va q'):q=q':=by obtain e:=HL (qz Va) h;unfold oj at e;rw[eU,eU]at e;obtain e:=HL NF (H4 e);injection e with e1 e;injection e with e2 e;obtain e1:=HL NF e1;obtain e2:=HL NF e2;injection e1 with e1;injection e2 with e2;exact MN e1 e2
open Classical in
def uq(Va:Hv)(d:Ho):Hp (HI×HI):=if h:∃q:HI×HI,d=oj Va q then hb (OS h)else Hu
theorem acO(h:uq Va d=hb q):d=oj Va q:=by
 unfold uq at h;split at h
 ·rename_i e;exact(H4 h)▸LJ e
 ·exact no h
theorem ad6(Va:Hv)(q:HI×HI):uq Va (oj Va q)=hb q:=by obtain e:∃q':HI×HI,oj Va q=oj Va q':=⟨q,rfl⟩;unfold uq;exact(dif_pos e).trans<|HL hb (afu (LJ e)).symm
theorem RD.aoe(r:RD Y w Hz h u (oj Va q) as):∃b db,u=.ref b/\as=[b,db]/\ic h Va b db q.1 q.2:=by
 obtain⟨a',dx,rs,gs,vs,m,bs,rfl,ex,rfl,_,i,_,e,nn,rr⟩:=r.j9 (eU Va _ _);clear r;obtain⟨rfl,rfl⟩:=qk ex;obtain H:=rr.yw;clear rr;induction H with|mk v1 vs b1 c1 r1 EA=>?_
 obtain H:=EA.yw;clear EA;induction H with|mk v2 vs b2 c2 r2 E4=>?_
 clear c1 ex bs;obtain⟨rfl,rfl⟩:=E4.nil_inv;simp only[HS,MX,O0,and_true]at e;clear E4 vs;induction r1.dR with|mk t1=>?_
 clear v1 vs;induction r2.dR with|mk t2=>?_
 clear v2;obtain rfl:=r1.bR rfl;clear r1;obtain rfl:=r2.bR rfl;refine⟨a',dx,rfl,rfl,m,t1,t2,i,e.1,e.2,λz hz=>?_⟩;have:=nn z hz;simp only[HS,MX,KX,Hw,Ia,Kv]at this;clear r2 nn e i dx a' hz;rcases this with rfl|rfl<;>decide
def jb(C Va:Hv)(x:HP)(mi:ar->Hp V)(mt:ar->Hp Ho):ar->Hp Out:=λL=>(bL L x).bind λd=>(kn C Va d.2).bind λq=>(mt L).bind λz=>(uq Va z).bind λv=>(mi L).bind λvi=>(fW vi.x).bind λki=>
 if q.2.held.length+1<=sizeLine/\q.2.aC.length+1<=sizeLine then hb (.next (L.set x (.own (.tree d.1 (aE C Va q.1 {q.2 with held:=j1 q.2.held ki q.2.aC.length,aC:=q.2.aC++[v]})))))else Hu
theorem S1.aji{C Va:Hv}{mC:HP->Hp HE}{x:HP}{ei e:HR}{n1 t1 p1 pos:J3}{mi:ar->Hp V}{mt:ar->Hp Ho}(KC:jX aG U C mC)(hi:Ev Y w U n sc ei mi)(ht:l0 Y w U n sc e mt)(hv:aA sc x=Hq)
  (iS:∀K:Ke,JU e (hb (.Subscript (.Attribute (.Name x n1) (HA "held") t1) ei p1)) pos.line K=pure HH):
  S1 Y w U n sc (.Assign [.Subscript (.Attribute (.Name x n1) (HA "held") t1) ei p1] e pos) (jb C Va x mi mt):=by
 intro A Hz K ae X C' L O s r Q E hs hA I;refine ak λz0 hd=>ak λz1 hq=>ak λz hz=>ak λv hvz=>ak λz4 DS=>ak λki D6=>jl λn8 R hQ=>?_;obtain⟨ro,d⟩:=z0;obtain⟨p,f⟩:=z1;obtain⟨vi,fi⟩:=z4
 ·have e:=si R;subst e;clear R;obtain H:=kr hq;clear hq;subst H;obtain H:=acO hvz;clear hvz;subst H;obtain rfl:=dh D6;have hx:=bU hd;dsimp only at hx n8 hQ;have k9:aA K.scope x=Hq:=by exact hs.symm▸hv
  obtain⟨ad,dx,uj,aJ,vs,mm,ks,bs,hO,i,rs,nd,ct⟩:=I.oG k9 hx;refine Kr (ht hs hA I.toInF hz λu as ay ah rv ndv wfv fr=>(I.grow ah).tE KC k9 hx hO (i.kept λc _ o eo=>ag ah c o eo) λaM aI _=>hi hs hA ((I.grow ah).grow aI).toInF DS λku dN dO pb=>?_) (iS K);obtain⟨cs,rk,ck,_⟩:=pb;obtain H:=rk.ij;clear rk;induction H with|mk t=>?_
  clear iS hv ht hi KC pos p1 t1 n1 ei mC k9 ku wfv D6 DS hz hd hA hs;refine j8 rv.aoe λb db o1 o2 va=>?_;subst o1;subst o2;obtain va':=va.kept (h':=dN.heap) λc _ o eo=>ag (ab aI dO) c o eo;refine I.ads (more:=[(b,db)]) (mw:=[v]) (j:=f.aC.length) (ab ah (ab aI dO)) hx hO nd i rs (by rw[<-i.len,Ld (Io _),OT];rfl) (λc hc=>fr c (by simpa using hc)) (by simpa using ndv) rfl (λr b' D4 x' y' e1 e2=>?_) ct ck n8.1 (by exact HN.symm▸n8.2) λO' s' I' T'=>hQ O' s' I' T';clear mt mi t hx ck ct nd rs i hO bs ks mm vs aJ uj dx ad va dO aI fr ndv rv ah hQ n8 I E Q s L X Hz A;induction r with
  |zero=>cases e1;(have e:=si e2;subst e;clear e2);exact va'
  |succ r=>exact no e1
theorem abo{mt:ar->Hp Ho}{v:HI×HI}(h1:bL L x=hb (ro,aE C Va p f))(h2:mt L=hb (oj Va v))(h4:mi L=hb ⟨.str ki,fi⟩)(h5:f.held.length+1<=sizeLine)(h6:f.aC.length+1<=sizeLine):
  jb C Va x mi mt L=hb (.next (L.set x (.own (.tree ro (aE C Va p {f with held:=j1 f.held ki f.aC.length,aC:=f.aC++[v]}))))):=by
 unfold jb;refine bI h1 ?_;rw[jG,HT,h2,HT,ad6,HT,h4,HT];exact H5 ⟨h5,h6⟩
def je(C Va:Hv)(x:HP)(mi m:ar->Hp V):ar->Hp Out:=λL=>(bL L x).bind λd=>(kn C Va d.2).bind λq=>(mi L).bind λvi=>(fW vi.x).bind λki=>(jg q.2.held ki).bind λj=>(q.2.aC[j]?).bind λv=>(m L).bind λu=>(cD u.x).bind λb=>
 hb (.next (L.set x (.own (.tree d.1 (aE C Va q.1 {q.2 with aC:=q.2.aC.set j (v.1+b,v.2)})))))
variable{m:ar->Hp V}
theorem S1.aio{p1 tp:J3}(KC:jX aG U C mC)(KV:jX valNames U Va mV)(hi:Ev Y w U n sc ei mi)(h:Ev Y w U n sc e m)(hv:aA sc x=Hq)
  (e8:∀o j,∃jx,Lp ei HH o j=Nh jx (L2 o j)):
  S1 Y w U n sc (.AugAssign (.Attribute (.Subscript (.Attribute (.Name x n1) (HA "held") t1) ei p1) (HA "amount") tp) .Add e pos) (je C Va x mi m):=by
 intro A Hz K ae X C' L O s r Q E hs hA I;refine ak λz0 hd=>ak λz1 hq=>ak λz2 DS=>ak λki D6=>ak λj hl=>ak λv FJ=>ak λu hu=>ak λb G4 R hQ=>?_;obtain⟨ro,d⟩:=z0;obtain⟨p,f⟩:=z1;obtain⟨vi,fi⟩:=z2;have e:=si R;subst e;clear R;obtain H:=kr hq;clear hq;subst H;obtain rfl:=dh D6;have hx:=bU hd;dsimp only at hx hl hQ FJ;have k9:aA K.scope x=Hq:=by exact hs.symm▸hv
 obtain⟨ad,dx,uj,aJ,vs,mm,ks,bs,hO,i,rs,nd,ct⟩:=I.oG k9 hx;refine aQ (aa0 hl) λq Hj G3=>?_;have GO:j<aJ.length:=by exact G3▸i.bound q Hj
 obtain BV:=HQ GO;refine OC (I.adm KC k9 hx hO i hi hs hA DS hl e8 λay ah=>?_);refine(show(aJ.getD j (0,0)).1=(aJ[j]).1 by rw[JX,BV];rfl).symm▸?_;generalize aJ[j]=bb at BV;obtain⟨ba,bd⟩:=bb;obtain⟨mb,ta,tb,ib,a1,a2,a3⟩:=(i.each j ba bd v.1 v.2 BV FJ).kept (h':=ay.heap) λc _ o eo=>ag ah c o eo;refine iq KV (I.grow ah).base.grow ib (by decide) a1 rfl λaM aI u5=>h hs hA ((I.grow ah).grow aI).toInF hu λu' dN dO pb=>?_;obtain⟨as2,rv,_,_⟩:=pb;rw[bJ G4]at rv;obtain H:=rv.dR;clear rv;induction H with|mk t2=>?_
 refine PySem.AutoIntOps.iadd_0 ?_;have kk:=ab ah (ab aI dO);obtain ao2:=ib.kept (h':=dN.heap) (λo eo=>ag (ab aI dO) _ o eo) (λo eo=>ag (ab aI dO) _ o eo);have C9:ba∈bP ad dx uj aJ/\bd∈bP ad dx uj aJ:=by
  obtain R:∀c,c=ba∨c=bd->c∈bP ad dx uj aJ:=λc hc=>by
   simp only[bP,Hw];exact .inr (.inr (.inr (IS.mpr ⟨_,Il BV,by simpa using hc⟩)))
  exact gQ (R _ (.inl rfl)) (R _ (.inr rfl))
 refine qX KV (I.grow kk).base.grow ao2 (by decide) a3 (by decide) ((I.b8 ba (cB hO (HF _ C9.1))).1) λh' tk i' keep=>?_;obtain ap8:=i.kept (h':=dN.heap) λc _ o eo=>(ag kk) c o eo;obtain FO:ic h' Va ba bd (v.1+b) v.2:=⟨_,_,tb,i',H5 rfl,(Ir (by decide)).trans a2,λz hz=>by
  by_cases e:z=HA "amount"
  ·rw[e];decide
  ·exact a3 z (λq=>hz ((Ir e).trans q))⟩
 refine I.abP (more:=[]) (f':={f with aC:=f.aC.set j (v.1+b,v.2)}) (tk:=tk) (Q:=λ_=>Q .next) (ab kk (aK dN (dN.toks+1))) hx hO nd i rs (by rw[IA];exact(ap8.ad5 BV FO (λc _ n1 n2 o eo=>keep c o n1 n2 eo) (nd.sublist (MH _ _)))) rfl (λc o q hc=>keep c o (λe=>hc (e▸C9.1)) (λe=>hc (e▸C9.2)) q) (λ_ q=>nomatch q) I9 ?_ λO' s' I' T'=>hQ O' s' I' T';rw[j3]at ct⊢;exact Ei ct.1 ct.2.1 ct.2.2.1 ct.2.2.2.1 (l6.mpr (by exact N6.symm▸l6.mp ct.2.2.2.2))
theorem abr{fu:Fl}{v:HI×HI}{b:HI}(h1:bL L x=hb (ro,aE C Va p f))(h2:mi L=hb ⟨.str ki,fi⟩)(h3:jg f.held ki=hb j)(h4:f.aC[j]? =hb v)(h5:m L=hb ⟨.int b,fu⟩):
  je C Va x mi m L=hb (.next (L.set x (.own (.tree ro (aE C Va p {f with aC:=f.aC.set j (v.1+b,v.2)}))))):=by
 unfold je;refine bI h1 ?_;rw[jG,HT,h2,HT];show((jg f.held ki).bind λj=>(f.aC[j]?).bind λv=>(m L).bind λu=>(cD u.x).bind λb=>_)=_;refine bI h3<|bI h4 ?_;rw[h5];rfl
structure jK(Y:IB)(w:Ja)(h₀:Iv)(r:Hv)(T:I2)(k:HG)(P:HG->HE->Prop):Prop where
 ty:∀s:HM,bA h₀ s.heap->s.TypeIs (.ref r) T
 other:(LZ T==.type "list")=HH/\(LZ T==.type "tuple")=HH
 hint:∀(A:Jh)(E:HE->HM->Prop)(s:HM)(Q:Ig->HM->Prop),bA h₀ s.heap->Q HH s->wpAny (Iq Y w) A (Q7 (.ref r)) Q E s
 iter:∀(A:Jh)(s:HM),A.handled=Hu->bA h₀ s.heap->∃(o:PR)(fp:Hn Hv)(St:HG->Iv->Prop),(∀(E Q:HE->HM->Prop),Q (.ref s.heap.objs.size) {s with heap:=s.heap.push o}->wpAny (Iq Y w) A (Qn (.ref r)) Q E s)/\
  Walks Y w A s.heap.objs.size fp [s.heap.objs.size] k P St/\St 0 (s.heap.push o)/\∀b∈fp,b=s.heap.objs.size∨∃o,h₀.get? b=hb o
section
variable{r S:Hv}{T:I2}{k:HG}{P:HG->HE->Prop}
theorem jK.extend{aH:Result->HM->Prop}(D:jK Y w h₀ r T k P)(hh:A.handled=Hu)(g:bA h₀ s.heap)(hr:∃o,h₀.get? r=hb o)(akA:h₀.get? S=Hu)(c:HG)(hS:s.heap.get? S=hb {cls:=.type "list",data:=.seq #[] c})(hk:k<=sizeLine)(res:HE)
  (hR:∀h' tk acc c',(∀b o,b≠S->s.heap.get? b=hb o->h'.get? b=hb o)->h'.get? S=hb {cls:=.type "list",dict:=Hu,data:=.seq acc c',slots:=#[]}->ItemsOf P acc k->aH (.ok (.ret res)) {s with heap:=h',toks:=tk}):
  wpAny (Iq Y w) A.in1 (Q8 (.ref S) (.ref r) res)
   (λfin s'=>match fin with|.done f=>aH (.ok f) s'|.again c'=>c'.quiet=Hq/\Pz (Iq Y w) A c' aH s') (λe s'=>aH (.error e) s') s:=by
 refine Ax (D.iter A.in1 s hh g) λo fp St it W st hfp=>?_;have new:S∉fp:=λq=>by
  rcases hfp S q with q|⟨o,q⟩
  ·exact IG (II hS) (by exact q.symm▸JW _)
  ·exact no (akA.symm.trans q)
 obtain apart:(Mi (.ref S) (.ref r))=HH:=by
  refine dA hr λo q=>?_;have:S≠r:=λe=>by rw[<-e,akA]at q;exact no q
  simp[Mi,this]
 have loop:∀(h:Iv)(c₁ tk:HG),St 0 h->(∀b o,b≠S->s.heap.get? b=hb o->h.get? b=hb o)->h.get? S=hb {cls:=.type "list",data:=.seq #[] c₁}->
   Pz (Iq Y w) A (.builtin "list.extend.loop" ⟨[.ref S,.ref s.heap.objs.size,res],[]⟩) aH {s with heap:=h,toks:=tk}:=λh c₁ tk q1 q2 q3=>
  codeAny_extend_loopS W.toS hk S new res k 0 _ #[] c₁ rfl (JS _) q1 q3 (ItemsOf.nil _) λs' acc c' m q4 q5=>by
   rw[Moved.eq_with m];refine hR _ _ acc c' (λb o U e=>m.heap b o (λq=>?_) (q2 b o U e)) q4 q5;rcases Hw.mp q with q|q
   ·exact U q
   ·exact IG (II e) (by exact(HB.mp q).symm▸JW _)
 refine Ht (L7 (D.ty s g) ?_);simp only[apart,D.other.1,D.other.2,Bool.or_false,Ko,K8];obtain G1:=HW o hS;refine Ht (it _ _ (Ht (KR (D.hint _ _ _ _ (bA.trans g (bA.push _ _)) (My (λ_=>Ht (Nj (Ht ?_))) (λ_=>HV ⟨plainId_quiet PySem.F.plain_extend_loop _,loop _ c _ st (λb o' _ e=>HW _ e) G1⟩))))));refine Ht (Nm G1 rfl ?_);obtain hS2:=Jb (JB (·.push MR)) G1 rfl;refine Nm (hz:=by seq_fits) hS2 rfl ?_;obtain off:∀b o',b≠S->(s.heap.push o).get? b=hb o'->(((s.heap.push o).update S (JB (·.push MR))).update S (JB (·.pop))).get? b=hb o':=λb o' U e=>
  (M0 _ _ (K9 U)).trans ((M0 _ _ (K9 U)).trans e)
 exact HV ⟨plainId_quiet PySem.F.plain_extend_loop _,loop _ _ _ (W.frame 0 _ _ st λb U o' e=>off b o' (λq=>new (q▸U)) e) (λb o' U e=>off b o' U (HW _ e)) (Jb (JB (·.pop)) hS2 rfl)⟩
theorem jK.call(D:jK Y w s.heap r T k P)(hh:A.handled=Hu)(hr:∃o,s.heap.get? r=hb o)(hk:k<=sizeLine)
  (hQ:∀h' tk acc c',bA s.heap h'->h'.get? s.heap.objs.size=hb {cls:=.type "list",dict:=Hu,data:=.seq acc c',slots:=#[]}->ItemsOf P acc k->Q (.ref s.heap.objs.size) {s with heap:=h',toks:=tk}):
  wpAny (Iq Y w) A (call (.type "list") [.ref r]) Q E s:=by
 refine callType_codes (Q₁:=λobj ay=>obj=.ref s.heap.objs.size/\ay={s with heap:=s.heap.push {cls:=.type "list",data:=.seq #[]}}) PySem.F.called_list (PySem.F.typeCall_list_1 _) PySem.F.entry_list_init
  (code_list_new _ ⟨rfl,rfl⟩) λobj ay eY=>?_
 obtain⟨rfl,rfl⟩:=eY;obtain hS:(s.heap.push {cls:=.type "list",data:=.seq #[]}).get? s.heap.objs.size=hb {cls:=.type "list",data:=.seq #[]}:=H7 _ rfl;have old:∀b o,s.heap.get? b=hb o->b≠s.heap.objs.size:=λb o e=>Jq (II e);refine lW ⟨_,hS,rfl⟩ (PySem.F.args_list_init_2 _ _)<|Ht (Ht (J8 hS rfl (HV (Ht (Nm hS rfl (Ht (Nz ?_)))))));have g:bA s.heap ((s.heap.push {cls:=.type "list",data:=.seq #[]}).update s.heap.objs.size (JB (λ_=>(#[]:PX HE)))):=λb o e=>
  (M0 _ _ (K9 (old b o e))).trans (HW _ e)
 exact D.extend (A:=A.in1) hh g hr (aT _ (Io _)) _ (Jb (JB (λ_=>(#[]:PX HE))) hS rfl) hk .none λh' tk acc c' kp q1 q2=>⟨rfl,hQ h' tk acc c' (λb o e=>kp b o (old b o e) (g b o e)) q1 q2⟩
variable{aW:Hn (HP×HE)}
theorem jK.dict{ep:HG}(lo:(yD==Kd)=HH)(hd:h.DictAt (strKind Y w) yD aW ep):
  jK Y w h yD "dict" aW.length (λi v=>∃k x,aW[i]? =hb (k,x)/\(strKind Y w).is k v=Hq)where
 ty:=λs g=>(hd.at' λo e=>g _ _ e).dictOf.typeIs
 other:=by decide
 hint:=λA E s Q g hq=>by
  have hT:=(hd.at' λo e=>g _ _ e).dictOf.typeIs;refine Ht (OE hT PySem.F.slot_dict_len.lookup ?_);generalize EZ:("dict.__len__":I2)=i
  wp_delta
  refine(show splitId i=hb ("dict","__len__")from by subst EZ;decide +kernel).symm▸?_;subst EZ;refine Ht (Ot (T:="dict") (b:=Hq) hT (by rw[Ls];kernel_rfl) (My (λq=>IG q (by decide)) λ_=>My (λ_=>Ht (L7 hT (HV hq))) λq=>IG (by decide +kernel) q))
 iter:=λA s hh g=>by
  have R:=hd.at' λo e=>g _ _ e;refine A8 _ _ _ (λE Q hq=>wpAny_pyIter_dict lo R hq) (Walks.dictKeys hh _ yD (Jq R.lt_size) aW ep) ⟨⟨_,H7 _ rfl,rfl,rfl⟩,R.push _⟩ (λb U=>?_);rcases Hw.mp U with rfl|U
  ·exact .inl rfl
  ·exact mx hd λo o1 ho o2=>.inr ⟨o,by exact(HB.mp U).symm▸ho⟩
theorem jK.values{ep:HG}(hv:h.IsValuesView fb yD)(hd:h.DictAt (strKind Y w) yD aW ep):
  jK Y w h fb "dict_values" aW.length (λi x=>∃k,aW[i]? =hb (k,x))where
 ty:=λs g=>let⟨o,ho,hc,_⟩:=hv;⟨o,g _ _ ho,hc⟩
 other:=by decide
 hint:=λA E s Q g hq=>by
  have hT:s.TypeIs (.ref fb) "dict_values":=let⟨o,ho,hc,_⟩:=hv;⟨o,g _ _ ho,hc⟩;refine Ht (OE hT PySem.F.slot_dict_values_len.lookup ?_);generalize EZ:("dict_values.__len__":I2)=i
  wp_delta
  refine(show splitId i=hb ("dict_values","__len__")from by subst EZ;decide +kernel).symm▸?_;subst EZ;refine Ht (Ot (T:="dict_values") (b:=Hq) hT (by rw[Ls];kernel_rfl) (My (λq=>IG q (by decide)) λ_=>My (λ_=>Ht (L7 hT (HV hq))) λq=>IG (by decide +kernel) q))
 iter:=λA s hh g=>by
  have R:=hd.at' λo e=>g _ _ e;obtain k9:s.heap.IsValuesView fb yD:=let⟨o,ho,r⟩:=hv;⟨o,g _ _ ho,r⟩;refine A8 _ _ _ (λE Q hq=>wpAny_pyIter_values k9 R hq) (Walks.dictValues hh _ yD (Jq R.lt_size) aW ep) ⟨⟨_,H7 _ rfl,rfl,rfl⟩,R.push _⟩ (λb U=>?_);rcases Hw.mp U with rfl|U
  ·exact .inl rfl
  ·exact mx hd λo o1 ho o2=>.inr ⟨o,by exact(HB.mp U).symm▸ho⟩
end
theorem agd{ys:Hn (HP×Ho)}:∀{ks:Hn (HP×HE)}{vs:Hn HE},ks.map (·.1)=ys.map (·.1)->vs.length=ks.length->(∀(j:HG)(v:HE),vs[j]? =hb v->∃k x,ks[j]? =hb (k,x)/\(strKind Y w).is k v=Hq)->bH Y w Hz h vs (ys.map λp=>.str p.1) []:=by
 induction ys with
 |nil=>
  intro ks vs e l _;cases ks with
  |cons _ _=>exact nomatch e
  |nil=>cases vs with
   |nil=>exact .nil
   |cons _ _=>exact nomatch l
 |cons y ys ih=>
  intro ks vs e l h0;cases ks with
  |nil=>exact nomatch e
  |cons k ks=>cases vs with
  |nil=>exact nomatch l
  |cons v vs=>
  refine ew (IP e) λe0 e1=>?_;dsimp only at e0;refine mx (h0 0 v rfl) λk' x q1 q2=>?_;have e:=si q1;subst e;clear q1;refine dA (Value.isStrOf_shape q2) λt o1=>?_;subst o1;refine .cons (as:=[]) ?_ (ih e1 (Jz l) λj v hj=>h0 (j+1) v hj);show RD Y w Hz h (.str k' t) (.str y.1) [];exact e0▸.str _ _
set_option tactic.hygienic true in
theorem cg.an9:cg Y w U n (.type "list") (λvs=>match vs with|[v]=>(gK v.x).map λaW=>⟨.list (aW.map (·.1)),.d⟩|_=>Hu):=by
 intro A Hz K ae X C L O s us vs v Q E hA I r R hQ;dsimp only at R;split at R
 ·rename_i a;induction dI R with|mk aW h1=>?_
  refine aQ r.iN λo1 o2 r1=>?_;subst o2
  ·obtain⟨as,ra,ca,oa⟩:=r1;refine ew (gH h1) λhd rO=>?_;rw[hd]at ra ca;obtain H:=ra.nq rO;clear ra;induction H with|mk d ks ys bs b1 b2 b3 b4=>?_
   refine dA b1.dictAt λep Dc=>?_;obtain a8:ks.length=ys.length:=by simpa using HL Km b3
   simp only[wf,HU,Ik,Hr]at ca;refine(jK.dict (ep:=ep) b2 Dc).call hA.handled (let⟨o,_,ho,_⟩:=Dc;⟨o,ho⟩) (Hs (JY a8) ca.1) λh' tk acc c' hk hS mH=>?_;obtain k:I8 s {s with heap:=h',toks:=tk}:=⟨h',tk,rfl,hk⟩;refine hQ _ _ k ⟨[s.heap.objs.size],?_,?_,?_⟩
   ·exact Ii.symm▸.list (vs:=acc.toList) (n:=c') (by simpa using hS) (agd b3 (by simpa using mH.1) λj v hj=>mH.2 j v (by simpa using hj))
   ·rw[aV,Ii];refine⟨by simp;exact ca.1,(cM _).mpr λx hx=>?_⟩;refine aQ (HX.mp hx) λq hq o1=>?_;subst o1;exact(fY.mp ca.2 (.str q.1,q.2) (HX.mpr ⟨q,hq,rfl⟩)).1
   ·intro c hc;exact(HB.mp hc).symm▸I.fresh (aT _ (Io _))
 ·exact no R
theorem aiV(hl:vs.length=ks.length)(h:∀(j:HG)(v:HE),vs[j]? =hb v->∃k,ks[j]? =hb (k,v)):vs=ks.map (·.2):=by
 refine NG λj=>Iz.symm▸?_;cases e:vs[j]?with
 |some v=>refine dA (h j v e) λk hk=>hk.symm▸?_;rfl
 |none=>rw[MD]at e;refine(Jw (OM (id (PV hl)) e)).symm▸?_;rfl
theorem Ev.afb{o:HR}{np apos p8 pos:J3}{m:ar->Hp V}(fq:BF U)(h:Ev Y w U n sc o m)(hx:aY sc "list"=Hq)
  (d4:∀K:Ke,J2 o "values" K (Jf o K)=Jf o K)(iI:(apos.endLine==p8.line)=Hq)
  (er:∀K:Ke,(J4 pos (Ie [.Call (.Attribute o "values" apos) [] [] p8] K)).any (·.1)=HH)(he:∀K,Ie [.Call (.Attribute o "values" apos) [] [] p8] K=(HH,Jf (.Call (.Attribute o "values" apos) [] [] p8) K)::Ie [] K):
  Ev Y w U n sc (.Call (.Name (HA "list") np) [.Call (.Attribute o "values" apos) [] [] p8] [] pos) (λL=>(m L).bind λv=>(gK v.x).bind λaW=>if bZ (aW.map (·.2))=Hq then hb ⟨.list (aW.map (·.2)),.d⟩else Hu):=by
 intro A Hz K ae X C L O s v Q E hs hA I;refine ak λv0 hv=>ak λaW h1=>jl λyd R hQ=>?_
 ·have e:=si R;subst e;clear R;refine Ht (di I (by exact hs.symm▸hx) fq.list (dZ (U:=U) (.inr (.inl ⟨_,rfl⟩)) (er K) (Kt ?_ (he K))));refine J5 (T:="dict") (id:="dict.values") (d4 K) rfl iI N5 P6 F.type_dict_values (h hs hA I hv λu ay ah aL=>?_);obtain⟨as,ra,ca,oa⟩:=aL;refine ew (gH h1) λhd rO=>?_;rw[hd]at ra ca;obtain H:=ra.nq rO;clear ra;induction H with|mk d ks ys bs b1 b2 b3 b4=>?_
  refine lW b1.typeIs b1.mapOf.noDict<|method_meetsIn P6 F.entry_dict_values rfl (evalArgs_none ⟨rfl,b1.typeIs,F.args_dict_values_1 _,_,meets_dict_values (strKind Y w) d b2,⟨ks,b1⟩,?_⟩);refine LB ⟨?_,?_⟩
  ·exactλb o e=>HW _ ((I.grow ah).base.grow b o e)
  refine dA b1.dictAt λep Dc=>?_;obtain a8:ks.length=ys.length:=by simpa using HL Km b3
  simp only[wf,HU,Ik,Hr]at ca;obtain akB:(ay.heap.push {cls:=.type "dict_values",data:=.fields #[.ref d]}).IsValuesView ay.heap.objs.size d:=⟨_,H7 _ rfl,rfl,rfl⟩;refine(jK.values (ep:=ep) akB (Dc.push _)).call hA.handled ⟨_,H7 _ rfl⟩ (Hs (JY a8) ca.1) λh' tk acc c' hk hS mH=>?_;obtain k:I8 ay {ay with heap:=h',toks:=tk}:=⟨h',tk,rfl,λb o e=>hk b o (HW _ e)⟩;obtain yA:=b4.bR (by rw[Ii]at yd;exact yd);clear he er iI d4 h fq pos p8 apos np b3 b2 b1 akB a8 oa as hk Dc ep o rO hd u yd h1 hv v0 hA hs E A aW;subst yA;obtain ao1:acc.toList=ks.map (·.2):=aiV (by simpa using mH.1) λj v hj=>mH.2 j v (by simpa using hj);refine hQ _ _ (ab ah k) ⟨[(ay.heap.push {cls:=.type "dict_values",data:=.fields #[.ref d]}).objs.size],?_,?_,?_⟩
  ·exact Ii.symm▸.list (vs:=acc.toList) (n:=c') (by simpa using hS) (by exact ao1.symm▸b4.grow (ag k))
  ·rw[aV,Ii];refine gQ (by simp;exact ca.1) ((cM _).mpr λx hx=>?_);clear m b4 ao1 k mH hS c' acc tk h' hQ Q;refine aQ (HX.mp hx) λq hq o1=>?_;subst o1;exact(fY.mp ca.2 (.str q.1,q.2) (HX.mpr ⟨q,hq,rfl⟩)).2
  ·intro c hc;exact(HB.mp hc).symm▸(I.grow ah).fresh (aT _ (by simp))
theorem s5.of{m:ar->Hp Out}{spec:Hn Ho->Hp Ho}
  (D:∃mC f fo fd r,jX ns U C mC/\mC (HA "__init__")=hb (.ref f)/\U.get? f=hb fo/\fo.cls=.type "function"/\fo.data=.func fd/\Kw (.type "object") (HA "__init__")=pure r/\ju U f sc ("self"::ps) body)
  (h:St Y w U n sc body m)(R:∀a B d',spec B=hb d'->lH ("self"::ps) "self" m a B=hb d'):s5 Y w U (n+1) C ps spec:=by
 exact Dx D λmC f fo fd r h1 h2 h3 h4 o1 o2 h7=>⟨⟨ns,mC,f,fo,h1,h2,h3,h4,Du.def h7 (.head _) h R⟩⟩
def aoH:Hn V->Hp V
 |[v]=>(cD v.x).map λa=>⟨.int (if a<0 then -a else a),.d⟩
 |_=>Hu
theorem cg.abs:cg Y w U n (.builtin "abs") aoH:=by
 intro A Hz K ae X C L O s us vs v Q E hA I r R hQ;rcases vs with _|⟨a,_|⟨b,vs⟩⟩
 ·exact no R
 ·obtain⟨i,hi⟩:=dI (o:=cD a.x) R;clear I hA L X;refine aQ r.iN λo1 o2 r1=>?_;subst o2;obtain⟨as,ra,ca,oa⟩:=r1;rw[bJ hi]at ra;clear oa ca hi r;induction ra.dR with|mk t=>?_
  exact PyProof.Rows.call_abs_int λu tk=>hQ _ _ (aK s _) dK.int
 ·exact no R
def Cp:Hn V->Hp V
 |[u,v]=>(cD u.x).bind λa=>(cD v.x).map λb=>⟨.int (if b>a then b else a),.d⟩
 |_=>Hu
theorem ip.aiS(r:ip Y w Hz iE W h us [s6,yF]):∃u v,us=[u,v]/\dK Y w Hz iE W h u s6/\dK Y w Hz iE W h v yF:=by obtain⟨u,_,e,r1,r2⟩:=r.head;exact aQ r2.iN λv o1 r3=>mz u v (e.trans (HL _ o1)) r1 r3
theorem cg.max:cg Y w U n (.builtin "max") Cp:=by
 intro A Hz K ae X C L O s us vs v Q E hA I r R hQ;rcases vs with _|⟨a,_|⟨b,_|⟨c,vs⟩⟩⟩
 ·exact no R
 ·exact no R
 ·revert R;refine ak λi hi R=>?_;obtain⟨j,hj⟩:=dI (o:=cD b.x) R;clear I L X;refine j8 r.aiS λo1 o2 o3 r1 r2=>?_;subst o3;obtain⟨as,ra,ca,oa⟩:=r1;obtain⟨bs,rb,cb,ob⟩:=r2;rw[bJ hi]at ra;rw[bJ hj]at rb;clear ob cb oa ca hj hi r;induction ra.dR with|mk t=>?_
  clear ra as o1;induction rb.dR with|mk t'=>?_
  refine max_two_ints hA.handled λh' tk k=>?_;obtain hh:=hQ (if j>i then .int j t' else .int i t) {s with heap:=h',toks:=tk} ⟨h',tk,rfl,k⟩;by_cases h:j>i
  ·rw[H5 h]at hh⊢;exact hh (by exact(H5 h).symm▸dK.int)
  ·rw[Ir h]at hh⊢;exact hh (by exact(Ir h).symm▸dK.int)
 ·exact no R
noncomputable def kN:Hn Ho->Hp (Hn Ig)
 |[]=>hb []
 |.bool b::B=>(kN B).map (b::·)
 |_=>Hu
theorem bH.bools(r:bH Y w Hz h vs B as){bs:Hn Ig}(e:kN B=hb bs):vs=bs.map Pc:=by
 refine bH.ind (aH:=λvs B _=>∀bs,kN B=hb bs->vs=bs.map Pc) (λbs e=>?_) (λ{u us x B as cs} a _ ih bs e=>?_) r bs e
 ·cases e;rfl
 ·cases x with
  |bool b=>obtain⟨cs,hc⟩:=dI (o:=kN B) e;(refine a.bool_inv.symm▸(ih cs hc).symm▸?_);rfl
  |_=>exact no e
def CP:Hn V->Hp V
 |[⟨.list B,_⟩]=>(kN B).map λbs=>⟨.bool (bs.all id),.d⟩
 |_=>Hu
theorem all_range(bs:Hn Ig):(H0 bs.length).all (λi=>bs[i]?.getD Hq)=bs.all id:=by
 induction bs with
 |nil=>rfl
 |cons b bs ih=>(refine Ju.symm▸List.range_succ_eq_map.symm▸Qv.symm▸List.all_map.symm▸Qv.symm▸ih▸?_);rfl
theorem cg.all:cg Y w U n (.builtin "all") CP:=by
 intro A Hz K ae X C L O s us vs v Q E hA I r R hQ;rcases vs with _|⟨⟨ax,af⟩,_|⟨b,vs⟩⟩
 ·exact no R
 ·clear I L X;cases ax with
  |list B=>
   obtain⟨bs,yA⟩:=dI (o:=kN B) R;refine aQ r.iN λo1 o2 r1=>?_;subst o2;obtain⟨as,ra,ca,oa⟩:=r1;clear oa ca r;refine CO ra.fK λl ws k cs o1 o2 a1 a2=>?_;subst o1;subst o2;obtain hv:=a2.bools yA;clear ra yA a2 cs;subst hv;obtain hl:s.heap.IsList l (bs.map Pc).toArray:=⟨_,a1,rfl,_,rfl⟩;obtain kl:=II a1;refine call_all_walk (QF hl ⟨_,_,_,_,_,_,λi=>bs[i]?.getD Hq,rfl,Walks.list (A:=A.in1) hA.handled _ l (Jq kl) _,⟨⟨_,H7 _ rfl,rfl,rfl⟩,hl.push _⟩,?_,λh' tk hk=>?_⟩)
   ·intro i v s' Q' E' hP GW;rw[JJ,Iz]at hP;clear kl hl a1 k l hA E;cases U:bs[i]?with
    |none=>rw[U]at hP;cases hP
    |some b=>rw[U]at hP;cases hP;dsimp only at GW;rw[U]at GW;exact Lf GW
   ·rw[Jd,Hr,all_range];exact hQ _ _ ⟨h',tk,rfl,λb o e=>hk b o (λR=>by
     rw[HB.mp R]at e;exact IG (II e) (JW _)) (HW _ e)⟩ dK.bool
  |_=>exact no R
 ·clear hQ r I hA O L C X ae K Hz;cases ax<;>exact no R
theorem Ev.Cf{l aL:HR}{rC wC:Nu}{ml m₁ m₂:ar->Hp V}(hl:Ev Y w U n sc l ml)(eY:Ev Y w U n sc aL m₁)(mq:Ev Y w U n sc cY m₂)(R:Pr [rC,wC] [aL,cY]=HH):
  Ev Y w U n sc (.Compare l [rC,wC] [aL,cY] pos) (λL=>(ml L).bind λa=>(m₁ L).bind λb=>(bV rC a.x b.x).bind λc=>bif c then(m₂ L).bind λd=>(bV wC b.x d.x).map λe=>⟨.bool e,.d⟩else hb ⟨.bool HH,.d⟩):=by
 intro A Hz K ae X C L O s v Q E hs hA I;refine ak λa ha=>ak λb aO=>ak λc hc hv hQ=>PyProof.Rows.Compare_chain (hl hs hA I ha λu ay ah Ac=>PyProof.Rows.chain_link (eY hs hA (I.grow ah) aO λu' aM aI zW=>oW hA hc (Ac.grow (ag aI)) zW λs' k=>Lf ?_)) R;obtain kk:=ab ah (ab aI k);clear R eY hl aL l aI Ac ah ay u hc aO ha a;cases c with
 |false=>clear m₁ ml rC;obtain rfl:=H4 hv;exact hQ _ s' kk dK.bool
 |true=>revert hv;refine ak λd hd hv=>?_;obtain⟨e,he⟩:=dI (o:=bV wC b.x d.x) hv;exact PyProof.Rows.chain_last (mq hs hA (I.grow kk) hd λu'' dN dO Dj=>oW hA he (zW.grow (bA.trans (ag k) (ag dO))) Dj λjR k'=>hQ _ jR (ab kk (ab dO k')) dK.bool)
theorem Tr.Cf{l aL:HR}{rC:Nu}{ml m₁ m₂:ar->Hp V}(hl:Ev Y w U n sc l ml)(eY:Ev Y w U n sc aL m₁)(mq:Ev Y w U n sc cY m₂)(R:Pr [rC,wC] [aL,cY]=HH):
  Tr Y w U n sc (.Compare l [rC,wC] [aL,cY] pos) (λL=>(ml L).bind λa=>(m₁ L).bind λb=>(bV rC a.x b.x).bind λc=>bif c then(m₂ L).bind λd=>bV wC b.x d.x else hb HH):=by
 intro A Hz K ae X C L O s v Q E hs hA I;refine ak λa ha=>ak λb aO=>ak λc hc hv hQ=>PyProof.Rows.isTrue_chain (hl hs hA I ha λu ay ah Ac=>PyProof.Rows.test_link (eY hs hA (I.grow ah) aO λu' aM aI zW=>oW hA hc (Ac.grow (ag aI)) zW λs' k=>Lf ?_)) R;obtain kk:=ab ah (ab aI k);clear R eY hl aL l aI Ac ah ay u hc aO ha a;cases c with
 |false=>clear m₁ ml rC;obtain rfl:=H4 hv;exact hQ s' kk
 |true=>revert hv;exact ak λd hd hv=>PyProof.Rows.test_last (mq hs hA (I.grow kk) hd λu'' dN dO Dj=>oW hA hv (zW.grow (bA.trans (ag k) (ag dO))) Dj λjR k'=>Lf (hQ jR (ab kk (ab dO k'))))
end
variable{it t:Hv}{items:PX HE}
theorem aaf{i:HG}(mH:s.heap.IsTupleIter it t i)(ht:s.heap.IsTuple t items)(hx:items[i]? =hb gc)
  (hQ:∀h',h'.IsTupleIter it t (i+1)->KS it s.heap h'->Q gc {s with heap:=h'}):wpAny (Iq Y w) A (Nc (.ref it)) Q E s:=by
 refine kK (id mH) λo ho hc hd=>?_;obtain⟨ot,Hf,_,nt,Ha⟩:=ht;refine Ht (JV (name:=HA "__next__") mH.typeIs Lm (KU Lm mH.typeIs Oy ?_ (Ou _)));show wpAny _ _ (field (.ref it) 0>>=_) _ _ s;refine Ht (Jx ho hd (x:=.ref t) rfl (wN (show¬((NT t==MR)=Hq)from ID) (Ht (Jx ho hd (x:=.int i 0) rfl (Ht (J8 Hf Ha ?_))))));simp only[ME,hx];refine Ht (Rr ho hd (Io _) (HV ⟨gc,rfl,HV (hQ _ ?_ (JL ..))⟩));exact⟨_,Jb _ ho (Obj.isFreed_of_fields (PG hd _)),(Obj.cls_mapFields ..).trans hc,by
  rw[PG hd];rfl⟩
theorem aal{i:HG}(hh:A.handled=Hu)(mH:s.heap.IsTupleIter it t i)(ht:s.heap.IsTuple t items)(hx:items[i]? =Hu)
  (hE:∀h' e,QW it s.heap h'->(∃o,h'.get? e=hb o/\o.cls=.type "StopIteration")->E (.ref e) {s with heap:=h'}):wpAny (Iq Y w) A (Nc (.ref it)) Q E s:=by
 refine kK (id mH) λo ho hc hd=>?_;obtain⟨ot,Hf,_,nt,Ha⟩:=ht;refine Ht (JV (name:=HA "__next__") mH.typeIs Lm (KU Lm mH.typeIs Oy ?_ (Ou _)));show wpAny _ _ (field (.ref it) 0>>=_) _ _ s;refine Ht (Jx ho hd (x:=.ref t) rfl (wN (show¬((NT t==MR)=Hq)from ID) (Ht (Jx ho hd (x:=.int i 0) rfl (Ht (J8 Hf Ha ?_))))));simp only[ME,hx];refine Ht (Nj (Ht (Rr ho hd (KW _) (Ht ?_))));simp only[newExc,newTuple];refine Ht (KL ?_ (by size_fits));refine Ht (m:=Rt _ _) (P5 (a:=MR) (by first|rfl|(simp only[Rt];rfl)) ?_);refine KL ?_ (by size_fits);refine Ht (wpAny_handled ?_)
 first|refine(show A.in1.handled=Hu from hh).symm▸?_|rw[hh]
 exact Ht (HV (wpAny_throw (hE _ _ (((JL ..).extBut.push _).push _) ⟨_,H7 _ rfl,rfl⟩)))
section
structure oP(z TI TO i1 i2:Hv)(fp gp:Hn Hv):Prop where
 TIz:TI≠z
 TOz:TO≠z
 i1z:i1≠z
 i2z:i2≠z
 TITO:TI≠TO
 TIi1:TI≠i1
 TIi2:TI≠i2
 TOi1:TO≠i1
 TOi2:TO≠i2
 i12:i1≠i2
 fz:z∉fp
 fTO:TO∉fp
 fi:i2∉fp
 gz:z∉gp
 Gh:TO∉gp
 gi:i1∉gp
section
variable{fp:Hn Hv}
theorem dj{P:HG->HE->Prop}{S:HG->Iv->Prop}(D:Oz Y w A it fp n P S)(st:S k h)(x:QW c h h')(hc:c∉fp):S k h':=
 D.frame _ _ _ st λd hd o e=>x d o (λq=>hc (q▸hd)) e
variable{i1 i2 z TI TO:Hv}{n1 n2:HG}{P1 P2:HG->HE->Prop}{S1 S2:HG->Iv->Prop}{gp:Hn Hv}{a b:HE}
theorem ae2(D1:Oz Y w A i1 fp n1 P1 S1)(D2:Oz Y w A i2 gp n2 P2 S2)(D:oP z TI TO i1 i2 fp gp)(hz:NZ s.heap z TI TO .none)(uT:Lv s.heap TI (.ref i1) (.ref i2))(ui:Lv s.heap TO a b)
  (BY:S1 k s.heap)(CW:S2 k s.heap)(h1:k<n1)(h2:k<n2)
  (hQ:∀x y h' tk,P1 k x->P2 k y->NZ h' z TI TO (OP s.heap.objs.size)->Lv h' TO x y->S1 (k+1) h'->S2 (k+1) h'->Lv h' s.heap.objs.size x y->
   (∀c o,c≠z->c≠TO->c≠i1->c≠i2->s.heap.get? c=hb o->h'.get? c=hb o)->Q (.ref s.heap.objs.size) {s with heap:=h',toks:=tk}):
  wpAny (Iq Y w) A (Builtin.«zip.__next__» ⟨[.ref z],[]⟩) (λfin s'=>∃v,fin=.done (.ret v)/\Q v s') E s:=by
 show wpAny _ _ (field (.ref z) 2>>=_) _ _ _;refine Ht (Jx hz rfl (x:=.bool HH) rfl (Ht (Jx hz rfl (x:=.ref TI) rfl (Ht (J8 uT rfl (Ht<|Ht (Jx hz rfl (x:=.none) rfl (HV (Ht (Nj (Ht (Jx hz rfl (x:=.ref TO) rfl (Ht (K5 hz (KW _) λeY pO kZ=>?_))))))))))))));replace pO:NZ eY z TI TO .ellipsis:=pO;refine Ht<|Ht (Ht (N0 (Ht (D1.item k _ _ _ h1 (dj D1 BY kZ.extBut D.fz) λx mq CR p1 ahx iu=>HV ?_))));obtain rJ:=iu.extBut _ _ D.TOi1 (kZ.extBut _ _ D.TOz ui);refine Ht (J8 rJ rfl (Ht (NA rJ λm7 t8 iJ=>?_)));replace t8:Lv m7 TO x b:=t8;refine Ht (Nz (HV (Ht (Ht (N0 (Ht (D2.item k _ _ _ h2 (dj D2 (dj D2 (dj D2 CW kZ.extBut D.gz) iu.extBut D.gi) iJ.extBut D.Gh) λy C5 C0 p2 amN pL=>HV ?_)))))));obtain ahw:=pL.extBut _ _ D.TOi2 t8;refine Ht (J8 ahw rfl (Ht (NA ahw λsf ub pN=>?_)));replace ub:Lv sf TO x y:=ub;refine Ht (Nz (HV (HV (Ht (J8 ub rfl (Ht (wpAny_newTuple ?_)))))));obtain n8:sf.objs.size=s.heap.objs.size:=by rw[pN.1,pL.1,iJ.1,iu.1,kZ.1]
 have aky:=pN.extBut _ _ D.TOz.symm (pL.extBut _ _ D.i2z.symm (iJ.extBut _ _ D.TOz.symm (iu.extBut _ _ D.i1z.symm pO)));have apm:∀c o,c≠z->c≠TO->c≠i1->c≠i2->s.heap.get? c=hb o->sf.get? c=hb o:=λc o c1 c2 c3 c4 e=>
  pN.extBut _ _ c2 (pL.extBut _ _ c4 (iJ.extBut _ _ c2 (iu.extBut _ _ c3 (kZ.extBut _ _ c1 e))))
 have apo:=II aky;refine Ht<|Ht (K5 (HW _ aky) (KW _) λDq zM akq=>?_);replace zM:NZ Dq z TI TO (OP sf.objs.size):=zM;refine K5 zM (Jl _ _) λC6 xu akl=>?_;replace xu:NZ C6 z TI TO (OP sf.objs.size):=xu;have up:∀c o,c≠z->sf.get? c=hb o->C6.get? c=hb o:=λc o c1 e=>akl.extBut _ _ c1 (akq.extBut _ _ c1 (HW _ e));obtain akh:=akl.extBut _ _ (KT apo) (akq.extBut _ _ (KT apo) (H7 _ rfl));rw[n8]at xu akh;refine HV ⟨_,rfl,?_⟩;exact n8.symm▸hQ x y C6 C0 p1 p2 xu (up _ _ D.TOz ub) (D1.frame _ _ _ (dj D1 (dj D1 (dj D1 ahx iJ.extBut D.fTO) pL.extBut D.fi) pN.extBut D.fTO) λc hc o e=>up c o (λq=>D.fz (q▸hc)) e) (D2.frame _ _ _ (dj D2 amN pN.extBut D.Gh) λc hc o e=>up c o (λq=>D.gz (q▸hc)) e) akh λc o c1 c2 c3 c4 e=>up c o c1 (apm c o c1 c2 c3 c4 e)
theorem ai0{Q:Fin->HM->Prop}(D1:Oz Y w A i1 fp n1 P1 S1)(D2:Oz Y w A i2 gp n2 P2 S2)(D:oP z TI TO i1 i2 fp gp)(hz:NZ s.heap z TI TO .none)(uT:Lv s.heap TI (.ref i1) (.ref i2))(ui:Lv s.heap TO a b)
  (BY:S1 k s.heap)(CW:S2 k s.heap)(Dg:k=n1∨k<n1/\k=n2)
  (hE:∀h' tk e,(∀c o,c≠z->c≠TO->c≠i1->c≠i2->s.heap.get? c=hb o->h'.get? c=hb o)->(∃o,h'.get? e=hb o/\o.cls=.type "StopIteration")->E (.ref e) {s with heap:=h',toks:=tk}):
  wpAny (Iq Y w) A (Builtin.«zip.__next__» ⟨[.ref z],[]⟩) Q E s:=by
 show wpAny _ _ (field (.ref z) 2>>=_) _ _ _;refine Ht (Jx hz rfl (x:=.bool HH) rfl (Ht (Jx hz rfl (x:=.ref TI) rfl (Ht (J8 uT rfl (Ht<|Ht (Jx hz rfl (x:=.none) rfl (HV (Ht (Nj (Ht (Jx hz rfl (x:=.ref TO) rfl (Ht (K5 hz (KW _) λeY pO kZ=>?_))))))))))))));replace pO:NZ eY z TI TO .ellipsis:=pO;refine Ht<|Ht (Ht (N0 ?_));clear uT hz;rcases Dg with rfl|⟨kl,rfl⟩
 ·refine Ht (D1.done _ _ _ (dj D1 BY kZ.extBut D.fz) λmq e iu he=>aQ he λoe Dd EL=>?_);have akw:=iu _ _ D.i1z.symm pO;have GJ:e≠z:=λx=>by subst x;rw[akw]at Dd;cases Dd;simp at EL
  exact K5 akw (KW _) λm7 _ iJ=>hE m7 _ e (λc o c1 _ c3 _ x=>iJ.extBut _ _ c1 (iu _ _ c3 (kZ.extBut _ _ c1 x))) ⟨oe,iJ.extBut _ _ GJ Dd,EL⟩
 ·refine Ht (D1.item _ _ _ _ kl (dj D1 BY kZ.extBut D.fz) λx mq CR p1 ahx iu=>HV ?_);obtain rJ:=iu.extBut _ _ D.TOi1 (kZ.extBut _ _ D.TOz ui);refine Ht (J8 rJ rfl (Ht (NA rJ λm7 t8 iJ=>Ht (Nz (HV (Ht (Ht (N0 (Ht (D2.done _ _ _ (dj D2 (dj D2 (dj D2 CW kZ.extBut D.gz) iu.extBut D.gi) iJ.extBut D.Gh) λC5 e pL he=>aQ he λoe Dd EL=>?_))))))))));have akr:=pL _ _ D.i2z.symm (iJ.extBut _ _ D.TOz.symm (iu.extBut _ _ D.i1z.symm pO));have GJ:e≠z:=λx=>by subst x;rw[akr]at Dd;cases Dd;simp at EL
  exact K5 akr (KW _) λsf _ pN=>hE sf _ e (λc o c1 c2 c3 c4 x=>pN.extBut _ _ c1 (pL _ _ c4 (iJ.extBut _ _ c2 (iu.extBut _ _ c3 (kZ.extBut _ _ c1 x))))) ⟨oe,pN.extBut _ _ GJ Dd,EL⟩
variable{Q:Hp HE->HM->Prop}
theorem aft(D1:Oz Y w A.in1 i1 fp n1 P1 S1)(D2:Oz Y w A.in1 i2 gp n2 P2 S2)(D:oP z TI TO i1 i2 fp gp)(hz:NZ s.heap z TI TO .none)(uT:Lv s.heap TI (.ref i1) (.ref i2))(ui:Lv s.heap TO a b)
  (BY:S1 k s.heap)(CW:S2 k s.heap)(h1:k<n1)(h2:k<n2)
  (hQ:∀x y h' tk,P1 k x->P2 k y->NZ h' z TI TO (OP s.heap.objs.size)->Lv h' TO x y->S1 (k+1) h'->S2 (k+1) h'->Lv h' s.heap.objs.size x y->
   (∀c o,c≠z->c≠TO->c≠i1->c≠i2->s.heap.get? c=hb o->h'.get? c=hb o)->Q (hb (.ref s.heap.objs.size)) {s with heap:=h',toks:=tk}):wpAny (Iq Y w) A (Qm (.ref z)) Q E s:=by
 obtain hT:s.TypeIs (.ref z) "zip":=⟨_,hz,rfl⟩;exact Ht (wpAny_attempt (JV (name:=HA "__next__") hT Ng (KU Ng hT Qw
  (ae2 D1 D2 D hz uT ui BY CW h1 h2 λx y h' tk p1 p2 a1 a2 a3 a4 a5 a6=>HV (hQ x y h' tk p1 p2 a1 a2 a3 a4 a5 a6)) (Qf _))))
theorem abz(D1:Oz Y w A.in1 i1 fp n1 P1 S1)(D2:Oz Y w A.in1 i2 gp n2 P2 S2)(D:oP z TI TO i1 i2 fp gp)(hz:NZ s.heap z TI TO .none)(uT:Lv s.heap TI (.ref i1) (.ref i2))(ui:Lv s.heap TO a b)
  (BY:S1 k s.heap)(CW:S2 k s.heap)(Dg:k=n1∨k<n1/\k=n2)
  (hQ:∀h' tk,(∀c o,c≠z->c≠TO->c≠i1->c≠i2->s.heap.get? c=hb o->h'.get? c=hb o)->Q Hu {s with heap:=h',toks:=tk}):wpAny (Iq Y w) A (Qm (.ref z)) Q E s:=by
 obtain hT:s.TypeIs (.ref z) "zip":=⟨_,hz,rfl⟩;refine Ht (wpAny_attempt (JV (name:=HA "__next__") hT Ng (KU Ng hT Qw
  (ai0 D1 D2 D hz uT ui BY CW Dg λh' tk e hk he=>?_) (Qf _))))
 exact aQ he λo ho hc=>Ht (Ot (T:="StopIteration") (b:=Hq) ⟨o,ho,hc⟩ isSubtype_stop (HV (hQ _ _ hk)))
end
end
structure BU(Y:IB)(w:Ja)(A:Jh)(Hy:Hn Hv)(it:Hv)(fp:Hn Hv)(B:Hn Ho)(F:Hn Hv)(P:HG->HE->Prop)(S:HG->Iv->Prop)(aH:Iv->Prop):Prop where
 draws:Oz Y w A.in1 it fp B.length P S
 off:∀i h h' W,S i h->Off W h h'->it∉W->S i h'
 fld:∀i h,S i h->∃o fs T,h.get? it=hb o/\o.data=.fields fs/\o.cls=.type T
 Cq:∀h h' W,aH h->Off W h h'->(∀a∈F,a∉W)->aH h'
 vK:∀h h',aH h->fR Hy h h'->aH h'
 alive:∀h,aH h->∀a∈F,∃o,h.get? a=hb o
 item:∀i v h x,aH h->P i v->B[i]? =hb x->∃cs,RD Y w Hy h v x cs/\∀c∈cs,c∈F
theorem Stream.apU{A:Jh}{e9:Hn HR}{k:HG}{pos:J3}{z TI TO i1 i2:Hv}{fp gp F G:Hn Hv}{B ys:Hn Ho}{P1 P2:HG->HE->Prop}{S1 S2:HG->Iv->Prop}{R1 R2:Iv->Prop}
  (X:BU Y w A (TO::Hz) i1 fp B F P1 S1 R1)(kR:BU Y w A (TO::Hz) i2 gp ys G P2 S2 R2)(D:oP z TI TO i1 i2 fp gp):
  Stream Y w Hz A (.Tuple e9 k pos) z (F++G) [z,TO,i1,i2] [TO] (qM B ys) (λi h=>NZ h z TI TO .none/\Lv h TI (.ref i1) (.ref i2)/\(∃a b,Lv h TO a b)/\S1 i h/\S2 i h/\R1 h/\R2 h)where
 frame:=λi h h' W st off hF hw=>by
  refine Fs st λhz uT o1 s1 s2 r1 r2=>?_;obtain⟨a,b,ui⟩:=o1;exact i07 (off _ _ hz (.inl (hw z (.head _)))) (off _ _ uT (.inr ⟨[.ref i1,.ref i2],0,rfl⟩)) ⟨a,b,off _ _ ui (.inl (hw TO (.tail _ (.head _))))⟩ (X.off _ _ _ W s1 off (hw i1 (.tail _ (.tail _ (.head _))))) (kR.off _ _ _ W s2 off (hw i2 (.tail _ (.tail _ (.tail _ (.head _)))))) (X.Cq _ _ W r1 off λc hc=>hF c (HF _ hc)) (kR.Cq _ _ W r2 off λc hc=>hF c (Hx _ hc))
 pV:=λi h st c hc=>by
  refine AZ st λhz uT o1 o2=>?_;obtain⟨a,b,ui⟩:=o1;exact(HB.mp hc).symm▸ach ui
 sub:=λc hc=>by exact(HB.mp hc).symm▸.tail _ (.head _)
 cP:=λi h st c hc hn=>by
  refine e06 st λhz uT o1 s1 s2 o2=>?_;obtain⟨a,b,ui⟩:=o1;revert hn;refine Gx c hc (λ_=>yI _ _ _ hz rfl rfl) (λhn=>IG (PH _) hn) (λ_=>X.fld _ _ s1) (λ_=>kR.fld _ _ s2)
 alive:=λi h st c hc=>by
  exact Fs st λo1 o2 o3 o4 o5 r1 r2=>(HD.mp hc).elim (X.alive _ r1 c) (kR.alive _ r2 c)
 turn:=λi x s Q E hx st yG hQ=>by
  refine Fs st λhz uT o1 s1 s2 r1 r2=>?_;obtain⟨a,b,ui⟩:=o1;refine j8 (abR hx) λy1 y2 hy1 CU o1=>?_;subst o1;refine aft X.draws kR.draws D hz uT ui s1 s2 (H2.mp hy1).1 (H2.mp CU).1 λv1 v2 h' tk p1 p2 g1 g2 g3 g4 g5 hk=>?_;refine wpAny_letOwnedTupleGo_zip g1 λqw zY gy=>?_;have lt:∀{c o},s.heap.get? c=hb o->s.heap.objs.size≠c:=λe=>KT (II e);have kp:∀c o,c∉[z,TO,i1,i2]->s.heap.get? c=hb o->qw.get? c=hb o:=λc o hc q=>by
   simp only[Hw,Ia,Kv,LR]at hc;exact(gy.2 c hc.1).trans (hk c o hc.1 hc.2.1 hc.2.2.1 hc.2.2.2 q)
  have aU:=fR.of (Hz:=Hz) (Zs:=[TO]) (wr:=[z,TO,i1,i2]) (λc hc hn=>by
   revert hn;refine Gx c hc (λ_=>yI _ _ _ hz rfl rfl) (λhn=>IG (PH _) hn) (λ_=>X.fld _ _ s1) (λ_=>kR.fld _ _ s2)) (λc hc=>by exact(HB.mp hc).symm▸ach ui) kp
  obtain GR:s.heap.objs.size∉TO::Hz:=λq=>by
   rcases Hw.mp q with q|q
   ·exact lt ui q
   ·exact dA (yG _ q) λo eo=>lt eo rfl
  have r1':=X.vK _ _ r1 aU;have r2':=kR.vK _ _ r2 aU;refine aQ (X.item i v1 qw y1 r1' p1 hy1) λcs e2 e3=>aQ (kR.item i v2 qw y2 r2' p2 CU) λds f2 f3=>?_;obtain rT:RD Y w (TO::Hz) qw (.ref s.heap.objs.size) (.tuple [y1,y2]) (cs++(ds++[])):=.tuple (n:=0) ((gy.2 _ (lt hz)).trans g5) GR (.cons e2 (.cons f2 .nil));refine hQ _ _ qw tk rT (λc hc=>?_) ⟨zY,kp TI _ (by simp[D.TIz,D.TITO,D.TIi1,D.TIi2]) uT,⟨v1,v2,(gy.2 TO D.TOz).trans g2⟩,dj X.draws g3 gy.extBut D.fz,dj kR.draws g4 gy.extBut D.gz,r1',r2'⟩ kp;rw[IA]at hc;exact(HD.mp hc).elim (λq=>HF _ (e3 c q)) λq=>Hx _ (f3 c q)
 done:=λs Q E st hQ=>by
  refine Fs st λhz uT o1 s1 s2 r1 r2=>?_;obtain⟨a,b,ui⟩:=o1;rw[ab5]at s1 s2;refine abz X.draws kR.draws D hz uT ui s1 s2 (by lia -abstractProof) λh' tk hk=>hQ h' tk λc o hc e=>?_;simp only[Hw,Ia,Kv,LR]at hc;exact hk c o hc.1 hc.2.1 hc.2.2.1 hc.2.2.2 e
 self:=λi s Q E st hQ=>QX st.1 hQ
theorem BU.tuple{A:Jh}(hh:A.handled=Hu){it:Hv}{m:HG}(gu:t≠it)(hl:vs.length=B.length):
  BU Y w A Hy it [it,t] B F (λi v=>vs[i]? =hb v) (λi h=>h.IsTupleIter it t i/\h.get? t=hb (kM vs m)) (λh=>h.get? t=hb (kM vs m)/\t∉Hy/\bH Y w Hy h vs B F)where
 draws:={
  live:=λ_ _ st=>let⟨o,ho,_⟩:=st.1;⟨o,ho⟩
  frame:=λ_ _ _ st hk=>⟨by exact aQ st.1 λo ho r=>⟨o,hk it (.head _) o ho,r⟩,hk t (.tail _ (.head _)) _ st.2⟩
  item:=λi s Q E hi st hQ=>by
   obtain hx:vs[i]? =hb (vs[i]'(by rw[hl];exact hi)):=HQ _;exact aaf st.1 ⟨_,st.2,rfl,_,rfl⟩ (by refine JJ.trans ?_;exact hx) λh' wz gy=>hQ _ h' s.toks hx ⟨wz,(gy.2 t gu).trans st.2⟩ gy
  done:=λs Q E st hE=>aal (A:=A.in1) hh st.1 ⟨_,st.2,rfl,_,rfl⟩ (by(refine JJ.trans ?_;rw[MD,hl]);exact Io _) hE}
 off:=λi h h' W st off hw=>by
  refine ew st λo1 ht=>?_;obtain⟨o,ho,r⟩:=o1;exact gQ ⟨o,off _ _ ho (.inl hw),r⟩ (off _ _ ht (.inr ⟨_,_,rfl⟩))
 fld:=λi h st=>by refine ew st λo1 o2=>?_;obtain⟨o,ho,hc,hd⟩:=o1;exact yI o _ _ ho hd hc
 Cq:=λh h' W r off hF=>⟨off _ _ r.1 (.inr ⟨_,_,rfl⟩),r.2.1,r.2.2.off off hF⟩
 vK:=λh h' r k=>⟨k _ _ r.1 (λ_ q=>by cases q) λhz=>IG hz r.2.1,r.2.1,r.2.2.cP k⟩
 alive:=λh r=>r.2.2.alive
 item:=λi v h x r p e=>by
  refine j8 (r.2.2.get e) λv' cs e1 e2 e3=>?_;rw[e1]at p;clear hl gu it hh A e1 e r i;cases p;exact i12 cs e2 e3
noncomputable abbrev qT(t:Hv):PR:={cls:=.type "tuple_iterator",data:=.fields #[.ref t,.int 0 0]}
noncomputable abbrev Fq(h:Iv)(o1 o2:PR):Iv:=(h.push o1).push o2
abbrev Fc(h:Iv)(o1 o2:PR):Iv:=(Fq h o1 o2).push {cls:=.type "tuple",data:=.seq #[.ref h.objs.size,.ref (h.push o1).objs.size]}
abbrev Em(h:Iv)(o1 o2:PR):Iv:=(Fc h o1 o2).push {cls:=.type "tuple",data:=.seq #[.none,.none]}
abbrev DD(h:Iv)(o1 o2:PR):Iv:=(Em h o1 o2).push {cls:=.type "zip",data:=.fields #[.none,.bool HH,.bool HH,.ref (Fq h o1 o2).objs.size,.ref (Fc h o1 o2).objs.size]}
theorem ahj(t1 t2:Hv)(B ys:PX HE):
  Meets (Builtin.«zip.__new__» ⟨[.type "zip",.ref t1,.ref t2],[]⟩) (λ_ aH s=>s.heap.IsTuple t1 B/\s.heap.IsTuple t2 ys/\aH (.ok (.ret (.ref (Em s.heap (qT t1) (qT t2)).objs.size))) {s with heap:=DD s.heap (qT t1) (qT t2)}):=
 .of_wp λY w A aH s h=>by
  obtain⟨hp,g,d,tk,os⟩:=s;obtain⟨hl1,hl2,h⟩:=h;have e8:=sub_zip;have hL1:QJ (Qx ⟨hp,g,d,tk,os⟩) t1 B:=hl1;have hL2:QJ (Qx ⟨hp.push (qT t1),g,d,tk,os⟩) t2 ys:=Q9 hl2 _;wp_walk using N2 hL1,N2 hL2;exact⟨_,rfl,h⟩
structure adA(h h':Iv)(o1 o2:PR):Prop where
 zip:NZ h' (h.objs.size+4) (h.objs.size+2) (h.objs.size+3) .none
 ti:Lv h' (h.objs.size+2) (.ref h.objs.size) (.ref (h.objs.size+1))
 to:Lv h' (h.objs.size+3) .none .none
 i1:h'.get? h.objs.size=hb o1
 i2:h'.get? (h.objs.size+1)=hb o2
 grow:bA h h'
theorem afi(f1:o1.isFreed=HH)(f2:o2.isFreed=HH):(Em h o1 o2).objs.size=h.objs.size+4/\adA h (DD h o1 o2) o1 o2:=by
 obtain z1:(h.push o1).objs.size=h.objs.size+1:=Ms ..;have z2:(Fq h o1 o2).objs.size=h.objs.size+2:=by rw[Ms,z1]
 have z3:(Fc h o1 o2).objs.size=h.objs.size+3:=by rw[Ms,z2]
 obtain z4:(Em h o1 o2).objs.size=h.objs.size+4:=by rw[Ms,z3]
 obtain g5:(DD h o1 o2).get? (Em h o1 o2).objs.size=hb _:=H7 _ rfl;obtain g4:(DD h o1 o2).get? (Fc h o1 o2).objs.size=hb _:=HW _ (H7 _ rfl);obtain g3:(DD h o1 o2).get? (Fq h o1 o2).objs.size=hb _:=HW _ (HW _ (H7 _ rfl));obtain g2:(DD h o1 o2).get? (h.push o1).objs.size=hb o2:=HW _ (HW _ (HW _ (H7 _ f2)));rw[z2,z3,z4]at g5;rw[z1,z2]at g3;rw[z3]at g4;rw[z1]at g2;exact⟨z4,g5,g3,g4,(HW _ (HW _ (HW _ (HW _ (H7 _ f1))))),g2,λc o x=>HW _ (HW _ (HW _ (HW _ (HW _ x))))⟩
variable{N:HG}
theorem apart2{fp:Hn Hv}(hf:∀c∈fp,c<=N)(hg:∀c∈gp,c<N∨c=N+1):oP (N+4) (N+2) (N+3) N (N+1) fp gp:=by
 obtain e:∀{a b:HG},a≠b-> @Ne Hv a b:=λh=>h;obtain f:∀c,N<c->c∉fp:=λc h q=>IG (hf c q) (PB.mpr h);refine⟨e (Bk _ (b:=2) (c:=4) (by decide)),e (Bk _ (b:=3) (c:=4) (by decide)),e (Bk _ (b:=0) (c:=4) (by decide)),e (Bk _ (b:=1) (c:=4) (by decide)),e (Bk _ (b:=2) (c:=3) (by decide)),e (Bk _ (b:=2) (c:=0) (by decide)),e (Bk _ (b:=2) (c:=1) (by decide)),e (Bk _ (b:=3) (c:=0) (by decide)),e (Bk _ (b:=3) (c:=1) (by decide)),e (Nat.ne_add_one _),f _ (OH (by decide)),f _ (OH (by decide)),f _ (Qy _),λq=>?_,λq=>?_,λq=>?_⟩
 ·rcases hg _ q with h|h<;>exact IG h (by first|exact JH.mpr (Ib _ 4)|exact KT (Nat.add_lt_add_of_le_of_lt (Io _) (by decide)))
 ·rcases hg _ q with h|h<;>exact IG h (by first|exact JH.mpr (Ib _ 3)|exact KT (J1 _))
 ·rcases hg _ q with h|h<;>exact IG h (by first|exact JW _|exact Jq (Qy _))
noncomputable def sS:Ho->Hp (Hn Ho)
 |.tuple B=>hb B
 |_=>Hu
theorem aaE(h:sS gc=hb B):gc=.tuple B:=by
 cases gc with
 |tuple ys=>obtain rfl:=H4 h;rfl
 |_=>exact no h
variable{e9:Hn HR}{ys:Hn Ho}
theorem amx{gp:Hn Hv}{P1 P2:HG->HE->Prop}{S1 S2:HG->Iv->Prop}{R1 R2:Iv->Prop}
  (kt:I8 s aM)(M:adA aM.heap h' o1 o2)(X:BU Y w A ((aM.heap.objs.size+3)::Hz) aM.heap.objs.size fp B F P1 S1 R1)(kR:BU Y w A ((aM.heap.objs.size+3)::Hz) (aM.heap.objs.size+1) gp ys G P2 S2 R2)
  (hf:∀c∈fp,c<=aM.heap.objs.size)(hg:∀c∈gp,c<aM.heap.objs.size∨c=aM.heap.objs.size+1)(s1:S1 0 h')(s2:S2 0 h')(r1:R1 h')(r2:R2 h')(yd:da iE W fl (F++G))(w1:fy B=Hq)(w2:fy ys=Hq)(hl:ys.length<=sizeLine)
  (hQ:∀I F wr Zs S s',I8 s s'->Stream Y w Hz A (.Tuple e9 k apg) I F wr Zs (qM B ys) S->S 0 s'.heap->da iE W fl F->fy (qM B ys)=Hq->(qM B ys).length<=sizeLine->(∀b∈wr,s.heap.get? b=Hu)->Q (.ref I) s'):
  wpAny (Iq Y w) A (Qn (.ref (aM.heap.objs.size+4))) Q E {aM with heap:=h'}:=by
 refine QX M.zip ?_;have fresh:∀d,s.heap.get? (aM.heap.objs.size+d)=Hu:=λd=>by
  cases e:s.heap.get? (aM.heap.objs.size+d)with
  |none=>rfl
  |some o=>exact IG (II (ag kt _ _ e)) (JH.mpr (Ib _ _))
 refine hQ _ (F++G) _ [aM.heap.objs.size+3] _ _ (ab kt ⟨h',aM.toks,rfl,M.grow⟩) (Stream.apU X kR (apart2 hf hg)) ⟨M.zip,M.ti,⟨_,_,M.to⟩,s1,s2,r1,r2⟩ yd (aho w1 w2) (by rw[ab5];exact Hs (I7 _ _) hl) λc hc=>?_;exact Gx c hc (fresh 4) (fresh 3) (fresh 0) (fresh 1)
theorem ajU(hN:h.objs.size<=N):(∀{v x cs},RD Y w Hz h v x cs->RD Y w (N::Hz) h v x cs)/\∀{vs B cs},bH Y w Hz h vs B cs->bH Y w (N::Hz) h vs B cs:=
 fv λc o e q z=>by
  rcases Hw.mp z with z|z
  ·have:=II e;rw[z]at this;exact IG this (JH.mpr hN)
  ·exact q z
variable{m:ar->Hp V}
theorem It.anr{f:HR}{np pos:J3}{m':ar->Hp V}(hg:bt U "zip" (.type "zip"))(h:Ev Y w U n sc e m)(h':Ev Y w U n sc f m')(hx:aY sc "zip"=Hq)(he:∀K,Ie [e,f] K=[(HH,Jf e K),(HH,Jf f K)]):
  It Y w U n sc (.Tuple e9 k apg) (.Call (.Name (HA "zip") np) [e,f] [] pos) (λL=>(m L).bind λv=>(m' L).bind λv'=>(sS v.x).bind λB=>(sS v'.x).map λys=>(qM B ys,v.fl.join v'.fl)):=by
 refine⟨λ_ _=>rfl,?_⟩;intro A Hz K ae X C L O s v Q E hs hA I;refine ak λa ha=>ak λb aO=>ak λB s4 R hQ=>?_;obtain⟨ys,p7⟩:=dI (o:=sS b.x) R;show wpAny _ _ (Jf (.Name (HA "zip") np) K>>=λf=>Lq pos f [] (J4 pos (Ie [e,_] K)) []) _ _ s;refine Ht (di I (by exact hs.symm▸hx) hg (dZ (U:=U) (.inr (.inl ⟨_,rfl⟩)) (by rw[he];rfl) ?_));rw[he];refine Ly (h hs hA I ha λu ay ah aL=>Ly (h' hs hA (I.grow ah) aO λu' aM aI cY=>LB ⟨((I.grow ah).grow aI).base.grow,?_⟩));obtain⟨as,ra,ca,oa⟩:=aL.grow (ag aI);obtain⟨bs,rb,cb,ob⟩:=cY;rw[aaE s4]at ra ca;rw[aaE p7]at rb cb;have ta:=((ajU (N:=aM.heap.objs.size+3) (Ib _ _)).1 ra).tupI;have tb:=((ajU (N:=aM.heap.objs.size+3) (Ib _ _)).1 rb).tupI;clear he hx h' hg pos np rb ra p7 aL f R s4 aO ha I hs X L;induction ta with|mk t1 vs m1 a1 az a2=>?_
 clear m';induction tb with|mk t2 us m2 b1 bz b2=>?_
 rw[dk]at ca cb;refine ew (afi (h:=aM.heap) (o1:=qT t1) (o2:=qT t2) rfl rfl) λe4 M=>callType_new F.called_zip (by decide) (F.typeCall_zip_2 _ _) (F.newCall_zip_2 _ _) (λobj=>F.args_object_init_3 obj _ _) F.entry_zip_new (ahj t1 t2 vs.toArray us.toArray) ⟨⟨_,a1,rfl,_,rfl⟩,⟨_,b1,rfl,_,rfl⟩,?_⟩;refine e4.symm▸?_;obtain lt1:=II a1;obtain lt2:=II b1;refine⟨⟨_,M.zip,rfl⟩,amx (ab ah aI) M (BU.tuple (m:=m1) hA.handled (Jq lt1) a2.length) (BU.tuple (m:=m2) hA.handled (Jq (LQ lt2)) b2.length) (λc hc=>?_) (λc hc=>?_)
  ⟨⟨_,M.i1,rfl,rfl⟩,M.grow _ _ a1⟩ ⟨⟨_,M.i2,rfl,rfl⟩,M.grow _ _ b1⟩ ⟨M.grow _ _ a1,az,a2.grow M.grow⟩ ⟨M.grow _ _ b1,bz,b2.grow M.grow⟩ (da.append oa.vS ob.vA) ca.2 cb.2 cb.1 hQ⟩
 ·exact Cb c hc (Io _) (IK lt1)
 ·exact Cb c hc (.inr rfl) (.inl lt2)
noncomputable def sx:Hn Ho->Hp (Hn HP)
 |[]=>hb []
 |x::r=>(fW x).bind λk=>(sx r).map (k::·)
theorem acS:∀{ns:Hn HP},sx B=hb ns->B=ns.map .str:=by
 induction B with
 |nil=>intro ns h;refine(si h)▸?_;rfl
 |cons x B bX=>intro ns h;obtain⟨k,h1,h⟩:=ao h;refine aQ (H6.mp h) λr h2 h3=>?_;(refine h3▸(bX h2).symm▸(dh h1).symm▸?_);rfl
theorem bH.adG:∀{ns:Hn HP}{vs:Hn HE}{as:Hn Hv},bH Y w Hz h vs (ns.map .str) as->PyProof.Rows.StrsAre vs ns
 |[],vs,as,r=>r.nil_inv.1▸.nil
 |i::ns,vs,as,r=>by
  have H:=r.yw;clear r;induction H with|mk u us bs cs a b=>?_
  have H:=a.ij;clear a;induction H with|mk t=>?_
  exact .cons i t b.adG
theorem afB(x:PyProof.Rows.StrsAre vs ns):bH Y w Hz h vs (ns.map .str) []:=by
 induction x with
 |nil=>exact .nil
 |cons i t _ ih=>exact .cons (as:=[]) (.str i t) ih
noncomputable def zt(a b:HP):Ig:= !PySem.Spec.ltCps b.cps.toList a.cps.toList
theorem kI:zt s6 yF=Hq↔s6.cps.toList<=yF.cps.toList:=by unfold zt;(rw[PyProof.Rows.ltCps_eq,JI];refine Na.trans ?_);rfl
theorem agi(a b:HP)(h:zt a b=Hq)(k:zt b a=Hq):a=b:=by have:=List.le_antisymm (kI.mp h) (kI.mp k);clear k h;cases a;cases b;exact HL Str.mk (Array.toList_inj.mp this)
theorem aaP(a b c:HP)(h:zt a b=Hq)(k:zt b c=Hq):zt a c=Hq:=kI.mpr (List.le_trans (kI.mp h) (kI.mp k))
def sL(ns:Hn HP):Hn HP:=ns.mergeSort zt
theorem ac4(ns:Hn HP):(sL ns).Perm ns:=Pb ns _
theorem aby(ns:Hn HP):(sL ns).Pairwise (λa b=>zt a b=Hq):=OD aaP (λa b=>by
 rw[JA,kI,kI];exact List.le_total _ _) ns
theorem aek(l:Hn HP):∀(p:HP),PyProof.Rows.risingS p l=Hq->(p::l).Pairwise (λa b=>zt a b=Hq):=by
 induction l with
 |nil=>intro p _;exact List.pairwise_singleton _ _
 |cons x r bX=>
  intro p h;refine ew (IU.mp h) λh1 h2=>?_;obtain ih:=bX x h2;refine Mr.mpr ⟨λy hy=>?_,ih⟩;clear h h2;rcases Hw.mp hy with rfl|hy
  ·exact h1
  ·exact aaP _ _ _ h1 ((Mr.mp ih).1 y hy)
theorem aes(h:PyProof.Rows.sortedS l=Hq):l.Pairwise (λa b=>zt a b=Hq):=by
 cases l with
 |nil=>exact .nil
 |cons x r=>exact aek r x h
def zC:Hn V->Hp V:=λvs=>match vs with|[v]=>(listOfD v.x).bind λB=>(sx B).bind λns=>if ns.length<64 then hb ⟨.list ((sL ns).map .str),.d⟩else Hu|_=>Hu
theorem cg.sortedS:cg Y w U n (.builtin "sorted") zC:=by
 intro A Hz K ae X C L O s us vs v Q E hA I r R hQ;cases vs with
 |nil=>exact no R
 |cons a t=>cases t with
  |cons _ _=>exact no R
  |nil=>
   obtain⟨B,h1,R⟩:=ao R;obtain⟨ns,h2,R⟩:=ao R;revert R;refine jl λEB R=>?_;have e:=si R;subst e;clear R;refine aQ r.iN λo1 o2 r1=>?_;subst o2;obtain⟨as,ra,ca,oa⟩:=r1;rw[cU h1]at ra ca;obtain rfl:=acS h2;induction ra.listI with|mk d us m cs a1 a2=>?_
   obtain hl:us.length=ns.length:=by have:=a2.length;rw[Hr]at this;exact this
   refine PyProof.Rows.sorted_strs ⟨_,a1,rfl,_,rfl⟩ a2.adG (Rp hl EB) λout FP b1 b2 b3=>?_;obtain rfl:=aaN agi (b2.trans (ac4 ns).symm) (aes b3) (aby ns);refine dA (PyProof.Rows.sortedAll_at s.heap us out) λe he=>hQ _ _ ⟨_,s.toks,rfl,λb o q=>PyProof.Rows.sortedAll_old q⟩ ⟨[s.heap.objs.size+1],.list (vs:=out.toList) (n:=e) (by simpa using he) (afB b1),?_,?_⟩
   ·rw[aV]at ca⊢;refine⟨Hs ?_ (by decide:64<=sizeLine),(cM _).mpr λx hx=>?_⟩
    ·rw[Hr,b2.length_eq];exact IK EB
    ·refine aQ (HX.mp hx) λi hi o1=>?_;subst o1;exact(cM _).mp ca.2 _ (Nn (b2.subset hi))
   ·intro c hc;exact(HB.mp hc).symm▸I.fresh (aT _ (J1 _))
noncomputable def pY(lo hi:Hp HI)(B ys:Hn α):Hn α:=B.take (Jr lo hi Hu B.length).1.toNat++ys++B.drop (max (Jr lo hi Hu B.length).1 (Jr lo hi Hu B.length).2.1).toNat
theorem adr(lo hi:Hp HI)(B ys:Hn HE):(B.toArray.extract 0 (Jr lo hi Hu B.toArray.size).1.toNat++ys.toArray++B.toArray.extract (max (Jr lo hi Hu B.toArray.size).1 (Jr lo hi Hu B.toArray.size).2.1).toNat).toList=pY lo hi B ys:=by unfold pY;simp[List.extract_eq_drop_take',Kl]
theorem adk(h:fy B=Hq)(k:∀y,y∈ys->y∈B):fy ys=Hq:=(cM _).mpr λy hy=>(cM _).mp h y (k y hy)
variable{j:HG}{lo hi:Hp HI}
theorem aaJ{vl:HE}{Q:Nq->HM->Prop}(hl:s.heap.get? l=hb (cA dU j))(hd:s.heap.get? yD=hb (cA r7 k))(hn:(l==yD)=HH)
  (hs:s.heap.IsSliceOf sl vl vu .none)(pl:IsPart vl lo)(pu:IsPart vu hi)(hz:dU.length+r7.length<=sizeLine)(U:(pY lo hi dU r7).length<=sizeLine)
  (hQ:∀h' j',h'.get? l=hb (cA (pY lo hi dU r7) j')->KS l s.heap h'->Q () {s with heap:=h'}):wpAny (Iq Y w) A (OG (.ref l) (.ref sl) (.ref yD)) Q E s:=by
 obtain hL:s.heap.IsList l dU.toArray:=⟨_,hl,rfl,_,rfl⟩;refine kK (id hs) λos Bw G2 Dk=>?_;obtain FG:s.TypeIs (.ref sl) "slice":=⟨os,Bw,G2⟩;refine KR<|Ht (Od hL.typeIs (by decide) (Ht (JV (name:=HA "__setitem__") hL.typeIs MZ
  (KU MZ hL.typeIs Qu ?_ (QH _ _ _)))))
 show wpAny _ _ (LX (.ref sl)>>=_) _ _ s;refine Ht ?_;unfold LX;refine Ht (OE FG slice_no_index (wI rfl (HV (Ht (L7 FG (wN (by decide) ?_))))));rw[listSliceParts_eq];refine Ht (Ht (Jx Bw Dk (x:=.none) rfl (Ht (OU .none (wN (show¬(rawPart Hu==OP 0)=Hq from ID) (Ht (Jx Bw Dk (x:=vl) rfl (Ht (OU pl (Ht (Jx Bw Dk (x:=vu) rfl (Ht (OU pu (HV (wN (show¬Mi (.ref l) (.ref yD)=Hq fromλe=>ID (hn.symm.trans e)) (Ht (m:=Ra (.ref yD) _) (Ht (L7 (T:="list") ⟨_,hd,rfl⟩ (wI (by decide) (Ht (J8 hd rfl (HV (Ht (m:=Rb (.ref l)) (Ht (J8 hl rfl (HV (Ht (P5 (sliceIndices_raw lo hi Hu _ (by nofun)) (wI (show((Jr lo hi Hu dU.toArray.size).2.2==1)=Hq from rfl)<|Ht (Nj ?_))))))))))))))))))))))))))))));have ht:NJ (dU.toArray.size+r7.toArray.size)=HH:=by exact Iw (JH.mpr hz)
 refine wN (show¬NJ (dU.toArray.size+r7.toArray.size)=Hq fromλe=>ID (ht.symm.trans e)) (Ht (Nm hl rfl (Ht (Nz (HV ⟨.none,rfl,HV ?_⟩))) ?_ ?_))
 ·refine dA (gn dU j λzs=>zs.extract 0 (Jr lo hi Hu dU.toArray.size).1.toNat++r7.toArray++zs.extract (max (Jr lo hi Hu dU.toArray.size).1 (Jr lo hi Hu dU.toArray.size).2.1).toNat) λj' ej=>hQ _ j' ?_ (JL _ _ _);exact(Jb _ hl rfl).trans (HL hb (ej.trans (HL (cA · j') (adr lo hi dU r7))))
 ·exact Hs (Ib _ _) hz
 ·refine Array.length_toList▸(adr lo hi dU r7).symm▸?_;exact JZ U
def qP(o:Hp VV)(v:V)(lo hi:Hp HI):Hp VV:=match o with
 |some (.own (.lst B))=>(listOfD v.x).bind λys=>if v.fl=.d/\B.length+ys.length<=sizeLine/\(pY lo hi B ys).length<=sizeLine then hb (.own (.lst (pY lo hi B ys)))else Hu
 |_=>Hu
inductive ajJ(v:V)(lo hi:Hp HI):VV->VV->Prop
 |mk (B ys:Hn Ho) (hv:v=⟨.list ys,.d⟩) (h1:B.length+ys.length<=sizeLine) (h2:(pY lo hi B ys).length<=sizeLine):ajJ v lo hi (.own (.lst B)) (.own (.lst (pY lo hi B ys)))
theorem acj{o:Hp VV}(h:qP o fb lo hi=hb FW):∃y,o=hb y/\ajJ fb lo hi y FW:=by
 cases o with
 |none=>exact no h
 |some y=>cases y with
  |val _=>exact no h
  |own y=>cases y with
   |lq _=>exact no h
   |tree _ _=>exact no h
   |lst B=>obtain⟨ys,h1,h⟩:=ao h;revert h;refine jl λhz h=>(si h)▸?_;obtain⟨vx,vf⟩:=fb;refine i12 _ rfl (.mk B ys ?_ hz.2.1 hz.2.2);(exact(show vx=.list ys from cU h1).symm▸(show vf=.d from hz.1).symm▸rfl)
theorem bH.take(k:HG)(r:bH Y w Hz h vs B as):∃bs,bH Y w Hz h (vs.take k) (B.take k) bs/\∀b∈bs,b∈as:=by
 induction k generalizing vs B as with
 |zero=>exact⟨[],.nil,λ_ h=>nomatch h⟩
 |succ k ih=>cases r with
  |nil=>exact⟨[],.nil,λ_ h=>nomatch h⟩
  |cons a b=>exact aQ (ih b) λbs r q=>i12 _ (.cons a r) (λx hx=>(HD.mp hx).elim (HF _) λhx=>Hx _ (q x hx))
theorem bH.drop(k:HG):∀{vs:Hn HE}{B:Hn Ho}{as:Hn Hv},bH Y w Hz h vs B as->∃bs,bH Y w Hz h (vs.drop k) (B.drop k) bs/\∀b∈bs,b∈as:=by
 induction k with
 |zero=>exactλr=>⟨_,r,λ_ h=>h⟩
 |succ k ih=>intro vs B as r;exact r.casesOn ⟨[],.nil,λ_ h=>nomatch h⟩ λa b=>aQ (ih b) λbs r q=>i12 bs r λx hx=>Hx _ (q x hx)
set_option tactic.hygienic true in
theorem S1.aoJ{x:HP}{lo hi:Hp HR}{e:HR}{np sp p pos:J3}{ml mh:ar->Hp (Hp HI)}{m:ar->Hp V}(FF:Pt Y w U n sc lo ml)(hhi:Pt Y w U n sc hi mh)(h:Ev Y w U n sc e m)(hv:aA sc x=Hq)(iS:∀K:Ke,JU e (hb (.Subscript (.Name x np) (.Slice lo hi Hu sp) p)) pos.line K=pure HH):
  S1 Y w U n sc (.Assign [.Subscript (.Name x np) (.Slice lo hi Hu sp) p] e pos) (λL=>(m L).bind λv=>(ml L).bind λa=>(mh L).bind λb=>(qP (L x) v a b).map λz=>.next (L.set x z)):=by
 intro A Hz K ae X C L O s r Q E hs hA I R hQ;obtain⟨v,k9,R⟩:=ao R;obtain⟨a,ha,R⟩:=ao R;obtain⟨b,aO,R⟩:=ao R;refine aQ (H6.mp R) λz hz R=>?_;subst R;refine aQ (acj hz) λy hx H=>?_;clear hz;clear R;induction H with|mk B ys e1 h1 h2=>?_
 clear R z;subst e1;refine Kr (h hs hA I.toInF k9 λu ay ah aL=>(I.grow ah).owned (by exact hs.symm▸hv) hx (λ_ _ q=>by cases q) λl hO r=>PW (FF hs hA (I.grow ah).toInF ha λyl aM aI u5=>hhi hs hA ((I.grow ah).grow aI).toInF aO λyo dN dO wj=>?_)) (iS K);refine HV ?_;have kk:=ab aI (ab dO (bE dN {cls:=.type "slice",data:=.fields #[KH yl,KH yo,.none]}));obtain p5:=(I.grow ah).grow kk;have r:=r.grow (ag kk);obtain aL:=aL.grow (ag kk);obtain⟨bs,rv,cv,ov⟩:=aL;clear iS hv h hhi FF pos p sp np hi lo aO ha k9 dO aI aM aL R I hA hs;induction rv.listI with|mk d us m cs b1 b2=>?_
 obtain hW:l∈WW K C O:=cB hO (.head _);have gu:(l==d)=HH:=HO.mpr λe=>(ov d (.head _)).2 (e▸hW);clear hW rv bs e u R;induction r.A1 with|mk vs j as a1 a2 c f=>?_
 have hl:=a2.length;obtain Ab:=b2.length;obtain a8:(pY a b vs us).length=(pY a b B ys).length:=by unfold pY;simp only[HN,J9,Li,hl,Ab]
 refine aaJ a1 b1 gu (QK ..) (IsPart.of u5) (IsPart.of wj) (by(refine hl.symm▸?_;refine Ab.symm▸?_);exact h1) (by exact a8.symm▸h2) λh' j' DV gy=>?_;refine hQ O _ (p5.tw hx hO gy ⟨_,DV,bw _ _⟩ λu' r' off=>?_) ((Step.cN (bA.trans (ag ah) (ag kk))).trans (nK hO gy));clear mh ml a1 b1 m h1 a8 Ab gu p5 kk gy j wj u5 hO ah hx hQ E Q r s X A L;cases r' with
 |lst _ _ _ _=>
  have a2':=a2.off off λy hy=>(f y hy).2;obtain b2':=b2.off off λy hy=>(ov y (.tail _ hy)).2;refine aQ (a2'.take (Jr a b Hu B.length).1.toNat) λt1 q1 g1=>aQ (a2'.drop (max (Jr a b Hu B.length).1 (Jr a b Hu B.length).2.1).toNat) λt2 q2 g2=>.lst (as:=(t1++cs)++t2) DV (by unfold pY;exact hl.symm▸(q1.append b2').append q2) (aV.mpr ⟨h2,?_⟩) ?_
  ·rw[aV]at c cv;unfold pY;rw[eG,eG,cv.2,adk c.2 λ_=>Kc,adk c.2 λ_=>Lc];rfl
  ·exact da.append (da.append (f.mono g1) (ov.mono λy hy=>.tail _ hy)) (f.mono g2)
def qJ(vs:Hn V):Hp Ho:=match vs with
 |[v]=>(listOfD v.x).bind λB=>if bZ B=Hq then hb (.list B)else Hu
 |_=>Hu
theorem l0.list{es:Hn HR}{np pos:J3}{ms:ar->Hp (Hn V)}(hx:aY sc "list"=Hq)(hg:bt U "list" (.type "list"))(h:rM Y w U n sc es ms)(er:∀K:Ke,(J4 pos (Ie es K)).any (·.1)=HH):
  l0 Y w U n sc (.Call (.Name (HA "list") np) es [] pos) (λL=>(ms L).bind qJ):=by
 intro A Hz K ae X C L O s d Q E hs hA I;refine ak λvs nh R hQ=>?_;cases vs with
 |nil=>exact no R
 |cons v t=>cases t with
  |cons _ _=>exact no R
  |nil=>
   obtain⟨B,h1,R⟩:=ao R;revert R;refine jl λhf R=>?_;have e:=si R;subst e;clear R;refine Ht (di I (by exact hs.symm▸hx) hg (dZ (.inr (.inl ⟨_,rfl⟩)) (er K) (h hs hA I nh λus ay ah aL=>⟨(I.grow ah).base.grow,?_⟩)));clear er h hg hx pos np es R nh I hA hs X L;obtain⟨_,rfl,as,ra,ca,oa⟩:=aL.iN;rw[cU h1]at ra ca;clear ms oa h1 aL O C ae K;induction ra.listI with|mk d us m cs a1 a2=>?_
   rw[aV]at ca;refine O8 _ (.inl rfl) a1 rfl rfl (λh' c' k q=>?_) (by simp[a2.length];exact ca.1);refine hQ _ [ay.heap.objs.size] _ (ab ah ⟨h',ay.toks,rfl,k⟩) ?_ (HZ.mpr ⟨nofun,I9⟩) (aV.mpr ca) λa ha=>?_
   ·obtain z:=a2.bR hf;clear a1 m v ca ra as hf hQ E Q d A;subst z;exact .list q (a2.grow k)
   ·refine(HB.mp ha).symm▸?_;clear a2 a1 m v ca ra as ha a q k c' h' us hf hQ E Q d Hz A;cases e:s.heap.get? ay.heap.objs.size with
    |none=>rfl
    |some o=>exact IG (II (ag ah _ _ e)) (JW _)
def j7(C:Hv)(ns:Hn HP)(y:HP)(d:Ho):Hp Ho:=(qz C d).bind λq=>if y∈ns then atKey y q.2 else Hu
inductive aj8(Y:IB)(w:Ja)(Hz:Hn Hv)(h:Iv)(m:HP->Hp HE)(y:HP)(x:Ho)(bs:Hn Hv)(gs:Hn (HP×Ho)):Prop
 |mk (v:HE) (ds:Hn Hv) (q:HP×Ho) (h1:m y=hb v) (h2:RD Y w Hz h v x ds) (h3:∀d∈ds,d∈bs) (h4:q∈gs) (h5:q.2=x):aj8 Y w Hz h m y x bs gs
theorem afP{m:HP->Hp HE}:∀{vs:Hn HE}{bs:Hn Hv},gs.map (λp=>m p.1)=vs.map hb->bH Y w Hz h vs (gs.map (·.2)) bs->atKey y (gs.map λp=>(.str p.1,p.2))=hb gc->aj8 Y w Hz h m y gc bs gs:=by
 induction gs with
 |nil=>exactλ_ _ e=>no e
 |cons g gs ih=>
  intro vs bs e r e';cases vs with
  |nil=>exact nomatch e
  |cons v vs=>
  refine ew (IP e) λe0 e1=>j8 r.cons_inv λas bs o1 r1 r2=>?_;subst o1;change(if g.1=y then hb g.2 else atKey y (gs.map λp=>(.str p.1,p.2)))=hb gc at e';by_cases hk:g.1=y
  ·rw[H5 hk]at e';have:=si e';subst this;exact⟨v,as,g,hk▸e0,r1,λd hd=>HF _ hd,.head _,rfl⟩
  ·rw[Ir hk]at e';obtain⟨v,ds,q,a,b,c,d,f⟩:=ih e1 r2 e';exact⟨v,ds,q,a,b,λd hd=>Hx _ (c d hd),.tail _ d,f⟩
theorem Ev.j7(KC:jX ns U C mC)(h:Ev Y w U n sc e m)(he:lK e y pos):
  Ev Y w U n sc (.Attribute e y pos) (λL=>(m L).bind λv=>(Mine.j7 C ns y v.x).map λx=>V.fix x v.fl):=by
 intro A Hz K ae X C' L O s v Q E hs hA I;refine ak λv0 hv R hQ=>?_;induction dI R with|mk z hz=>?_
 obtain⟨q,hq,hz⟩:=ao hz;revert hz;refine jl λhy hz=>PyProof.Rows.Attribute_any_ (h hs hA I hv λu ay ah aL=>?_) (he K);obtain⟨as,rd,c,fl⟩:=aL;obtain⟨a,dx,rs,gs,vs,mm,bs,rfl,hx,rfl,rfl,i,h5,h6,h7,r⟩:=rd.j9 hq;obtain⟨v',ds,p,g1,g2,g3,g4,g5⟩:=afP h6 r hz;rw[hx,ae1]at c;refine iq KC (I.grow ah).base.grow i hy g1 g2.handed λs' k e=>hQ _ _ (ab ah k) (dK.fixed (by exact e.symm▸g2) ?_ (fl.mono λb aO=>.tail _ (.tail _ (g3 b aO))));exact g5▸vQ c.2.2 g4
def BI(Y:IB)(w:Ja)(U:Iv)(n:HG)(sc:IH)(e:HR)(m:ar->Hp Ho):Prop:=
 ∀{{A:Jh}} {{Hz:Hn Hv}} {{K:Ke}} {{ae:HM}} {{X C:Hn Hv}} {{L:ar}} {{O:Hn (HP×Hn Hv)}} {{s:HM}} {{x:Ho}} {{Q:HE->HM->Prop}} {{E:HE->HM->Prop}},
  K.scope=sc->eu A n->InF Y w Hz U ae X K C L O s->m L=hb x->(∀u as s',I8 s s'->RD Y w Hz s'.heap u x as->wf x=Hq->(∀a∈as,a∈X∨ae.heap.get? a=Hu)->Q u s')->wpAny (Iq Y w) A (Jf e K) Q E s
def tS(Y:IB)(w:Ja)(U:Iv)(n:HG)(sc:IH)(es:Hn HR)(m:ar->Hp (Hn Ho)):Prop:=
 ∀{{A:Jh}} {{Hz:Hn Hv}} {{K:Ke}} {{ae:HM}} {{X C:Hn Hv}} {{L:ar}} {{O:Hn (HP×Hn Hv)}} {{s:HM}} {{B:Hn Ho}} {{pos:J3}} {{Q:Hn HE->HM->Prop}} {{E:HE->HM->Prop}},
  K.scope=sc->eu A n->InF Y w Hz U ae X K C L O s->m L=hb B->(∀us as s',I8 s s'->bH Y w Hz s'.heap us B as->fy B=Hq->(∀a∈as,a∈X∨ae.heap.get? a=Hu)->Q us s')->wpAny (Iq Y w) A (QE (J4 pos (Ie es K))) Q E s
noncomputable def sE(v:V):Hp Ho:=match v.fl with
 |.d=>hb v.x
 |_=>Hu
noncomputable def pA(o:Hp VV):Hp Ho:=match o with
 |some (.own (.tree _ d))=>hb d
 |_=>Hu
theorem BI.val(h:Ev Y w U n sc e m):BI Y w U n sc e (λL=>(m L).bind sE):=by
 intro A Hz K ae X C L O s x Q E hs hA I;refine ak λv hv R hQ=>?_;obtain⟨y,f⟩:=v;cases f with
 |d=>have:=si R;subst this;refine h hs hA I hv λu s' k r=>?_;obtain⟨as,ra,ca,oa⟩:=r;exact hQ u as s' k ra ca λa ha=>.inr (oa a ha).1
 |_=>exact no R
theorem BI.own{p:J3}(hv:aA sc x=Hq):BI Y w U n sc (.Name x p) (λL=>pA (L x)):=by
 intro A Hz K ae X C L O s d Q E hs hA I R hQ;change pA (L x)=hb d at R;clear hA;cases hx:L x with
 |none=>rw[hx]at R;exact no R
 |some vv=>
  rw[hx]at R;cases vv with
  |val _=>exact no R
  |own o=>cases o with
   |lst _=>exact no R
   |lq _=>exact no R
   |tree ro d'=>
    have:=si R;clear R;subst this;refine I.ahk (by exact hs.symm▸hv) hx λu sp e r=>?_;clear hv p hs E A;induction r.pq with|mk _ a b c _ _=>?_
    exact hQ _ _ s (aD s) a c λy hy=>(Classical.em (y∈X)).imp id λhX=>(I.b8 y (cB e hy)).2 hX
theorem tS.nil:tS Y w U n sc [] (λ_=>hb []):=by intro A Hz K ae X C L O s B pos Q E hs hA I R hQ;rw[<-si R]at hQ;exact LB (hQ [] [] s (aD s) .nil rfl λ_ h=>nomatch h)
variable{es:Hn HR}{ms:ar->Hp (Hn Ho)}
theorem tS.cons{m:ar->Hp Ho}(h:BI Y w U n sc e m)(gy:tS Y w U n sc es ms)(he:∀K,Ie (e::es) K=(HH,Jf e K)::Ie es K):
  tS Y w U n sc (e::es) (λL=>(m L).bind λa=>(ms L).map (a::·)):=by
 intro A Hz K ae X C L O s vs pos Q E hs hA I;refine ak λa ha R hQ=>aQ (H6.mp R) λas has o1=>?_;subst o1;refine Kt (h hs hA I ha λu bs ay ah aL c₁ C3=>gy hs hA (I.grow ah) has λus cs aM aI cY c₂ aqp=>?_) (he _);exact hQ _ _ _ (ab ah aI) (.cons (aL.grow (ag aI)) cY) (by simp only[fy,c₁,c₂,MG]) λy hy=>(HD.mp hy).elim (C3 y) (aqp y)
theorem S1.apJ(h:tS Y w U n sc es ms):
  S1 Y w U n sc (.Return (hb (.Tuple es k tp)) pos) (λL=>(ms L).bind λB=>if B.length<=sizeLine then hb (.ret (.tuple B))else Hu):=by
 intro A Hz K ae X C L O s r Q E hs hA I;refine ak λB s4=>jl λhz R hQ=>?_;have e:=si R;subst e;clear R;refine L3 (wpAny_Tuple (h hs hA I.toInF s4 λus as ay ah aL c₁ C3=>⟨by exact aL.length.symm▸hz,?_⟩));refine hQ _ as O L _ ((I.grow ah).grow (bE ay (kM us 0))) (.tuple (H7 _ rfl) (λR=>?_) (aL.grow (bA.push _ _))) (dk.mpr ⟨hz,c₁⟩) C3;obtain⟨_,o,e,_⟩:=(I.grow ah).base.hide _ R;exact IG (II e) (JW _)
structure iK where
 k:HG
 x:HP
 a:HR
 b:HR
 d:HR
 es:Hn HR
 op:LK
 bo:L1
 un:UnaryOp
 co:QL
 cs:Hn Nu
 gs:Hn Lb
 sc:IH
 ks:Hn Ks
 oe:Hn (Hp HR)
 o1:Hp HR
 o2:Hp HR
 o3:Hp HR
 n:HG
 p:J3
noncomputable def ve(k:HG)(a:HR)(es:Hn HR)(p:J3):iK:=⟨k,default,a,default,default,es,.Add,.And,.Not,.none,[],[],default,[],[],Hu,Hu,Hu,0,p⟩
def aa(e:HR):iK:=match e with
 |.BoolOp bo es p=>{ve 0 e es p with bo:=bo}
 |.BinOp a op b p=>{ve 2 a [] p with op:=op,b:=b}
 |.UnaryOp un a p=>{ve 3 a [] p with un:=un}
 |.IfExp a b d p=>{ve 5 a [] p with b:=b,d:=d}
 |.Dict oe es p=>{ve 6 e es p with oe:=oe}
 |.ListComp a gs s p=>{ve 8 a [] p with gs:=gs,sc:=s}
 |.Compare a cs es p=>{ve 15 a es p with cs:=cs}
 |.Call a es ks p=>{ve 16 a es p with ks:=ks}
 |.Constant co m p=>{ve 19 e [] p with co:=co,n:=m}
 |.Attribute a x p=>{ve 20 a [] p with x:=x}
 |.Subscript a b p=>{ve 21 a [] p with b:=b}
 |.Name x p=>{ve 23 e [] p with x:=x}
 |.List es p=>ve 24 e es p
 |.Tuple es m p=>{ve 25 e es p with n:=m}
 |.Slice l u s p=>{ve 26 e [] p with o1:=l,o2:=u,o3:=s}
 |_=>ve 99 e [] default
noncomputable def bK(k:HG)(q:iK):HR:=
 bif k==0 then .BoolOp q.bo q.es q.p else bif k==2 then .BinOp q.a q.op q.b q.p else bif k==3 then .UnaryOp q.un q.a q.p else bif k==5 then .IfExp q.a q.b q.d q.p else
 bif k==6 then .Dict q.oe q.es q.p else bif k==8 then .ListComp q.a q.gs q.sc q.p else bif k==15 then .Compare q.a q.cs q.es q.p else bif k==16 then .Call q.a q.es q.ks q.p else
 bif k==19 then .Constant q.co q.n q.p else bif k==20 then .Attribute q.a q.x q.p else bif k==21 then .Subscript q.a q.b q.p else bif k==23 then .Name q.x q.p else
 bif k==24 then .List q.es q.p else bif k==25 then .Tuple q.es q.n q.p else bif k==26 then .Slice q.o1 q.o2 q.o3 q.p else q.a
theorem adY(e:HR):e=bK (aa e).k (aa e):=by cases e<;>rfl
theorem dw(h:(aa e).k=k):e=bK k (aa e):=h▸adY e
noncomputable def gA(k:HG)(e:HR):Ig:=Nat.beq e.ctorIdx k
structure BQ where
 k:HG
 ts:Hn HR
 e:HR
 t:HR
 oe:Hp HR
 op:LK
 b1:Hn IM
 b2:Hn IM
 p:J3
 st:IM
noncomputable def au(s:IM):BQ:=match s with
 |.Return oe p=>⟨3,[],default,default,oe,.Add,[],[],p,s⟩
 |.Assign ts e p=>⟨5,ts,e,default,Hu,.Add,[],[],p,s⟩
 |.AugAssign t op e p=>⟨7,[],e,t,Hu,op,[],[],p,s⟩
 |.For t e b1 b2 p=>⟨9,[],e,t,Hu,.Add,b1,b2,p,s⟩
 |.While t b1 b2 p=>⟨11,[],default,t,Hu,.Add,b1,b2,p,s⟩
 |.If t b1 b2 p=>⟨12,[],default,t,Hu,.Add,b1,b2,p,s⟩
 |.Expr e p=>⟨24,[],e,default,Hu,.Add,[],[],p,s⟩
 |.Pass p=>⟨25,[],default,default,Hu,.Add,[],[],p,s⟩
 |_=>⟨99,[],default,default,Hu,.Add,[],[],default,s⟩
noncomputable def bS(k:HG)(q:BQ):IM:=
 bif k==3 then .Return q.oe q.p else bif k==5 then .Assign q.ts q.e q.p else bif k==7 then .AugAssign q.t q.op q.e q.p else bif k==9 then .For q.t q.e q.b1 q.b2 q.p else
 bif k==11 then .While q.t q.b1 q.b2 q.p else bif k==12 then .If q.t q.b1 q.b2 q.p else bif k==24 then .Expr q.e q.p else bif k==25 then .Pass q.p else q.st
theorem abX(s:IM):s=bS (au s).k (au s):=by cases s<;>rfl
theorem zL{s:IM}(h:(au s).k=k):s=bS k (au s):=h▸abX s
noncomputable def gd(c:Ig)(o:Hp α):Hp α:=bif c then o else Hu
inductive GdI{α:Type}(c:Ig)(o:Hp α)(z:α):Prop
 |mk (h:c=Hq) (e:o=hb z):GdI c o z
variable{c:Ig}
theorem fJ{o:Hp α}{z:α}(h:gd c o=hb z):GdI c o z:=by
 cases c with
 |false=>exact no h
 |true=>exact⟨rfl,h⟩
noncomputable def mQ(a b:Hp α):Hp α:=match a with
 |some x=>hb x
 |none=>b
theorem uH{a b:Hp α}{z:α}(h:mQ a b=hb z):a=hb z∨b=hb z:=by
 cases a with
 |some x=>exact .inl h
 |none=>exact .inr h
theorem aw[BEq α][Pm α]{a b:α}(h:(a==b)=Hq):a=b:=KA.mp h
inductive ane(a b:Ig):Prop
 |mk (h1:a=Hq) (h2:b=Hq):ane a b
theorem aj{a b:Ig}(h:(a&&b)=Hq):ane a b:=by
 cases a with
 |true=>exact⟨rfl,h⟩
 |false=>cases h
theorem cE{a:Ig}(h:(!a)=Hq):a=HH:=by
 cases a with
 |false=>rfl
 |true=>cases h
theorem Ev.nil:Ev Y w U n sc e (λ_=>Hu):=by intro A Hz K ae X C L O s v Q E hs hr I R hQ;exact no R
theorem Tr.nil:Tr Y w U n sc e (λ_=>Hu):=by intro A Hz K ae X C L O s v Q E hs hr I R hQ;exact no R
theorem Ev.at(h:∀L v,m L=hb v->∃m',m' L=hb v/\Ev Y w U n sc e m'):Ev Y w U n sc e m:=by intro A Hz K ae X C L O s v Q E hs hr I R hQ;exact aQ (h L v R) λm' e' r=>r hs hr I e' hQ
theorem Ev.gd(h:c=Hq->Ev Y w U n sc e m):Ev Y w U n sc e (λL=>gd c (m L)):=by
 cases c with
 |false=>exact Ev.nil
 |true=>exact h rfl
structure Syn(e:HR):Prop where
 star:gA 22 e=HH->∀es K,Ie (e::es) K=(HH,Jf e K)::Ie es K
 sub:gA 26 e=HH->∀o j,∃jx,Lp e HH o j=Nh jx (L2 o j)
 set:gA 7 e=HH->∀K x,MV e K x=pure x
 tst:(gA 0 e||gA 3 e||gA 5 e||gA 15 e)=HH->∀K whole,Qj e K whole=(do let v<-whole;Pu e.pos;Oa [v] (Qk v))
 Cs:(gA 8 e||gA 9 e||gA 10 e)=HH->∀t k K,JU e t k K=pure HH
 CN:gA 16 e=HH->∀y K x,J2 e y K x=x
theorem nf(e:HR):Syn e:=by cases e<;>constructor<;>first|(intros;rfl)|(intro _ _ _;exact⟨_,rfl⟩)|(intro h;exact IG (show Hq=HH from h) Iu)
def cT(es:Hn HR):Ig:=es.all λe=> !gA 22 e
theorem cm(h:cT (e::es)=Hq):gA 22 e=HH/\cT es=Hq:=by obtain⟨h1,h2⟩:=aj (show(!gA 22 e&&cT es)=Hq from h);exact⟨cE h1,h2⟩
theorem ig(pos:J3)(K:Ke)(h:cT es=Hq):(J4 pos (Ie es K)).any (·.1)=HH:=by
 induction es with
 |nil=>rfl
 |cons e es ih=>rw[(nf e).star (cm h).1];exact ih (cm h).2
theorem jv(h:cT [e]=Hq)(K:Ke):Ie [e] K=[(HH,Jf e K)]:=(nf e).star (cm h).1 [] K
theorem zc(h:cT [e,jo]=Hq)(K:Ke):Ie [e,jo] K=[(HH,Jf e K),(HH,Jf jo K)]:=by rw[(nf e).star (cm h).1];exact HL _ (jv (cm h).2 K)
structure JC where
 F:HP->Hn Ho->Hp Ho
 K:HP->Hp Ho
 M:HP->Hn Ho->Hp Ho
 T:HP->Hp Ho
 S:Hp (Hv×Hv×Hv×Hn Ho)
 P:HP->Hn Ho->Hp Ho
 R:HP->Hn Ho->Hp (Ho×Ho)
 N:HP->Hn Ho->Hp Ho
 I:Hp (Hv×Hn HP)
abbrev JR:=HR->IH->ar->Hp V×Hp Ig
noncomputable def rW(r:JR)(sc:IH):Hn HR->ar->Hp (Hn V)
 |[],_=>hb []
 |e::es,L=>(r e sc L).1.bind λa=>(rW r sc es L).bind λas=>hb (a::as)
noncomputable def Ec(r:JR)(sc:IH)(op:L1):Hn HR->ar->Hp Ig
 |[],_=>hb (op==.And)
 |e::es,L=>(r e sc L).2.bind λb=>bif b==(op==.And)then Ec r sc op es L else hb b
noncomputable def E9(r:JR)(sc:IH)(op:L1):Hn HR->ar->Hp V
 |[],_=>Hu
 |e::es,L=>(r e sc L).1.bind λa=>bif es.isEmpty then hb a else(g8 a.x).bind λb=>bif b==(op==.And)then E9 r sc op es L else hb a
def u9(r:JR)(sc:IH):Hp HR->ar->Hp (Hp HI)
 |none,_=>hb Hu
 |some e,L=>(r e sc L).1.bind λa=>(cD a.x).map hb
abbrev Dy(Y:IB)(w:Ja)(U:Iv)(n:HG)(r:JR):Prop:=∀e sc,Ev Y w U n sc e (λL=>(r e sc L).1)/\Tr Y w U n sc e (λL=>(r e sc L).2)
section
variable{r:JR}(dn:Dy Y w U n r)
include dn
theorem gE(sc:IH):∀es,cT es=Hq->rM Y w U n sc es (rW r sc es)
 |[],_=>rM.nil
 |e::es,hs=>rM.cons (dn e sc).1 (gE sc es (cm hs).2) ((nf e).star (cm hs).1 es)
theorem alF(sc:IH)(op:L1)(es:Hn HR):u7 Y w U n sc op es (Ec r sc op es):=by
 induction es with
 |nil=>cases op with
  |And=>exact u7.amu
  |Or=>exact u7.am9
 |cons e es ih=>
  intro A Hz K ae X C L O s v Q E h1 hr I R hQ;obtain⟨b,e1,e2⟩:=ao R;cases op with
  |And=>refine u7.ahY (dn e sc).2 ih h1 hr I ?_ hQ;show(r e sc L).2.bind _=_;refine e1.symm▸?_;cases b<;>exact e2
  |Or=>refine u7.ald (dn e sc).2 ih h1 hr I ?_ hQ;show(r e sc L).2.bind _=_;refine e1.symm▸?_;cases b<;>exact e2
theorem alI(sc:IH)(op:L1)(es:Hn HR):xK Y w U n sc op es (E9 r sc op es):=by
 induction es with
 |nil=>intro A Hz K ae X C L O s v pos Q E h1 hr I R hQ;exact no R
 |cons e es ih=>
  intro A Hz K ae X C L O s v pos Q E h1 hr I R hQ;obtain⟨a,e1,e2⟩:=ao R;cases es with
  |nil=>exact xK.one (dn e sc).1 h1 hr I (e1.trans e2) hQ
  |cons e' es=>
   obtain⟨b,e3,e4⟩:=ao e2;clear e2 R;cases op with
   |And=>refine xK.and (dn e sc).1 ih h1 hr I ?_ hQ;show(r e sc L).1.bind _=_;refine e1.symm▸?_;show(g8 a.x).bind _=_;refine e3.symm▸?_;cases b<;>exact e4
   |Or=>refine xK.or (dn e sc).1 ih h1 hr I ?_ hQ;show(r e sc L).1.bind _=_;refine e1.symm▸?_;show(g8 a.x).bind _=_;refine e3.symm▸?_;cases b<;>exact e4
theorem m0(sc:IH):∀e,Pt Y w U n sc e (u9 r sc e)
 |none=>Pt.no
 |some e=>by
  have:=Pt.yes (dn e sc).1;intro A Hz K ae X C L O s v Q E h1 hr I R hQ;refine this h1 hr I ?_ hQ;obtain⟨a,e1,e2⟩:=ao R;show(r e sc L).1.bind _=_;refine e1.symm▸?_;obtain⟨x,f⟩:=a;clear e1 hQ R I hr h1 E Q s O L C X ae K Hz A;cases x with
  |int i=>exact e2
  |_=>exact no e2
end
def nm(e:HR):Hp HP:=gd ((aa e).k==23) (hb (aa e).x)
inductive Eg(x:HP):HR->Prop
 |mk (p:J3):Eg x (.Name x p)
theorem s9(h:nm e=hb x):Eg x e:=by obtain⟨h1,h2⟩:=fJ h;exact(dw (aw h1)).symm▸(si h2)▸⟨_⟩
noncomputable abbrev hd(es:Hn HR):HR:=es.headD default
noncomputable abbrev sd(es:Hn HR):HR:=es.tail.headD default
theorem nF(h:(es.length==1)=Hq):es=[hd es]:=by refine dA (Jp.mp (aw h)) λa o1=>?_;subst o1;rfl
theorem zl(h:(es.length==2)=Hq):es=[hd es,sd es]:=by refine pT (IY (aw h)) λa t o1=>?_;subst o1;refine dA (Jp.mp (Jz (aw h))) λb o1=>?_;subst o1;rfl
def DB(sc:IH)(e:HR):Hp HP:=gd ((aa e).k==16&&(aa e).ks.isEmpty&&cT (aa e).es) ((nm (aa e).a).bind λx=>gd (aY sc x) (hb x))
inductive Gv(sc:IH)(x:HP)(es:Hn HR):HR->Prop
 |mk (p q:J3) (h:aY sc x=Hq) (hs:cT es=Hq):Gv sc x es (.Call (.Name x p) es [] q)
theorem aoD(h:DB sc e=hb x):Gv sc x (aa e).es e:=by obtain⟨h1,h2⟩:=fJ h;obtain⟨h1,h4⟩:=aj h1;obtain⟨h1,h3⟩:=aj h1;obtain⟨y,h5,h6⟩:=ao h2;obtain⟨h8,h7⟩:=fJ h6;clear h h6 h2;obtain rfl:=si h7;obtain e1:=dw (aw h1);obtain e2:=s9 h5;generalize aa e=q at*;clear h7 h5 h1;obtain rfl:=e1;show Gv sc y q.es (.Call q.a q.es q.ks q.p);refine(IC.mp h3).symm▸?_;revert e2;generalize q.a=a;intro e2;clear h3 h1;induction e2 with|mk p=>exact⟨p,q.p,h8,h4⟩
def aoj:Hn V->Hp V:=λvs=>match vs with|[v]=>(aot v.x).map λy=>⟨y,.d⟩|_=>Hu
noncomputable def apC:Hn V->Hp V:=λvs=>match vs with|[v]=>(match v.x with|.bool b=>hb ⟨.int (if b then 1 else 0),.d⟩|_=>Hu)|_=>Hu
noncomputable def ak6:Hn V->Hp V:=λvs=>match vs with|[v]=>(match v.x with|.list B=>hb (V.eE B v.fl)|.tuple B=>hb (V.eE B v.fl)|_=>Hu)|_=>Hu
def al6:Hn V->Hp V:=λvs=>match vs with|[v]=>(gK v.x).map λaW=>⟨.list (aW.map (·.1)),.d⟩|_=>Hu
def uD(vs:Hn V):Hp V:=mQ (ak6 vs) (al6 vs)
def bf(x:HP):Hp (Hn V->Hp V):=
 bif x=="len"then hb aoj else bif x=="int"then hb apC else bif x=="list"then hb uD else bif x=="all"then hb CP else
 bif x=="abs"then hb aoH else bif x=="max"then hb Cp else bif x=="sorted"then hb zC else Hu
inductive ajv(Y:IB)(w:Ja)(U:Iv)(n:HG)(f:HP)(m:Hn Ho->Hp Ho):Prop
 |mk (p1 px p3:HP) (h:zd Y w U n f [p1,px,p3] px m) (gu:p1≠px/\p3≠px/\p3≠p1):ajv Y w U n f m
inductive ahc(Y:IB)(w:Ja)(U:Iv)(n:HG)(C:Hv)(y:HP)(m:Hn Ho->Hp (Ho×Ho)):Prop
 |mk (p0 p1:HP) (h:pD Y w U n C y p0 p1 m):ahc Y w U n C y m
inductive F0(Y:IB)(w:Ja)(U:Iv)(n:HG)(cls:HP)(m:Hn Ho->Hp Ho):Prop
 |mk (C:Hv) (ps:Hn HP) (m':Hn Ho->Hp Ho) (k:HG) (h:s5 Y w U k C ps m') (g:bt U cls (.ref C)) (hk:k+1<=n) (e:∀B y,m B=hb y->m' (ec C [] []::B)=hb y/\(ps.length=B.length)):F0 Y w U n cls m
structure afS(Y:IB)(w:Ja)(U:Iv)(q:Hv×Hv×Hv×Hn Ho):Prop where
 C:∃mC,jX aG U q.1 mC
 V:∃mV,jX valNames U q.2.1 mV
 p:qH Y w U q.2.2.1 q.2.2.2
structure vc(Y:IB)(w:Ja)(U:Iv)(n:HG)(c:JC):Prop where
 B:BF U
 all:bt U "all" (.builtin "all")
 abs:bt U "abs" (.builtin "abs")
 max:bt U "max" (.builtin "max")
 sorted:bt U "sorted" (.builtin "sorted")
 enumerate:bt U "enumerate" (.type "enumerate")
 zip:bt U "zip" (.type "zip")
 F:∀x B y,c.F x B=hb y->q0 Y w U n x (c.F x)
 K:∀x d,c.K x=hb d->nT Y w U x d
 M:∀f B d,c.M f B=hb d->ajv Y w U n f (c.M f)
 T:∀f d,c.T f=hb d->yS Y w U n f d/\dD d=Hq
 S:∀q,c.S=hb q->afS Y w U q
 P:∀q,c.S=hb q->∀y B z,c.P y B=hb z->uw Y w U n q.1 y (c.P y)
 R:∀q,c.S=hb q->∀y B z,c.R y B=hb z->ahc Y w U n q.1 y (c.R y)
 N:∀f B z,c.N f B=hb z->F0 Y w U n f (c.N f)
 I:∀q,c.I=hb q->∃mC,jX q.2 U q.1 mC
theorem cg.aoz:cg Y w U n (.type "list") uD:=by
 intro A Hz K ae X C L O s us vs v Q E hA I r R hQ;rcases uH R with q|q
 ·exact cg.list hA I r q hQ
 ·exact cg.an9 hA I r q hQ
inductive aoM(Y:IB)(w:Ja)(U:Iv)(n:HG)(x:HP)(m:Hn V->Hp V):Prop
 |mk (f:HE) (h1:bt U x f) (h2:Calls U f) (h3:cg Y w U n f m):aoM Y w U n x m
theorem cq{a:α}{o:Hp α}{z:α}{P:Prop}(h:(bif c then hb a else o)=hb z)(k:c=Hq->a=z->P)(k':o=hb z->P):P:=by
 cases c with
 |true=>exact k rfl (si h)
 |false=>exact k' h
theorem anh(G:vc Y w U n cZq){m:Hn V->Hp V}(h:bf x=hb m):aoM Y w U n x m:=by
 refine cq h (λhx e=>?_) λh=>cq h (λhx e=>?_) λh=>cq h (λhx e=>?_) λh=>cq h (λhx e=>?_) λh=>cq h (λhx e=>?_) λh=>cq h (λhx e=>?_) λh=>cq h (λhx e=>?_) λh=>no h
 ·clear h;subst e;exact(aw hx).symm▸⟨_,G.B.len,.inl ⟨_,rfl⟩,cg.len⟩
 ·clear h;subst e;exact(aw hx).symm▸⟨_,G.B.int,.inr (.inl ⟨_,rfl⟩),cg.int⟩
 ·clear h;subst e;exact(aw hx).symm▸⟨_,G.B.list,.inr (.inl ⟨_,rfl⟩),cg.aoz⟩
 ·clear h;subst e;exact(aw hx).symm▸⟨_,G.all,.inl ⟨_,rfl⟩,cg.all⟩
 ·clear h;subst e;exact(aw hx).symm▸⟨_,G.abs,.inl ⟨_,rfl⟩,cg.abs⟩
 ·clear h;subst e;exact(aw hx).symm▸⟨_,G.max,.inl ⟨_,rfl⟩,cg.max⟩
 ·clear h;subst e;exact(aw hx).symm▸⟨_,G.sorted,.inl ⟨_,rfl⟩,cg.sortedS⟩
noncomputable def vH:Hn HR->Hp (Hn HP)
 |[]=>hb []
 |e::es=>(nm e).bind λx=>(vH es).map (x::·)
theorem abj:∀{B:Hn HP},vH es=hb B->es.length=B.length/\∀K,N3 es K=B.zipWith (λx e=>(HH,PySem.assign (.Name x e.pos) K)) es:=by
 induction es with
 |nil=>intro B h;exact(si h)▸⟨rfl,λ_=>rfl⟩
 |cons e es bX=>
  intro B h;obtain⟨x,h1,h2⟩:=ao h;obtain⟨ys,hy⟩:=dI h2;obtain⟨h3,h4⟩:=bX hy;clear h hy h2;induction s9 h1 with|mk p=>?_
  exact⟨HL (·+1) h3,λK=>HL ((HH,PySem.assign (.Name x p) K)::·) (h4 K)⟩
def tU(t:HR):Hp (Ig×Hn HP):=mQ ((nm t).map λx=>(HH,[x])) (gd ((aa t).k==25) ((vH (aa t).es).map λB=>(Hq,B)))
def Gn(q:Ig×Hn HP)(v:V)(L:ar):Hp ar:=bif q.1 then(yM v).bind λvs=>pG q.2 vs L else match q.2 with
 |[x]=>xQ x v L
 |_=>Hu
def pJ(p:HP->Ig)(t:HR)(v:V)(L:ar):Hp ar:=(tU t).bind λq=>gd (q.2.all p) (Gn q v L)
inductive Gb(q:Ig×Hn HP)(t:HR):Prop
 |one (x:HP) (p:J3) (h:q=(HH,[x])) (e:t=.Name x p):Gb q t
 |tup (es:Hn HR) (k:HG) (p:J3) (B:Hn HP) (h:q=(Hq,B)) (e:t=.Tuple es k p) (h1:es.length=B.length) (h2:∀K,N3 es K=B.zipWith (λx e=>(HH,PySem.assign (.Name x e.pos) K)) es):Gb q t
theorem tgE{q:Ig×Hn HP}(h:tU Az=hb q):Gb q Az:=by
 rcases uH h with h|h
 ·obtain⟨x,hx⟩:=H6.mp h;obtain⟨p⟩:=s9 hx.1;exact .one x p hx.2.symm rfl
 ·obtain⟨h1,h2⟩:=fJ h;obtain⟨B,hx⟩:=H6.mp h2;exact .tup _ _ _ B hx.2.symm (dw (aw h1)) (abj hx.1).1 (abj hx.1).2
theorem ahe(t:HR):Tg Y w U sc t (pJ (aA sc) t):=by
 intro A Hz K ae X C L ft O s u v Q E hs hA I r R hQ;obtain⟨q,hq,h⟩:=ao R;obtain⟨ha,h⟩:=fJ h;rw[JM]at ha;clear R;rcases tgE hq with⟨x,p,rfl,rfl⟩|⟨es,k,p,B,rfl,rfl,h1,h2⟩
 ·exact Tg.name (ha x (.head _)) hs hA I r h hQ
 ·exact Tg.tuple ha h1 h2 hs hA I r h hQ
theorem th:iL l x=Hq->x∈l:=by
 induction l with
 |nil=>intro h;exact nomatch h
 |cons y l bX=>
  intro h;rw[oO,JA,KA]at h;rcases h with h|h
  ·exact h.symm▸.head _
  ·exact .tail _ (bX h)
theorem aiJ(locs:Hn HP)(t:HR):xW Y w U sc locs t (pJ (λx=>iY sc x&&iL locs x) t):=by
 cases hq:tU t with
 |none=>exact⟨λv L ft h=>by unfold pJ at h;rw[hq]at h;exact no h,λA Hz K ae X C L ft O s u v Q E hs hA I r R hQ=>by unfold pJ at R;rw[hq]at R;exact no R⟩
 |some q=>
  have ja:∀v L,pJ (λx=>iY sc x&&iL locs x) t v L=gd (q.2.all λx=>iY sc x&&iL locs x) (Gn q v L):=λv L=>by unfold pJ;refine hq.symm▸?_;rfl
  cases ha:q.2.all λx=>iY sc x&&iL locs x with
  |false=>exact⟨λv L ft h=>by rw[ja,ha]at h;exact no h,λA Hz K ae X C L ft O s u v Q E hs hA I r R hQ=>by rw[ja,ha]at R;exact no R⟩
  |true=>
   have e:pJ (λx=>iY sc x&&iL locs x) t=Gn q:=by funext v L;rw[ja,ha];rfl
   refine e.symm▸?_;rw[JM]at ha;have h1:∀x∈q.2,iY sc x=Hq:=λx hx=>(HU _ _▸ha x hx).1;have h2:∀x∈q.2,x∈locs:=λx hx=>th (HU _ _▸ha x hx).2;clear e ja;rcases tgE hq with⟨x,p,rfl,rfl⟩|⟨es,k,p,B,rfl,rfl,h3,h4⟩
   ·exact xW.name (h1 x (.head _)) (h2 x (.head _))
   ·exact xW.tuple h1 h2 h3 h4
def tB(v:V):Hp (Hn Ho×Fl):=match v.x with|.int k=>if-(2^62)<=k/\k<=sizeLine then hb (lT k,.d)else Hu|_=>Hu
def anF(v v':V):Hp (Hn Ho×Fl):=(sS v.x).bind λB=>(sS v'.x).map λys=>(qM B ys,v.fl.join v'.fl)
def vG(sc:IH)(e:HR)(x:HP)(k:HG):Ig:=(match DB sc e with|some y=>y==x|none=>HH)&&(aa e).es.length==k
inductive CI1(sc:IH)(x:HP)(a e:HR):Prop
 |mk (p q:J3) (he:e=.Call (.Name x p) [a] [] q) (h:aY sc x=Hq) (hs:cT [a]=Hq):CI1 sc x a e
inductive CI2(sc:IH)(x:HP)(a b e:HR):Prop
 |mk (p q:J3) (he:e=.Call (.Name x p) [a,b] [] q) (h:aY sc x=Hq) (hs:cT [a,b]=Hq):CI2 sc x a b e
inductive CIs(sc:IH)(x:HP)(es:Hn HR)(e:HR):Prop
 |mk (p q:J3) (he:e=.Call (.Name x p) es [] q) (h:aY sc x=Hq) (hs:cT es=Hq):CIs sc x es e
theorem Ce{k:HG}(h:vG sc e x k=Hq):CIs sc x (aa e).es e/\((aa e).es.length==k)=Hq:=by
 obtain⟨h1,h2⟩:=aj h;refine⟨?_,h2⟩;clear h h2;cases hc:DB sc e with
 |none=>rw[hc]at h1;cases h1
 |some y=>rw[hc]at h1;clear k;obtain rfl:=aw (show(y==x)=Hq from h1);have:=aoD hc;generalize(aa e).es=es at this;obtain⟨p,q,h3,h4⟩:=this;exact⟨p,q,rfl,h3,h4⟩
theorem anc(h:vG sc e x 1=Hq):CI1 sc x (hd (aa e).es) e:=by refine ew (Ce h) λo1 h2=>?_;obtain⟨p,q,he,h3,h4⟩:=o1;rw[nF h2]at he h4;exact⟨p,q,he,h3,h4⟩
theorem apZ(h:vG sc e x 2=Hq):CI2 sc x (hd (aa e).es) (sd (aa e).es) e:=by refine ew (Ce h) λo1 h2=>?_;obtain⟨p,q,he,h3,h4⟩:=o1;rw[zl h2]at he h4;exact⟨p,q,he,h3,h4⟩
def jI(r:JR)(sc:IH)(t e:HR)(L:ar):Hp (Hn Ho×Fl):=
 bif vG sc e "range" 1 then(r (hd (aa e).es) sc L).1.bind tB else
 bif vG sc e "enumerate" 1&&(aa t).k==25 then(r (hd (aa e).es) sc L).1.bind λv=>(listOfD v.x).map λB=>(jW B,v.fl)else
 bif vG sc e "zip" 2&&(aa t).k==25 then(r (hd (aa e).es) sc L).1.bind λv=>(r (sd (aa e).es) sc L).1.bind λv'=>anF v v' else(r e sc L).1.bind nE
inductive CC{α:Type}(c:Ig)(a b:Hp α)(z:α):Prop
 |yes (h:c=Hq) (e:a=hb z):CC c a b z
 |no (h:c=HH) (e:b=hb z):CC c a b z
theorem fD{a b:Hp α}{z:α}(h:(bif c then a else b)=hb z):CC c a b z:=by
 cases c with
 |true=>exact .yes rfl h
 |false=>exact .no rfl h
theorem It.at{m:ar->Hp (Hn Ho×Fl)}(hf:∀(K:Ke)x,MV e K x=pure x)(h:∀L v,m L=hb v->∃m',m' L=hb v/\It Y w U n sc Az e m'):It Y w U n sc Az e m:=by refine⟨hf,?_⟩;intro A Hz K ae X C L O s v Q E hs hA I R hQ;exact aQ (h L v R) λm' e' k=>k.2 hs hA I e' hQ
variable{c:JC}{r:JR}
theorem ajZ(G:vc Y w U n c)(h:Dy Y w U n r)(t e:HR)(hf:gA 7 e=HH):It Y w U n sc t e (jI r sc t e):=by
 obtain hs:=(nf e).set hf;refine It.at hs λL v R=>?_;rcases fD R with⟨h1,h2⟩|⟨_,q⟩
 ·obtain⟨p,q,he,hx,ha⟩:=anc h1;exact i12 (λL=>(r (hd (aa e).es) sc L).1.bind tB) h2 (he▸It.range hx G.B.range (h _ sc).1 (jv ha))
 clear R;rcases fD q with⟨h1,h2⟩|⟨_,q⟩
 ·obtain⟨h1,h3⟩:=aj h1;obtain⟨p,q,he,hx,ha⟩:=anc h1;exact i12 (λL=>(r (hd (aa e).es) sc L).1.bind λv=>(listOfD v.x).map λB=>(jW B,v.fl)) h2 ((dw (aw h3)).symm▸he▸It.enum G.enumerate (h _ sc).1 hx (jv ha))
 rcases fD q with⟨h1,h2⟩|⟨_,q⟩
 ·obtain⟨h1,h3⟩:=aj h1;obtain⟨p,q,he,hx,ha⟩:=apZ h1;exact i12 (λL=>(r (hd (aa e).es) sc L).1.bind λv=>(r (sd (aa e).es) sc L).1.bind λv'=>anF v v') h2 ((dw (aw h3)).symm▸he▸It.anr G.zip (h _ sc).1 (h _ sc).1 hx (zc ha))
 ·exact i12 _ q (It.data (h e sc).1 hs)
def ci(k:QL):Hp HI:=match k with
 |.int i=>gd (smallInt i) (hb i)
 |_=>Hu
def cs(k:QL):Hp HP:=match k with
 |.str x=>gd (wf (.str x)) (hb x)
 |_=>Hu
def pP(e:HR):Hp HI:=gd ((aa e).k==19) (ci (aa e).co)
def zy(e:HR):Hp HP:=gd ((aa e).k==19) (cs (aa e).co)
theorem apr{i:HI}(h:pP e=hb i):(∃k p,e=.Constant (.int i) k p)/\smallInt i=Hq:=by
 obtain⟨h1,h2⟩:=fJ h;refine(dw (aw h1)).symm▸?_;generalize aa e=q at h2;show(∃k p,Qz q.co q.n q.p=.Constant (.int i) k p)/\_;generalize q.co=co at h2;cases co with
 |int j=>obtain⟨h3,h4⟩:=fJ (show gd (smallInt j) (hb j)=hb i from h2);exact(si h4)▸⟨⟨_,_,rfl⟩,h3⟩
 |_=>exact no h2
theorem za(h:zy e=hb x):(∃a b,e=.Constant (.str x) a b)/\wf (.str x)=Hq:=by
 obtain⟨h1,h2⟩:=fJ h;refine(dw (aw h1)).symm▸?_;generalize aa e=q at h2;show(∃k p,Qz q.co q.n q.p=.Constant (.str x) k p)/\_;generalize q.co=co at h2;cases co with
 |str y=>obtain⟨h3,h4⟩:=fJ (show gd (wf (.str y)) (hb y)=hb x from h2);exact(si h4)▸⟨⟨_,_,rfl⟩,h3⟩
 |_=>exact no h2
noncomputable def y5(r:JR)(sc:IH)(jk:Hn HR)(L:ar):Hp Ig:=match jk with
 |[]=>hb Hq
 |[c]=>(r c sc L).2
 |_=>Hu
noncomputable def fH(s:IH):Hn HP:=s.names.filterMap λp=>if p.2=.local then hb p.1 else Hu
def kY(r:JR)(sc:IH)(jn:HR)(gs:Hn Lb)(scope:IH)(L:ar):Hp (Hn Ho):=match gs with
 |[⟨t,it,jk,a⟩]=>gd (a==0&&jA scope sc (fH scope)&& !gA 7 it) (q6 (jI r sc t it) (fH scope) (pJ (λx=>iY (dE scope sc) x&&iL (fH scope) x) t) (y5 r (dE scope sc) jk) (λL=>(r jn (dE scope sc) L).1) L)
 |_=>Hu
def ajs(c:JC)(sc:IH)(x:HP)(L:ar):Hp V:=bif aA sc x then(L x).bind sz else gd (aY sc x) ((c.K x).map λd=>V.fix d .s)
def agt(k:QL):Hp V:=match k with
 |.int i=>hb ⟨.int i,.d⟩
 |.str s=>gd (wf (.str s)) (hb ⟨.str s,.d⟩)
 |.none=>hb ⟨.none,.d⟩
 |.bool b=>hb ⟨.bool b,.d⟩
 |_=>Hu
noncomputable def ako(op:LK):Ig:=match op with
 |.Mult=>Hq
 |_=>HH
def uv(x y:V):Hp V:=(cD x.x).bind λi=>(cD y.x).map λj=>⟨.int (i*j),.d⟩
def CH(r:JR)(sc:IH)(a:HR)(op:LK)(b:HR)(L:ar):Hp V:=bif ako op&&((pP a).isSome||(pP b).isSome)then
  (match pP a with
  |some i=>(r b sc L).1.bind λy=>uv ⟨.int i,.d⟩ y
  |none=>(pP b).bind λj=>(r a sc L).1.bind λx=>uv x ⟨.int j,.d⟩)
 else(r a sc L).1.bind λx=>(r b sc L).1.bind λy=>gD op x y
def F5(op:UnaryOp)(x:V):Hp V:=match op with
 |.Not=>(g8 x.x).bind λb=>hb ⟨.bool (!b),.d⟩
 |.USub=>(match x.x with|.int i=>hb ⟨.int (-i),.d⟩|_=>Hu)
 |_=>Hu
noncomputable abbrev hc(l:Hn Nu):Nu:=l.headD .Eq
theorem am7{l:Hn Nu}(h:(l.length==1)=Hq):l=[hc l]:=by refine dA (Jp.mp (aw h)) λa o1=>?_;subst o1;rfl
theorem aj1{l:Hn Nu}(h:(l.length==2)=Hq):l=[hc l,hc l.tail]:=by refine pT (IY (aw h)) λa t o1=>?_;subst o1;refine dA (Jp.mp (Jz (aw h))) λb o1=>?_;subst o1;rfl
noncomputable def cm1(jx:Hn Nu)(rs:Hn HR):Ig:=jx.length==1&&rs.length==1
noncomputable def cm2(jx:Hn Nu)(rs:Hn HR):Ig:=jx.length==2&&rs.length==2
def DK(r:JR)(sc:IH)(l:HR)(jx:Hn Nu)(rs:Hn HR)(L:ar):Hp Ig:=
 bif cm1 jx rs then gd (!NX (hc jx) (hd rs)) ((r l sc L).1.bind λx=>(r (hd rs) sc L).1.bind λy=>bV (hc jx) x.x y.x)else
 gd (cm2 jx rs&& !Pr [hc jx,hc jx.tail] [hd rs,sd rs]) ((r l sc L).1.bind λa=>(r (hd rs) sc L).1.bind λb=>(bV (hc jx) a.x b.x).bind λc=>bif c then(r (sd rs) sc L).1.bind λd=>bV (hc jx.tail) b.x d.x else hb HH)
def vJ(lo hi st:Hp HI)(x:V):Hp V:=match st with
 |none=>mQ (td lo hi x) (eZ lo hi Hu x)
 |some t=>eZ lo hi (hb t) x
def Ck(r:JR)(sc:IH)(a i:HR)(L:ar):Hp V:=
 bif(aa i).k==26 then(r a sc L).1.bind λx=>(u9 r sc (aa i).o1 L).bind λl=>(u9 r sc (aa i).o2 L).bind λu=>(u9 r sc (aa i).o3 L).bind λt=>vJ l u t x else
 gd (!gA 26 i) ((r a sc L).1.bind λx=>(r i sc L).1.bind λy=>(ed x.x y.x).bind λz=>hb (V.fix z x.fl))
noncomputable def Cz(r:JR)(sc:IH):Hn (Hp HR)->Hn HR->ar->Hp (Hn (HP×V))
 |[],[],_=>hb []
 |some k::ks,e::es,L=>(zy k).bind λx=>(r e sc L).1.bind λa=>(Cz r sc ks es L).bind λq=>hb ((x,a)::q)
 |_,_,_=>Hu
noncomputable def AM(x:HP):Hp I2:=
 bif x=="int"then hb "int"else bif x=="bool"then hb "bool"else bif x=="str"then hb "str"else bif x=="list"then hb "list"else bif x=="tuple"then hb "tuple"else Hu
def y0(r:JR)(sc:IH)(e t:HR)(L:ar):Hp V:=(nm t).bind λT=>gd (aY sc T) ((AM T).bind λs=>(r e sc L).1.bind λv=>zE s v.x)
def mU(v:HR):Ig:=(aa v).k==16&&(aa v).es.isEmpty&&(aa v).ks.isEmpty&&((aa (aa v).a).k==20&&(aa (aa v).a).x=="values"&& !gA 16 (aa (aa v).a).a&&((aa (aa v).a).p.endLine==(aa v).p.line))
def ajH(r:JR)(sc:IH)(o:HR)(L:ar):Hp V:=(r o sc L).1.bind λv=>(gK v.x).bind λaW=>if bZ (aW.map (·.2))=Hq then hb ⟨.list (aW.map (·.2)),.d⟩else Hu
noncomputable def apV(k:QL):Ig:=match k with
 |.bool b=>b
 |_=>HH
def zm(ks:Hn Ks):Ig:=match ks with
 |[k]=>k.arg==hb "reverse"&&((aa k.value).k==19&&apV (aa k.value).co)
 |_=>HH
def Dz(c:JC)(x:HP)(vs:Hn V):Hp V:=match bf x with
 |some m=>m vs
 |none=>mQ ((c.F x (vs.map (·.x))).map λy=>⟨y,.d⟩) (gd (!vs.isEmpty) ((c.N x (vs.map (·.x))).map λy=>⟨y,.d⟩))
def jH(c:JC)(r:JR)(sc:IH)(x:HP)(es:Hn HR)(ks:Hn Ks)(L:ar):Hp V:=
 bif ks.isEmpty then(bif x=="isinstance"&&es.length==2 then y0 r sc (hd es) (sd es) L else bif x=="list"&&es.length==1&&mU (hd es)then ajH r sc (aa (aa (hd es)).a).a L else(rW r sc es L).bind (Dz c x))else gd (x=="sorted"&&zm ks&&es.length==1) ((r (hd es) sc L).1.bind sH)
def af2(c:JC)(r:JR)(sc:IH)(o:HR)(y:HP)(es:Hn HR)(L:ar):Hp V:=c.S.bind λq=>gd (!gA 16 o&& !es.isEmpty&&Ln es.length 9) ((r o sc L).1.bind λv=>(rW r sc es L).bind λvs=>if gX q.1 q.2.1 v.x=Hq then(c.P y (v.x::vs.map (·.x))).map λz=>⟨z,.d⟩else Hu)
def w6(r:JR)(sc:IH)(o e:HR)(L:ar):Hp V:=(zy o).bind λsep=>(r e sc L).1.bind λv=>((match v.x with|.list B=>pE sep B|_=>Hu).map λy=>⟨y,.d⟩)
def wM(c:JC)(r:JR)(sc:IH)(o:HR)(y:HP)(es:Hn HR)(L:ar):Hp V:=
 bif y=="join"&&es.length==1 then w6 r sc o (hd es) L else bif y=="get"&&es.length==2&& !gA 16 o then(r o sc L).1.bind λa=>(r (hd es) sc L).1.bind λk=>(r (sd es) sc L).1.bind λd=>yL a k d else af2 c r sc o y es L
def iH(c:JC)(r:JR)(sc:IH)(f:HR)(es:Hn HR)(ks:Hn Ks)(pos:J3)(L:ar):Hp V:=
 bif(aa f).k==23 then gd (aY sc (aa f).x&&cT es) (jH c r sc (aa f).x es ks L)else
 gd ((aa f).k==20&&(ks.isEmpty&&cT es&&((aa f).p.endLine==pos.line))) (wM c r sc (aa f).a (aa f).x es L)
def Ep(e:HR):Ig:=(aa e).k==23||(aa e).k==21||(aa e).k==20
def aj6(c:JC)(r:JR)(sc:IH)(e:HR)(y:HP)(L:ar):Hp V:=gd (Ep e) ((r e sc L).1.bind λv=>match c.S with
 |some q=>bif y=="plots"then nG q.1 q.2.1 q.2.2.1 q.2.2.2 v.x else(iw q.1 q.2.1 y v.x).map λx=>V.fix x v.fl
 |none=>c.I.bind λq=>(j7 q.1 q.2 y v.x).map λx=>V.fix x v.fl)
abbrev Cl:=JC->JR->iK->IH->ar->Hp V
def amY:Cl:=λc _ q sc L=>ajs c sc q.x L
def akO:Cl:=λ_ _ q _ _=>agt q.co
def AY:Cl:=λ_ r q sc L=>CH r sc q.a q.op q.b L
def AU:Cl:=λ_ r q sc L=>Ck r sc q.a q.b L
def anC:Cl:=λc r q sc L=>iH c r sc q.a q.es q.ks q.p L
def E7:Cl:=λ_ r q sc L=>(DK r sc q.a q.cs q.es L).map λb=>⟨.bool b,.d⟩
def kUn:Cl:=λ_ r q sc L=>(r q.a sc L).1.bind λx=>F5 q.un x
def aj0:Cl:=λ_ r q sc L=>E9 r sc q.bo q.es L
noncomputable def F3:Cl:=λ_ r q sc L=>(r q.a sc L).2.bind λc=>if c then(r q.b sc L).1 else(r q.d sc L).1
def yZ:Cl:=λ_ r q sc L=>gd (cT q.es) ((rW r sc q.es L).bind λvs=>if vs.length<=sizeLine then hb (V.eE (vs.map (·.x)) (lL vs))else Hu)
def B8:Cl:=λ_ r q sc L=>gd (cT q.es) ((rW r sc q.es L).bind λvs=>if vs.length<=sizeLine then hb (V.fix (.tuple (vs.map (·.x))) (lL vs))else Hu)
def ajl:Cl:=λ_ r q sc L=>gd (q.oe.all (·.isSome)&&q.oe.length==q.es.length&& !q.oe.isEmpty&&Ln q.oe.length 15) ((Cz r sc q.oe q.es L).bind ajt)
def anH:Cl:=λ_ r q sc L=>(kY r sc q.a q.gs q.sc L).map λys=>⟨.list ys,.d⟩
def an5:Cl:=λc r q sc L=>aj6 c r sc q.a q.x L
def xB:Hn (HG×Cl):=[(23,amY),(19,akO),(2,AY),(21,AU),(16,anC),(15,E7),(3,kUn),(0,aj0),(5,F3),(24,yZ),(25,B8),(6,ajl),(8,anH),(20,an5)]
def jE(c:JC)(r:JR)(q:iK)(sc:IH)(L:ar):Hp V:=(xB.lookup q.k).bind λf=>f c r q sc L
def jT(r:JR)(e:HR)(q:iK)(sc:IH)(L:ar)(v:Hp V):Hp Ig:=
 bif q.k==15 then DK r sc q.a q.cs q.es L else
 bif q.k==0 then Ec r sc q.bo q.es L else
 bif q.k==3 then(match q.un with|.Not=>(r q.a sc L).2.map (!·)|_=>Hu)else
 gd (!(gA 0 e||gA 3 e||gA 5 e||gA 15 e)) (v.bind λa=>g8 a.x)
noncomputable def J(c:JC):HG->JR
 |0=>λ_ _ _=>(Hu,Hu)
 |k+1=>λe sc L=>(jE c (J c k) (aa e) sc L,jT (J c k) e (aa e) sc L (jE c (J c k) (aa e) sc L))
inductive TyI(U:Iv)(x:HP)(s:I2):Prop
 |mk (h:rZ s) (g:bt U x (.type s)) (e:x=HA s):TyI U x s
theorem aje(G:vc Y w U n c){s:I2}(h:AM x=hb s):TyI U x s:=by
 refine cq h (λhx e=>?_) λh=>cq h (λhx e=>?_) λh=>cq h (λhx e=>?_) λh=>cq h (λhx e=>?_) λh=>cq h (λhx e=>?_) λh=>no h
 ·clear h;subst e;exact(aw hx).symm▸⟨afY,G.B.int,rfl⟩
 ·clear h;subst e;exact(aw hx).symm▸⟨aeE,G.B.bool,rfl⟩
 ·clear h;subst e;exact(aw hx).symm▸⟨afE,G.B.str,rfl⟩
 ·clear h;subst e;exact(aw hx).symm▸⟨ad7,G.B.list,rfl⟩
 ·clear h;subst e;exact(aw hx).symm▸⟨acu,G.B.tuple,rfl⟩
theorem anz(h1:uv gc nV=hb fb)(h2:(∃i,gc.x=.int i/\smallInt i=Hq)∨(∃j,nV.x=.int j/\smallInt j=Hq)):gD .Mult gc nV=hb fb:=by
 obtain⟨i,e1,h1⟩:=ao h1;obtain⟨j,e2⟩:=dI h1;obtain⟨gc,f⟩:=gc;obtain⟨nV,g⟩:=nV;clear h1;obtain rfl:=bJ e1;clear h1 e1;obtain rfl:=bJ e2;obtain hs:(smallInt i||smallInt j)=Hq:=by
  rcases h2 with⟨q,e,hq⟩|⟨q,e,hq⟩
  ·refine(O1 e).symm▸hq.symm▸?_;rfl
  ·refine(O1 e).symm▸hq.symm▸?_;exact NK _
 show Jo _ (if(smallInt i||smallInt j)=Hq then hb (IL (i*j))else Hu)=_;refine(H5 hs).symm▸?_;rfl
variable{p:J3}
theorem aeL{l u s:Hp HR}(o j:HE):∃jx,Lp (.Slice l u s p) HH o j=Nh jx (L2 o j):=by cases s<;>exact⟨_,rfl⟩
section
variable(ng:vc Y w U n c)(dn:Dy Y w U n r)
include dn
theorem ail(a:HR)(op:LK)(b:HR)(p:J3):Ev Y w U n sc (.BinOp a op b p) (CH r sc a op b):=by
 refine Ev.at λL v R=>?_;rcases fD R with⟨hc,hn⟩|⟨_,hn⟩
 ·clear R;obtain⟨hc,_⟩:=aj hc;obtain ho:op=.Mult:=by cases op<;>first|rfl|cases hc
  clear hc;subst ho;clear hc;cases e1:pP a with
  |some i=>rw[e1]at hn;obtain⟨⟨k,q,rfl⟩,hs⟩:=apr e1;obtain⟨y,h1,R⟩:=ao (o:=(r b sc L).1) hn;refine⟨_,?_,Ev.bin Ev.CJ (dn b sc).1⟩;exact h1.symm▸anz R (.inl ⟨i,rfl,hs⟩)
  |none=>rw[e1]at hn;obtain⟨j,e2,R⟩:=ao (o:=pP b) hn;obtain⟨⟨k,q,rfl⟩,hs⟩:=apr e2;obtain⟨x,h1,R⟩:=ao R;refine⟨_,?_,Ev.bin (dn a sc).1 Ev.CJ⟩;exact h1.symm▸anz R (.inr ⟨j,rfl,hs⟩)
 ·exact i12 _ hn (Ev.bin (dn a sc).1 (dn b sc).1)
theorem ak0(l:HR)(jx:Hn Nu)(rs:Hn HR)(p:J3):Tr Y w U n sc (.Compare l jx rs p) (DK r sc l jx rs):=by
 intro A Hz K ae X C L O s v Q E hs hr I R hQ;rcases fD R with⟨hc,R⟩|⟨_,R⟩
 ·obtain⟨h1,h2⟩:=aj hc;obtain⟨h3,R⟩:=fJ R;exact(am7 h1).symm▸(nF h2).symm▸Tr.cmp (dn l sc).1 (dn (hd rs) sc).1 (cE h3) hs hr I R hQ
 ·obtain⟨h3,R⟩:=fJ R;obtain⟨h3,h4⟩:=aj h3;obtain⟨h1,h2⟩:=aj h3;exact(aj1 h1).symm▸(zl h2).symm▸Tr.Cf (dn l sc).1 (dn (hd rs) sc).1 (dn (sd rs) sc).1 (cE h4) hs hr I R hQ
theorem ai3(l:HR)(jx:Hn Nu)(rs:Hn HR)(p:J3):Ev Y w U n sc (.Compare l jx rs p) (λL=>(DK r sc l jx rs L).map λb=>⟨.bool b,.d⟩):=by
 refine Ev.at λL v R=>?_;obtain⟨z,hz⟩:=dI R;rcases fD hz with⟨hg,R⟩|⟨_,R⟩
 ·obtain⟨h1,h2⟩:=aj hg;obtain⟨h3,R⟩:=fJ R;obtain⟨x,e1,R⟩:=ao R;obtain⟨y,e2,R⟩:=ao R;refine(am7 h1).symm▸(nF h2).symm▸⟨_,?_,Ev.cmp (dn l sc).1 (dn (hd rs) sc).1 (cE h3)⟩;refine e1.symm▸?_;show(r (hd rs) sc L).1.bind _=_;refine e2.symm▸?_;show(bV (hc jx) x.x y.x).bind _=_;refine R.symm▸?_;rfl
 ·obtain⟨h3,R⟩:=fJ R;obtain⟨h3,h4⟩:=aj h3;obtain⟨h1,h2⟩:=aj h3;obtain⟨x,e1,R⟩:=ao R;obtain⟨y,e2,R⟩:=ao R;obtain⟨q,e3,R⟩:=ao R;refine(aj1 h1).symm▸(zl h2).symm▸i12 _ ?_ (Ev.Cf (dn l sc).1 (dn (hd rs) sc).1 (dn (sd rs) sc).1 (cE h4));show(r l sc L).1.bind _=_;refine e1.symm▸?_;show(r (hd rs) sc L).1.bind _=_;refine e2.symm▸?_;show(bV (hc jx) x.x y.x).bind _=_;refine e3.symm▸?_;clear p e3 h4 e2 e1 h3 h2 h1 hz;cases q with
  |false=>refine(si R)▸?_;rfl
  |true=>obtain⟨d,e4,R⟩:=ao R;refine e4.symm▸?_;show(bV (hc jx.tail) y.x d.x).map _=_;refine R.symm▸?_;rfl
theorem ahP(a i:HR)(p:J3):Ev Y w U n sc (.Subscript a i p) (Ck r sc a i):=by
 refine Ev.at λL v R=>?_;rcases fD R with⟨hk,R⟩|⟨_,R⟩
 ·obtain⟨x,h1,R⟩:=ao R;obtain⟨l,h2,R⟩:=ao R;obtain⟨u,h3,R⟩:=ao R;obtain⟨t,h4,R⟩:=ao R;obtain hi:=dw (aw hk);generalize aa i=q at*;obtain rfl:i=.Slice q.o1 q.o2 q.o3 q.p:=hi;have gen:eZ l u t x=hb v->∃m',m' L=hb v/\Ev Y w U n sc (.Subscript a (.Slice q.o1 q.o2 q.o3 q.p) p) m':=λhv=>by
   refine⟨_,?_,Ev.slice (dn a sc).1 (m0 dn sc q.o1) (m0 dn sc q.o2) (m0 dn sc q.o3) aeL⟩;refine h1.symm▸?_;show(u9 r sc q.o1 L).bind _=_;refine h2.symm▸?_;show(u9 r sc q.o2 L).bind _=_;refine h3.symm▸?_;show(u9 r sc q.o3 L).bind _=_;exact h4.symm▸hv
  cases t with
  |some t=>exact gen R
  |none=>
   rcases uH R with R|R
   ·obtain h5:q.o3=Hu:=by
     cases e:q.o3 with
     |none=>rfl
     |some st=>rw[e]at h4;obtain⟨z,_,h6⟩:=ao h4;refine aQ (H6.mp h6) λy o1 h7=>?_;cases h7
    refine h5.symm▸⟨_,?_,Ev.akN (dn a sc).1 (m0 dn sc q.o1) (m0 dn sc q.o2) (λo j=>⟨_,rfl⟩)⟩;refine h1.symm▸?_;show(u9 r sc q.o1 L).bind _=_;refine h2.symm▸?_;show(u9 r sc q.o2 L).bind _=_;exact h3.symm▸R
   ·exact gen R
 ·obtain⟨hi,R⟩:=fJ R;exact i12 _ R (Ev.idx (dn a sc).1 (dn i sc).1 ((nf i).sub (cE hi)))
theorem ai9(ks:Hn (Hp HR)):∀es,AF Y w U n sc ks es (Cz r sc ks es):=by
 induction ks with
 |nil=>intro es;cases es with
  |nil=>exact AF.nil
  |cons _ _=>intro A Hz K ae X C L O s v pos Q E hs hr I R hQ;exact no R
 |cons k ks ih=>
  intro es A Hz K ae X C L O s v pos Q E hs hr I R hQ;cases k with
  |none=>exact no R
  |some k=>cases es with
   |nil=>exact no R
   |cons e es=>obtain⟨x,hx,Ay⟩:=ao R;refine ew (za hx) λo1 hw=>?_;obtain⟨a,b,rfl⟩:=o1;exact AF.cons (dn e sc).1 (ih es) hw hs hr I Ay hQ
theorem ain(jk:Hn HR):ya Y w U n sc jk (y5 r sc jk):=by
 match jk with
 |[]=>exact ya.nil
 |[c]=>exact ya.one (dn c _).2
 |_::_::_=>intro A Hz K ae X C L O s v Q E hs hr I R hQ;exact no R
include ng
inductive LcI(Y:IB)(w:Ja)(U:Iv)(n:HG)(r:JR)(sc:IH)(jn:HR)(scope:IH)(L:ar)(ys:Hn Ho)(gs:Hn Lb):Prop
 |mk (t it:HR) (jk:Hn HR) (e:gs=[⟨t,it,jk,0⟩]) (h1:jA scope sc (fH scope)=Hq) (h2:It Y w U n sc t it (jI r sc t it)) (h3:xW Y w U (dE scope sc) (fH scope) t (pJ (λx=>iY (dE scope sc) x&&iL (fH scope) x) t)) (h4:ya Y w U n (dE scope sc) jk (y5 r (dE scope sc) jk))
   (h5:Ev Y w U n (dE scope sc) jn (λL=>(r jn (dE scope sc) L).1)) (h6:q6 (jI r sc t it) (fH scope) (pJ (λx=>iY (dE scope sc) x&&iL (fH scope) x) t) (y5 r (dE scope sc) jk) (λL=>(r jn (dE scope sc) L).1) L=hb ys):LcI Y w U n r sc jn scope L ys gs
theorem yK{gs:Hn Lb}(R:kY r sc jn gs scope L=hb ys):LcI Y w U n r sc jn scope L ys gs:=by
 match gs with
 |[]=>exact no R
 |⟨_,_,_,_⟩::_::_=>exact no R
 |[⟨t,it,jk,a⟩]=>obtain⟨hg,R⟩:=fJ R;obtain⟨hg,h2⟩:=aj hg;obtain⟨h0,h1⟩:=aj hg;exact⟨t,it,jk,(aw h0).symm▸rfl,h1,ajZ ng dn t it (cE h2),aiJ _ t,ain dn jk,(dn jn _).1,R⟩
theorem afM(jn:HR)(gs:Hn Lb)(scope:IH)(p:J3):Ev Y w U n sc (.ListComp jn gs scope p) (λL=>(kY r sc jn gs scope L).map λys=>⟨.list ys,.d⟩):=by refine Ev.at λL v R=>?_;obtain⟨ys,hn⟩:=dI R;clear R;obtain⟨t,it,jk,rfl,h1,h2,h3,h4,h5,h6⟩:=yK ng dn hn;refine⟨_,?_,Ev.comp h1 h2 h3 h4 h5⟩;refine h6.symm▸?_;rfl
end
theorem ny(h:Ep e=Hq)(y:HP)(p:J3):lK e y p:=by
 unfold Ep at h;rw[JA,JA]at h;rcases h with(h|h)|h
 ·exact(dw (aw h)).symm▸λK=>rfl
 ·exact(dw (aw h)).symm▸λK=>rfl
 ·exact(dw (aw h)).symm▸λK=>rfl
inductive ajK(v:HR)(o:HR):Prop
 |mk (ap cp:J3) (e:v=.Call (.Attribute o "values" ap) [] [] cp) (h1:gA 16 o=HH) (h2:(ap.endLine==cp.line)=Hq):ajK v o
theorem aod(h:mU fb=Hq):ajK fb (aa (aa fb).a).a:=by obtain⟨h,h5⟩:=aj h;obtain⟨h,h3⟩:=aj h;obtain⟨h1,h2⟩:=aj h;obtain⟨h,h8⟩:=aj h5;obtain⟨h,h7⟩:=aj h;obtain⟨h4,h6⟩:=aj h;refine⟨_,_,?_,cE h7,h8⟩;obtain e1:fb=.Call (aa fb).a (aa fb).es (aa fb).ks (aa fb).p:=dw (aw h1);obtain e2:(aa fb).a=.Attribute (aa (aa fb).a).a (aa (aa fb).a).x (aa (aa fb).a).p:=dw (aw h4);rw[IC.mp h2,IC.mp h3]at e1;rw[aw h6]at e2;exact e1.trans (e2▸rfl)
inductive an1:Hn Ks->Prop
 |mk (k:HG) (bp kp:J3):an1 [⟨hb "reverse",.Constant (.bool Hq) k bp,kp⟩]
theorem apY{ks:Hn Ks}(h:zm ks=Hq):an1 ks:=by
 match ks with
 |[]=>cases h
 |_::_::_=>cases h
 |[⟨a,v,p⟩]=>
  obtain⟨h1,h2⟩:=aj h;obtain⟨h2,h3⟩:=aj h2;clear h ks;obtain rfl:=aw h1;obtain e:v=.Constant (aa v).co (aa v).n (aa v).p:=dw (aw h2);obtain e3:(aa v).co=.bool Hq:=by
   revert h3;generalize(aa v).co=co;intro h3;clear h2 h1;cases co with
   |bool b=>exact HL _ h3
   |_=>cases h3
  rw[e3]at e;exact e.symm▸⟨_,_,_⟩
theorem DP(pos:J3)(K:Ke)(hs:cT es=Hq)(hl:es.length<=9):((J4 pos (Ie es K)).all (λx=> !x.1)&&(Ny pos (Mp [] K)).all (λx=>x.1.isSome)&&decide (es.length+([]:Hn Ks).length+(if([]:Hn Ks).isEmpty then 0 else 1)<30))=Hq:=by obtain qv:=ig pos K hs;rw[List.any_eq_false]at qv;rw[HU,HU,JM];refine⟨⟨λx hx=>?_,rfl⟩,Ip (HC hl (by decide))⟩;rw[JI,Bool.eq_false_iff];exact qv x hx
section
variable(ng:vc Y w U n c)(dn:Dy Y w U n r)
include dn ng
theorem amz(x:HP)(es:Hn HR)(np pos:J3)(hx:aY sc x=Hq)(hs:cT es=Hq):Ev Y w U n sc (.Call (.Name x np) es [] pos) (λL=>(rW r sc es L).bind (Dz c x)):=by
 refine Ev.at λL v R=>?_;obtain⟨vs,h1,R⟩:=ao R;unfold Dz at R;cases e:bf x with
 |some m=>rw[e]at R;obtain⟨f,g1,g2,g3⟩:=anh ng e;refine⟨_,?_,Ev.call hx g1 g2 (gE dn sc es hs) g3 λK=>ig pos K hs⟩;exact h1.symm▸R
 |none=>
  rw[e]at R;rcases uH R with q|q
  ·obtain⟨y,hy⟩:=dI q;refine⟨_,?_,Ev.def (ng.F x _ y hy) (gE dn sc es hs) hx (Io n) λK=>ig pos K hs⟩;exact h1.symm▸q
  ·obtain⟨h0,q⟩:=fJ q;obtain⟨y,hy⟩:=dI q;obtain⟨C,ps,m',k,hi,g,hk,qx⟩:=ng.N x _ y hy;refine ew (qx _ y hy) λh2 h3=>?_
   match es with
   |[]=>rw[<-si h1]at h0;cases h0
   |a::es=>refine i12 _ ?_ (Ev.ofT (l0.new hi g (gE dn sc (a::es) hs) hk hx (λK=>(nf a).star (cm hs).1 es K) λK=>ig pos K (cm hs).2));show Jo _ ((rW r sc (a::es) L).bind _)=_;(refine h1.symm▸?_;(dsimp only[HT];rw[H5 (by rw[h3,Hr]),h2]));rfl
theorem aeS(x:HP)(es:Hn HR)(ks:Hn Ks)(np pos:J3)(hx:aY sc x=Hq)(hs:cT es=Hq):Ev Y w U n sc (.Call (.Name x np) es ks pos) (jH c r sc x es ks):=by
 refine Ev.at λL v R=>?_;rcases fD R with⟨hk,hn⟩|⟨_,hn⟩
 ·refine(IC.mp hk).symm▸?_;rcases fD hn with⟨hi,hp⟩|⟨_,hp⟩
  ·obtain⟨h1,h2⟩:=aj hi;clear R;obtain rfl:=aw h1;obtain⟨T,h3,hp1⟩:=ao hp;obtain⟨h4,D3⟩:=fJ hp1;obtain⟨s,h5,hp3⟩:=ao D3;clear D3 hp1;obtain⟨t1,t2,rfl⟩:=aje ng h5;obtain h6:=s9 h3;rw[zl h2]at hs⊢;revert h6 hs;generalize sd es=t;intro hs h6;induction h6 with|mk p=>exact i12 _ hp3 (Ev.alW t1 hx ng.B.isinstance h4 t2 (dn _ sc).1 (zc hs))
  ·rcases fD hp with⟨hi,hq⟩|⟨_,hq⟩
   ·obtain⟨hi,h3⟩:=aj hi;obtain⟨h1,h2⟩:=aj hi;clear R;obtain rfl:=aw h1;obtain⟨ap,cp,e,h4,h5⟩:=aod h3;exact i12 (λL=>ajH r sc (aa (aa (hd es)).a).a L) hq ((nF h2).symm▸e.symm▸Ev.afb ng.B (dn _ sc).1 hx (λK=>(nf _).CN h4 _ K _) h5 (λK=>rfl) λK=>rfl)
   ·exact i12 _ hq (amz ng dn x es np pos hx hs)
 ·obtain⟨hi,ym⟩:=fJ hn;obtain⟨hi,h3⟩:=aj hi;obtain⟨h1,h2⟩:=aj hi;clear hi R;obtain rfl:=aw h1;refine i12 (λL=>(r (hd es) sc L).1.bind sH) ym ?_;have zP:=hs;rw[nF h3]at zP⊢;clear ym hi h3 h1 hs;induction apY h2 with|mk k bp kp=>exact Ev.aen ng.sorted (dn _ sc).1 hx (jv zP)
theorem aev(o:HR)(y:HP)(es:Hn HR)(ap pos:J3)(hs:cT es=Hq)(hl:(ap.endLine==pos.line)=Hq):Ev Y w U n sc (.Call (.Attribute o y ap) es [] pos) (af2 c r sc o y es):=by
 refine Ev.at λL v hp=>?_;obtain⟨q,hq,hp⟩:=ao hp;obtain⟨hg,hp⟩:=fJ hp;obtain hz:∃B z,c.P y B=hb z:=by obtain⟨u,_,hp⟩:=ao hp;obtain⟨vs,_,hp⟩:=ao hp;revert hp;refine jl λ_ hp=>?_;obtain⟨z,hz⟩:=dI hp;exact CL _ z hz
 refine pT hz λB z hz=>?_;obtain⟨hg,h3⟩:=aj hg;obtain⟨h1,h2⟩:=aj hg;clear hg;obtain⟨e,t,rfl⟩:∃e t,es=e::t:=by
  clear hg;cases es with
  |nil=>cases h2
  |cons e t=>exact CL e t rfl
 refine i12 _ hp (Ev.ap3 (ng.P q hq y B z hz) (dn o sc).1 (gE dn sc (e::t) hs) (Io n) (λK=>(nf o).CN (cE h1) _ K _) (λK=>DP pos K hs (IE h3)) hl λK=>(nf e).star (cm hs).1 t K)
theorem ahr(o:HR)(y:HP)(es:Hn HR)(ap pos:J3)(hs:cT es=Hq)(hl:(ap.endLine==pos.line)=Hq):Ev Y w U n sc (.Call (.Attribute o y ap) es [] pos) (wM c r sc o y es):=by
 refine Ev.at λL v R=>?_;rcases fD R with⟨hk,hn⟩|⟨_,hn⟩
 ·obtain⟨h1,h2⟩:=aj hk;clear R;obtain rfl:=aw h1;obtain⟨sep,hk,Ay⟩:=ao hn;refine ew (za hk) λo1 o2=>?_;obtain⟨a,b,rfl⟩:=o1;have zP:=hs;rw[nF h2]at zP⊢;exact i12 _ Ay (Ev.join (dn _ sc).1 hl (jv zP))
 ·rcases fD hn with⟨hk,hp⟩|⟨_,hp⟩
  ·obtain⟨hk,h3⟩:=aj hk;obtain⟨h1,h2⟩:=aj hk;clear hk R;obtain rfl:=aw h1;have zP:=hs;rw[zl h2]at zP⊢;exact i12 _ hp (Ev.apO (dn o sc).1 (dn _ sc).1 (dn _ sc).1 hl (λK=>(nf o).CN (cE h3) _ K _) (zc zP))
  ·exact i12 _ hp (aev ng dn o y es ap pos hs hl)
theorem agl(f:HR)(es:Hn HR)(ks:Hn Ks)(pos:J3):Ev Y w U n sc (.Call f es ks pos) (iH c r sc f es ks pos):=by
 refine Ev.at λL v R=>?_;rcases fD R with⟨hk,hn⟩|⟨_,hn⟩
 ·obtain⟨hg,hn⟩:=fJ hn;obtain⟨h1,h2⟩:=aj hg;refine i12 _ hn ?_;obtain e:f=.Name (aa f).x (aa f).p:=dw (aw hk);have:=aeS ng dn (aa f).x es ks (aa f).p pos h1 h2;rwa[<-e]at this
 ·obtain⟨hg,hn⟩:=fJ hn;obtain⟨hk,hg⟩:=aj hg;obtain⟨hg,h3⟩:=aj hg;obtain⟨h1,h2⟩:=aj hg;refine i12 _ hn ?_;obtain e:f=.Attribute (aa f).a (aa f).x (aa f).p:=dw (aw hk);have:=ahr (sc:=sc) ng dn (aa f).a (aa f).x es (aa f).p pos h2 h3;rw[<-e]at this;exact(IC.mp h1).symm▸this
theorem afl(e:HR)(y:HP)(pos:J3):Ev Y w U n sc (.Attribute e y pos) (aj6 c r sc e y):=by
 refine Ev.at λL v R=>?_;obtain⟨ha,R⟩:=fJ R;obtain⟨u,hu,R⟩:=ao R;revert R;cases hc:c.S with
 |some q=>
  intro R;obtain⟨⟨mC,KC⟩,⟨mV,KV⟩,P⟩:=ng.S q hc;rcases fD R with⟨hk,hn⟩|⟨_,hn⟩
  ·obtain rfl:=aw hk;refine⟨_,?_,Ev.kU (C:=q.1) (Va:=q.2.1) KC P (dn e sc).1 (ny ha _ _)⟩;exact hu.symm▸hn
  ·refine⟨_,?_,Ev.attr (C:=q.1) (Va:=q.2.1) KC KV (dn e sc).1 (ny ha _ _)⟩;exact hu.symm▸hn
 |none=>intro R;obtain⟨q,hq,hn⟩:=ao R;obtain⟨mC,KC⟩:=ng.I q hq;refine⟨_,?_,Ev.j7 KC (dn e sc).1 (ny ha _ _)⟩;exact hu.symm▸hn
theorem agk(x:HP)(p:J3):Ev Y w U n sc (.Name x p) (ajs c sc x):=by
 refine Ev.at λL v R=>?_;rcases fD R with⟨hv,hn⟩|⟨_,hn⟩
 ·exact i12 _ hn (Ev.var hv)
 ·obtain⟨hg,hn⟩:=fJ hn;obtain⟨d,hd⟩:=dI hn;exact i12 (λ_=>hb (V.fix d .s)) rfl (Ev.ant (ng.K x d hd) hg)
omit dn ng in
theorem aee(k:QL)(a:HG)(p:J3):Ev Y w U n sc (.Constant k a p) (λ_=>agt k):=by
 cases k with
 |int i=>exact Ev.CJ
 |str s=>exact Ev.gd λhw=>Ev.apF hw
 |none=>exact Ev.aow
 |bool b=>exact Ev.an8
 |_=>exact Ev.nil
omit ng in
theorem aml(op:UnaryOp)(a:HR)(p:J3):Ev Y w U n sc (.UnaryOp op a p) (λL=>(r a sc L).1.bind λx=>F5 op x):=by
 cases op with
 |Not=>exact Ev.not (dn a sc).1
 |USub=>exact Ev.neg (dn a sc).1
 |_=>exact Ev.at λL v R=>by obtain⟨x,_,R⟩:=ao R;exact no R
omit dn ng in
theorem ak7{q:iK}{f:Cl}{t:Hn (HG×Cl)}:(∀p∈t,Ev Y w U n sc (bK p.1 q) (p.2 c r q sc))->t.lookup q.k=hb f->Ev Y w U n sc (bK q.k q) (f c r q sc):=by
 induction t with
 |nil=>intro _ e;exact no e
 |cons p t bX=>
  intro k e;rw[HK]at e;cases hk:q.k==p.1 with
  |true=>rw[hk]at e;exact(aw hk).symm▸(si e)▸k p (.head _)
  |false=>rw[hk]at e;exact bX (λz hz=>k z (.tail _ hz)) e
omit dn ng in
theorem all_cons{P:α->Prop}{a:α}{t:Hn α}(dn:P a)(k:∀p∈t,P p):∀p∈a::t,P p:=λp hp=>by
 rcases Hw.mp hp with rfl|hp
 ·exact dn
 ·exact k p hp
theorem agX(q:iK)(sc:IH):Ev Y w U n sc (.Dict q.oe q.es q.p) (ajl c r q sc):=Ev.gd λhg=>by
 obtain⟨hg,h4⟩:=aj hg;obtain⟨hg,h3⟩:=aj hg;obtain⟨h1,h2⟩:=aj hg;exact Ev.dict (ai9 dn q.oe q.es) h1 (aw h2) (λe=>by rw[e]at h3;cases h3) (IE h4)
theorem aqn(q:iK)(sc:IH):∀p∈xB,Ev Y w U n sc (bK p.1 q) (p.2 c r q sc):=
 all_cons (agk ng dn q.x q.p) (all_cons (aee q.co q.n q.p) (all_cons (ail dn q.a q.op q.b q.p) (all_cons (ahP dn q.a q.b q.p) (all_cons (agl ng dn q.a q.es q.ks q.p) (all_cons (ai3 dn q.a q.cs q.es q.p) (all_cons (aml dn q.un q.a q.p) (all_cons (Ev.bool (alI dn sc q.bo q.es)) (all_cons (Ev.ite (dn q.a sc).2 (dn q.b sc).1 (dn q.d sc).1)
  (all_cons (Ev.gd λhs=>Ev.list (gE dn sc q.es hs)) (all_cons (Ev.gd λhs=>Ev.tuple (gE dn sc q.es hs)) (all_cons (agX ng dn q sc) (all_cons (afM ng dn q.a q.gs q.sc q.p) (all_cons (afl ng dn q.a q.x q.p) λp hp=>nomatch hp)))))))))))))
theorem amV(q:iK)(sc:IH):Ev Y w U n sc (bK q.k q) (jE c r q sc):=by refine Ev.at λL v R=>?_;obtain⟨f,hf,R⟩:=ao R;exact i12 _ R (ak7 (aqn ng dn q sc) hf)
theorem an6(e:HR)(sc:IH)(hv:Ev Y w U n sc e (jE c r (aa e) sc)):Tr Y w U n sc e (λL=>jT r e (aa e) sc L (jE c r (aa e) sc L)):=by
 intro A Hz K ae X C L O s v Q E hs hr I R hQ;rcases fD R with⟨hk,hn⟩|⟨_,R⟩
 ·have:=ak0 (sc:=sc) dn (aa e).a (aa e).cs (aa e).es (aa e).p;rw[<-show e=.Compare (aa e).a (aa e).cs (aa e).es (aa e).p from dw (aw hk)]at this;exact this hs hr I hn hQ
 rcases fD R with⟨hk,hn⟩|⟨_,R⟩
 ·have:=Tr.all (pos:=(aa e).p) (alF dn sc (aa e).bo (aa e).es);rw[<-show e=.BoolOp (aa e).bo (aa e).es (aa e).p from dw (aw hk)]at this;exact this hs hr I hn hQ
 rcases fD R with⟨hk,hn⟩|⟨_,R⟩
 ·obtain he:e=.UnaryOp (aa e).un (aa e).a (aa e).p:=dw (aw hk);generalize(aa e).un=u at he hn;cases u with
  |Not=>have:=Tr.not (pos:=(aa e).p) (dn (aa e).a sc).2;rw[<-he]at this;exact this hs hr I hn hQ
  |_=>exact no hn
 ·obtain⟨ht,hn⟩:=fJ R;exact Tr.val hv ((nf e).tst (cE ht)) hs hr I hn hQ
end
theorem wg(G:vc Y w U n c):∀k,Dy Y w U n (J c k)
 |0=>λ_ _=>⟨Ev.nil,Tr.nil⟩
 |k+1=>λe sc=>by
  obtain hv:Ev Y w U n sc e (jE c (J c k) (aa e) sc):=by have:=amV G (wg G k) (aa e) sc;rwa[<-adY e]at this
  exact⟨hv,an6 G (wg G k) e sc hv⟩
variable{m:ar->Hp Out}
theorem S1.at(h:∀L v,m L=hb v->∃m',m' L=hb v/\S1 Y w U n sc st m'):S1 Y w U n sc st m:=by intro A Hz K ae X C L O s v Q E hs hr I R hQ;exact aQ (h L v R) λm' e' r=>r hs hr I e' hQ
theorem S1.gd{c:Ig}(h:c=Hq->S1 Y w U n sc st m):S1 Y w U n sc st (λL=>Mine.gd c (m L)):=by
 cases c with
 |false=>exact S1.dead
 |true=>exact h rfl
theorem S1.bif{m':ar->Hp Out}{c:Ig}(h:c=Hq->S1 Y w U n sc st m)(h':S1 Y w U n sc st m'):S1 Y w U n sc st (λL=>bif c then m L else m' L):=by
 cases c with
 |false=>exact h'
 |true=>exact h rfl
theorem S1.mQ{m':ar->Hp Out}(h:S1 Y w U n sc st m)(h':S1 Y w U n sc st m'):S1 Y w U n sc st (λL=>mQ (m L) (m' L)):=by
 intro A Hz K ae X C L O s v Q E hs hr I R hQ;rcases uH R with q|q
 ·exact h hs hr I q hQ
 ·exact h' hs hr I q hQ
noncomputable def xY(x:Ho):Ig:=match x with
 |.bool _=>Hq
 |.none=>Hq
 |_=>HH
theorem S1.anv{m:ar->Hp V}(h:Ev Y w U n sc e m)(hi:∀K:Ke,K.scope=sc->KJ K=HH)(iS:∀K:Ke,JU e Hu pos.line K=pure HH):S1 Y w U n sc (.Expr e pos) (λL=>(m L).bind λv=>Mine.gd (xY v.x) (hb (.next L))):=by
 intro A Hz K ae X C L O s r Q E hs hA I R hQ;obtain⟨v,hv,R⟩:=ao R;obtain⟨ht,R⟩:=fJ R;obtain rfl:=si R;refine LP (h hs hA I.toInF hv λu ay ah aL=>?_) (hi K hs) (iS K);have fin:=hQ O ay (I.grow ah) (Step.cN (ag ah));obtain⟨as,rd,_,_⟩:=aL;generalize v.x=x at ht rd;cases x with
 |bool b=>exact rd.bool_inv.symm▸fin
 |none=>exact rd.none_inv.symm▸fin
 |_=>cases ht
def ajy(x:HP)(m:ar->Hp V)(L:ar):Hp Out:=((L x).bind sz).bind λa=>(m L).bind λb=>(cD a.x).bind λi=>(cD b.x).map λj=>.next (L.set x (.val ⟨.int (i+j),.d⟩))
theorem S1.ahZ{m:ar->Hp V}(h:Ev Y w U n sc e m)(hv:aA sc x=Hq):S1 Y w U n sc (.AugAssign (.Name x p) .Add e pos) (ajy x m):=by
 intro A Hz K ae X C L O s r Q E hs hA I;refine ak λa ha=>ak λb aO=>ak λi hi R hQ=>?_;induction dI R with|mk j hj=>?_
 obtain⟨vv,e1,e2⟩:=ao ha;have fin:∀u,dK Y w Hz ae.heap (WW K C O) s.heap u a->wpAny (Iq Y w) A (Jf e K) (λv aM=>wpAny (Iq Y w) A (inplaceOp .Add u v) (λr dN=>wpAny (Iq Y w) A (Pn K x r) (λ_=>Q .next) E dN) E aM) E s:=by
  intro u ru;obtain⟨as,ra,_,_⟩:=ru;rw[bJ hi]at ra;induction ra.dR with|mk t=>?_
  refine h hs hA I.toInF aO λu2 ay ah aL=>?_;obtain⟨bs,rb,_,_⟩:=aL;rw[bJ hj]at rb;induction rb.dR with|mk t'=>?_
  refine PySem.AutoIntOps.iadd_0 ?_;obtain kk:=ab ah (aK ay (ay.toks+1));exact(I.grow kk).store (v:=.val ⟨.int (i+j),.d⟩) (by exact hs.symm▸hv) ⟨.inl rfl,dK.int⟩ λs' I' t=>hQ O s' I' ((Step.cN (ag kk)).trans t)
 obtain hv0:=hv;simp only[aA,HU,JA,Ik,JI]at hv;refine ew hv λhv hd=>wpAny_AugAssign_Name ?_;rcases hv with hv|hv
 ·exact aQ I.ns λm' yh hx=>aQ (hx x vv e1 (by rw[<-hs]at hv;exact hv)) λu hu rv=>Lo I.kind (by rw[<-hs]at hv;exact hv) yh hu (fin u (rv.rd e2))
 ·exact j8 (I.cell x vv e1 (by rw[<-hs]at hv;exact hv)) λc u hc hu rv=>MA I.kind (by rw[<-hs]at hv;exact hv) hc hu (fin u (rv.rd e2))
structure Mc where
 c:JC
 ow:HP->Ig
 rt:Ig
 r:JR
 sc:IH
structure tC(Y:IB)(w:Ja)(U:Iv)(n:HG)(M:Mc):Prop where
 G:vc Y w U n M.c
 h:Dy Y w U n M.r
 k:M.sc.kind=.function
variable{M:Mc}
theorem tC.iM(H:tC Y w U n M):∀K:Ke,K.scope=M.sc->KJ K=HH:=λK he=>by unfold KJ;refine he.symm▸H.k.symm▸?_;rfl
noncomputable abbrev Mc.eM(M:Mc)(e:HR)(L:ar):Hp V:=(M.r e M.sc L).1
noncomputable def Bh(f:HR->ar->Hp Ho):Hn (Hp HR)->Hn HR->ar->Hp (Hn (HP×Ho))
 |[],[],_=>hb []
 |some k::ks,e::es,L=>(zy k).bind λx=>(f e L).bind λa=>(Bh f ks es L).bind λq=>hb ((x,a)::q)
 |_,_,_=>Hu
noncomputable def Co(q:iK):Ig:=q.oe.all (·.isSome)&&q.oe.length==q.es.length&& !q.oe.isEmpty&&Ln q.oe.length 15
def yO(M:Mc)(e:HR)(L:ar):Hp Ho:=(DB M.sc e).bind λx=>gd (!(aa e).es.isEmpty) ((rW M.r M.sc (aa e).es L).bind λvs=>M.c.N x (vs.map (·.x)))
noncomputable def Au(M:Mc):HG->HR->ar->Hp Ho
 |0,_,_=>Hu
 |k+1,e,L=>
  bif(aa e).k==24&&(aa e).es.isEmpty then hb (.list [])else
  bif(aa e).k==6&&(aa e).oe.isEmpty&&(aa e).es.isEmpty then hb (.dict [])else
  bif(aa e).k==6 then gd (Co (aa e)) ((Bh (Au M k) (aa e).oe (aa e).es L).bind λq=>if(q.map (·.1)).Nodup/\q.length<=sizeLine then hb (dictOf q)else Hu)else
  bif vG M.sc e "list" 1 then(rW M.r M.sc (aa e).es L).bind qJ else
  mQ (yO M e L) ((M.eM e L).bind λv=>if flat v.x=Hq then hb v.x else Hu)
theorem l0.at{m:ar->Hp Ho}(h:∀L v,m L=hb v->∃m',m' L=hb v/\l0 Y w U n sc e m'):l0 Y w U n sc e m:=by intro A Hz K ae X C L O s v Q E hs hr I R hQ;exact aQ (h L v R) λm' e' r=>r hs hr I e' hQ
theorem ahU{f:HR->ar->Hp Ho}(hf:∀e,l0 Y w U n sc e (f e)):∀ks es,AX Y w U n sc ks es (Bh f ks es):=by
 intro ks;induction ks with
 |nil=>
  intro es;cases es with
  |nil=>exact AX.nil
  |cons=>intro A Hz K ae X C L O s v pos Q E hs hr I R hQ;exact no R
 |cons k ks ih=>
  intro es;cases k with
  |none=>intro A Hz K ae X C L O s v pos Q E hs hr I R hQ;exact no R
  |some k=>
   cases es with
   |nil=>intro A Hz K ae X C L O s v pos Q E hs hr I R hQ;exact no R
   |cons e es=>intro A Hz K ae X C L O s v pos Q E hs hr I R hQ;obtain⟨x,hx,Ay⟩:=ao R;refine ew (za hx) λo1 hw=>?_;obtain⟨a,b,rfl⟩:=o1;exact AX.cons (hf e) (ih es) hw hs hr I Ay hQ
theorem ahM(H:tC Y w U n M)(e:HR):l0 Y w U n M.sc e (yO M e):=by
 refine l0.at λL v R=>?_;obtain⟨x,hx,R⟩:=ao R;obtain⟨h0,R⟩:=fJ R;obtain⟨vs,h1,hy⟩:=ao R;obtain⟨C,ps,m',k,hi,g,hk,qx⟩:=H.G.N x _ v hy;refine ew (qx _ v hy) λh2 h3=>?_;obtain hc:=aoD hx;revert hc h0 h1;generalize(aa e).es=es;intro h0 h1 hc;clear qx hy hx R;induction hc with|mk p q hg hs=>?_
 clear e R;obtain⟨a,t,rfl⟩:∃a t,es=a::t:=by
  clear R;cases es with
  |nil=>cases h0
  |cons a t=>exact CL a t rfl
 refine⟨_,?_,l0.new hi g (gE H.h M.sc (a::t) hs) hk hg (λK=>(nf a).star (cm hs).1 t K) λK=>ig q K (cm hs).2⟩;exact bI h1<|iT (by rw[h3,Hr]) h2
theorem v8(H:tC Y w U n M):∀k e,l0 Y w U n M.sc e (Au M k e):=by
 intro k;induction k with
 |zero=>intro _;intro A Hz K ae X C L O s v Q E hs hr I R hQ;exact no R
 |succ k bX=>
  intro e;refine l0.at λL v R=>?_;rcases fD R with⟨hk,hn⟩|⟨_,R⟩
  ·obtain⟨h1,h2⟩:=aj hk;refine(show e=.List (aa e).es (aa e).p from dw (aw h1)).symm▸(IC.mp h2).symm▸?_;exact i12 (λ_=>hb (.list [])) hn l0.nil
  rcases fD R with⟨hk,hn⟩|⟨_,R⟩
  ·obtain⟨hk,h3⟩:=aj hk;obtain⟨h1,h2⟩:=aj hk;exact(show e=.Dict (aa e).oe (aa e).es (aa e).p from dw (aw h1)).symm▸(IC.mp h2).symm▸(IC.mp h3).symm▸i12 (λ_=>hb (.dict [])) hn l0.emp
  rcases fD R with⟨h1,hn⟩|⟨_,R⟩
  ·obtain⟨hg,hn⟩:=fJ hn;obtain⟨hg,g4⟩:=aj hg;obtain⟨hg,g3⟩:=aj hg;obtain⟨g1,g2⟩:=aj hg;refine i12 (λL=>(Bh (Au M k) (aa e).oe (aa e).es L).bind λq=>if(q.map (·.1)).Nodup/\q.length<=sizeLine then hb (dictOf q)else Hu) hn ?_;have:=l0.dict (pos:=(aa e).p) (ahU bX (aa e).oe (aa e).es) g1 (aw g2) (λe=>by rw[e]at g3;cases g3) (IE g4);rwa[<-show e=.Dict (aa e).oe (aa e).es (aa e).p from dw (aw h1)]at this
  rcases fD R with⟨h1,hn⟩|⟨_,R⟩
  ·obtain⟨⟨p,q,he,hx,ha⟩,_⟩:=Ce h1;refine i12 (λL=>(rW M.r M.sc (aa e).es L).bind qJ) hn ?_;have:=l0.list (np:=p) (pos:=q) hx H.G.B.list (gE H.h M.sc (aa e).es ha) λK=>ig q K ha;rwa[<-show e=_ from he]at this
  rcases uH R with hn|hn
  ·exact i12 _ hn (ahM H e)
  ·exact i12 _ hn (l0.flat (H.h e M.sc).1)
noncomputable def j0:HG->HR->Hp HP
 |0,_=>Hu
 |k+1,e=>bif(aa e).k==23 then hb (aa e).x else bif(aa e).k==21 then gd (!gA 26 (aa e).b) (j0 k (aa e).a)else gd ((aa e).k==20&&Ep (aa e).a) (j0 k (aa e).a)
noncomputable def uh(M:Mc):HG->HR->ar->Ho->Hp (Ho×(Ho->Ho))
 |0,_,_,_=>Hu
 |k+1,e,L,d=>bif(aa e).k==23 then hb (d,id)else
  bif(aa e).k==21 then(uh M k (aa e).a L d).bind λp=>(M.eM (aa e).b L).bind λq=>(place p.1 q.x).map λz=>(z.1,λy=>p.2 (z.2 y))else
  M.c.S.bind λs=>(uh M k (aa e).a L d).bind λp=>(tZ s.1 s.2.1 (aa e).x p.1).map λq=>(q.1,λz=>p.2 (q.2 z))
theorem Pa.at{m:ar->Ho->Hp (Ho×(Ho->Ho))}(h:∀L d v,m L d=hb v->∃m',m' L d=hb v/\Pa Y w U n sc x e m'):Pa Y w U n sc x e m:=by intro A Hz K ae X C L O s ro d y up Q E hs hr I hx R hQ;exact aQ (h L d _ R) λm' e' r=>r hs hr I hx e' hQ
theorem v7(H:tC Y w U n M)(hv:aA M.sc x=Hq):∀k e,j0 k e=hb x->Pa Y w U n M.sc x e (uh M k e):=by
 intro k;induction k with
 |zero=>intro _ q;exact no q
 |succ k bX=>
  intro e q;refine Pa.at λL d v R=>?_;rcases fD q with⟨hk,q⟩|⟨hk,q⟩
  ·change(bif _ then _ else _)=_ at R;rw[hk,Ku]at R;refine(show e=.Name (aa e).x (aa e).p from dw (aw hk)).symm▸(si q).symm▸?_;exact i12 (λ_ d=>hb (d,id)) R (Pa.name hv)
  rcases fD q with⟨CX,q⟩|⟨CX,q⟩
  ·obtain⟨hi,q⟩:=fJ q;change(bif _ then _ else _)=_ at R;rw[hk,Kg,CX,Ku]at R;have:=Pa.idx (pos:=(aa e).p) (bX (aa e).a q) (H.h (aa e).b M.sc).1 ((nf (aa e).b).sub (cE hi));rw[<-show e=.Subscript (aa e).a (aa e).b (aa e).p from dw (aw CX)]at this;exact i12 _ R this
  ·obtain⟨hg,q⟩:=fJ q;obtain⟨hk3,ha⟩:=aj hg;change(bif _ then _ else _)=_ at R;rw[hk,Kg,CX,Kg]at R;obtain⟨s,hs,R⟩:=ao R;obtain⟨mC,KC⟩:=(H.G.S s hs).C;have:=Pa.attr (Va:=s.2.1) KC (bX (aa e).a q) (ny ha (aa e).x (aa e).p);rw[<-show e=.Attribute (aa e).a (aa e).x (aa e).p from dw (aw hk3)]at this;exact i12 _ R this
def j5(e:HR):Ig:= !(gA 8 e||gA 9 e||gA 10 e)
def tf(M:Mc)(q:iK):Ig:=(aa q.a).k==20&&(aa (aa q.a).a).k==23&&M.ow (aa q.a).x&&(q.ks.isEmpty&&q.es.length==1&&cT q.es&&((aa q.a).p.endLine==q.p.line)&&aA M.sc (aa (aa q.a).a).x)
def BK(M:Mc)(q:iK)(k:ar->Ho->Hp Out)(L:ar):Hp Out:=M.c.S.bind λs=>uN s.1 s.2.1 (aa (aa q.a).a).x (rW M.r M.sc q.es) (M.c.R (aa q.a).x) k L
inductive MrI(M:Mc)(q:iK):Prop
 |mk (np:J3) (ha:q.a=.Attribute (.Name (aa (aa q.a).a).x np) (aa q.a).x (aa q.a).p) (hk:q.ks=[]) (he:q.es=[hd q.es]) (hs:cT [hd q.es]=Hq) (hl:((aa q.a).p.endLine==q.p.line)=Hq) (hv:aA M.sc (aa (aa q.a).a).x=Hq):MrI M q
theorem mrE{q:iK}(h:tf M q=Hq):MrI M q:=by obtain⟨h,g⟩:=aj h;obtain⟨h,_⟩:=aj h;obtain⟨h1,h2⟩:=aj h;obtain⟨g,g5⟩:=aj g;obtain⟨g,g4⟩:=aj g;obtain⟨g,g3⟩:=aj g;obtain⟨g1,g2⟩:=aj g;obtain e1:q.a=.Attribute (aa q.a).a (aa q.a).x (aa q.a).p:=dw (aw h1);refine⟨(aa (aa q.a).a).p,e1.trans (((dw (aw h2)))▸rfl),IC.mp g1,nF g2,?_,g4,g5⟩;exact(nF g2)▸g3
section
variable(bF:tC Y w U n M)
include bF
theorem mrM{q:iK}{k:ar->Ho->Hp Out}{o:Out}(h:BK M q k L=hb o):∃(s:Hv×Hv×Hv×Hn Ho)(p0 p1:HP),uN s.1 s.2.1 (aa (aa q.a).a).x (rW M.r M.sc q.es) (M.c.R (aa q.a).x) k L=hb o/\pD Y w U n s.1 (aa q.a).x p0 p1 (M.c.R (aa q.a).x):=by
 obtain⟨s,hs,h⟩:=ao h;have h':=h;obtain⟨d,_,h⟩:=ao h;obtain⟨vs,_,h⟩:=ao h
 match vs with
 |[]=>exact no h
 |_::_::_=>exact no h
 |[v]=>revert h;refine jl λ_ h=>?_;obtain⟨z,hz,_⟩:=ao h;obtain⟨p0,p1,hM⟩:=bF.G.R s hs _ _ z hz;exact Ar s p0 p1 h' hM
theorem afv(q:iK)(R:tf M q=Hq)(pos:J3):S1 Y w U n M.sc (.Expr (.Call q.a q.es q.ks q.p) pos) (BK M q λL z=>if isNone z=Hq then hb (.next L)else Hu):=by refine S1.at λL v h=>uR (mrM bF h) λs p0 p1 h hM=>?_;obtain⟨np,ha,hk,he,hs,hl,hv⟩:=mrE R;exact i12 _ h<|hk.symm▸he.symm▸ha.symm▸S1.aoq hM (gE bF.h M.sc _ hs) hv (Io n) (λK=>rfl) (λK=>DP _ K hs (IE rfl)) hl (jv hs) bF.iM
theorem afG(q:iK)(R:tf M q=Hq)(x:HP)(hx:aA M.sc x=Hq)(p pos:J3):S1 Y w U n M.sc (.Assign [.Name x p] (.Call q.a q.es q.ks q.p) pos) (BK M q λL z=>hb (.next (L.set x (.val ⟨z,.d⟩)))):=by refine S1.at λL v h=>uR (mrM bF h) λs p0 p1 h hM=>?_;obtain⟨np,ha,hk,he,hs,hl,hv⟩:=mrE R;exact i12 _ h<|hk.symm▸he.symm▸ha.symm▸S1.aok hM (gE bF.h M.sc _ hs) hv hx (Io n) (λK=>rfl) (λK=>DP _ K hs (IE rfl)) hl (jv hs) λK _=>rfl
end
def ajF(M:Mc)(q:iK)(L:ar):Hp (Hn Ho):=(nm q.a).bind λx=>gd (aY M.sc x&&cT q.es&&q.ks.isEmpty&&(bf x).isNone) ((rW M.r M.sc q.es L).bind λvs=>(M.c.F x (vs.map (·.x))).bind λy=>match y with|.list ys=>hb ys|_=>Hu)
def anE(x:HP)(L:ar)(ys:Hn Ho):Hp Out:=if bZ ys=Hq then hb (.next (L.set x (.own (.lst ys))))else Hu
def aj9(M:Mc)(x:HP)(q:iK)(L:ar):Hp Out:=(nm q.a).bind λg=>gd (aY M.sc g&&q.ks.isEmpty) ((M.c.T g).map λd=>.next (L.set x (.own (.tree Hu d))))
def mG(M:Mc)(x:HP)(e:HR)(q:iK)(L:ar):Hp Out:=
 bif q.es.isEmpty then aj9 M x q L else bif tf M q then BK M q (λL z=>hb (.next (L.set x (.val ⟨z,.d⟩)))) L else bif M.ow x then(ajF M q L).bind (anE x L)else(M.eM e L).bind (uz L x)
def lx(M:Mc)(x:HP)(e:HR)(q:iK)(L:ar):Hp Out:=
 bif q.k==24 then gd (cT q.es) ((rW M.r M.sc q.es L).bind λvs=>if vs.length<=sizeLine/\lL vs=.d then hb (.next (L.set x (.own (.lst (vs.map (·.x))))))else Hu)else
 bif q.k==6&&q.oe.isEmpty&&q.es.isEmpty then hb (.next (L.set x (.own (bif M.ow x then .lq []else .tree Hu (.dict [])))))else
 bif q.k==8 then(kY M.r M.sc q.a q.gs q.sc L).map λys=>.next (L.set x (.val ⟨.list ys,.d⟩))else
 bif q.k==16 then mG M x e q L else gd (j5 e) ((M.eM e L).bind (uz L x))
section
variable(bF:tC Y w U n M)
include bF
theorem aoy(hv:aA M.sc x=Hq)(hk:j5 e=Hq):S1 Y w U n M.sc (.Assign [.Name x p] e pos) (λL=>(M.eM e L).bind (uz L x)):=
 S1.assign (bF.h e M.sc).1 hv λK _=>(nf e).Cs (cE hk) _ _ K
theorem afn(x:HP)(q:iK)(p pos:J3)(hv:aA M.sc x=Hq):S1 Y w U n M.sc (.Assign [.Name x p] (.Call q.a q.es q.ks q.p) pos) (mG M x (.Call q.a q.es q.ks q.p) q):=by
 refine S1.bif (λhe=>?_) (S1.bif (λR=>afG bF q R x hv p pos) (S1.bif (λ_=>?_) (aoy bF hv rfl)))
 ·refine(IC.mp he).symm▸S1.at λL v R=>?_;obtain⟨g,hg,R⟩:=ao R;obtain⟨hx,R⟩:=fJ R;obtain⟨hx,hk⟩:=aj hx;obtain⟨d,hd⟩:=dI R;obtain⟨hT,hN⟩:=bF.G.T g d hd;have:=s9 hg;refine(IC.mp hk).symm▸?_;revert this;generalize q.a=a;intro this;induction this with|mk np=>exact i12 _ rfl (S1.ajj hT hN hv hx (Io n) (λK=>rfl) λK _=>rfl)
 ·refine S1.at λL v R=>?_;obtain⟨ys,h1,Ay⟩:=ao R;obtain h1':=h1;obtain⟨g,hg,hn⟩:=ao h1;obtain⟨hx,hn⟩:=fJ hn;obtain⟨hx,h3⟩:=aj hx;obtain⟨hx,hk⟩:=aj hx;obtain⟨hx,hs⟩:=aj hx;obtain⟨vs,e1,e2⟩:=ao hn;obtain⟨y,e3,e4⟩:=ao e2;have:=s9 hg;refine(IC.mp hk).symm▸?_;revert this;generalize q.a=a;intro this;induction this with|mk np=>?_
  refine i12 _ ?_ (S1.apD (BO.def (bF.G.F g _ y e3) (gE bF.h M.sc q.es hs) hx (Io n) λK=>ig q.p K hs) hv λK _=>rfl);exact(HL (λo:Hp (Hn Ho)=>o.bind (anE x L)) hn).trans Ay
theorem agN(x:HP)(q:iK)(p pos:J3)(hv:aA M.sc x=Hq):S1 Y w U n M.sc (.Assign [.Name x p] (.ListComp q.a q.gs q.sc q.p) pos) (λL=>(kY M.r M.sc q.a q.gs q.sc L).map λys=>.next (L.set x (.val ⟨.list ys,.d⟩))):=by
 refine S1.at λL v R=>?_;obtain⟨ys,hn⟩:=dI R;clear R;obtain⟨t,it,jk,eg,h1,h2,h3,h4,h5,h6⟩:=yK bF.G bF.h hn;refine eg.symm▸?_;cases iS:sK M.sc q.sc x p.line q.p.line with
 |true=>exact i12 _ (HL (Jo λys=>Out.next (L.set x (.val ⟨.list ys,.d⟩))) h6) (S1.acy h1 h2 h3 h4 h5 iS)
 |false=>exact i12 _ (HL (Jo λys=>Out.next (L.set x (.val ⟨.list ys,.d⟩))) h6) (S1.acn h1 h2 h3 h4 h5 iS bF.k hv)
theorem agp(x:HP)(e:HR)(p pos:J3)(hv:aA M.sc x=Hq):S1 Y w U n M.sc (.Assign [.Name x p] e pos) (lx M x e (aa e)):=by
 refine S1.bif (λhk=>?_) (S1.bif (λhk=>?_) (S1.bif (λhk=>?_) (S1.bif (λhk=>?_) (S1.gd λhk=>aoy bF hv hk))))
 ·have:=S1.gd λhs=>S1.ajc (lp:=(aa e).p) (p:=p) (pos:=pos) (gE bF.h M.sc (aa e).es hs) hv;rwa[<-show e=.List (aa e).es (aa e).p from dw (aw hk)]at this
 ·obtain⟨hk,h3⟩:=aj hk;obtain⟨h1,h2⟩:=aj hk;refine(show e=.Dict (aa e).oe (aa e).es (aa e).p from dw (aw h1)).symm▸(IC.mp h2).symm▸(IC.mp h3).symm▸?_;cases M.ow x with
  |false=>exact S1.apN l0.emp hv λK _=>rfl
  |true=>exact S1.ownDict hv
 ·have:=agN bF x (aa e) p pos hv;rwa[<-show e=.ListComp (aa e).a (aa e).gs (aa e).sc (aa e).p from dw (aw hk)]at this
 ·have:=afn bF x (aa e) p pos hv;rwa[<-show e=.Call (aa e).a (aa e).es (aa e).ks (aa e).p from dw (aw hk)]at this
end
def oF(pe:HR):Hp HP:=gd ((aa pe).k==20&&(aa pe).x=="held") (nm (aa pe).a)
inductive HdI(x:HP):HR->Prop
 |mk (p t:J3):HdI x (.Attribute (.Name x p) "held" t)
theorem Gs(h:oF pe=hb x):HdI x pe:=by obtain⟨h,h3⟩:=fJ h;obtain⟨h1,h2⟩:=aj h;obtain e:pe=.Attribute (aa pe).a (aa pe).x (aa pe).p:=dw (aw h1);obtain e3:=s9 h3;refine e.symm▸(aw h2).symm▸?_;revert e3;generalize(aa pe).a=a;intro e3;induction e3 with|mk p=>exact⟨p,_⟩
def zj(M:Mc)(x:HP)(i e:HR)(L:ar):Hp Out:=M.c.S.bind λs=>gd (aA M.sc x) (
 bif(aa e).k==21&&(oF (aa e).a==hb x)&& !gA 26 (aa e).b then g9 s.1 s.2.1 x (M.eM i) (M.eM (aa e).b) L else gd (j5 e) (jb s.1 s.2.1 x (M.eM i) (Au M 5 e) L))
def ajD(M:Mc)(pe i e:HR)(L:ar):Hp Out:=(nm pe).bind λx=>gd (aA M.sc x&&j5 e) (bif(aa i).k==26&&(aa i).o3.isNone then(M.eM e L).bind λv=>(u9 M.r M.sc (aa i).o1 L).bind λa=>(u9 M.r M.sc (aa i).o2 L).bind λb=>(qP (L x) v a b).map λz=>.next (L.set x z)else(M.eM e L).bind λv=>(M.eM i L).bind λk=>(uG (L x) v k).map λz=>.next (L.set x z))
def Fu(M:Mc)(pe:HR):Ig:=match nm pe with
 |some x=>M.ow x
 |none=>HH
def te(M:Mc)(pe i e:HR)(L:ar):Hp Out:=match oF pe with
 |some x=>zj M x i e L
 |none=>bif Fu M pe then ajD M pe i e L else(j0 9 pe).bind λx=>gd (aA M.sc x) (bif(aa e).k==8 then uI x (uh M 9 pe) (M.eM i) (kY M.r M.sc (aa e).a (aa e).gs (aa e).sc) L else gd (j5 e) (AV x (uh M 9 pe) (M.eM i) (M.eM e) L))
def wJ(M:Mc)(o:HR)(y:HP)(e:HR)(L:ar):Hp Out:=M.c.I.bind λs=>(nm o).bind λx=>gd (aA M.sc x&&iL s.2 y&&wf (.str y)&&j5 e) (zh s.1 x y (Au M 5 e) L)
section
variable(bF:tC Y w U n M)
include bF
theorem afC(pe i e:HR)(p pos:J3):S1 Y w U n M.sc (.Assign [.Subscript pe i p] e pos) (ajD M pe i e):=by
 refine S1.at λL v R=>?_;obtain⟨x,hx,R⟩:=ao R;obtain⟨hg,R⟩:=fJ R;obtain⟨h1,h2⟩:=aj hg;replace hx:=s9 hx;rcases fD R with⟨hk,hn⟩|⟨_,hn⟩
 ·obtain⟨h3,h4⟩:=aj hk;refine i12 (λL=>(M.eM e L).bind λv=>(u9 M.r M.sc (aa i).o1 L).bind λa=>(u9 M.r M.sc (aa i).o2 L).bind λb=>(qP (L x) v a b).map λz=>.next (L.set x z)) hn ((show i=.Slice (aa i).o1 (aa i).o2 (aa i).o3 (aa i).p from dw (aw h3)).symm▸(Jc.mp h4).symm▸?_);induction hx with|mk np=>exact S1.aoJ (m0 bF.h M.sc _) (m0 bF.h M.sc _) (bF.h e M.sc).1 h1 λK=>(nf e).Cs (cE h2) _ _ K
 ·refine i12 (λL=>(M.eM e L).bind λv=>(M.eM i L).bind λk=>(uG (L x) v k).map λz=>.next (L.set x z)) hn ?_;induction hx with|mk np=>exact S1.alh (bF.h i M.sc).1 (bF.h e M.sc).1 h1 λK=>(nf e).Cs (cE h2) _ _ K
theorem aiw(pe i e:HR)(p pos:J3):S1 Y w U n M.sc (.Assign [.Subscript pe i p] e pos) (te M pe i e):=by
 unfold te;cases hh:oF pe with
 |some x=>
  refine S1.at λL v R=>?_;obtain⟨s,hs,R⟩:=ao R;obtain⟨hv,R⟩:=fJ R;refine dA ((bF.G.S s hs).C) λmC KC=>?_;obtain hd1:=Gs hh;rcases fD R with⟨hk,hn⟩|⟨_,hn⟩
  ·obtain⟨hk,h3⟩:=aj hk;obtain⟨h1,h2⟩:=aj hk;obtain Hi:=Gs (aw h2);refine i12 _ hn<|(show e=.Subscript (aa e).a (aa e).b (aa e).p from dw (aw h1)).symm▸?_;revert Hi;generalize(aa e).a=a;intro Hi;clear hh;induction hd1 with|mk p1 t1=>?_
   induction Hi with|mk p2 t2=>?_
   exact S1.ahm KC (bF.h i M.sc).1 (bF.h _ M.sc).1 hv ((nf _).sub (cE h3)) λK=>rfl
  ·obtain⟨hk,hn⟩:=fJ hn;refine i12 _ hn ?_;clear hh;induction hd1 with|mk p1 t1=>?_
   exact S1.aji KC (bF.h i M.sc).1 (v8 bF 5 e) hv λK=>(nf e).Cs (cE hk) _ _ K
 |none=>
  refine S1.bif (λ_=>afC bF pe i e p pos) (S1.at λL v R=>?_);obtain⟨x,hr,R⟩:=ao R;obtain⟨hv,R⟩:=fJ R;obtain P:=v7 bF hv 9 pe hr;rcases fD R with⟨hk,hn⟩|⟨_,hn⟩
  ·have D9:=hn;obtain⟨d,_,hn⟩:=ao hn;obtain⟨ys,hy,_⟩:=ao hn;obtain⟨t,it,jk,eg,h1,h2,h3,h4,h5,h6⟩:=yK bF.G bF.h hy;refine(show e=.ListComp (aa e).a (aa e).gs (aa e).sc (aa e).p from dw (aw hk)).symm▸eg.symm▸i12 _ ?_ (S1.ang P (bF.h i M.sc).1 (BO.comp h1 h2 h3 h4 h5) λK=>rfl);unfold uI at D9⊢;exact h6.symm▸hy▸D9
  ·obtain⟨hk,hn⟩:=fJ hn;exact i12 _ hn (S1.apS P (bF.h i M.sc).1 (bF.h e M.sc).1 λK=>(nf e).Cs (cE hk) _ _ K)
theorem afs(o:HR)(y:HP)(e:HR)(tp pos:J3):S1 Y w U n M.sc (.Assign [.Attribute o y tp] e pos) (wJ M o y e):=by refine S1.at λL v R=>?_;obtain⟨s,hs,R⟩:=ao R;obtain⟨x,hx,R⟩:=ao R;obtain⟨hg,R⟩:=fJ R;obtain⟨hg,h4⟩:=aj hg;obtain⟨hg,h3⟩:=aj hg;obtain⟨h1,h2⟩:=aj hg;obtain⟨mC,KC⟩:=bF.G.I s hs;refine i12 _ R ?_;induction s9 hx with|mk p=>exact S1.setAttr KC (v8 bF 5 e) (th h2) h3 h1 λK=>(nf e).Cs (cE h4) _ _ K
end
def pQ(M:Mc)(t e:HR)(L:ar):Hp Out:=
 bif(aa t).k==23 then gd (aA M.sc (aa t).x) (lx M (aa t).x e (aa e) L)else
 bif(aa t).k==25 then gd (!gA 25 e&&j5 e) ((M.eM e L).bind λv=>(pJ (aA M.sc) t v L).map .next)else
 bif(aa t).k==21 then te M (aa t).a (aa t).b e L else gd ((aa t).k==20) (wJ M (aa t).a (aa t).x e L)
theorem jSw(he:gA 25 e=HH)(K:Ke):swappedStores [.Tuple es k p] e K=pure Hu:=by cases e<;>first|rfl|cases he
theorem aib(H:tC Y w U n M)(t e:HR)(pos:J3):S1 Y w U n M.sc (.Assign [t] e pos) (pQ M t e):=by
 refine S1.bif (λhk=>S1.gd λhv=>?_) (S1.bif (λhk=>S1.gd λhg=>?_) (S1.bif (λhk=>?_) (S1.gd λhk=>?_)))
 ·have:=agp H (aa t).x e (aa t).p pos hv;rwa[<-show t=.Name (aa t).x (aa t).p from dw (aw hk)]at this
 ·obtain⟨h1,h2⟩:=aj hg;obtain ht:=dw (aw hk);refine S1.afg (H.h e M.sc).1 (ahe _) (λK _=>?_) (λK=>?_) λK=>?_
  ·exact ht.symm▸show JU e (hb (.Tuple (aa t).es (aa t).n (aa t).p)) pos.line K=pure HH from(nf e).Cs (cE h2) _ _ K
  ·exact ht.symm▸jSw (cE h1) K
  ·refine ht.symm▸?_;rfl
 ·have:=aiw H (aa t).a (aa t).b e (aa t).p pos;rwa[<-show t=.Subscript (aa t).a (aa t).b (aa t).p from dw (aw hk)]at this
 ·have:=afs H (aa t).a (aa t).x e (aa t).p pos;rwa[<-show t=.Attribute (aa t).a (aa t).x (aa t).p from dw (aw hk)]at this
noncomputable def zr(x:HP)(m:ar->Hp V)(L:ar):Hp Out:=match L x with
 |some (.own (.lst B))=>(m L).bind λv=>if v.fl=.d/\B.length+1<=sizeLine then hb (.next (L.set x (.own (.lst (B++[v.x])))))else Hu
 |_=>Hu
noncomputable def zo(x:HP)(m:ar->Hp V)(L:ar):Hp Out:=match L x with
 |some (.own (.lst B))=>(m L).bind λv=>(match v.x with|.list ys=>if v.fl=.d/\B.length+ys.length<=sizeLine then hb (.next (L.set x (.own (.lst (B++ys)))))else Hu|_=>Hu)
 |_=>Hu
def ajI(M:Mc)(pe:HR)(y:HP)(a:HR)(L:ar):Hp Out:=(nm pe).bind λx=>gd (aA M.sc x) (bif y=="append"then zr x (M.eM a) L else gd (y=="extend") (zo x (M.eM a) L))
def Bc(M:Mc)(pe:HR)(y:HP)(a:HR)(L:ar):Hp Out:=(j0 9 pe).bind λx=>gd (aA M.sc x) (
 bif y=="append"&&(aa a).k==24 then gd (cT (aa a).es) (rn x (uh M 9 pe) (rW M.r M.sc (aa a).es) L)else
 bif y=="append"then qp x (uh M 9 pe) (M.eM a) L else bif y=="extend"then qm x (uh M 9 pe) (M.eM a) L else gd (y=="pop") (AH x (uh M 9 pe) (M.eM a) L))
def apW(M:Mc)(e:HR)(q:iK)(L:ar):Hp Out:=gd (q.ks.isEmpty&&cT q.es) (
 bif(aa q.a).k==20 then gd (q.es.length==1&&((aa q.a).p.endLine==q.p.line)&& !gA 16 (aa q.a).a) (mQ (ajI M (aa q.a).a (aa q.a).x (hd q.es) L) (Bc M (aa q.a).a (aa q.a).x (hd q.es) L))else
 bif q.es.length==3 then(nm q.a).bind λg=>(nm (sd q.es)).bind λx=>gd (aY M.sc g&&aA M.sc x) (sG x (M.eM (hd q.es)) (M.eM (sd q.es.tail)) (M.c.M g) L)else(M.eM e L).bind λv=>gd (xY v.x) (hb (.next L)))
def jEx(M:Mc)(e:HR)(q:iK)(L:ar):Hp Out:=gd (q.k==16) (bif tf M q then BK M q (λL z=>if isNone z=Hq then hb (.next L)else Hu) L else apW M e q L)
theorem apx(h:(es.length==3)=Hq):es=[hd es,sd es,sd es.tail]:=by refine pT (IY (aw h)) λa t o1=>?_;subst o1;refine pT (IY (Jz (aw h))) λb t o1=>?_;subst o1;refine dA (Jp.mp (Jz (Jz (aw h)))) λd o1=>?_;subst o1;rfl
section
variable(bF:tC Y w U n M)
include bF
theorem afA(pe:HR)(y:HP)(a:HR)(ap cp pos:J3)(hs:cT [a]=Hq)(hl:(ap.endLine==cp.line)=Hq):S1 Y w U n M.sc (.Expr (.Call (.Attribute pe y ap) [a] [] cp) pos) (ajI M pe y a):=by
 refine S1.at λL v R=>?_;obtain⟨x,hx,R⟩:=ao R;obtain⟨hv,R⟩:=fJ R;obtain hx:=s9 hx;rcases fD R with⟨hy,hn⟩|⟨_,hn⟩
 ·clear R;obtain rfl:=aw hy;refine i12 _ hn ?_;clear R;induction hx with|mk p=>exact S1.append (bF.h a M.sc).1 hv (jv hs) hl bF.iM
 ·obtain⟨hy,ym⟩:=fJ hn;clear R;obtain rfl:=aw hy;refine i12 _ ym ?_;clear ym hy R;induction hx with|mk p=>exact S1.extend (bF.h a M.sc).1 hv (jv hs) hl bF.iM
theorem ahH(pe:HR)(y:HP)(a:HR)(ap cp pos:J3)(hs:cT [a]=Hq)(hl:(ap.endLine==cp.line)=Hq)(hc:gA 16 pe=HH):S1 Y w U n M.sc (.Expr (.Call (.Attribute pe y ap) [a] [] cp) pos) (Bc M pe y a):=by
 refine S1.at λL v R=>?_;obtain⟨x,hr,R⟩:=ao R;obtain⟨hv,R⟩:=fJ R;have P:=v7 bF hv 9 pe hr;rcases fD R with⟨hy,hn⟩|⟨_,R⟩
 ·obtain⟨h1,h2⟩:=aj hy;clear hv hr;obtain rfl:=aw h1;obtain⟨yC,hn⟩:=fJ hn;refine i12 _ hn ?_;obtain he:=dw (aw h2);generalize aa a=q at he yC;clear h2 h1;subst he;exact S1.agh P (gE bF.h M.sc q.es yC) (jv hs) hl (λK=>(nf pe).CN hc _ K _) bF.iM
 rcases fD R with⟨hy,hn⟩|⟨_,R⟩
 ·clear hv hr;obtain rfl:=aw hy;exact i12 _ hn (S1.aic P (bF.h a M.sc).1 (jv hs) hl (λK=>(nf pe).CN hc _ K _) bF.iM)
 rcases fD R with⟨hy,hn⟩|⟨_,R⟩
 ·clear hv hr;obtain rfl:=aw hy;exact i12 _ hn (S1.ahE P (bF.h a M.sc).1 (jv hs) hl (λK=>(nf pe).CN hc _ K _) bF.iM)
 ·obtain⟨hy,ym⟩:=fJ R;clear hv hr R;obtain rfl:=aw hy;exact i12 _ ym (S1.ap2 P (bF.h a M.sc).1 (jv hs) hl (λK=>(nf pe).CN hc _ K _) bF.iM)
theorem agY{e1 e3:HR}(ha:Eg AB s6)(h2:Eg x e2)(hg:aY M.sc AB=Hq)(hv:aA M.sc x=Hq)(hs:cT [e1,e2,e3]=Hq):S1 Y w U n M.sc (.Expr (.Call s6 [e1,e2,e3] [] cp) pos) (sG x (M.eM e1) (M.eM e3) (M.c.M AB)):=by
 refine S1.at λL v hn=>?_;have D9:=hn;obtain⟨d,_,hn⟩:=ao hn;obtain⟨v1,_,hn⟩:=ao hn;obtain⟨v3,_,hn⟩:=ao hn;revert hn;refine jl λ_ hn=>?_;obtain⟨d',hn1⟩:=dI hn;obtain⟨d2,hM,_⟩:=ao hn1;obtain⟨p1,px,p3,hD,gu⟩:=bF.G.M AB _ _ hM;induction ha with|mk np=>?_
 induction h2 with|mk xp=>?_
 exact i12 _ D9 (S1.amQ hD (bF.h e1 M.sc).1 (bF.h e3 M.sc).1 hv hg (Io n) gu (λK=>(nf e1).star (cm hs).1 _ K) (λK=>rfl) (λK=>(nf e3).star (cm (cm (cm hs).2).2).1 _ K) (λK=>ig cp K hs) bF.iM)
theorem amC(e:HR)(pos:J3):S1 Y w U n M.sc (.Expr e pos) (jEx M e (aa e)):=by
 refine S1.gd λhk=>?_;have he:e=.Call (aa e).a (aa e).es (aa e).ks (aa e).p:=dw (aw hk);refine S1.bif (λR=>?_) (S1.gd λhg=>?_)
 ·have:=afv bF (aa e) R pos;rwa[<-he]at this
 obtain⟨h1,h2⟩:=aj hg;rw[IC.mp h1]at he;refine S1.bif (λha=>S1.gd λhg=>?_) (S1.bif (λhl=>?_) (S1.anv (bF.h e M.sc).1 bF.iM λK=>by refine he.symm▸?_;rfl))
 ·obtain⟨hg,h5⟩:=aj hg;obtain⟨h3,h4⟩:=aj hg;obtain ea:(aa e).a=.Attribute (aa (aa e).a).a (aa (aa e).a).x (aa (aa e).a).p:=dw (aw ha);rw[nF h3]at he h2;obtain t:=S1.mQ (afA bF (aa (aa e).a).a (aa (aa e).a).x (hd (aa e).es) (aa (aa e).a).p (aa e).p pos h2 h4) (ahH bF (aa (aa e).a).a (aa (aa e).a).x (hd (aa e).es) (aa (aa e).a).p (aa e).p pos h2 h4 (cE h5));rwa[<-ea,<-he]at t
 ·refine S1.at λL v R=>?_;obtain⟨g,hx,R⟩:=ao R;obtain⟨x,hy,R⟩:=ao R;obtain⟨hg,R⟩:=fJ R;obtain⟨h3,h4⟩:=aj hg;rw[apx hl]at he h2;obtain t:=agY bF (cp:=(aa e).p) (pos:=pos) (s9 hx) (s9 hy) h3 h4 h2;rw[<-he]at t;exact i12 _ R t
end
noncomputable def aoF(x:HP)(L:ar):Hp Out:=match L x with|some (.own (.lst B))=>hb (.ret (.list B))|_=>Hu
def jER(M:Mc)(e:HR)(L:ar):Hp Ho:=mQ ((nm e).bind λx=>gd (aA M.sc x) (pA (L x))) ((M.eM e L).bind sE)
noncomputable def zw(M:Mc):Hn HR->ar->Hp (Hn Ho)
 |[],_=>hb []
 |e::es,L=>(jER M e L).bind λa=>(zw M es L).map (a::·)
def vN(es:Hn HR)(L:ar):Ig:=es.any λe=>match nm e with
 |some x=>(pA (L x)).isSome
 |none=>HH
def yT(M:Mc)(e:Hp HR)(L:ar):Hp Out:=match e with
 |none=>hb (.ret .none)
 |some e=>bif M.rt then(M.eM e L).bind λv=>if flat v.x=Hq then hb (.fU v.x L)else Hu else bif(aa e).k==25&&vN (aa e).es L then gd (cT (aa e).es) ((zw M (aa e).es L).bind λB=>if B.length<=sizeLine then hb (.ret (.tuple B))else Hu)else mQ ((nm e).bind λx=>gd (aA M.sc x) (aoF x L)) ((M.eM e L).bind Bb)
theorem alC(H:tC Y w U n M)(e:HR):BI Y w U n M.sc e (jER M e):=by
 intro A Hz K ae X C L O s x Q E hs hA I R hQ;rcases uH R with q|q
 ·obtain⟨y,hy,q1⟩:=ao q;obtain⟨hv,q2⟩:=fJ q1;obtain hy:=s9 hy;clear R q;induction hy with|mk p=>exact BI.own hv hs hA I q2 hQ
 ·exact BI.val (H.h e M.sc).1 hs hA I q hQ
theorem ad3(H:tC Y w U n M):∀es,cT es=Hq->tS Y w U n M.sc es (zw M es)
 |[],_=>tS.nil
 |e::es,h=>tS.cons (alC H e) (ad3 H es (cm h).2) λK=>(nf e).star (cm h).1 es K
theorem ah3(H:tC Y w U n M)(e:Hp HR)(pos:J3):S1 Y w U n M.sc (.Return e pos) (yT M e):=by
 cases e with
 |none=>exact S1.ah6
 |some e=>
  refine S1.bif (λ_=>S1.fU (H.h e M.sc).1) (S1.at λL v R=>?_);rcases fD R with⟨hg,R⟩|⟨_,R⟩
  ·obtain⟨h1,_⟩:=aj hg;obtain⟨h2,R⟩:=fJ R;have:=S1.apJ (k:=(aa e).n) (tp:=(aa e).p) (pos:=pos) (ad3 H (aa e).es h2);rw[<-show e=.Tuple (aa e).es (aa e).n (aa e).p from dw (aw h1)]at this;exact i12 _ R this
  ·rcases uH R with R|R
   ·obtain⟨x,hx,R⟩:=ao R;obtain⟨hv,R⟩:=fJ R;refine i12 _ R ?_;induction s9 hx with|mk p=>exact S1.al8 hv
   ·exact i12 _ R (S1.ret (H.h e M.sc).1)
noncomputable def xv(op:LK):Ig:=match op with
 |.Add=>Hq
 |_=>HH
def sC(M:Mc)(q:iK)(e:HR)(L:ar):Hp Out:=M.c.S.bind λs=>
 bif q.x=="opened"then(nm q.a).bind λx=>gd (aA M.sc x) (kG s.1 s.2.1 x (M.eM e) L)else
 gd (q.x=="amount"&&(aa q.a).k==21&& !gA 26 (aa q.a).b) ((oF (aa q.a).a).bind λx=>gd (aA M.sc x) (je s.1 s.2.1 x (M.eM (aa q.a).b) (M.eM e) L))
def uB(M:Mc)(t:HR)(op:LK)(e:HR)(L:ar):Hp Out:=gd (xv op) (
 bif(aa t).k==23 then gd (aA M.sc (aa t).x) (ajy (aa t).x (M.eM e) L)else
 bif(aa t).k==21 then gd (!gA 26 (aa t).b) ((j0 9 (aa t).a).bind λx=>gd (aA M.sc x) (Cj x (uh M 9 (aa t).a) (M.eM (aa t).b) (M.eM e) L))else gd ((aa t).k==20) (sC M (aa t) e L))
theorem anA(h:gA 26 BS=HH)(ov iv new:HE):augStore BS ov iv new=(do Oa [new,ov,iv] (OG ov iv new);release [new,ov,iv] [];pure .next):=by cases BS<;>first|rfl|cases h
theorem afD(H:tC Y w U n M)(q:iK)(e:HR)(pos:J3):S1 Y w U n M.sc (.AugAssign (.Attribute q.a q.x q.p) .Add e pos) (sC M q e):=by
 refine S1.at λL v R=>?_;obtain⟨s,hs,R⟩:=ao R;obtain⟨⟨mC,KC⟩,⟨mV,KV⟩,_⟩:=H.G.S s hs;rcases fD R with⟨hy,hn⟩|⟨_,hn⟩
 ·obtain⟨x,hx,hn⟩:=ao hn;obtain⟨hv,hn⟩:=fJ hn;refine i12 _ hn<|(aw hy).symm▸?_;obtain hx:=s9 hx;revert hx;generalize q.a=a;intro hx;induction hx with|mk p=>exact S1.opened KC (H.h e M.sc).1 hv
 ·obtain⟨hg,hn⟩:=fJ hn;obtain⟨hg,h3⟩:=aj hg;obtain⟨h1,h2⟩:=aj hg;obtain⟨x,hx,hn⟩:=ao hn;obtain⟨hv,hn⟩:=fJ hn;refine i12 _ hn<|(aw h1).symm▸?_;obtain ea:q.a=.Subscript (aa q.a).a (aa q.a).b (aa q.a).p:=dw (aw h2);refine ea.symm▸?_;obtain hx:=Gs hx;revert hx;generalize(aa q.a).a=a;intro hx;induction hx with|mk p t=>exact S1.aio KC KV (H.h _ M.sc).1 (H.h e M.sc).1 hv ((nf _).sub (cE h3))
theorem ahO(H:tC Y w U n M)(t:HR)(op:LK)(e:HR)(pos:J3):S1 Y w U n M.sc (.AugAssign t op e pos) (uB M t op e):=by
 refine S1.gd λho=>?_;obtain rfl:op=.Add:=by cases op<;>first|rfl|cases ho
 refine S1.bif (λhk=>S1.gd λhv=>?_) (S1.bif (λhk=>S1.gd λhi=>?_) (S1.gd λhk=>?_))
 ·have:=S1.ahZ (p:=(aa t).p) (pos:=pos) (H.h e M.sc).1 hv;rwa[<-show t=.Name (aa t).x (aa t).p from dw (aw hk)]at this
 ·refine S1.at λL v R=>?_;obtain⟨x,hr,R⟩:=ao R;obtain⟨hv,R⟩:=fJ R;have:=S1.apQ (p:=(aa t).p) (pos:=pos) (v7 H hv 9 (aa t).a hr) (H.h (aa t).b M.sc).1 (H.h e M.sc).1 (anA (cE hi));rw[<-show t=.Subscript (aa t).a (aa t).b (aa t).p from dw (aw hk)]at this;exact i12 _ R this
 ·have:=afD H (aa t) e pos;rwa[<-show t=.Attribute (aa t).a (aa t).x (aa t).p from dw (aw hk)]at this
abbrev yz:=Mc->(Hn IM->ar->Hp Out)->BQ->ar->Hp Out
def AR:yz:=λM _ q L=>yT M q.oe L
def uE:yz:=λM _ q L=>gd (q.ts.length==1) (pQ M (hd q.ts) q.e L)
def AI:yz:=λM _ q L=>uB M q.t q.op q.e L
def Cn:yz:=λM rb q L=>gd (q.b2.isEmpty&& !gA 7 q.e) ((jI M.r M.sc q.t q.e L).bind λv=>if v.2=.t then Hu else rV (pJ (aA M.sc) q.t) (rb q.b1) v.2 v.1 L)
def tu:yz:=λM rb q L=>gd q.b2.isEmpty (mR (λL=>(M.r q.t M.sc L).2) (rb q.b1) 100000 L)
noncomputable def sIf:yz:=λM rb q L=>(M.r q.t M.sc L).2.bind λc=>if c then rb q.b1 L else rb q.b2 L
def DO:yz:=λM _ q L=>jEx M q.e (aa q.e) L
noncomputable def aor:yz:=λ_ _ _ L=>hb (.next L)
def CY:Hn (HG×yz):=[(5,uE),(12,sIf),(24,DO),(3,AR),(9,Cn),(11,tu),(7,AI),(25,aor)]
def jS(M:Mc)(rb:Hn IM->ar->Hp Out)(s:IM)(L:ar):Hp Out:=(CY.lookup (au s).k).bind λf=>f M rb (au s) L
noncomputable def jB(M:Mc):HG->Hn IM->ar->Hp Out
 |0,_,_=>Hu
 |k+1,ss,L=>match ss with
  |[]=>hb (.next L)
  |s::rest=>(jS M (jB M k) s L).bind (wF (jB M k rest))
variable{rb:Hn IM->ar->Hp Out}
theorem aiz{q:BQ}{f:yz}{t:Hn (HG×yz)}:(∀p∈t,S1 Y w U n M.sc (bS p.1 q) (p.2 M rb q))->t.lookup q.k=hb f->S1 Y w U n M.sc (bS q.k q) (f M rb q):=by
 induction t with
 |nil=>intro _ e;exact no e
 |cons p t bX=>
  intro k e;rw[HK]at e;cases hk:q.k==p.1 with
  |true=>rw[hk]at e;exact(aw hk).symm▸(si e)▸k p (.head _)
  |false=>rw[hk]at e;exact bX (λz hz=>k z (.tail _ hz)) e
section
variable(bF:tC Y w U n M)(pK:∀ss,St Y w U n M.sc ss (rb ss))
include bF
theorem aik(q:BQ):S1 Y w U n M.sc (.Assign q.ts q.e q.p) (uE M rb q):=S1.gd λhl=>by
 have:=aib bF (hd q.ts) q.e q.p;rwa[<-nF hl]at this
include pK
theorem aiY(q:BQ):S1 Y w U n M.sc (.For q.t q.e q.b1 q.b2 q.p) (Cn M rb q):=S1.gd λhg=>by
 obtain⟨h1,h2⟩:=aj hg;exact(IC.mp h1).symm▸S1.for (ajZ bF.G bF.h q.t q.e (cE h2)) (ahe q.t) (pK q.b1)
theorem aeI(q:BQ):S1 Y w U n M.sc (.While q.t q.b1 q.b2 q.p) (tu M rb q):=S1.gd λh1=>by
 exact(IC.mp h1).symm▸S1.while 100000 (bF.h q.t M.sc).2 (pK q.b1)
theorem anB(q:BQ):∀p∈CY,S1 Y w U n M.sc (bS p.1 q) (p.2 M rb q):=
 all_cons (aik (rb:=rb) bF q) (all_cons (S1.if (bF.h q.t M.sc).2 (pK q.b1) (pK q.b2)) (all_cons (amC bF q.e q.p) (all_cons (ah3 bF q.oe q.p) (all_cons (aiY bF pK q) (all_cons (aeI bF pK q) (all_cons (ahO bF q.t q.op q.e q.p) (all_cons S1.pass λp hp=>nomatch hp)))))))
theorem zq(s:IM):S1 Y w U n M.sc s (jS M rb s):=by refine S1.at λL v R=>?_;obtain⟨f,hf,R⟩:=ao R;have:=aiz (anB bF pK (au s)) hf;rw[<-abX s]at this;exact i12 _ R this
end
theorem sy(H:tC Y w U n M):∀k ss,St Y w U n M.sc ss (jB M k ss)
 |0,_=>by intro A Hz K ae X C L O s v Q E hs hr I R hQ;exact no R
 |k+1,[]=>St.nil
 |k+1,s::rest=>St.cons (zq H (sy H k) s) (sy H k rest)
abbrev Df:=Hn HP×Hn IM×IH
noncomputable def sT(st:IM):Hp (HP×Ov×Hn IM×IH):=match st with
 |.FunctionDef x args b _ _ _ s _ _ _=>hb (x,args,b,s)
 |_=>Hu
def B9(f:HP)(st:IM):Hp Df:=(sT st).bind λr=>bif r.1==f then hb (r.2.1.args.map (·.arg),r.2.2.1,r.2.2.2)else Hu
def mY(p:IB)(f:HP):Hp Df:=p.main.body.findSome? (B9 f)
noncomputable def aoc(f:HP)(st:IM):Hp (Hn IM):=match st with
 |.ClassDef x _ _ b _ _ _ _ _ _ _=>bif x==f then hb b else Hu
 |_=>Hu
def o7(p:IB)(cls f:HP):Hp Df:=(p.main.body.findSome? (aoc cls)).bind λb=>b.findSome? (B9 f)
structure JP where
 p:IB
 K:HP->Hp Ho
 ow:HP->Ig
 S:Hp (Hv×Hv×Hv×Hn Ho)
 A:HP->Hp (Hv×Hn HP)
def BN(P:JP)(c:JC)(rt:Ig)(sc:IH):Mc:=⟨c,P.ow,rt,J c 40,sc⟩
def mO(P:JP)(c:JC)(rt:Ig)(q:Df):ar->Hp Out:=jB (BN P c rt q.2.2) 60 q.2.1
open Classical in
def lJ(ps:Hn HP)(px:HP)(m:ar->Hp Out)(B:Hn Ho):Hp Ho:=if∀a,lH ps px m a B=lH ps px m 0 B then lH ps px m 0 B else Hu
theorem mX(h:lJ ps px m B=hb GP)(a:Hv):lH ps px m a B=hb GP:=by
 unfold lJ at h;split at h
 ·rename_i hq;exact(hq a).trans h
 ·exact no h
theorem aea(h:∀a,lH ps px m a B=hb GP):lJ ps px m B=hb GP:=by unfold lJ;exact(H5 λa=>(h a).trans (h 0).symm).symm▸h 0
noncomputable def p1(ps:Hn HP):HP:=ps.headD ""
noncomputable def p2(ps:Hn HP):HP:=ps.tail.headD ""
noncomputable def p3(ps:Hn HP):HP:=ps.tail.tail.headD ""
variable{l:Hn HP}
theorem ps3(h:(l.length==3)=Hq):l=[p1 l,p2 l,p3 l]:=by obtain⟨a,t,rfl⟩:=IY (aw h);obtain⟨b,t,rfl⟩:=IY (Jz (aw h));obtain⟨d,rfl⟩:=Jp.mp (Jz (Jz (aw h)));rfl
theorem ps2(h:(l.length==2)=Hq):l=[p1 l,p2 l]:=by obtain⟨a,t,rfl⟩:=IY (aw h);obtain⟨d,rfl⟩:=Jp.mp (Jz (aw h));rfl
def E8(ps:Hn HP):Ig:=ps.length==3&& !(p1 ps==p2 ps)&& !(p3 ps==p2 ps)&& !(p3 ps==p1 ps)
def Fz(ps:Hn HP):Ig:=ps.length==2&& !(p2 ps==p1 ps)
def ajq(ps:Hn HP)(m:ar->Hp Out)(B:Hn Ho):Hp Ho:=gd (E8 ps) (lJ ps (p2 ps) m B)
def ajA(ps:Hn HP)(m:ar->Hp Out)(B:Hn Ho):Hp (Ho×Ho):=gd (Fz ps) (tc ps (p1 ps) m B)
def anW(P:JP)(c:JC)(q:Df):Hp Ho:=gd (q.1.isEmpty&&q.2.1.length==1) (((au (q.2.1.headD (.Pass default))).oe).bind λe=>gd ((au (q.2.1.headD (.Pass default))).k==3) ((Au (BN P c HH q.2.2) 5 e (nO [] [])).bind λd=>gd (dD d) (hb d)))
def vZ(P:JP)(y:HP):Hp Df:=gd (!iL aG y) (o7 P.p "Store" y)
def xh(P:JP)(c:JC)(s:Hv×Hn HP)(d:Df)(B:Hn Ho):Hp Ho:=gd (p1 d.1=="self"&& !d.1.isEmpty) (lJ d.1 "self" (mO P {c with I:=hb s} HH d) (ec s.1 [] []::B))
noncomputable def Bd(P:JP):JC:=⟨λ_ _=>Hu,P.K,λ_ _=>Hu,λ_=>Hu,P.S,λ_ _=>Hu,λ_ _=>Hu,λ_ _=>Hu,P.A "Outcome"⟩
def gG(P:JP)(c:JC)(b:Ig):JC where
 F:=λf B=>(mY P.p f).bind λq=>BE q.1 (mO P c HH q) B
 K:=P.K
 M:=λf B=>(mY P.p f).bind λq=>ajq q.1 (mO P c HH q) B
 T:=λf=>(mY P.p f).bind (anW P c)
 S:=P.S
 P:=λy B=>(vZ P y).bind λq=>BE q.1 (mO P c HH q) B
 R:=λy B=>(vZ P y).bind λq=>ajA q.1 (mO P c Hq q) B
 N:=λf B=>gd b ((P.A f).bind λs=>(o7 P.p f "__init__").bind λd=>xh P (Bd P) s d B)
 I:=P.A "Outcome"
noncomputable def jc(P:JP):HG->JC
 |0=>Bd P
 |d+1=>gG P (jc P d) (Ln 1 d)
structure x3(P:JP)(w:Ja)(U:Iv):Prop where
 B:BF U
 all:bt U "all" (.builtin "all")
 abs:bt U "abs" (.builtin "abs")
 max:bt U "max" (.builtin "max")
 sorted:bt U "sorted" (.builtin "sorted")
 enumerate:bt U "enumerate" (.type "enumerate")
 zip:bt U "zip" (.type "zip")
 K:∀x d,P.K x=hb d->nT P.p w U x d
 D:∀f q,mY P.p f=hb q->lD U f q.2.2 q.1 q.2.1
 S:∀s,P.S=hb s->afS P.p w U s
 E:∀s,P.S=hb s->∀y q,vZ P y=hb q->MethAt U s.1 y q.2.2 q.1 q.2.1
 A:∀f s,P.A f=hb s->bt U f (.ref s.1)/\(∃mC,jX s.2 U s.1 mC)/\∀q,o7 P.p f "__init__"=hb q->∃mC f fo fd r,jX s.2 U s.1 mC/\mC "__init__"=hb (.ref f)/\U.get? f=hb fo/\fo.cls=.type "function"/\fo.data=.func fd/\Kw (.type "object") (HA "__init__")=pure r/\ju U f q.2.2 q.1 q.2.1
theorem lD.kind(h:lD U jo sc ps body):sc.kind=.function:=by obtain⟨a,_,h⟩:=h;exact h.kind
variable{P:JP}
theorem rh(G:vc P.p w U n c)(rt:Ig)(q:Df)(hk:q.2.2.kind=.function):St P.p w U n q.2.2 q.2.1 (mO P c rt q):=sy (M:=BN P c rt q.2.2) ⟨G,wg G 40,hk⟩ 60 q.2.1
theorem alY:iL l y=HH->y∉l:=by
 induction l with
 |nil=>intro _;exact nofun
 |cons x l bX=>intro h;rw[oO,Jn]at h;rw[Hw,LR];refine⟨λe=>?_,bX h.2⟩;have:=h.1;rw[e,Ih]at this;cases this
theorem ab4{q:Df}(h:vZ P y=hb q):y∉aG:=alY (cE (fJ h).1)
theorem vc.init(G:vc P.p w U n c){s:Hv×Hn HP}(h:∃mC,jX s.2 U s.1 mC):vc P.p w U n {c with I:=hb s}:=
 ⟨G.B,G.all,G.abs,G.max,G.sorted,G.enumerate,G.zip,G.F,G.K,G.M,G.T,G.S,G.P,G.R,G.N,λq e=>by cases e;exact h⟩
theorem qt(T:x3 P w U):vc P.p w U 0 (Bd P):=⟨T.B,T.all,T.abs,T.max,T.sorted,T.enumerate,T.zip,λ_ _ _ e=>no e,T.K,λ_ _ _ e=>no e,λ_ _ e=>no e,T.S,λ_ _ _ _ _ e=>no e,λ_ _ _ _ _ e=>no e,λ_ _ _ e=>no e,λq e=>(T.A _ q e).2.1⟩
theorem amw(T:x3 P w U)(h2:2<=n){s:Hv×Hn HP}{d:Df}(hs:P.A jo=hb s)(hd:o7 P.p jo "__init__"=hb d)(h1:(p1 d.1=="self"&& !d.1.isEmpty)=Hq):F0 P.p w U n jo (xh P (Bd P) s d):=by
 obtain⟨g,hC,hD⟩:=T.A jo s hs;obtain D:=hD d hd;have hk:d.2.2.kind=.function:=by obtain⟨_,_,_,_,_,_,_,_,_,_,_,D⟩:=D;exact D.kind
 obtain aH:=rh ((qt T).init hC) HH d hk;obtain⟨h1',h3⟩:=aj h1;obtain⟨ps,body,sc⟩:=d;clear h1 hd hs T hk hD hC;obtain⟨p0,ps,rfl⟩:∃p0 t,ps=p0::t:=by
  cases ps with
  |nil=>cases h3
  |cons a t=>exact CL a t rfl
 clear h3;obtain rfl:=aw h1';refine⟨s.1,ps,lJ ("self"::ps) "self" (mO P {Bd P with I:=hb s} HH ("self"::ps,body,sc)),1,s5.of D aH λa B d' e=>mX e a,g,h2,λB y e=>?_⟩;obtain e:=(fJ e).2;refine gQ e ?_;have:=mX e 0;unfold lH at this;split at this
 ·rename_i hl;exact(Jz hl).symm
 ·exact no this
theorem af0(T:x3 P w U)(G:vc P.p w U n c)(b:Ig)(aO:b=Hq->1<=n):vc P.p w U (n+1) (gG P c b):=by
 refine⟨T.B,T.all,T.abs,T.max,T.sorted,T.enumerate,T.zip,λf B y e=>?_,T.K,λf B y e=>?_,λf d e=>?_,T.S,λs hs y B z e=>?_,λs hs y B z e=>?_,λf B z e=>?_,λq e=>(T.A _ q e).2.1⟩
 ·obtain⟨q,hq,_⟩:=ao e;have D:=T.D f q hq;refine q0.of D (rh G HH q D.kind) _ λB y e=>?_;obtain⟨q',vp,e⟩:=ao e;rw[hq]at vp;obtain rfl:=si vp;exact e
 ·obtain⟨q,hq,e⟩:=ao e;obtain D:=T.D f q hq;have aH:=rh G HH q D.kind;obtain⟨hg,_⟩:=fJ e;obtain⟨hg,h4⟩:=aj hg;obtain⟨hg,h3⟩:=aj hg;obtain⟨h1,h2⟩:=aj hg;obtain hp:=ps3 h1;have D':=D;rw[hp]at D';refine⟨p1 q.1,p2 q.1,p3 q.1,zd.of D' (.tail _ (.head _)) aH λa B d' e=>?_,HO.mp (cE h2),HO.mp (cE h3),HO.mp (cE h4)⟩;obtain⟨q',vp,e⟩:=ao e;rw[hq]at vp;obtain rfl:=si vp;exact hp▸mX (fJ e).2 a
 ·obtain⟨q,hq,e⟩:=ao e;obtain D:=T.D f q hq;obtain⟨hg,e⟩:=fJ e;obtain⟨h1,h2⟩:=aj hg;obtain⟨x,hx,e⟩:=ao e;obtain⟨h3,e⟩:=fJ e;obtain⟨d',e1,e2⟩:=ao e;obtain⟨hn,e2⟩:=fJ e2;obtain rfl:=si e2;obtain⟨ps,body,sc⟩:=q;obtain rfl:=IC.mp h1;obtain⟨st,rfl⟩:=Jp.mp (aw h2);have qv:st=.Return (hb x) (au st).p:=by have:=zL (s:=st) (aw h3);rw[show bS 3 (au st)=.Return (au st).oe (au st).p from rfl,show(au st).oe=hb x from hx]at this;exact this
  rw[qv]at D;exact⟨yS.of D (v8 (M:=BN P c HH sc) ⟨G,wg G 40,D.kind⟩ 5 x) e1,hn⟩
 ·obtain⟨q,hq,_⟩:=ao e;have D:=T.E s hs y q hq;have hk:q.2.2.kind=.function:=by obtain⟨_,_,_,_,_,_,_,_,_,_,_,D⟩:=D;exact D.kind
  refine uw.of D (rh G HH q hk) _ (λB z e=>?_) (ab4 hq);obtain⟨q',vp,e⟩:=ao e;rw[hq]at vp;obtain rfl:=si vp;exact e
 ·obtain⟨q,hq,e⟩:=ao e;have D:=T.E s hs y q hq;have hk:q.2.2.kind=.function:=by obtain⟨_,_,_,_,_,_,_,_,_,_,_,D⟩:=D;exact D.kind
  have aH:=rh G Hq q hk;obtain⟨hg,_⟩:=fJ e;obtain⟨h1,h2⟩:=aj hg;obtain hp:=ps2 h1;have D':=D;rw[hp]at D';refine⟨p1 q.1,p2 q.1,pD.of D' aH _ (λa B r e=>?_) (HO.mp (cE h2)) (ab4 hq)⟩;obtain⟨q',vp,e⟩:=ao e;rw[hq]at vp;obtain rfl:=si vp;exact hp▸acT (fJ e).2 a
 ·obtain⟨Bv,e⟩:=fJ e;obtain⟨s,hs,e⟩:=ao e;obtain⟨d,hd,e⟩:=ao e;obtain⟨h1,_⟩:=fJ e;have:=amw T (Jv (aO Bv)) hs hd h1;obtain ef:(gG P c b).N f=xh P (Bd P) s d:=by funext B;show gd b ((P.A f).bind _)=_;refine Bv.symm▸hs.symm▸hd.symm▸?_;rfl
  exact ef.symm▸this
theorem uF(T:x3 P w U):∀d,vc P.p w U d (jc P d)
 |0=>qt T
 |d+1=>af0 T (uF T d) _ IE
abbrev En:=Hn (HP×VV)
noncomputable def look(x:HP):En->Hp VV
 |[]=>Hu
 |(y,v)::l=>bif x==y then hb v else look x l
def d6(l:En)(L:ar):ar:=λx=>mQ (look x l) (L x)
inductive Dw(l:En):Hp Out->Prop
 |mk (L:ar):Dw l (hb (.next (d6 l L)))
theorem agg:∀{l:En},look x l=hb fb->(x,fb)∈l:=by
 intro l h;induction l with
 |nil=>exact nomatch h
 |cons q l ih=>
  change(bif _ then _ else _)=_ at h;cases e:x==q.1 with
  |true=>rw[e]at h;exact(KA.mp e).symm▸(si h).symm▸.head _
  |false=>rw[e]at h;exact .tail _ (ih h)
theorem adx{l:En}(h:l.map (λp=>L p.1)=l.map λp=>hb p.2):L=d6 l L:=by
 funext x;unfold d6;cases e:look x l with
 |none=>rfl
 |some v=>
  have:∀p∈l,L p.1=hb p.2:=by
   clear e;induction l with
   |nil=>intro p hp;cases hp
   |cons q l ih=>
    rw[HS,HS,O0]at h;intro p hp;rcases Hw.mp hp with rfl|hp
    ·exact h.1
    ·exact ih h.2 p hp
  exact this _ (agg e)
abbrev Mc.bM(M:Mc):HG->Hn IM->ar->Hp Out:=jB M
def Mc.sM(M:Mc)(k:HG):IM->ar->Hp Out:=jS M (jB M k)
noncomputable def nP(ss:Hn IM)(i:HG):IM:=(ss[i]?).getD (.Pass default)
noncomputable def ltN(ss:Hn IM)(i:HG):Ig:=Ln (i+1) ss.length
variable{ss:Hn IM}{i:HG}
theorem qi(h:ltN ss i=Hq):ss.drop i=nP ss i::ss.drop (i+1):=by obtain h:=IE h;(refine(J6 h).trans ?_;rw[nP,HQ h]);rfl
def Mc.G(M:Mc)(k:HG)(ss:Hn IM)(i:HG)(l:En)(Q:Hp Out->Prop):Prop:=∀L,Q (M.bM k (ss.drop i) (d6 l L))
abbrev vh(s:IM):HR:=(au s).t
abbrev frE(s:IM):HR:=(au s).e
abbrev yt(s:IM):Hn IM:=(au s).b1
def aj2(s:IM):Ig:=(au s).k==9&&((au s).b2.isEmpty&& !gA 7 (au s).e)
def Cu(s:IM):Ig:=(au s).k==11&&(au s).b2.isEmpty
abbrev ifE(s:IM):HR:=(au s).t
abbrev BD(s:IM):Hn IM:=(au s).b1
abbrev BJ(s:IM):Hn IM:=(au s).b2
def Dr(s:IM):Ig:=(au s).k==12
variable{s:IM}
theorem j6{m:HG}{f:yz}(h:(au s).k=m)(hl:CY.lookup m=hb f)(L:ar):jS M rb s L=f M rb (au s) L:=by unfold jS;refine h.symm▸hl.symm▸?_;rfl
theorem aoB(h:Dr s=Hq)(L:ar):M.sM k s L=(M.r (ifE s) M.sc L).2.bind λc=>if c then M.bM k (BD s) L else M.bM k (BJ s) L:=j6 (f:=sIf) (aw h) rfl L
theorem ale(h:aj2 s=Hq)(L:ar):M.sM k s L=(jI M.r M.sc (vh s) (frE s) L).bind λv=>if v.2=.t then Hu else rV (pJ (aA M.sc) (vh s)) (M.bM k (yt s)) v.2 v.1 L:=by obtain⟨h1,h2⟩:=aj h;refine(j6 (f:=Cn) (aw h1) rfl L).trans ?_;show gd _ _=_;refine h2.symm▸?_;rfl
theorem amU(h:Cu s=Hq)(L:ar):M.sM k s L=mR (λL=>(M.r (vh s) M.sc L).2) (M.bM k (yt s)) 100000 L:=by obtain⟨h1,h2⟩:=aj h;refine(j6 (f:=tu) (aw h1) rfl L).trans ?_;unfold tu;exact h2.symm▸Ku _ _
noncomputable def zx(x:HP)(v:VV):En->En
 |[]=>[(x,v)]
 |(y,u)::l=>bif x==y then(y,v)::l else(y,u)::zx x v l
theorem agB(x:HP)(v:VV)(y:HP)(l:En):look y (zx x v l)=bif y==x then hb v else look y l:=by
 induction l with
 |nil=>exact rfl
 |cons Bs l bX=>
  obtain⟨z,u⟩:=Bs;dsimp only[zx];cases e:x==z with
  |true=>obtain rfl:=KA.mp e;show Qi (y==x) _ _=Qi (y==x) _ (Qi (y==x) _ _);cases y==x<;>rfl
  |false=>
   show Qi (y==z) _ _=Qi (y==x) _ (Qi (y==z) _ _);refine bX.symm▸?_;cases e1:y==z with
   |false=>rfl
   |true=>
    rw[show(y==x)=HH by
     refine(KA.mp e1).symm▸?_;cases e2:z==x with
     |false=>rfl
     |true=>rw[KA.mp e2,Ih]at e;cases e]
    rfl
theorem qL(x:HP)(v:VV)(l:En)(L:ar):(d6 l L).set x v=d6 (zx x v l) L:=by funext y;dsimp only[d6,ar.set];rw[agB];cases y==x<;>rfl
noncomputable def Gy(f:Fl):Ig:=match f with|.t=>HH|_=>Hq
def plE(M:Mc)(x:HP)(e:HR)(q:iK):Ig:= !(q.k==24)&& !(q.k==6&&q.oe.isEmpty&&q.es.isEmpty)&& !(q.k==8)&&(bif q.k==16 then !q.es.isEmpty&& !tf M q&& !M.ow x else j5 e)
abbrev jF(s:IM):HR:=hd (au s).ts
abbrev dp(s:IM):HR:=(au s).e
def Cx(M:Mc)(s:IM)(x:HP):Ig:=(au s).k==5&&((au s).ts.length==1)&&((aa (jF s)).k==23&&(aa (jF s)).x==x&&aA M.sc x)
theorem o0(h:Cx M s x=Hq)(L:ar):M.sM k s L=lx M x (dp s) (aa (dp s)) L:=by obtain⟨h,g⟩:=aj h;obtain⟨h1,h2⟩:=aj h;obtain⟨g,g3⟩:=aj g;obtain⟨g1,g2⟩:=aj g;refine(j6 (f:=uE) (aw h1) rfl L).trans ?_;show gd ((au s).ts.length==1) (bif(aa (jF s)).k==23 then gd (aA M.sc (aa (jF s)).x) (lx M (aa (jF s)).x (dp s) (aa (dp s)) L)else _)=_;refine h2.symm▸g1.symm▸(aw g2).symm▸g3.symm▸?_;rfl
theorem ak5{q:iK}(h:plE M x e q=Hq)(L:ar):lx M x e q L=(M.eM e L).bind (uz L x):=by
 obtain⟨h,h4⟩:=aj h;obtain⟨h,h3⟩:=aj h;obtain⟨h1,h2⟩:=aj h;unfold lx;refine(cE h1).symm▸(cE h2).symm▸(cE h3).symm▸?_;show(bif q.k==16 then mG M x e q L else gd (j5 e) ((M.eM e L).bind (uz L x)))=_;revert h4;cases q.k==16 with
 |false=>intro h4;refine(show j5 e=Hq from h4).symm▸?_;rfl
 |true=>intro h4;obtain⟨h4,h6⟩:=aj (show(!q.es.isEmpty&& !tf M q&& !M.ow x)=Hq from h4);obtain⟨h4,h5⟩:=aj h4;unfold mG;refine(cE h4).symm▸(cE h5).symm▸(cE h6).symm▸?_;rfl
abbrev dy(s:IM):iK:=aa (au s).e
def yU(M:Mc)(s:IM)(x y:HP):Ig:=(au s).k==24&&(dy s).k==16&& !tf M (dy s)&&((dy s).ks.isEmpty&&cT (dy s).es&&(aa (dy s).a).k==20)&&((dy s).es.length==1&&((aa (dy s).a).p.endLine==(dy s).p.line)&& !gA 16 (aa (dy s).a).a)&&(nm (aa (dy s).a).a==hb x&&(aa (dy s).a).x==y&&aA M.sc x)
theorem agy(h:yU M s x y=Hq)(L:ar):M.sM k s L=mQ (bif y=="append"then zr x (M.eM (hd (dy s).es)) L else gd (y=="extend") (zo x (M.eM (hd (dy s).es)) L)) (Bc M (aa (dy s).a).a y (hd (dy s).es) L):=by obtain⟨h,g⟩:=aj h;obtain⟨h,h6⟩:=aj h;obtain⟨h,h5⟩:=aj h;obtain⟨h,h3⟩:=aj h;obtain⟨h1,h2⟩:=aj h;obtain⟨g,g3⟩:=aj g;obtain⟨g1,g2⟩:=aj g;obtain⟨h5,h7⟩:=aj h5;refine(j6 (f:=DO) (aw h1) rfl L).trans ?_;show gd ((dy s).k==16) (bif tf M (dy s)then _ else gd ((dy s).ks.isEmpty&&cT (dy s).es) (bif(aa (dy s).a).k==20 then gd ((dy s).es.length==1&&((aa (dy s).a).p.endLine==(dy s).p.line)&& !gA 16 (aa (dy s).a).a) (mQ ((nm (aa (dy s).a).a).bind λx=>gd (aA M.sc x) (bif(aa (dy s).a).x=="append"then zr x (M.eM (hd (dy s).es)) L else gd ((aa (dy s).a).x=="extend") (zo x (M.eM (hd (dy s).es)) L))) (Bc M (aa (dy s).a).a (aa (dy s).a).x (hd (dy s).es) L))else _))=_;refine h2.symm▸(cE h3).symm▸h5.symm▸h7.symm▸h6.symm▸(aw g1).symm▸(aw g2).symm▸?_;show mQ (gd (aA M.sc x) _) _=_;refine g3.symm▸?_;rfl
abbrev pX(s:IM):HR:=(au s).oe.getD default
def an2(M:Mc)(s:IM):Ig:=(au s).k==3&&(au s).oe.isSome&& !M.rt&&(nm (pX s)).isNone
def bd(P:JP)(f:HP):Hn IM:=match mY P.p f with|some q=>q.2.1|none=>[]
def Gl(P:JP)(f:HP):IH:=match mY P.p f with|some q=>q.2.2|none=>default
def psf(P:JP)(f:HP):Hn HP:=match mY P.p f with|some q=>q.1|none=>[]
def Mf(P:JP)(c:JC)(f:HP):Mc:=BN P c HH (Gl P f)
noncomputable def E6(ps:Hn HP)(B:Hn Ho):En:=(ps.zip B).map λp=>(p.1,.val (V.fix p.2 .s))
theorem jZ:∀(ps:Hn HP)(B:Hn Ho),nO ps B=d6 (E6 ps B) (λ_=>Hu):=by
 intro ps;induction ps with
 |nil=>intro B;funext y;cases B<;>rfl
 |cons p ps ih=>
  intro B;cases B with
  |nil=>rfl
  |cons x B=>
   funext y;show Qi (y==p) _ _=mQ (Qi (y==p) _ _) _;cases y==p with
   |true=>rfl
   |false=>exact Kx (ih B) y
def Ds(ps:Hn HP)(B:Hn Ho)(px:HP)(a:Hv)(d:Ho):En:=zx px (.own (.tree (hb a) d)) (E6 ps B)
variable{d':Ho}
theorem afI(hl:B.length=ps.length)(hd:(ps.zip B).lookup px=hb d)(h1:m (d6 (Ds ps B px a d) λ_=>Hu)=hb (.next L))(h2:L px=hb (.own (.tree (hb a) d'))):lH ps px m a B=hb d':=by(refine iT hl ?_;rw[hd,HT,jZ,qL]);refine h1.symm▸?_;show(bL L px).bind _=_;unfold bL;exact h2.symm▸H5 rfl
inductive CB(c:Ig)(a b:Prop):Prop
 |yes (h:c=Hq) (e:a):CB c a b
 |no (h:c=HH) (e:b):CB c a b
theorem a9{c:Ig}{a b:Prop}(h:bif c then a else b):CB c a b:=by
 cases c with
 |true=>exact .yes rfl h
 |false=>exact .no rfl h
def am2(sc:IH)(t e:HR):Ig:= !vG sc e "range" 1&& !(vG sc e "enumerate" 1&&(aa t).k==25)&& !(vG sc e "zip" 2&&(aa t).k==25)
variable{v:V}
theorem itD{q:Hn Ho×Fl}(hk:am2 sc Az e=Hq)(h:(r e sc L).1=hb v)(hi:nE v=hb q):jI r sc Az e L=hb q:=by obtain⟨hk,h3⟩:=aj hk;obtain⟨h1,h2⟩:=aj hk;unfold jI;exact(cE h1).symm▸(cE h2).symm▸(cE h3).symm▸h.symm▸hi
noncomputable abbrev g0(gs:Hn Lb):Lb:=gs.headD default
def CF(e:HR)(sc:IH):Ig:=(aa e).k==8&&((aa e).gs.length==1&&((g0 (aa e).gs).is_async==0&&jA (aa e).sc sc (fH (aa e).sc)&& !gA 7 (g0 (aa e).gs).iter))
abbrev gT(e:HR):HR:=(g0 (aa e).gs).target
abbrev gI(e:HR):HR:=(g0 (aa e).gs).iter
abbrev gF(e:HR):Hn HR:=(g0 (aa e).gs).ifs
abbrev rY(e:HR):IH:=(aa e).sc
abbrev Av(e:HR):HR:=(aa e).a
def tW(r:JR)(sc:IH)(e:HR)(L:ar):Ho->Hp (Hp Ho):=
 zf (pJ (λx=>iY (dE (rY e) sc) x&&iL (fH (rY e)) x) (gT e)) (y5 r (dE (rY e) sc) (gF e)) (λL=>(r (Av e) (dE (rY e) sc) L).1) (inComp (fH (rY e)) L)
theorem aeN{bind:V->ar->Hp ar}{test:ar->Hp Ig}{jn:ar->Hp V}(p:α->Ho)(g:α->Hp Ho){B:Hn α}:(∀a∈B,zf bind test jn L (p a)=hb (g a))->sQ bind test jn L (B.map p)=hb (B.filterMap g):=by
 induction B with
 |nil=>intro _;exact rfl
 |cons a B bX=>
  intro h;have ih:=bX λb U=>h b (.tail _ U);obtain h2:=h a (.head _);obtain⟨jw,e1,h2⟩:=ao h2;obtain⟨c,e2,h2⟩:=ao h2;show(bind (V.fix (p a) .s) L).bind _=_;refine e1.symm▸?_;rw[HT,e2,HT];clear h e2 e1;cases c with
  |false=>(exact ih.symm▸I1.symm▸(si h2)▸rfl)
  |true=>obtain⟨v,e3,h2⟩:=ao h2;revert h2;refine jl λhf h2=>?_;(refine bI e3 ?_;rw[H5 hf,ih,I1,<-si h2]);rfl
variable{f:Fl}
theorem cF{B:Hn α}(p:α->Ho)(g:α->Hp Ho)(hk:CF e sc=Hq)(hI:jI r sc (gT e) (gI e) L=hb (B.map p,f))(h:∀a∈B,tW r sc e L (p a)=hb (g a)):kY r sc (Av e) (aa e).gs (rY e) L=hb (B.filterMap g):=by obtain⟨_,hk⟩:=aj hk;obtain⟨h1,h2⟩:=aj hk;obtain⟨a,ha⟩:=Jp.mp (aw h1);unfold tW at h;revert h hI h2;unfold gT gI gF rY Av;refine ha.symm▸?_;obtain⟨t,it,jk,a⟩:=a;intro hI h h2;show gd _ (q6 _ _ _ _ _ L)=_;refine(show(a==0&&jA (aa e).sc sc (fH (aa e).sc)&& !gA 7 it)=Hq from h2).symm▸bI (show jI r sc t it L=hb (B.map p,f)from hI) ?_;exact aeN p g h
theorem vC(hk:CF e sc=Hq)(h:kY (J c k) sc (Av e) (aa e).gs (rY e) L=hb ys):(J c (k+1) e sc L).1=hb ⟨.list ys,.d⟩:=by obtain⟨h1,_⟩:=aj hk;show(xB.lookup (aa e).k).bind _=_;refine(aw h1).symm▸?_;show(kY _ _ _ _ _ _).map _=_;refine h.symm▸?_;rfl
def AL(e:HR):Hp HP:=gd ((aa e).k==16&&(aa (aa e).a).k==20&&(aa (aa e).a).x=="join"&&((aa e).ks.isEmpty&&cT (aa e).es&&((aa (aa e).a).p.endLine==(aa e).p.line))&&(aa e).es.length==1) (zy (aa (aa e).a).a)
theorem aof(hk:AL e=hb sep)(h:(J c k (hd (aa e).es) sc L).1=hb ⟨.list B,f⟩)(hj:pE sep B=hb nV):(J c (k+1) e sc L).1=hb ⟨nV,.d⟩:=by obtain⟨hk,hs⟩:=fJ hk;obtain⟨hk,h5⟩:=aj hk;obtain⟨hk,h4⟩:=aj hk;obtain⟨hk,h3⟩:=aj hk;obtain⟨h1,h2⟩:=aj hk;show(xB.lookup (aa e).k).bind _=_;refine(aw h1).symm▸?_;show iH _ _ _ _ _ _ _ _=_;unfold iH;refine(aw h2).symm▸?_;show gd (Hq&&_) (wM _ _ _ _ _ _ _)=_;rw[h4,aw h3];show(bif Hq&&(aa e).es.length==1 then w6 (J c k) sc _ (hd (aa e).es) L else _)=_;refine h5.symm▸?_;show w6 _ _ _ _ _=_;unfold w6;(refine hs.symm▸h.symm▸?_);show(pE sep B).map _=_;refine hj.symm▸?_;rfl
theorem jd{a b:HI}(h:0<b):gD .Mod ⟨.int a,.d⟩ ⟨.int b,.d⟩=hb ⟨.int (a%b),.d⟩:=by show Jo _ (Jo IL (if 0<b then hb (a%b)else Hu))=_;refine(H5 h).symm▸?_;rfl
theorem aj4{a b:HI}(h:(smallInt a||smallInt b)=Hq):gD .Mult ⟨.int a,.d⟩ ⟨.int b,.d⟩=hb ⟨.int (a*b),.d⟩:=by show Jo _ (if(smallInt a||smallInt b)=Hq then hb (IL (a*b))else Hu)=_;refine(H5 h).symm▸?_;rfl
theorem fZ{k:HI}(h0:0<=k)(h1:k<=10000):tB ⟨.int k,.d⟩=hb (lT k,.d):=H5 ⟨HY (by decide) h0,HY h1 (by decide)⟩
abbrev yu(s:IM):HR:=(aa (dy s).a).a
abbrev BH(s:IM):HR:=hd (dy s).es
def Cc(M:Mc)(s:IM)(x y:HP):Ig:=(au s).k==24&&(dy s).k==16&& !tf M (dy s)&&((dy s).ks.isEmpty&&cT (dy s).es&&(aa (dy s).a).k==20)&&((dy s).es.length==1&&((aa (dy s).a).p.endLine==(dy s).p.line)&& !gA 16 (yu s))&&((nm (yu s)).isNone&&(aa (dy s).a).x==y&&j0 9 (yu s)==hb x&&aA M.sc x)
theorem ans(h:Cc M s x y=Hq)(L:ar):M.sM k s L=(bif y=="append"&&(aa (BH s)).k==24 then gd (cT (aa (BH s)).es) (rn x (uh M 9 (yu s)) (rW M.r M.sc (aa (BH s)).es) L)else
  bif y=="append"then qp x (uh M 9 (yu s)) (M.eM (BH s)) L else bif y=="extend"then qm x (uh M 9 (yu s)) (M.eM (BH s)) L else gd (y=="pop") (AH x (uh M 9 (yu s)) (M.eM (BH s)) L)):=by
 obtain⟨h,g⟩:=aj h;obtain⟨h,h6⟩:=aj h;obtain⟨h,h5⟩:=aj h;obtain⟨h,h3⟩:=aj h;obtain⟨h1,h2⟩:=aj h;obtain⟨g,g4⟩:=aj g;obtain⟨g,g3⟩:=aj g;obtain⟨g1,g2⟩:=aj g;obtain⟨h5,h7⟩:=aj h5;refine(j6 (f:=DO) (aw h1) rfl L).trans ?_;show gd ((dy s).k==16) (bif tf M (dy s)then _ else gd ((dy s).ks.isEmpty&&cT (dy s).es) (bif(aa (dy s).a).k==20 then gd ((dy s).es.length==1&&((aa (dy s).a).p.endLine==(dy s).p.line)&& !gA 16 (yu s)) (mQ ((nm (yu s)).bind _) ((j0 9 (yu s)).bind λx=>gd (aA M.sc x) _))else _))=_;refine h2.symm▸(cE h3).symm▸h5.symm▸h7.symm▸h6.symm▸(Jc.mp g1).symm▸(aw g3).symm▸(aw g2)▸?_;show gd (aA M.sc x) _=_;refine g4.symm▸?_;rfl
abbrev ug(s:IM):HR:=(aa (jF s)).a
abbrev qo(s:IM):HR:=(aa (jF s)).b
def Ch(M:Mc)(s:IM)(x:HP):Ig:=(au s).k==5&&((au s).ts.length==1)&&(aa (jF s)).k==21&&((oF (ug s)).isNone&& !Fu M (ug s)&&j0 9 (ug s)==hb x&&aA M.sc x)
theorem anm(h:Ch M s x=Hq)(L:ar):M.sM k s L=(bif(aa (dp s)).k==8 then uI x (uh M 9 (ug s)) (M.eM (qo s)) (kY M.r M.sc (aa (dp s)).a (aa (dp s)).gs (aa (dp s)).sc) L else gd (j5 (dp s)) (AV x (uh M 9 (ug s)) (M.eM (qo s)) (M.eM (dp s)) L)):=by obtain⟨h,g⟩:=aj h;obtain⟨h,h3⟩:=aj h;obtain⟨h1,h2⟩:=aj h;obtain⟨g,g3⟩:=aj g;obtain⟨g,g2⟩:=aj g;obtain⟨g1,g0⟩:=aj g;refine(j6 (f:=uE) (aw h1) rfl L).trans ?_;show gd ((au s).ts.length==1) (pQ M (jF s) (dp s) L)=_;refine h2.symm▸?_;unfold pQ;refine(aw h3).symm▸?_;show te M (ug s) (qo s) (dp s) L=_;unfold te;refine(Jc.mp g1).symm▸?_;show(bif Fu M (ug s)then _ else _)=_;refine(cE g0).symm▸(aw g2).symm▸?_;show gd (aA M.sc x) _=_;refine g3.symm▸?_;rfl
abbrev Ft(s:IM):HR:=(aa (au s).t).a
abbrev GC(s:IM):HR:=(aa (au s).t).b
def an0(M:Mc)(s:IM)(x:HP):Ig:=(au s).k==7&&xv (au s).op&&(aa (au s).t).k==21&& !gA 26 (GC s)&&(j0 9 (Ft s)==hb x&&aA M.sc x)
def aon(M:Mc)(s:IM)(g x:HP):Ig:=(au s).k==24&&(dy s).k==16&& !tf M (dy s)&&((dy s).ks.isEmpty&&cT (dy s).es)&& !((aa (dy s).a).k==20)&&(dy s).es.length==3&&(nm (dy s).a==hb g&&nm (sd (dy s).es)==hb x&&(aY M.sc g&&aA M.sc x))
variable{x:Ho}
theorem qA(h:flat x=Hq):V.fix x f=⟨x,.d⟩:=by unfold V.fix;refine h.symm▸?_;rfl
namespace X
set_option genCtorIdx false in
inductive Z:Type 1 where
 |nil
 |f (k:HG) (p:Prop) (h:p) (v:V) (z:Z)
 |br (c:Ig) (a:c=Hq->Z) (b:c=HH->Z)
 |mg (l:En) (c:Ig) (a:c=Hq->Z) (b:c=HH->Z) (z:Z)
 |lc (α:Type) (as:Hn α) (p:α->Ho) (B:Hn Ho) (ex:B=as.map p) (v:α->V) (hp:∀a,V.fix (p a) .s=v a) (g:α->Hp Ho) (ys:Hn Ho) (e:as.filterMap g=ys) (b:(a:α)->a∈as->Z) (z:Z)
 |fl (p:Prop) (h:p) (z:Z)
 |q (p:Prop) (h:p)
 |cs (c:Ig) (a:c=Hq->Z) (b:c=HH->Z)
 |lv (l:En) (p:Prop) (h:p)
 |e (l:En) (p:Prop) (h:p)
 |fr (α σ:Type) (as:Hn α) (p:α->Ho) (B:Hn Ho) (ex:B=as.map p) (hp:∀a,flat (p a)=Hq) (I:HG->σ->En) (aH:HG->σ->Prop) (s:σ) (r:aH 0 s) (b:(j:HG)->(a:α)->as[j]? =hb a->(s:σ)->aH j s->Z) (z:(s:σ)->aH as.length s->Z)
 |wh (σ:Type) (I:σ->En) (aH:σ->Prop) (m:σ->HG) (s:σ) (r:aH s) (h:m s<100000) (t:(s:σ)->aH s->Z)
noncomputable def vl(l:En):Hn (Hp VV):=l.map λp=>hb p.2
noncomputable def nv(l:En)(L:ar):Hn (Hp VV):=l.map λp=>L p.1
def Z.sp(z:Z):Prop:=Z.rec (motive:=λ_=>Prop) N9 (λ_ p _ _ _ s=>p/\s) (λc _ _ s t=>c=c/\(∀h,s h)/\∀h,t h) (λ_ c _ _ _ s t u=>c=c/\(∀h,s h)/\(∀h,t h)/\∀_:ar,u)
 (λ_ _ _ B _ _ _ _ _ _ _ _ s t=>B=B/\(∀a h,s a h)/\t) (λp _ _ s=>p/\s) (λp _=>p) (λ_ _ _ s t=>(∀h,s h)/\∀h,t h) (λl p _=>vl l=vl l/\p) (λl p _=>vl l=vl l/\p)
 (λ_ _ as p B _ _ I aH s _ _ _ b z=>B=B/\vl (I 0 s)=vl (I 0 s)/\(∀j a h s r(_:ar),b j a h s r)/\∀s r(_:ar),z s r) (λ_ I aH m s _ _ _ t=>vl (I s)=vl (I s)/\m s<100000/\∀s r(_:ar),t s r) z
theorem Z.ok(z:Z):z.sp:=by
 induction z with
 |nil=>exact trivial
 |f k p h v z ih=>exact gQ h ih
 |br c a b i j=>exact lW rfl i j
 |mg l c a b z i j ih=>exact zz rfl i j (λ_=>ih)
 |lc α as p B ex v hp g ys e b z i ih=>exact lW rfl i ih
 |fl p h z ih=>exact gQ h ih
 |q p h=>exact h
 |cs c a b i j=>exact gQ i j
 |lv l p h=>exact gQ rfl h
 |e l p h=>exact gQ rfl h
 |fr α σ as p B ex hp I aH s r b z i j=>exact zz rfl rfl (λj a h s r _=>i j a h s r) (λs r _=>j s r)
 |wh σ I aH m s r h t i=>exact lW rfl h (λs r _=>i s r)
universe u
theorem all_cons{α:Type u}{P:α->Prop}{a:α}{l:Hn α}(h:P a)(t:∀b∈l,P b):∀b∈a::l,P b:=λb U=>(Hw.mp U).elim (λe=>e▸h) (t b)
theorem aeY{α:Type u}{f:α}:∀{t:Hn (HG×α)},t.lookup k=hb f->(k,f)∈t:=by
 intro t e;induction t with
 |nil=>exact nomatch e
 |cons p t ih=>
  rw[HK]at e;cases hk:k==p.1 with
  |true=>rw[hk]at e;(refine(aw hk).symm▸(H4 e)▸?_);exact .head _
  |false=>rw[hk]at e;exact .tail _ (ih e)
abbrev CV:=Z->(V->Z->Prop)->Prop
abbrev CT:=Z->(Ig->Z->Prop)->Prop
inductive dc{α:Type}(o:Hp α)(Q:α->Z->Prop):Prop
 |mk (v:α) (z:Z) (h:o=hb v) (q:Q v z):dc o Q
def dT(o:Hp α)(z:Z)(Q:α->Z->Prop):Prop:=match o with
 |some v=>Q v z
 |none=>Jg
variable{z:Z}
theorem aS{o:Hp α}{Q:α->Z->Prop}(h:dT o z Q):dc o Q:=by
 cases o with
 |some v=>exact⟨v,z,rfl,h⟩
 |none=>exact h.elim
def pr(f:V->α)(z:Z)(o:Hp α)(Q:α->Z->Prop):Prop:=match z with
 |.f k p h v z=>(match k with
  |0=>o=hb (f v)/\Q (f v) z
  |k+1=>dT o (.f k p h v z) Q)
 |z=>dT o z Q
theorem dq{f:V->α}{o:Hp α}{Q:α->Z->Prop}(h:pr f z o Q):dc o Q:=by
 cases z with
 |f k p _ v z=>cases k with
  |zero=>exact⟨f v,z,h.1,h.2⟩
  |succ k=>exact aS h
 |_=>exact aS h
def cn(c:Prop)[La c](z:Z)(Q:Z->Prop):Prop:=pr id z (if c then hb ⟨.none,.d⟩else Hu) λ_ z=>Q z
variable{c:Prop}
theorem d8[La c]{Q:Z->Prop}(h:cn c z Q):c/\∃z,Q z:=by obtain⟨v,z,h,q⟩:=dq h;revert h;exact jl λhc _=>⟨hc,z,q⟩
def fx(y:Ho)(f:Fl)(z:Z)(Q:V->Z->Prop):Prop:=match z with
 |.fl _ _ z=>flat y=Hq/\Q ⟨y,.d⟩ z
 |z=>Q (V.fix y f) z
theorem anq{Q:V->Z->Prop}(h:fx nV f z Q):∃z,Q (V.fix nV f) z:=by
 cases z with
 |fl p q z=>exact(qA h.1).symm▸vb z h.2
 |_=>exact vb _ h
def tld(c:Prop)(z:Z)(Q:Z->Prop):Prop:=match z with
 |.f k _ _ _ z=>(match k with
  |0=>c/\Q z
  |_=>Jg)
 |_=>Jg
theorem alf{Q:Z->Prop}(h:tld c z Q):c/\∃z,Q z:=by
 cases z with
 |f k p q v z=>cases k with
  |zero=>exact⟨h.1,_,h.2⟩
  |succ k=>exact h.elim
 |_=>exact h.elim
def bz(b:Ig)(z:Z)(A fq:Z->Prop):Prop:=match z with
 |.br c x y=>b=c/\(∀h,A (x h))/\∀h,fq (y h)
 |z=>bif b then A z else fq z
inductive Bz(b:Ig)(A fq:Z->Prop):Prop
 |yes (h:b=Hq) (z:Z) (q:A z):Bz b A fq
 |no (h:b=HH) (z:Z) (q:fq z):Bz b A fq
variable{b:Ig}
theorem sR{A fq:Z->Prop}(h:bz b z A fq):Bz b A fq:=by
 have one:∀z,(bif b then A z else fq z)->Bz b A fq:=λz h=>by
  cases b with
  |true=>exact .yes rfl z h
  |false=>exact .no rfl z h
 cases z with
 |br c x y=>
  obtain⟨rfl,h1,h2⟩:=h;cases b with
  |true=>exact .yes rfl _ (h1 rfl)
  |false=>exact .no rfl _ (h2 rfl)
 |_=>exact one _ h
def bo(op:L1)(b:Ig)(z:Z)(A:Z->Prop)(fq:Ig->Z->Prop):Prop:=match op with
 |.And=>bz b z A (fq HH)
 |.Or=>bz b z (fq Hq) A
inductive Bo(op:L1)(b:Ig)(A:Z->Prop)(fq:Ig->Z->Prop):Prop
 |yes (h:(b==(op==.And))=Hq) (z:Z) (q:A z):Bo op b A fq
 |no (h:(b==(op==.And))=HH) (z:Z) (q:fq b z):Bo op b A fq
theorem ake{A:Z->Prop}{fq:Ig->Z->Prop}(h:bo op b z A fq):Bo op b A fq:=by
 cases op with
 |And=>
  replace h:=sR h;cases b with
  |true=>cases h with
   |yes e z q=>exact .yes rfl z q
   |no e=>cases e
  |false=>cases h with
   |yes e=>cases e
   |no e z q=>exact .no rfl z q
 |Or=>
  have h:=sR h;cases b with
  |true=>cases h with
   |yes e z q=>exact .no rfl z q
   |no e=>cases e
  |false=>cases h with
   |yes e=>cases e
   |no e z q=>exact .yes rfl z q
noncomputable def tv(a:V)(b:Ig):V:=match a with
 |⟨.bool _,f⟩=>⟨.bool b,f⟩
 |a=>a
theorem aoI(h:g8 s6.x=hb b):tv s6 b=s6:=by
 obtain⟨x,f⟩:=s6;cases x with
 |bool c=>refine(H4 (show hb c=hb b from h))▸?_;rfl
 |_=>rfl
noncomputable def vB(v:V):Ig:=match v.x with
 |.bool b=>b
 |_=>HH
noncomputable def vI(v:V):Hn Ho×Fl:=match v.x with
 |.list B=>(B,v.fl)
 |_=>([],v.fl)
theorem dc.bind{o:Hp α}{f:α->Hp β}{P:α->Z->Prop}{Q:β->Z->Prop}(h:dc o P)(k:∀a z,P a z->dc (f a) Q):dc (o.bind f) Q:=by obtain⟨a,z,rfl,q⟩:=h;exact k a z q
theorem dc.bd{o:Hp α}{a:α}{f:α->Hp β}{Q:β->Z->Prop}(h:o=hb a)(k:dc (f a) Q):dc (o.bind f) Q:=h▸k
theorem dc.iT{d:La c}{a b:Hp α}{Q:α->Z->Prop}(h:c)(k:dc a Q):dc (@ite _ c d a b) Q:=(H5 h).symm▸k
theorem dc.gd{o:Hp α}{Q:α->Z->Prop}{c:Ig}(hc:c=Hq)(h:dc o Q):dc (gd c o) Q:=by subst hc;exact h
abbrev OR:=IH->ar->HR->CV×CT
section
variable(qu:JC)(dF:OR)(bC:IH)(cf:ar)
noncomputable def yc:Hn HR->Z->(Hn V->Z->Prop)->Prop
 |[],z,Q=>Q [] z
 |e::es,z,Q=>(dF bC cf e).1 z λv z=>yc es z λvs z=>Q (v::vs) z
def DH(e:Hp HR)(z:Z)(Q:Hp HI->Z->Prop):Prop:=match e with
 |none=>Q Hu z
 |some e=>(dF bC cf e).1 z λv z=>dT (cD v.x) z λi z=>Q (hb i) z
noncomputable def Fb(op:L1):Hn HR->CT
 |[],z,Q=>Q (op==.And) z
 |e::es,z,Q=>(dF bC cf e).2 z λb z=>bif es.isEmpty then Q b z else bo op b z (λz=>Fb op es z Q) λb z=>Q b z
noncomputable def bop(op:L1)(a b:Ig):Ig:=match op with
 |.And=>a&&b
 |.Or=>a||b
noncomputable def Gq(op:L1):Hn HR->CT
 |[],z,Q=>Q (op==.And) z
 |e::es,z,Q=>(dF bC cf e).2 z λb z=>bif es.isEmpty then Q b z else Gq op es z λb' z=>Q (bop op b b') z
abbrev AS:=OR->IH->ar->iK->CV
def anO:AS:=λdF bC cf q z Q=>bif ako q.op&&((pP q.a).isSome||(pP q.b).isSome)then
  (match pP q.a with
  |some i=>(dF bC cf q.b).1 z λy z=>dT (uv ⟨.int i,.d⟩ y) z Q
  |none=>dT (pP q.b) z λj z=>(dF bC cf q.a).1 z λx z=>dT (uv x ⟨.int j,.d⟩) z Q)
 else(dF bC cf q.a).1 z λx z=>(dF bC cf q.b).1 z λy z=>pr id z (gD q.op x y) Q
def aoG:AS:=λdF bC cf q z Q=>
 bif(aa q.b).k==26 then(dF bC cf q.a).1 z λx z=>DH dF bC cf (aa q.b).o1 z λl z=>DH dF bC cf (aa q.b).o2 z λu z=>DH dF bC cf (aa q.b).o3 z λt z=>pr id z (vJ l u t x) Q else
 bif gA 26 q.b then Jg else(dF bC cf q.a).1 z λx z=>(dF bC cf q.b).1 z λy z=>pr V.x z (ed x.x y.x) λy z=>fx y x.fl z Q
def F6(q:iK):CT:=λz Q=>bif cm1 q.cs q.es then(bif NX (hc q.cs) (hd q.es)then Jg else(dF bC cf q.a).1 z λx z=>(dF bC cf (hd q.es)).1 z λy z=>pr vB z (bV (hc q.cs) x.x y.x) Q)else
 bif cm2 q.cs q.es&& !Pr [hc q.cs,hc q.cs.tail] [hd q.es,sd q.es]then(dF bC cf q.a).1 z λx z=>(dF bC cf (hd q.es)).1 z λy z=>pr vB z (bV (hc q.cs) x.x y.x) λc1 z=>(dF bC cf (sd q.es)).1 z λw z=>pr vB z (bV (hc q.cs.tail) y.x w.x) λc2 z=>Q (c1&&c2) z else Jg
noncomputable def Gg(op:L1):Hn HR->CV
 |[],_,_=>Jg
 |e::es,z,Q=>(dF bC cf e).1 z λa z=>bif es.isEmpty then Q a z else dT (g8 a.x) z λb z=>bo op b z (λz=>Gg op es z Q) λb z=>Q (tv a b) z
def aoi:AS:=λdF bC cf q z Q=>Gg dF bC cf q.bo q.es z Q
def aoA:AS:=λdF bC cf q z Q=>F6 dF bC cf q z λb z=>Q ⟨.bool b,.d⟩ z
def oUn:AS:=λdF bC cf q z Q=>(dF bC cf q.a).1 z λx z=>dT (F5 q.un x) z Q
def oIf:AS:=λdF bC cf q z Q=>(dF bC cf q.a).2 z λb z=>bz b z (λz=>(dF bC cf q.b).1 z Q) λz=>(dF bC cf q.d).1 z Q
def aob:AS:=λdF bC cf q z Q=>bif cT q.es then yc dF bC cf q.es z λvs z=>pr id z (if vs.length<=sizeLine then hb (V.fix (.tuple (vs.map (·.x))) (lL vs))else Hu) Q else Jg
def ajM:AS:=λdF bC cf q z Q=>bif cT q.es then yc dF bC cf q.es z λvs z=>pr id z (if vs.length<=sizeLine then hb (V.eE (vs.map (·.x)) (lL vs))else Hu) Q else Jg
noncomputable def CE:Hn (HG×AS):=[(2,anO),(21,aoG),(15,aoA),(3,oUn),(5,oIf),(25,aob),(24,ajM),(0,aoi)]
def Fy(x:HP)(vs:Hn V):CV:=λz Q=>match bf x with
 |some m=>pr id z (m vs) Q
 |none=>bif x=="Outcome"then(bif vs.isEmpty then Jg else tld (∀B,qu.F x B=Hu) z λz=>pr V.x z (qu.N x (vs.map (·.x))) λy z=>Q ⟨y,.d⟩ z)else pr V.x z (qu.F x (vs.map (·.x))) λy z=>Q ⟨y,.d⟩ z
def Gj(k:HG)(t e:HR)(z:Z)(Q:Hn Ho×Fl->Z->Prop):Prop:=
 bif am2 bC t e then(dF bC cf e).1 z λv z=>dT (nE v) z Q else bif vG bC e "range" 1 then(dF bC cf (hd (aa e).es)).1 z λv z=>pr vI z (tB v) Q else dT (jI (J qu k) bC t e cf) z Q
noncomputable def AO(f:Fl):Ig:=match f with
 |.d=>Hq
 |_=>HH
def Gd(e:HR)(vm:ar)(z:Z)(Q:Hp Ho->Prop):Prop:=match gF e with
 |[]=>(dF (dE (rY e) bC) vm (Av e)).1 z λv _=>bif AO v.fl then Q (hb v.x)else Jg
 |[i]=>(dF (dE (rY e) bC) vm i).2 z λb z=>bz b z (λz=>(dF (dE (rY e) bC) vm (Av e)).1 z λv _=>bif AO v.fl then Q (hb v.x)else Jg) λ_=>Q Hu
 |_=>Jg
def zLc(z:Z):Ig:=Z.rec (motive:=λ_=>Ig) HH (λ_ _ _ _ _ s=>s) (λ_ _ _ _ _=>HH) (λ_ _ _ _ _ _ _ _=>HH) (λ_ _ _ _ _ _ _ _ _ _ _ _ _ _=>Hq) (λ_ _ _ s=>s) (λ_ _=>HH) (λ_ _ _ _ _=>HH) (λ_ _ _=>HH) (λ_ _ _=>HH) (λ_ _ _ _ _ _ _ _ _ _ _ _ _ _ _=>HH) (λ_ _ _ _ _ _ _ _ _=>HH) z
def lTg(e:HR)(v:V):Hp ar:=pJ (λx=>iY (dE (rY e) bC) x&&iL (fH (rY e)) x) (gT e) v (inComp (fH (rY e)) cf)
def Fe(k:HG)(e:HR):CV:=λz Q=>bif zLc z then(bif CF e bC then Gj qu dF bC cf k (gT e) (gI e) z λw z=>(match z with
  |.lc _ _ _ B _ v _ g ys _ b z=>w.1=B/\(∀a h,dT (lTg bC cf e (v a)) (b a h) λvm z=>Gd dF bC e vm z λy=>y=g a)/\Q ⟨.list ys,.d⟩ z
  |_=>Jg)else Jg)else pr id z (J qu (k+1) e bC cf).1 Q
def agQ(q:iK):Ig:=q.k==16&&(aa q.a).k==23&&(aY bC (aa q.a).x&&cT q.es)&&q.ks.isEmpty&& !((aa q.a).x=="isinstance")&& !((aa q.a).x=="list"&&mU (hd q.es))
def Ge(e:HR):CV:=λz Q=>match AL e with
 |some sep=>(dF bC cf (hd (aa e).es)).1 z λv z=>(match v.x with
  |.list B=>pr V.x z (pE sep B) λy z=>Q ⟨y,.d⟩ z
  |_=>Jg)
 |none=>Jg
def oAt(q:iK):CV:=λz Q=>bif Ep q.a then(dF bC cf q.a).1 z λv z=>(match qu.S with
 |some s=>bif q.x=="plots"then pr id z (nG s.1 s.2.1 s.2.2.1 s.2.2.2 v.x) Q else pr V.x z (iw s.1 s.2.1 q.x v.x) λx z=>Q (V.fix x v.fl) z
 |none=>dT qu.I z λs z=>pr V.x z (j7 s.1 s.2 q.x v.x) λx z=>Q (V.fix x v.fl) z)else Jg
abbrev BL(e:HR):HR:=(aa (aa e).a).a
def kMt(e:HR)(y:HP):Ig:=(aa e).k==16&&(aa (aa e).a).k==20&&((aa e).ks.isEmpty&&cT (aa e).es&&((aa (aa e).a).p.endLine==(aa e).p.line))&&((aa (aa e).a).x==y&& !(y=="join")&& !(y=="get")&&(!gA 16 (BL e)&& !(aa e).es.isEmpty&&Ln (aa e).es.length 9))
def oMt(e:HR)(y:HP):CV:=λz Q=>dT qu.S z λs z=>(dF bC cf (BL e)).1 z λv z=>yc dF bC cf (aa e).es z λvs z=>cn (gX s.1 s.2.1 v.x=Hq) z λz=>pr V.x z (qu.P y (v.x::vs.map (·.x))) λy z=>Q ⟨y,.d⟩ z
def kVs(e:HR):Ig:=(aa e).k==16&&(aa (aa e).a).k==23&&(aY bC (aa (aa e).a).x&&cT (aa e).es)&&((aa e).ks.isEmpty&&(aa (aa e).a).x=="list"&&(aa e).es.length==1&&mU (hd (aa e).es))
def oD(x:Ho)(z:Z)(Q:Hn (Ho×Ho)->Z->Prop):Prop:=match x with
 |.dict aW=>cn (dQ aW=Hq) z λz=>Q aW z
 |_=>Jg
def oVl(e:HR):CV:=λz Q=>(dF bC cf (aa (aa (hd (aa e).es)).a).a).1 z λv z=>oD v.x z λaW z=>cn (bZ (aW.map (·.2))=Hq) z λz=>Q ⟨.list (aW.map (·.2)),.d⟩ z
def Gz(e:HR):Hp I2:=gd ((aa e).k==16&&(aa (aa e).a).k==23&&(aY bC (aa (aa e).a).x&&cT (aa e).es)&&((aa e).ks.isEmpty&&((aa (aa e).a).x=="isinstance"&&(aa e).es.length==2))) ((nm (sd (aa e).es)).bind λT=>gd (aY bC T) (AM T))
def kSr(e:HR):Ig:=(aa e).k==16&&(aa (aa e).a).k==23&&(aY bC (aa (aa e).a).x&&cT (aa e).es)&&(!(aa e).ks.isEmpty&&((aa (aa e).a).x=="sorted"&&zm (aa e).ks&&(aa e).es.length==1))
def anR(e:HR):Ig:=(aa e).k==16&&(aa (aa e).a).k==20&&(aa (aa e).a).x=="get"&&((aa e).ks.isEmpty&&cT (aa e).es&&((aa (aa e).a).p.endLine==(aa e).p.line))&&((aa e).es.length==2&& !gA 16 (BL e))
def oGt(e:HR):CV:=λz Q=>(dF bC cf (BL e)).1 z λa z=>(dF bC cf (hd (aa e).es)).1 z λk z=>(dF bC cf (sd (aa e).es)).1 z λd z=>pr id z (yL a k d) Q
def oE(k:HG)(e:HR)(q:iK):CV:=match CE.lookup q.k with
 |some f=>f dF bC cf q
 |none=>λz Q=>bif agQ bC q then yc dF bC cf q.es z λvs z=>Fy qu (aa q.a).x vs z Q else bif q.k==23||q.k==19 then dT (J qu (k+1) e bC cf).1 z Q else bif q.k==8 then Fe qu dF bC cf k e z Q else bif(AL e).isSome then Ge dF bC cf e z Q else bif q.k==20 then oAt qu dF bC cf q z Q else bif kMt e (aa q.a).x then oMt qu dF bC cf e (aa q.a).x z Q else bif kVs bC e then oVl dF bC cf e z Q else bif kSr bC e then(dF bC cf (hd q.es)).1 z λv z=>pr id z (sH v) Q else bif anR e then oGt dF bC cf e z Q else match Gz bC e with
  |some s=>(dF bC cf (hd q.es)).1 z λv z=>pr id z (zE s v.x) Q
  |none=>pr id z (J qu (k+1) e bC cf).1 Q
def oT(e:HR)(q:iK)(v:CV):CT:=λz Q=>
 bif q.k==15 then F6 dF bC cf q z Q else
 bif q.k==0 then(match z with
  |.f k p h v z=>(match k with
   |0=>N9/\Gq dF bC cf q.bo q.es z Q
   |k+1=>Fb dF bC cf q.bo q.es (.f k p h v z) Q)
  |z=>Fb dF bC cf q.bo q.es z Q)else
 bif q.k==3 then(match q.un with|.Not=>(dF bC cf q.a).2 z λb z=>Q (!b) z|_=>Jg)else
 bif gA 0 e||gA 3 e||gA 5 e||gA 15 e then Jg else v z λa z=>dT (g8 a.x) z Q
end
noncomputable def JO(c:JC):HG->OR
 |0=>λ_ _ _=>(λ_ _=>Jg,λ_ _=>Jg)
 |k+1=>λsc L e=>(oE c (JO c k) sc L k e (aa e),oT (JO c k) sc L e (aa e) (oE c (JO c k) sc L k e (aa e)))
structure OkR(c:JC)(k:HG)(r:OR):Prop where
 v:∀sc L e z Q,(r sc L e).1 z Q->dc (J c k e sc L).1 Q
 t:∀sc L e z Q,(r sc L e).2 z Q->dc (J c k e sc L).2 Q
section
variable{c:JC}{r:OR}(bF:OkR c k r)
include bF
theorem jN:∀es z(Q:Hn V->Z->Prop),yc r sc L es z Q->dc (rW (J c k) sc es L) Q:=by
 intro es;induction es with
 |nil=>intro z Q h;exact⟨[],z,rfl,h⟩
 |cons e es bX=>intro z Q h;exact(bF.v _ _ e z _ h).bind λv z h=>(bX z _ h).bind λvs z h=>⟨_,z,rfl,h⟩
theorem qO(e:Hp HR)(z:Z)(Q:Hp HI->Z->Prop)(h:DH r sc L e z Q):dc (u9 (J c k) sc e L) Q:=by
 cases e with
 |none=>exact⟨Hu,z,rfl,h⟩
 |some e=>refine(bF.v _ _ e z _ h).bind λv z h=>?_;obtain⟨i,z,h2,h⟩:=aS h;exact h2.symm▸⟨_,z,rfl,h⟩
theorem ae6(op:L1):∀es z(Q:Ig->Z->Prop),Fb r sc L op es z Q->dc (Ec (J c k) sc op es L) Q:=by
 intro es;induction es with
 |nil=>intro z Q h;exact⟨_,z,rfl,h⟩
 |cons e es bX=>
  intro z Q h;exact(bF.t _ _ e z _ h).bind λb z h=>by
   rcases a9 h with⟨U,h⟩|⟨_,h⟩
   ·refine(IC.mp U).symm▸⟨b,z,?_,h⟩;cases op<;>cases b<;>rfl
   rcases ake h with⟨U,z,h⟩|⟨U,z,h⟩
   ·exact U.symm▸bX z Q h
   ·exact U.symm▸⟨b,z,rfl,h⟩
theorem alq(op:L1):∀es z(Q:Ig->Z->Prop),Gq r sc L op es z Q->dc (Ec (J c k) sc op es L) Q:=by
 intro es;induction es with
 |nil=>intro z Q h;exact⟨_,z,rfl,h⟩
 |cons e es bX=>
  intro z Q h;exact(bF.t _ _ e z _ h).bind λb z h=>by
   rcases a9 h with⟨U,h⟩|⟨U,h⟩
   ·refine(IC.mp U).symm▸⟨b,z,?_,h⟩;cases op<;>cases b<;>rfl
   ·obtain⟨b',z,h2,h⟩:=bX z _ h;refine⟨_,z,?_,h⟩;refine h2.symm▸?_;clear h2 h z;cases op<;>cases b<;>rfl
theorem ahS(q:iK)(z:Z)(Q:V->Z->Prop)(h:anO r sc L q z Q):dc (AY c (J c k) q sc L) Q:=by
 dsimp only[AY,CH];rcases a9 h with⟨U,h⟩|⟨U,h⟩
 ·refine U.symm▸?_;revert h;cases pP q.a with
  |some i=>exactλh=>(bF.v _ _ q.b z _ h).bind λy z h=>aS h
  |none=>exactλh=>(aS h).bind λj z h=>(bF.v _ _ q.a z _ h).bind λx z h=>aS h
 ·exact U.symm▸(bF.v _ _ q.a z _ h).bind λx z h=>(bF.v _ _ q.b z _ h).bind λy z h=>dq h
theorem aif(q:iK)(z:Z)(Q:V->Z->Prop)(h:aoG r sc L q z Q):dc (AU c (J c k) q sc L) Q:=by
 dsimp only[AU,Ck];rcases a9 h with⟨U,h⟩|⟨U,h⟩
 ·exact U.symm▸(bF.v _ _ q.a z _ h).bind λx z h=>(qO bF _ z _ h).bind λl z h=>(qO bF _ z _ h).bind λu z h=>(qO bF _ z _ h).bind λt z h=>dq h
 ·refine U.symm▸?_;rcases a9 h with⟨_,h⟩|⟨U,h⟩
  ·exact h.elim
  ·exact U.symm▸(bF.v _ _ q.a z _ h).bind λx z h=>(bF.v _ _ q.b z _ h).bind λy z h=>(dq h).bind λw z h=>(anq h).elim λz h=>⟨_,z,rfl,h⟩
theorem agV(q:iK)(z:Z)(Q:Ig->Z->Prop)(h:F6 r sc L q z Q):dc (DK (J c k) sc q.a q.cs q.es L) Q:=by
 unfold DK;rcases a9 h with⟨U,h⟩|⟨U,h⟩
 ·refine U.symm▸?_;rcases a9 h with⟨_,h⟩|⟨U,h⟩
  ·exact h.elim
  ·exact U.symm▸(bF.v _ _ q.a z _ h).bind λx z h=>(bF.v _ _ _ z _ h).bind λy z h=>dq h
 ·refine U.symm▸?_;rcases a9 h with⟨U,h⟩|⟨_,h⟩
  ·refine dc.gd U ((bF.v _ _ q.a z _ h).bind λx z h=>(bF.v _ _ _ z _ h).bind λy z h=>(dq h).bind λc1 z h=>?_);obtain⟨w,z,h1,h⟩:=bF.v _ _ _ z _ h;obtain⟨c2,z,h2,h⟩:=dq h;refine⟨c1&&c2,z,?_,h⟩;cases c1 with
   |false=>rfl
   |true=>(refine bI h1<|h2.trans ?_);rfl
  ·exact h.elim
theorem amy(op:L1):∀es z(Q:V->Z->Prop),Gg r sc L op es z Q->dc (E9 (J c k) sc op es L) Q:=by
 intro es;induction es with
 |nil=>intro _ _ h;exact h.elim
 |cons e es bX=>
  intro z Q h;exact(bF.v _ _ e z _ h).bind λa z h=>by
   rcases a9 h with⟨U,h⟩|⟨U,h⟩
   ·exact U.symm▸⟨a,z,rfl,h⟩
   ·refine U.symm▸?_;obtain⟨b,z,e,h⟩:=aS h;refine dc.bd e ?_;rcases ake h with⟨U,z,h⟩|⟨U,z,h⟩
    ·exact U.symm▸bX z Q h
    ·refine U.symm▸?_;rw[aoI e]at h;exact⟨a,z,rfl,h⟩
theorem aiK(q:iK)(z:Z)(Q:V->Z->Prop)(h:aoA r sc L q z Q):dc (E7 c (J c k) q sc L) Q:=by obtain⟨b,z,h1,h⟩:=agV bF q z _ h;refine⟨_,z,?_,h⟩;unfold E7;refine h1.symm▸?_;rfl
theorem akI(q:iK)(z:Z)(Q:V->Z->Prop)(h:oIf r sc L q z Q):dc (F3 c (J c k) q sc L) Q:=(bF.t _ _ q.a z _ h).bind λb z h=>by
 rcases sR h with⟨U,z,h⟩|⟨U,z,h⟩
 ·exact U.symm▸bF.v _ _ q.b z Q h
 ·exact U.symm▸bF.v _ _ q.d z Q h
theorem ahC(q:iK)(z:Z)(Q:V->Z->Prop)(h:aob r sc L q z Q):dc (B8 c (J c k) q sc L) Q:=by
 rcases a9 h with⟨U,h⟩|⟨_,h⟩
 ·exact dc.gd U ((jN bF q.es z _ h).bind λvs z h=>dq h)
 ·exact h.elim
theorem agn(q:iK)(z:Z)(Q:V->Z->Prop)(h:ajM r sc L q z Q):dc (yZ c (J c k) q sc L) Q:=by
 rcases a9 h with⟨U,h⟩|⟨_,h⟩
 ·exact dc.gd U ((jN bF q.es z _ h).bind λvs z h=>dq h)
 ·exact h.elim
omit bF in
theorem alj(x:HP)(vs:Hn V)(z:Z)(Q:V->Z->Prop)(h:Fy c x vs z Q):dc (Dz c x vs) Q:=by
 revert h;dsimp only[Fy,Dz];cases bf x with
 |some m=>exactλh=>dq h
 |none=>
  intro h;rcases a9 h with⟨_,h⟩|⟨_,h⟩
  ·rcases a9 h with⟨_,h⟩|⟨hv,h⟩
   ·exact h.elim
   ·obtain⟨h1,z,h⟩:=alf h;obtain⟨y,z,h2,h⟩:=dq h;refine⟨⟨y,.d⟩,z,?_,h⟩;show mQ ((c.F x _).map _) (Mine.gd (!vs.isEmpty) _)=_;rw[h1,hv,h2];rfl
  ·obtain⟨y,z,h1,h⟩:=dq h;refine⟨⟨y,.d⟩,z,?_,h⟩;refine h1.symm▸?_;rfl
theorem anM(q:iK)(z:Z)(Q:V->Z->Prop):∀p∈CE,p.2 r sc L q z Q->∃f,xB.lookup p.1=hb f/\dc (f c (J c k) q sc L) Q:=
 all_cons (λh=>⟨AY,rfl,ahS bF q z Q h⟩) (all_cons (λh=>⟨AU,rfl,aif bF q z Q h⟩) (all_cons (λh=>⟨E7,rfl,aiK bF q z Q h⟩) (all_cons (λh=>⟨kUn,rfl,(bF.v _ _ q.a z _ h).bind λx z h=>aS h⟩) (all_cons (λh=>⟨F3,rfl,akI bF q z Q h⟩) (all_cons (λh=>⟨B8,rfl,ahC bF q z Q h⟩) (all_cons (λh=>⟨yZ,rfl,agn bF q z Q h⟩) (all_cons (λh=>⟨aj0,rfl,amy bF _ _ z Q h⟩) λp hp=>nomatch hp)))))))
theorem agE(q:iK)(z:Z)(Q:V->Z->Prop)(hp:agQ sc q=Hq)(h:yc r sc L q.es z λvs z=>Fy c (aa q.a).x vs z Q):dc (jE c (J c k) q sc L) Q:=by obtain⟨hp,h6⟩:=aj hp;obtain⟨hp,h5⟩:=aj hp;obtain⟨hp,h4⟩:=aj hp;obtain⟨hp,h3⟩:=aj hp;obtain⟨h1,h2⟩:=aj hp;unfold jE;refine(aw h1).symm▸?_;show dc (iH c (J c k) sc q.a q.es q.ks q.p L) Q;unfold iH;refine h2.symm▸h3.symm▸?_;show dc (jH c (J c k) sc (aa q.a).x q.es q.ks L) Q;unfold jH;refine h4.symm▸(cE h5).symm▸?_;show dc (bif(aa q.a).x=="list"&&q.es.length==1&&mU (hd q.es)then _ else(rW (J c k) sc q.es L).bind (Dz c (aa q.a).x)) Q;rw[show((aa q.a).x=="list"&&q.es.length==1&&mU (hd q.es))=HH by have:=cE h6;revert this;cases(aa q.a).x=="list"<;>cases mU (hd q.es)<;>cases q.es.length==1<;>intro h<;>first|rfl|cases h];exact(jN bF q.es z _ h).bind λvs z h=>alj _ vs z Q h
theorem ahn(t e:HR)(z:Z)(Q:Hn Ho×Fl->Z->Prop)(h:Gj c r sc L k t e z Q):dc (jI (J c k) sc t e L) Q:=by
 rcases a9 h with⟨U,h⟩|⟨_,h⟩
 ·obtain⟨v,z,h1,h⟩:=bF.v _ _ e z _ h;obtain⟨w,z,h2,h⟩:=aS h;exact⟨w,z,itD U h1 h2,h⟩
 ·rcases a9 h with⟨U,h⟩|⟨_,h⟩
  ·unfold jI;exact U.symm▸(bF.v _ _ _ z _ h).bind λv z h=>dq h
  ·exact aS h
theorem alu{y:Hp Ho}(hx:V.fix x .s=v)(h1:lTg sc L e v=hb vm)(h:Gd r sc e vm z λw=>w=y):tW (J c k) sc e L x=hb y:=by
 have fin:∀{z:Z}{y:Hp Ho},((r (dE (rY e) sc) vm (Av e)).1 z λv _=>bif AO v.fl then hb v.x=y else Jg)->∃v,(J c k (Av e) (dE (rY e) sc) vm).1=hb v/\v.fl=.d/\hb v.x=y:=λh=>by
  obtain⟨v,_,h2,h⟩:=bF.v _ _ _ _ _ h;rcases a9 h with⟨U,h⟩|⟨_,h⟩
  ·refine rL v h2 ?_ h;revert U;cases v.fl with
   |d=>exactλ_=>rfl
   |_=>exactλh=>Iu (show HH=Hq from h)
  ·exact h.elim
 dsimp only[tW,zf];refine bI (show pJ (λx=>iY (dE (rY e) sc) x&&iL (fH (rY e)) x) (gT e) (V.fix x .s) (inComp (fH (rY e)) L)=hb vm from hx.symm▸h1) ?_;revert h;unfold Gd
 match gF e with
 |[]=>intro h;refine kK (fin h) λv h2 h3 h4=>?_;show(if Hq=Hq then(J c k (Av e) (dE (rY e) sc) vm).1.bind (λv=>if v.fl=.d then hb (hb v.x)else Hu)else hb Hu)=_;(refine iT rfl ?_;(refine bI h2 ?_;rw[H5 h3,h4]))
 |[i]=>
  intro h;obtain⟨b,z,h2,h⟩:=bF.t _ _ i _ _ h;refine bI h2 ?_;rcases sR h with⟨U,z,h⟩|⟨U,z,h⟩
  ·refine kK (fin h) λv h2 h3 h4=>?_;refine U.symm▸iT rfl ?_;show(J c k (Av e) (dE (rY e) sc) vm).1.bind _=_;refine bI h2 ?_;(refine iT h3 ?_;rw[h4])
  ·refine U.symm▸iF (by decide) ?_;exact HL _ h
 |_::_::_=>exactλh=>h.elim
theorem vE(e:HR)(z:Z)(Q:V->Z->Prop)(h:Fe c r sc L k e z Q):dc (J c (k+1) e sc L).1 Q:=by
 rcases a9 h with⟨_,h⟩|⟨_,h⟩
 ·rcases a9 h with⟨U,h⟩|⟨_,h⟩
  ·obtain⟨⟨B,f⟩,z,h1,h⟩:=ahn bF _ _ _ _ h;cases z with
   |lc α as p B ex v hp g ys e b z=>subst e;refine xg h λh2 h3 h4=>⟨_,z,vC U (cF p g U (h1.trans (HL (λB=>hb (B,f)) (h2.trans ex))) λa ha=>?_),h4⟩;obtain⟨vm,z,h5,h6⟩:=aS (h3 a ha);exact alu bF (hp a) h5 h6
   |_=>exact h.elim
  ·exact h.elim
 ·exact dq h
theorem amG(e:HR)(z:Z)(Q:V->Z->Prop)(h:Ge r sc L e z Q):dc (J c (k+1) e sc L).1 Q:=by
 unfold Ge at h;cases hs:AL e with
 |none=>rw[hs]at h;exact h.elim
 |some sep=>
  rw[hs]at h;obtain⟨⟨x,f⟩,z,h1,h⟩:=bF.v _ _ _ z _ h;cases x with
  |list B=>obtain⟨y,z,h2,h⟩:=dq h;exact⟨_,z,aof hs h1 h2,h⟩
  |_=>exact h.elim
theorem alL(e:HR)(z:Z)(Q:V->Z->Prop)(hk:((aa e).k==20)=Hq)(h:oAt c r sc L (aa e) z Q):dc (J c (k+1) e sc L).1 Q:=by
 show dc ((xB.lookup (aa e).k).bind _) Q;refine(aw hk).symm▸?_;rcases a9 h with⟨U,h⟩|⟨_,h⟩
 ·refine dc.gd U ((bF.v _ _ _ z _ h).bind λv z h=>?_);revert h;cases c.S with
  |some s=>
   intro h;rcases a9 h with⟨U,h⟩|⟨U,h⟩
   ·exact U.symm▸dq h
   ·refine U.symm▸?_;obtain⟨x,z,e,h⟩:=dq h;exact⟨_,z,HL (Jo _) e,h⟩
  |none=>exactλh=>(aS h).bind λs z h=>by obtain⟨x,z,e,h⟩:=dq h;exact⟨_,z,HL (Jo _) e,h⟩
 ·exact h.elim
theorem alX(e:HR)(y:HP)(z:Z)(Q:V->Z->Prop)(hk:kMt e y=Hq)(h:oMt c r sc L e y z Q):dc (J c (k+1) e sc L).1 Q:=by
 obtain⟨hk,h4⟩:=aj hk;obtain⟨hk,h3⟩:=aj hk;obtain⟨h1,h2⟩:=aj hk;obtain⟨h4,h8⟩:=aj h4;obtain⟨h4,h7⟩:=aj h4;obtain⟨h4,h6⟩:=aj h4;show dc ((xB.lookup (aa e).k).bind _) Q;refine(aw h1).symm▸?_;show dc (iH _ _ _ _ _ _ _ _) Q;unfold iH;refine(aw h2).symm▸?_;refine dc.gd h3 ?_;rw[aw h4];unfold wM;refine(cE h6).symm▸(cE h7).symm▸?_;show dc (c.S.bind λq=>Mine.gd (!gA 16 (BL e)&& !(aa e).es.isEmpty&&Ln (aa e).es.length 9) _) Q;refine h8.symm▸?_;exact(aS h).bind λs z h=>(bF.v _ _ _ z _ h).bind λv z h=>(jN bF _ z _ h).bind λvs z h=>by
  obtain⟨hc,z,h⟩:=d8 h;obtain⟨x,z,e,h⟩:=dq h;refine dc.iT hc<|e.symm▸?_;exact⟨_,z,rfl,h⟩
omit bF in
theorem w8{Q:Hn (Ho×Ho)->Z->Prop}(h:oD x z Q):dc (gK x) Q:=by
 cases x with
 |dict aW=>obtain⟨h1,z,h⟩:=d8 h;exact⟨_,z,H5 h1,h⟩
 |_=>exact h.elim
theorem akZ(e:HR)(z:Z)(Q:V->Z->Prop)(hk:kVs sc e=Hq)(h:oVl r sc L e z Q):dc (J c (k+1) e sc L).1 Q:=by
 obtain⟨hk,h4⟩:=aj hk;obtain⟨hk,h3⟩:=aj hk;obtain⟨h1,h2⟩:=aj hk;obtain⟨h4,h7⟩:=aj h4;obtain⟨h4,h6⟩:=aj h4;obtain⟨h4,h5⟩:=aj h4;show dc ((xB.lookup (aa e).k).bind _) Q;refine(aw h1).symm▸?_;show dc (iH _ _ _ _ _ _ _ _) Q;unfold iH;refine(aw h2).symm▸h3.symm▸?_;show dc (jH _ _ _ _ _ _ _) Q;unfold jH;refine h4.symm▸(aw h5).symm▸?_;refine h6.symm▸h7.symm▸?_;exact(bF.v _ _ _ z _ h).bind λv z h=>(w8 h).bind λaW z h=>by
  obtain⟨hc,z,h⟩:=d8 h;exact⟨_,z,H5 hc,h⟩
theorem akX(e:HR)(z:Z)(Q:V->Z->Prop)(hk:kSr sc e=Hq)(h:(r sc L (hd (aa e).es)).1 z λv z=>pr id z (sH v) Q):dc (J c (k+1) e sc L).1 Q:=by obtain⟨hk,h4⟩:=aj hk;obtain⟨hk,h3⟩:=aj hk;obtain⟨h1,h2⟩:=aj hk;obtain⟨h4,h5⟩:=aj h4;show dc ((xB.lookup (aa e).k).bind _) Q;refine(aw h1).symm▸?_;show dc (iH _ _ _ _ _ _ _ _) Q;unfold iH;refine(aw h2).symm▸h3.symm▸?_;show dc (jH _ _ _ _ _ _ _) Q;unfold jH;(refine(cE h4).symm▸h5.symm▸?_);exact(bF.v _ _ _ z _ h).bind λv z h=>dq h
theorem akV(e:HR)(s:I2)(z:Z)(Q:V->Z->Prop)(hk:Gz sc e=hb s)(h:(r sc L (hd (aa e).es)).1 z λv z=>pr id z (zE s v.x) Q):dc (J c (k+1) e sc L).1 Q:=by obtain⟨hk,h5⟩:=fJ hk;obtain⟨hk,h4⟩:=aj hk;obtain⟨hk,h3⟩:=aj hk;obtain⟨h1,h2⟩:=aj hk;obtain⟨h4,h6⟩:=aj h4;obtain⟨T,h7,h8⟩:=ao h5;obtain⟨h8,h9⟩:=fJ h8;show dc ((xB.lookup (aa e).k).bind _) Q;refine(aw h1).symm▸?_;show dc (iH _ _ _ _ _ _ _ _) Q;unfold iH;refine(aw h2).symm▸h3.symm▸?_;show dc (jH _ _ _ _ _ _ _) Q;unfold jH;(refine h4.symm▸h6.symm▸?_);show dc (y0 _ _ _ _ _) Q;unfold y0;refine h7.symm▸?_;show dc (Mine.gd (aY sc T) ((AM T).bind _)) Q;(refine h8.symm▸h9.symm▸?_);exact(bF.v _ _ _ z _ h).bind λv z h=>dq h
theorem alK(e:HR)(z:Z)(Q:V->Z->Prop)(hk:anR e=Hq)(h:oGt r sc L e z Q):dc (J c (k+1) e sc L).1 Q:=by obtain⟨hk,h5⟩:=aj hk;obtain⟨hk,h4⟩:=aj hk;obtain⟨hk,h3⟩:=aj hk;obtain⟨h1,h2⟩:=aj hk;show dc ((xB.lookup (aa e).k).bind _) Q;refine(aw h1).symm▸?_;show dc (iH _ _ _ _ _ _ _ _) Q;unfold iH;refine(aw h2).symm▸?_;(refine dc.gd h4 ?_;rw[aw h3]);show dc (bif Hq&&(aa e).es.length==2&& !gA 16 (BL e)then(J c k (BL e) sc L).1.bind _ else _) Q;exact(show(Hq&&(aa e).es.length==2&& !gA 16 (BL e))=Hq from h5).symm▸(bF.v _ _ _ z _ h).bind λa z h=>(bF.v _ _ _ z _ h).bind λk z h=>(bF.v _ _ _ z _ h).bind λd z h=>dq h
theorem ajp(e:HR)(z:Z)(Q:V->Z->Prop)(h:oE c r sc L k e (aa e) z Q):dc (J c (k+1) e sc L).1 Q:=by
 revert h;unfold oE;cases hl:CE.lookup (aa e).k with
 |some f=>intro h;refine aQ (anM bF (aa e) z Q _ (aeY hl) h) λg hg h=>?_;show dc ((xB.lookup (aa e).k).bind λf=>f c (J c k) (aa e) sc L) Q;exact hg.symm▸h
 |none=>
  intro h;rcases a9 h with⟨U,h⟩|⟨_,h⟩
  ·exact agE bF (aa e) z Q U h
  rcases a9 h with⟨_,h⟩|⟨_,h⟩
  ·exact aS h
  rcases a9 h with⟨_,h⟩|⟨_,h⟩
  ·exact vE bF e z Q h
  rcases a9 h with⟨_,h⟩|⟨_,h⟩
  ·exact amG bF e z Q h
  rcases a9 h with⟨U,h⟩|⟨_,h⟩
  ·exact alL bF e z Q U h
  rcases a9 h with⟨U,h⟩|⟨_,h⟩
  ·exact alX bF e _ z Q U h
  rcases a9 h with⟨U,h⟩|⟨_,h⟩
  ·exact akZ bF e z Q U h
  rcases a9 h with⟨U,h⟩|⟨_,h⟩
  ·exact akX bF e z Q U h
  rcases a9 h with⟨U,h⟩|⟨_,h⟩
  ·exact alK bF e z Q U h
  revert h;cases hi:Gz sc e with
  |some s=>exactλh=>akV bF e s z Q hi h
  |none=>exactλh=>dq h
theorem anQ(e:HR)(z:Z)(Q:Ig->Z->Prop)(h:oT r sc L e (aa e) (oE c r sc L k e (aa e)) z Q):dc (J c (k+1) e sc L).2 Q:=by
 show dc (jT (J c k) e (aa e) sc L (J c (k+1) e sc L).1) Q;unfold jT;rcases a9 h with⟨U,h⟩|⟨U,h⟩
 ·exact U.symm▸agV bF _ z Q h
 refine U.symm▸?_;rcases a9 h with⟨U,h⟩|⟨U,h⟩
 ·refine U.symm▸?_;cases z with
  |f k p _ v z=>cases k with
   |zero=>exact alq bF _ _ z Q h.2
   |succ k=>exact ae6 bF _ _ _ Q h
  |_=>exact ae6 bF _ _ _ Q h
 refine U.symm▸?_;rcases a9 h with⟨U,h⟩|⟨U,h⟩
 ·refine U.symm▸?_;revert h;cases(aa e).un with
  |Not=>intro h;obtain⟨b,z,h1,h⟩:=bF.t _ _ _ z _ h;refine⟨!b,z,?_,h⟩;refine h1.symm▸?_;rfl
  |_=>exactλh=>h.elim
 refine U.symm▸?_;rcases a9 h with⟨U,h⟩|⟨U,h⟩
 ·exact h.elim
 ·exact U.symm▸(ajp bF e z _ h).bind λv z h=>aS h
omit bF in
theorem cx:∀k,OkR c k (JO c k)
 |0=>⟨λ_ _ _ _ _ h=>Oe h,λ_ _ _ _ _ h=>Oe h⟩
 |k+1=>⟨λsc L e z Q h=>ajp (cx k) e z Q h,λsc L e z Q h=>anQ (cx k) e z Q h⟩
end
end X
namespace X
abbrev GK:=ar->Z->Prop
abbrev GB:=(Hp Out->Prop)->Hn IM->ar->Z->GK->Prop
section
variable(bh:Mc)
abbrev nX(s:IM):HP:=(aa (jF s)).x
abbrev xX(s:IM):HP:=(aa (aa (dy s).a).a).x
def ur(Q:Hp Out->Prop)(o:Hp Out)(z:Z)(aU:GK):Prop:=match o with
 |some (.next L)=>aU L z
 |some (.ret y)=>Q (hb (.ret y))
 |some (.fU y L)=>Q (hb (.fU y L))
 |_=>Jg
def gAs(s:IM)(L:ar)(z:Z)(aU:GK)(G:Prop):Prop:=
 bif Cx bh s (nX s)&&((aa (dp s)).k==24&&cT (aa (dp s)).es)then yc (JO bh.c 40) bh.sc L (aa (dp s)).es z λvs z=>bif Ln vs.length 1000&&AO (lL vs)then aU (L.set (nX s) (.own (.lst (vs.map (·.x))))) z else Jg else
 bif Cx bh s (nX s)&&(aa (dp s)).k==8 then Fe bh.c (JO bh.c 40) bh.sc L 40 (dp s) z λv z=>aU (L.set (nX s) (.val v)) z else
 bif Cx bh s (nX s)&&plE bh (nX s) (dp s) (aa (dp s))then(JO bh.c 40 bh.sc L (dp s)).1 z λv z=>bif Gy v.fl then aU (L.set (nX s) (.val v)) z else Jg else G
noncomputable def xU(L:ar):Hn HR->Z->(Hn Ho->Z->Prop)->Prop
 |[],z,Q=>Q [] z
 |e::es,z,Q=>(match(nm e).bind λx=>gd (aA bh.sc x) (pA (L x))with
  |some d=>xU L es z λB z=>Q (d::B) z
  |none=>(JO bh.c 40 bh.sc L e).1 z λv z=>dT (sE v) z λd z=>xU L es z λB z=>Q (d::B) z)
def apv(s:IM)(L:ar):Ig:=(au s).k==3&&(au s).oe.isSome&& !bh.rt&&((aa (pX s)).k==25&&vN (aa (pX s)).es L)&&cT (aa (pX s)).es
def gRt(Q:Hp Out->Prop)(s:IM)(L:ar)(z:Z)(G:Prop):Prop:=bif apv bh s L then xU bh L (aa (pX s)).es z λB _=>bif Ln B.length 1000 then Q (hb (.ret (.tuple B)))else Jg else
 bif an2 bh s&& !((aa (pX s)).k==25&&vN (aa (pX s)).es L)then(JO bh.c 40 bh.sc L (pX s)).1 z λv z=>ur Q (Bb v) z λ_ _=>Jg else
 bif(au s).k==3&&(au s).oe.isSome&&bh.rt then(JO bh.c 40 bh.sc L (pX s)).1 z λv z=>cn (flat v.x=Hq) z λ_=>Q (hb (.fU v.x L))else G
def gEx(s:IM)(L:ar)(z:Z)(aU:GK)(G:Prop):Prop:=
 bif yU bh s (xX s) "append"then(match L (xX s)with
  |some (.own (.lst B))=>(JO bh.c 40 bh.sc L (hd (dy s).es)).1 z λv z=>bif AO v.fl then cn (B.length<10000) z λz=>aU (L.set (xX s) (.own (.lst (B++[v.x])))) z else Jg
  |_=>G)else
 bif yU bh s (xX s) "extend"then(match L (xX s)with
  |some (.own (.lst B))=>(JO bh.c 40 bh.sc L (hd (dy s).es)).1 z λv z=>(match v.x with
   |.list ys=>bif AO v.fl then cn (B.length+ys.length<10000) z λz=>aU (L.set (xX s) (.own (.lst (B++ys)))) z else Jg
   |_=>Jg)
  |_=>G)else G
def gIf(gb:GB)(Q:Hp Out->Prop)(s:IM)(L:ar)(z:Z)(aU:GK):Prop:=(JO bh.c 40 bh.sc L (ifE s)).2 z λb z=>match z with
 |.mg l c x y z=>b=c/\(∀h,gb (Dw l) (BD s) L (x h) λL _=>nv l L=vl l)/\(∀h,gb (Dw l) (BJ s) L (y h) λL _=>nv l L=vl l)/\∀L,aU (d6 l L) z
 |z=>bz b z (λz=>gb Q (BD s) L z aU) λz=>gb Q (BJ s) L z aU
noncomputable def onF(m:ar->Hp Out)(o:Out):Hp Out:=match o with
 |.next L=>m L
 |.cont L=>m L
 |.brk L=>hb (.next L)
 |.ret y=>hb (.ret y)
 |.fU y L=>hb (.fU y L)
noncomputable def F7(gb:GB)(k:HG)(s:IM)(f:Fl):Hn Ho->(Hp Out->Prop)->ar->Z->GK->Prop
 |[],Q,L,z,aU=>aU L z
 |x::B,Q,L,z,aU=>dT (pJ (aA bh.sc) (vh s) (V.fix x f) L) z λL z=>gb (λo=>Q (o.bind (onF (rV (pJ (aA bh.sc) (vh s)) (bh.bM k (yt s)) f B)))) (yt s) L z λL z=>F7 gb k s f B Q L z aU
def plc(x k:Ho)(z:Z)(Q:Ho×(Ho->Ho)->Z->Prop):Prop:=match x,k with
 |.list B,.int i=>pr V.x z (ed (.list B) (.int i)) λy z=>cn (0<=i) z λz=>Q (y,λz=>.list (B.set i.toNat z)) z
 |x,k=>dT (place x k) z Q
noncomputable def DI:HG->HR->ar->Ho->Z->(Ho×(Ho->Ho)->Z->Prop)->Prop
 |0,_,_,_,_,_=>Jg
 |k+1,e,L,d,z,Q=>bif(aa e).k==23 then Q (d,id) z else
  bif(aa e).k==21 then DI k (aa e).a L d z λp z=>(JO bh.c 40 bh.sc L (aa e).b).1 z λq z=>plc p.1 q.x z λw z=>Q (w.1,λy=>p.2 (w.2 y)) z else
  dT bh.c.S z λs z=>DI k (aa e).a L d z λp z=>dT (fld (aa e).x) z λi z=>pr V.x z ((gk s.1 s.2.1 p.1).bind λr=>r.2[yb i]?) λw z=>Q (w,λy=>p.2 (wb (yb i) y p.1)) z
abbrev tX(s:IM):HP:=(j0 9 (yu s)).getD ""
def Gi(s:IM)(y x:HP)(a:HR)(L:ar)(z:Z)(aU:GK):Prop:=dT (bL L x) z λd z=>DI bh 9 (yu s) L d.2 z λp z=>
 bif y=="append"&&(aa a).k==24 then(bif cT (aa a).es then dT (listOfD p.1) z λB z=>yc (JO bh.c 40) bh.sc L (aa a).es z λvs z=>bif bZ (vs.map (·.x))&&Ln vs.length 1000 then cn (B.length<10000) z λz=>aU (L.set x (.own (.tree d.1 (p.2 (.list (B++[.list (vs.map (·.x))])))))) z else Jg else Jg)else
 bif y=="append"then dT (listOfD p.1) z λB z=>(JO bh.c 40 bh.sc L a).1 z λv z=>bif flat v.x then cn (B.length<10000) z λz=>aU (L.set x (.own (.tree d.1 (p.2 (.list (B++[v.x])))))) z else Jg else
 bif y=="extend"then dT (listOfD p.1) z λB z=>(JO bh.c 40 bh.sc L a).1 z λv z=>dT (listOfD v.x) z λys z=>bif AO v.fl then cn (bZ ys=Hq) z λz=>cn (B.length+ys.length<10000) z λz=>aU (L.set x (.own (.tree d.1 (p.2 (.list (B++ys)))))) z else Jg else
 bif y=="pop"then oD p.1 z λaW z=>(JO bh.c 40 bh.sc L a).1 z λk z=>dT (fW k.x) z λkey z=>pr V.x z (atKey key aW) λw z=>cn (afH w=Hq) z λz=>aU (L.set x (.own (.tree d.1 (p.2 (.dict (uA key aW)))))) z else Jg
abbrev sX(s:IM):HP:=(j0 9 (ug s)).getD ""
def gSe(s:IM)(x:HP)(ev:CV)(fl:Ho->Ig)(L:ar)(z:Z)(aU:GK):Prop:=dT (bL L x) z λd z=>ev z λv z=>DI bh 9 (ug s) L d.2 z λp z=>oD p.1 z λaW z=>(JO bh.c 40 bh.sc L (qo s)).1 z λk z=>dT (fW k.x) z λkey z=>cn (fl v.x=Hq) z λz=>cn (aW.length<10000) z λz=>aU (L.set x (.own (.tree d.1 (p.2 (.dict (lg key v.x aW)))))) z
def gSt(s:IM)(x:HP)(L:ar)(z:Z)(aU:GK):Prop:=
 bif(aa (dp s)).k==8 then gSe bh s x (Fe bh.c (JO bh.c 40) bh.sc L 40 (dp s)) (λv=>bZ ((listOfD v).getD [])) L z aU else bif j5 (dp s)then gSe bh s x (JO bh.c 40 bh.sc L (dp s)).1 flat L z aU else Jg
def y7(bh:Mc)(s:IM)(x:HP):Ig:=(au s).k==5&&((au s).ts.length==1)&&(aa (jF s)).k==21&&((oF (ug s)).isNone&&Fu bh (ug s)&&nm (ug s)==hb x&&(aA bh.sc x&&j5 (dp s)))
def gSi(s:IM)(x:HP)(L:ar)(z:Z)(aU:GK):Prop:=(JO bh.c 40 bh.sc L (dp s)).1 z λv z=>
 bif(aa (qo s)).k==26&&(aa (qo s)).o3.isNone then DH (JO bh.c 40) bh.sc L (aa (qo s)).o1 z λa z=>DH (JO bh.c 40) bh.sc L (aa (qo s)).o2 z λb z=>(match L x with
  |some (.own (.lst B))=>dT (listOfD v.x) z λys z=>bif AO v.fl then cn (B.length+ys.length<10000) z λz=>cn ((pY a b B ys).length<10000) z λz=>aU (L.set x (.own (.lst (pY a b B ys)))) z else Jg
  |_=>Jg)
 else(JO bh.c 40 bh.sc L (qo s)).1 z λk z=>(match L x with
  |some (.own (.lq B))=>dT (cD k.x) z λi z=>dT (fW v.x) z λt z=>cn (B.length<10000) z λz=>aU (L.set x (.own (.lq (nL B i t)))) z
  |_=>Jg)
abbrev siX(s:IM):HP:=(nm (ug s)).getD ""
abbrev aX(s:IM):HP:=(j0 9 (Ft s)).getD ""
def GA(s:IM)(x:HP)(L:ar)(z:Z)(aU:GK):Prop:=dT (bL L x) z λd z=>DI bh 9 (Ft s) L d.2 z λp z=>dT (listOfD p.1) z λB z=>(JO bh.c 40 bh.sc L (GC s)).1 z λk z=>dT (cD k.x) z λj z=>pr V.x z (ed (.list B) (.int j)) λy z=>cn (0<=j) z λz=>dT (cD y) z λa z=>(JO bh.c 40 bh.sc L (dp s)).1 z λv z=>dT (cD v.x) z λb z=>aU (L.set x (.own (.tree d.1 (p.2 (.list (B.set j.toNat (.int (a+b)))))))) z
abbrev cG(s:IM):HP:=(aa (dy s).a).x
abbrev cX(s:IM):HP:=(aa (sd (dy s).es)).x
def gCm(s:IM)(g x:HP)(L:ar)(z:Z)(aU:GK):Prop:=dT (bL L x) z λd z=>(JO bh.c 40 bh.sc L (hd (dy s).es)).1 z λv1 z=>(JO bh.c 40 bh.sc L (sd (dy s).es.tail)).1 z λv3 z=>bif Gy v1.fl then cn (flat v3.x=Hq) z λz=>pr V.x z (bh.c.M g [v1.x,d.2,v3.x]) λd' z=>cn (dD d'=Hq) z λz=>aU (L.set x (.own (.tree d.1 d'))) z else Jg
def tP(m:ar->Hp Out)(x:HP)(d d':Ho):Prop:=∀ro L,bL L x=hb (ro,d)->m L=hb (.next (L.set x (.own (.tree ro d'))))
def Eo(m:ar->Hp Out)(x:HP)(d:Hp Hv×Ho)(L:ar)(z:Z)(aU:GK):Prop:=match z with
 |.f k _ _ v z=>(match k with
  |0=>tP m x d.2 v.x/\aU (L.set x (.own (.tree d.1 v.x))) z
  |_=>Jg)
 |_=>Jg
def FZ(e:HR)(L:ar)(z:Z)(Q:Ho->Z->Prop):Prop:=bif(aa e).k==16&& !vG bh.sc e "list" 1&& !(aa e).es.isEmpty then dT (DB bh.sc e) z λx z=>yc (JO bh.c 40) bh.sc L (aa e).es z λvs z=>pr V.x z (bh.c.N x (vs.map (·.x))) Q else Jg
def oET(e:HR)(L:ar)(z:Z)(Q:Ho->Z->Prop):Prop:=bif(aa e).k==16 then(bif vG bh.sc e "list" 1 then yc (JO bh.c 40) bh.sc L (aa e).es z λvs z=>pr V.x z (qJ vs) Q else FZ bh e L z Q)else
 bif(aa e).k==24&&(aa e).es.isEmpty then Q (.list []) z else bif(aa e).k==6&&(aa e).oe.isEmpty&&(aa e).es.isEmpty then Q (.dict []) z else bif(aa e).k==6||(aa e).k==24 then Jg else(JO bh.c 40 bh.sc L e).1 z λv z=>cn (flat v.x=Hq) z λz=>Q v.x z
abbrev saX(s:IM):HP:=(aa (aa (jF s)).a).x
def apB(s:IM)(x:HP)(ns:Hn HP):Ig:=(au s).k==5&&((au s).ts.length==1)&&(aa (jF s)).k==20&&(nm (aa (jF s)).a==hb x&&(aA bh.sc x&&iL ns (aa (jF s)).x&&wf (.str (aa (jF s)).x)&&j5 (dp s)))
def gSa(s:IM)(x:HP)(L:ar)(z:Z)(aU:GK):Prop:=dT bh.c.I z λq z=>bif apB bh s x q.2 then dT (bL L x) z λd z=>oET bh (dp s) L z λy z=>pr V.x z (zp q.1 (aa (jF s)).x y d.2) λd' z=>aU (L.set x (.own (.tree d.1 d'))) z else Jg
abbrev hX(s:IM):HP:=(oF (ug s)).getD ""
def aou(s:IM)(x:HP):Ig:=(au s).k==5&&((au s).ts.length==1)&&(aa (jF s)).k==21&&oF (ug s)==hb x&&aA bh.sc x
def gHd(s:IM)(x:HP)(L:ar)(z:Z)(aU:GK):Prop:=dT bh.c.S z λq z=>dT (bL L x) z λd z=>
 bif(aa (dp s)).k==21&&(oF (aa (dp s)).a==hb x)&& !gA 26 (aa (dp s)).b then(JO bh.c 40 bh.sc L (aa (dp s)).b).1 z λvj z=>(JO bh.c 40 bh.sc L (qo s)).1 z λvi z=>Eo (g9 q.1 q.2.1 x (λ_=>hb vi) λ_=>hb vj) x d L z aU else
 bif j5 (dp s)then FZ bh (dp s) L z λy z=>(JO bh.c 40 bh.sc L (qo s)).1 z λvi z=>Eo (jb q.1 q.2.1 x (λ_=>hb vi) λ_=>hb y) x d L z aU else Jg
abbrev Aw(s:IM):HR:=(aa (au s).t).a
def anp(s:IM)(x:HP):Ig:=(au s).k==7&&xv (au s).op&&(aa (au s).t).k==20&&(aa (au s).t).x=="opened"&&nm (Aw s)==hb x&&aA bh.sc x
def amZ(s:IM)(x:HP):Ig:=(au s).k==7&&xv (au s).op&&(aa (au s).t).k==20&&(aa (au s).t).x=="amount"&&((aa (Aw s)).k==21&& !gA 26 (aa (Aw s)).b&&oF (aa (Aw s)).a==hb x&&aA bh.sc x)
def gOp(s:IM)(x:HP)(L:ar)(z:Z)(aU:GK):Prop:=dT bh.c.S z λq z=>dT (bL L x) z λd z=>(JO bh.c 40 bh.sc L (dp s)).1 z λv z=>Eo (kG q.1 q.2.1 x λ_=>hb v) x d L z aU
def gAm(s:IM)(x:HP)(L:ar)(z:Z)(aU:GK):Prop:=dT bh.c.S z λq z=>dT (bL L x) z λd z=>(JO bh.c 40 bh.sc L (aa (Aw s)).b).1 z λvi z=>(JO bh.c 40 bh.sc L (dp s)).1 z λv z=>Eo (je q.1 q.2.1 x (λ_=>hb vi) λ_=>hb v) x d L z aU
noncomputable def vP(v:V):Ho×Ho:=match v.x with
 |.tuple [a,b]=>(a,b)
 |_=>(.none,.none)
def Eh(q:iK)(L:ar)(z:Z)(aU:Ho->GK):Prop:=dT bh.c.S z λs z=>dT (bL L (aa (aa q.a).a).x) z λd z=>yc (JO bh.c 40) bh.sc L q.es z λvs z=>(match vs with
 |[v]=>cn (gX s.1 s.2.1 d.2=Hq) z λz=>cn (flat v.x=Hq) z λz=>pr vP z (bh.c.R (aa q.a).x [d.2,v.x]) λr z=>cn (dD r.2=Hq) z λz=>cn (flat r.1=Hq) z λz=>aU r.1 (L.set (aa (aa q.a).a).x (.own (.tree d.1 r.2))) z
 |_=>Jg)
def aos(s:IM):Ig:=(au s).k==24&&(dy s).k==16&&tf bh (dy s)
def aoo(s:IM):Ig:=(au s).k==24&&(dy s).k==16&& !tf bh (dy s)&&((dy s).ks.isEmpty&&cT (dy s).es)&& !((aa (dy s).a).k==20)&& !((dy s).es.length==3)
def gCe(s:IM)(L:ar)(z:Z)(aU:GK):Prop:=(JO bh.c 40 bh.sc L (au s).e).1 z λv z=>bif xY v.x then aU L z else Jg
def anP(s:IM):Ig:=Cx bh s (nX s)&&((aa (dp s)).k==16&& !(aa (dp s)).es.isEmpty&&tf bh (aa (dp s)))
abbrev rU(s:IM):iK:=aa (dp s)
def anw(s:IM)(g:HP):Ig:=Cx bh s (nX s)&&((rU s).k==16&&(rU s).es.isEmpty&&nm (rU s).a==hb g&&(aY bh.sc g&&(rU s).ks.isEmpty))
def anY(s:IM)(g:HP):Ig:=Cx bh s (nX s)&&((rU s).k==16&& !(rU s).es.isEmpty&& !tf bh (rU s)&&bh.ow (nX s)&&nm (rU s).a==hb g&&(aY bh.sc g&&cT (rU s).es&&(rU s).ks.isEmpty&&(bf g).isNone))
def gTc(s:IM)(g:HP)(L:ar)(z:Z)(aU:GK):Prop:=pr V.x z (bh.c.T g) λd z=>aU (L.set (nX s) (.own (.tree Hu d))) z
def gOc(s:IM)(g:HP)(L:ar)(z:Z)(aU:GK):Prop:=yc (JO bh.c 40) bh.sc L (rU s).es z λvs z=>pr V.x z (bh.c.F g (vs.map (·.x))) λy z=>(match y with
 |.list ys=>cn (bZ ys=Hq) z λz=>aU (L.set (nX s) (.own (.lst ys))) z
 |_=>Jg)
def aoP(s:IM):Ig:=(au s).k==5&&((au s).ts.length==1)&&(aa (jF s)).k==25&&(!gA 25 (dp s)&&j5 (dp s))
def gTu(s:IM)(L:ar)(z:Z)(aU:GK):Prop:=(JO bh.c 40 bh.sc L (dp s)).1 z λv z=>dT (pJ (aA bh.sc) (jF s) v L) z aU
def gEn(z:Z)(L:ar)(P:En->Prop):Prop:=match z with
 |.e l _ _=>nv l L=vl l/\P l
 |_=>Jg
def orR(Q:Hp Out->Prop)(P:En->Prop)(o:Hp Out):Prop:=match o with
 |some (.next L)=>∃l,nv l L=vl l/\P l
 |some (.ret y)=>Q (hb (.ret y))
 |some (.fU y L)=>Q (hb (.fU y L))
 |_=>Jg
def Ek(gb:GB)(Q:Hp Out->Prop)(s:IM)(P:En->Prop)(L:ar)(z:Z):Prop:=gb (orR Q P) (yt s) L z λL z=>gEn z L P
def gFo(gb:GB)(k:HG)(Q:Hp Out->Prop)(s:IM)(w:Hn Ho×Fl)(L:ar)(z:Z)(aU:GK):Prop:=match z with
 |.fr _ _ as p B _ _ I aH s0 _ b z=>w.1=B/\nv (I 0 s0) L=vl (I 0 s0)/\(∀j a h x r L,dT (pJ (aA bh.sc) (vh s) ⟨p a,.d⟩ (d6 (I j x) L)) (b j a h x r) λL z=>Ek gb Q s (λl=>∃x,aH (j+1) x/\I (j+1) x=l) L z)/\∀x r L,aU (d6 (I as.length x) L) (z x r)
 |z=>F7 bh gb k s w.2 w.1 Q L z aU
def gWh(gb:GB)(Q:Hp Out->Prop)(s:IM)(L:ar)(z:Z)(aU:GK)(G:Prop):Prop:=match z with
 |.wh _ I aH m s0 _ _ t=>nv (I s0) L=vl (I s0)/\m s0<100000/\∀x r L,(JO bh.c 40 bh.sc (d6 (I x) L) (vh s)).2 (t x r) λb z=>bz b z (λz=>Ek gb Q s (λl=>∃y,aH y/\m y<m x/\I y=l) (d6 (I x) L) z) λz=>aU (d6 (I x) L) z
 |_=>G
def gS(gb:GB)(k:HG)(Q:Hp Out->Prop)(s:IM)(L:ar)(z:Z)(aU:GK):Prop:=
 bif Dr s then gIf bh gb Q s L z aU else bif(au s).k==5 then gAs bh s L z aU (bif Ch bh s (sX s)then gSt bh s (sX s) L z aU else bif aou bh s (hX s)then gHd bh s (hX s) L z aU else bif y7 bh s (siX s)then gSi bh s (siX s) L z aU else bif anP bh s then Eh bh (aa (dp s)) L z λy L z=>aU (L.set (nX s) (.val ⟨y,.d⟩)) z else bif anw bh s (aa (rU s).a).x then gTc bh s (aa (rU s).a).x L z aU else bif anY bh s (aa (rU s).a).x then gOc bh s (aa (rU s).a).x L z aU else bif aoP s then gTu bh s L z aU else bif(aa (jF s)).k==20 then gSa bh s (saX s) L z aU else ur Q (bh.sM k s L) z aU)else bif(au s).k==3 then gRt bh Q s L z (ur Q (bh.sM k s L) z aU)else bif(au s).k==24 then gEx bh s L z aU (bif Cc bh s (tX s) (cG s)then Gi bh s (cG s) (tX s) (BH s) L z aU else bif aon bh s (cG s) (cX s)then gCm bh s (cG s) (cX s) L z aU else bif aos bh s then Eh bh (dy s) L z λy L z=>bif isNone y then aU L z else Jg else bif aoo bh s then gCe bh s L z aU else ur Q (bh.sM k s L) z aU)else
 bif an0 bh s (aX s)then GA bh s (aX s) L z aU else bif anp bh s ((nm (Aw s)).getD "")then gOp bh s ((nm (Aw s)).getD "") L z aU else bif amZ bh s ((oF (aa (Aw s)).a).getD "")then gAm bh s ((oF (aa (Aw s)).a).getD "") L z aU else
 bif aj2 s then Gj bh.c (JO bh.c 40) bh.sc L 40 (vh s) (frE s) z λw z=>bif Gy w.2 then gFo bh gb k Q s w L z aU else Jg else bif Cu s then gWh bh gb Q s L z aU (ur Q (bh.sM k s L) z aU)else ur Q (bh.sM k s L) z aU
def gL(gb:GB)(k:HG):GB:=λQ ss L z aU=>match ss with
 |[]=>aU L z
 |s::rest=>gS bh gb k (λo=>Q (o.bind (wF (bh.bM k rest)))) s L z λL z=>gb Q rest L z aU
noncomputable def gC(f:Z->Prop):HG->Z->Prop
 |0,z=>f z
 |n+1,z=>match z with
  |.cs _ x y=>(∀h,gC f n (x h))/\∀h,gC f n (y h)
  |z=>f z
noncomputable def gB:HG->GB
 |0,_,_,_,_,_=>Jg
 |k+1,Q,ss,L,z,aU=>gC (λz=>match z with
  |.lv l _ _=>nv l L=vl l/\∀L,Q (bh.bM (k+1) ss (d6 l L))
  |z=>gL bh (gB k) k Q ss L z aU) 3 z
end
abbrev SB(M:Mc)(m:Hn IM->ar->Hp Out)(gb:GB):Prop:=∀Q ss L z aU,gb Q ss L z aU->(∀L z,aU L z->Q (hb (.next L)))->Q (m ss L)
theorem eR{B:Hn α}{k:HI}(h:0<=k):e7 B k=B[k.toNat]? :=H5 h
variable{l:En}
theorem kE(h:nv l L=vl l):L=d6 l L:=adx h
section
theorem rq(h:AO f=Hq):f=.d:=by
 cases f with
 |d=>rfl
 |_=>exact Iu (show HH=Hq from h)
variable{Q:Hp Out->Prop}{z:Z}{aU:GK}
theorem adS{o:Hp Out}(h:ur Q o z aU)(hK:∀L z,aU L z->Q (hb (.next L))):Q o:=by
 cases o with
 |none=>exact h.elim
 |some o=>cases o with
  |next L=>exact hK _ _ h
  |ret y=>exact h
  |fU y L=>exact h
  |_=>exact h.elim
variable(bO:M.r=J M.c 40)(bN:∀L z,aU L z->Q (hb (.next L)))
include bO bN
variable{G:Prop}
theorem amg(g:G->Q (M.sM k s L))(h:gAs M s L z aU G):Q (M.sM k s L):=by
 rcases a9 h with⟨h1,h⟩|⟨_,h⟩
 ·obtain⟨h1,h2⟩:=aj h1;obtain⟨h2,h3⟩:=aj h2;rw[o0 h1];obtain⟨vs,_,e,h⟩:=jN (cx 40) _ _ _ h;rcases a9 h with⟨h4,h⟩|⟨_,h⟩
  ·obtain⟨h4,h5⟩:=aj h4;unfold lx;refine h2.symm▸h3.symm▸bO.symm▸?_;refine bQ _ e ?_;rw[H5 ⟨Hs (IE h4) (by decide),rq h5⟩];exact bN _ _ h
  ·exact h.elim
 rcases a9 h with⟨h1,h⟩|⟨_,h⟩
 ·obtain⟨h1,h2⟩:=aj h1;rw[o0 h1];obtain⟨v,_,e,h⟩:=vE (cx 40) _ _ _ h;unfold lx;revert e;show((xB.lookup (aa (dp s)).k).bind _=_)->_;refine(aw h2).symm▸bO.symm▸?_;intro e;obtain⟨ys,e1⟩:=dI (show(kY (J M.c 40) M.sc (aa (dp s)).a (aa (dp s)).gs (aa (dp s)).sc L).map _=hb v from e);exact e1.symm▸bN _ _ h
 rcases a9 h with⟨h1,h⟩|⟨_,h⟩
 ·obtain⟨h1,h2⟩:=aj h1;rw[o0 h1,ak5 h2];show Q ((M.r (dp s) M.sc L).1.bind _);obtain⟨v,_,e,h⟩:=(cx 40).v _ _ _ _ _ h;rcases a9 h with⟨h3,h⟩|⟨_,h⟩
  ·refine bO.symm▸?_;rw[e,HT];have:uz L (nX s) v=hb (.next (L.set (nX s) (.val v))):=by
    obtain⟨a,f⟩:=v;clear h;cases f with
    |t=>cases h3
    |_=>rfl
   exact this.symm▸bN _ _ h
  ·exact h.elim
 ·exact g h
omit bN in
theorem ajh:∀es z(Q:Hn Ho->Z->Prop),xU M L es z Q->dc (zw M es L) Q:=by
 intro es;induction es with
 |nil=>intro z Q h;exact⟨[],z,rfl,h⟩
 |cons e es bX=>
  intro z Q h;replace h:(match(nm e).bind λx=>Mine.gd (aA M.sc x) (pA (L x))with|some d=>xU M L es z λB z=>Q (d::B) z|none=>(JO M.c 40 M.sc L e).1 z λv z=>dT (sE v) z λd z=>xU M L es z λB z=>Q (d::B) z):=h;show dc ((mQ ((nm e).bind λx=>Mine.gd (aA M.sc x) (pA (L x))) ((M.r e M.sc L).1.bind sE)).bind _) Q;revert h;cases(nm e).bind λx=>Mine.gd (aA M.sc x) (pA (L x))with
  |some d=>intro h;obtain⟨B,z,e,h⟩:=bX z _ h;exact⟨_,z,HL (Jo _) e,h⟩
  |none=>intro h;refine bO.symm▸?_;show dc (((J M.c 40 e M.sc L).1.bind sE).bind _) Q;obtain⟨v,z,e1,h⟩:=(cx 40).v _ _ _ _ _ h;obtain⟨d,z,e2,h⟩:=aS h;obtain⟨B,z,e3,h⟩:=bX z _ h;(refine e1.symm▸?_;rw[HT,e2,HT,e3]);exact⟨_,z,rfl,h⟩
theorem amH(g:G->Q (M.sM k s L))(h:gRt M Q s L z G):Q (M.sM k s L):=by
 rcases a9 h with⟨h1,h⟩|⟨_,h⟩
 ·obtain⟨h1,h6⟩:=aj h1;obtain⟨h1,h5⟩:=aj h1;obtain⟨h1,h4⟩:=aj h1;obtain⟨h2,h3⟩:=aj h1;obtain⟨B,z,e,h⟩:=ajh bO _ _ _ h;rcases a9 h with⟨U,h⟩|⟨_,h⟩
  ·refine(show M.sM k s L=yT M (au s).oe L from j6 (f:=AR) (aw h2) rfl _).symm▸?_;revert h6 h5 e;unfold Mine.pX;cases e':(au s).oe with
   |none=>rw[e']at h3;cases h3
   |some x=>intro h6 h5 e;show Q (bif M.rt then _ else bif(aa x).k==25&&vN (aa x).es L then Mine.gd (cT (aa x).es) _ else _);(refine(cE h4).symm▸(show((aa x).k==25&&vN (aa x).es L)=Hq from h5).symm▸(show cT (aa x).es=Hq from h6).symm▸?_);(refine bQ _ (show zw M (aa x).es L=hb B from e) ?_;rw[H5 (Hs (IE U) (by decide))]);exact h
  ·exact h.elim
 rcases a9 h with⟨h1,h⟩|⟨_,h⟩
 ·obtain⟨h1,h9⟩:=aj h1;obtain⟨v,z,e,h⟩:=(cx 40).v _ _ _ _ _ h;obtain hv:=adS h λ_ _ h=>h.elim;obtain⟨h2,h5⟩:=aj h1;obtain⟨h2,h4⟩:=aj h2;obtain⟨h2,h3⟩:=aj h2;refine(show M.sM k s L=yT M (au s).oe L from j6 (f:=AR) (aw h2) rfl _).symm▸?_;revert h9 h5 e;unfold Mine.pX;cases e':(au s).oe with
  |none=>rw[e']at h3;cases h3
  |some x=>intro h9 e h5;show Q (bif M.rt then _ else bif(aa x).k==25&&vN (aa x).es L then _ else mQ ((nm x).bind _) ((M.r x M.sc L).1.bind Bb));(refine(cE h4).symm▸(cE (show(!((aa x).k==25&&vN (aa x).es L))=Hq from h9)).symm▸(Jc.mp (show(nm x).isNone=Hq from h5)).symm▸bO.symm▸(show(J M.c 40 x M.sc L).1=hb v from e).symm▸?_);exact hv
 rcases a9 h with⟨h1,h⟩|⟨_,h⟩
 ·obtain⟨v,z,e,h⟩:=(cx 40).v _ _ _ _ _ h;obtain⟨hc,z,h⟩:=d8 h;obtain⟨h2,h4⟩:=aj h1;obtain⟨h2,h3⟩:=aj h2;refine(show M.sM k s L=yT M (au s).oe L from j6 (f:=AR) (aw h2) rfl _).symm▸?_;revert e;unfold Mine.pX;cases e':(au s).oe with
  |none=>rw[e']at h3;cases h3
  |some x=>intro e;show Q (bif M.rt then(M.r x M.sc L).1.bind _ else _);(refine h4.symm▸bO.symm▸?_);(refine bQ _ (show(J M.c 40 x M.sc L).1=hb v from e) ?_;rw[H5 hc]);exact h
 ·exact g h
theorem amD(g:G->Q (M.sM k s L))(h:gEx M s L z aU G):Q (M.sM k s L):=by
 rcases a9 h with⟨h1,h⟩|⟨_,h⟩
 ·revert h;cases hx:L (xX s)with
  |none=>exact g
  |some o=>cases o with
   |val v=>exact g
   |own o=>cases o with
    |lst B=>
     intro h;obtain⟨v,_,e,h⟩:=(cx 40).v _ _ _ _ _ h;rcases a9 h with⟨h2,h⟩|⟨_,h⟩
     ·obtain⟨h3,_,h⟩:=d8 h;rw[agy h1];show Q (mQ (zr (xX s) _ _) _);unfold zr;refine hx.symm▸?_;show Q (mQ ((M.r (hd (dy s).es) M.sc L).1.bind _) _);refine bO.symm▸?_;rw[e,HT,H5 ⟨rq h2,Hs h3 (by decide)⟩];exact bN _ _ h
     ·exact h.elim
    |_=>exact g
 rcases a9 h with⟨h1,h⟩|⟨_,h⟩
 ·revert h;cases hx:L (xX s)with
  |none=>exact g
  |some o=>cases o with
   |val v=>exact g
   |own o=>cases o with
    |lst B=>
     intro h;obtain⟨⟨x,f⟩,_,e,h⟩:=(cx 40).v _ _ _ _ _ h;cases x with
     |list ys=>
      rcases a9 h with⟨h2,h⟩|⟨_,h⟩
      ·obtain⟨h3,_,h⟩:=d8 h;rw[agy h1];show Q (mQ (zo (xX s) _ _) _);unfold zo;rw[hx];show Q (mQ ((M.r (hd (dy s).es) M.sc L).1.bind _) _);rw[bO,e,HT];dsimp only;rw[H5 ⟨rq h2,IK (I0 h3 (by decide))⟩];exact bN _ _ h
      ·exact h.elim
     |_=>exact h.elim
    |_=>exact g
 ·exact g h
variable{gb:GB}
theorem akE(U:SB M (M.bM k) gb)(hs:Dr s=Hq)(h:gIf M gb Q s L z aU):Q (M.sM k s L):=by
 obtain⟨b,z,e,h⟩:=(cx 40).t _ _ _ _ _ h;rw[aoB hs,bO,e];show Q (if b=Hq then M.bM k (BD s) L else M.bM k (BJ s) L);have one:∀z,bz b z (λz=>gb Q (BD s) L z aU) (λz=>gb Q (BJ s) L z aU)->Q (if b=Hq then M.bM k (BD s) L else M.bM k (BJ s) L):=λz h=>by
  rcases sR h with⟨e,z,h1⟩|⟨e,z,h1⟩
  ·exact e.symm▸U _ _ _ _ _ h1 bN
  ·exact e.symm▸U _ _ _ _ _ h1 bN
 clear hs e;cases z with
 |mg l c x y z=>
  obtain⟨rfl,h1,h2,h⟩:=h;have hn:Dw l (if b=Hq then M.bM k (BD s) L else M.bM k (BJ s) L):=by
   cases b with
   |true=>exact U (Dw l) _ _ _ _ (h1 rfl) λL _ q=>by exact(kE q).symm▸⟨_⟩
   |false=>exact U (Dw l) _ _ _ _ (h2 rfl) λL _ q=>by exact(kE q).symm▸⟨_⟩
  revert hn;generalize(if b=Hq then M.bM k (BD s) L else M.bM k (BJ s) L)=o;intro hn;clear U h2 h1;cases hn with
  |mk ft=>exact bN _ _ (h ft)
 |_=>exact one _ h
omit bN in
theorem aln(U:SB M (M.bM k) gb):∀B(Q:Hp Out->Prop)L z,(∀L z,aU L z->Q (hb (.next L)))->F7 M gb k s f B Q L z aU->Q (rV (pJ (aA M.sc) (vh s)) (M.bM k (yt s)) f B L):=by
 intro B;induction B with
 |nil=>intro Q L z bN h;exact bN L z h
 |cons x B bX=>intro Q L z bN h;obtain⟨vm,z,e,h⟩:=aS h;have:=U _ _ _ _ _ h λL z q=>bX Q L z bN q;exact bQ _ e this
omit bO bN in
theorem af4{P:En->Prop}(U:SB M (M.bM k) gb)(h:Ek gb Q s P L z):orR Q P (M.bM k (yt s) L):=U _ _ _ _ _ h λL z h=>by
 cases z with
 |e l p q=>exact⟨l,h⟩
 |_=>exact h.elim
omit bO bN in
theorem aox{σ:Type}{as:Hn α}{p:α->Ho}{I:HG->σ->En}{aH:HG->σ->Prop}{b:(j:HG)->(a:α)->as[j]? =hb a->(s:σ)->aH j s->Z}(U:SB M (M.bM k) gb)(hp:∀a,flat (p a)=Hq)(h:∀j a h x r L,dT (pJ (aA M.sc) (vh s) ⟨p a,.d⟩ (d6 (I j x) L)) (b j a h x r) λL z=>Ek gb Q s (λl=>∃x,aH (j+1) x/\I (j+1) x=l) L z)(he:∀x,aH as.length x->∀L,Q (hb (.next (d6 (I as.length x) L)))):
  ∀(n j:HG)(x:σ)(L:ar),n+j=as.length->aH j x->Q (rV (pJ (aA M.sc) (vh s)) (M.bM k (yt s)) f ((as.drop j).map p) (d6 (I j x) L)):=by
 intro n;induction n with
 |zero=>intro j x L e r;rw[QY]at e;subst e;exact KN.symm▸he x r L
 |succ n ih=>
  intro j x L e r;have hl:=e▸Nat.lt_add_of_pos_left (KW _);refine(J6 hl).symm▸?_;obtain⟨vm,z,e1,h1⟩:=aS (h j as[j] (HQ hl) x r L);obtain h1:=af4 U h1;refine bQ _ ((HL (λv=>pJ (aA M.sc) (vh s) v (d6 (I j x) L)) (qA (hp _))).trans e1) ?_;revert h1;generalize M.bM k (yt s) vm=o;intro h1;cases o with
  |none=>exact h1.elim
  |some o=>cases o with
   |next L=>obtain⟨l,h1,y,r,rfl⟩:=h1;exact(kE h1).symm▸ih (j+1) y L ((LA _ _).symm.trans e) r
   |ret y=>exact h1
   |fU y L=>exact h1
   |_=>exact h1.elim
theorem amA{w:Hn Ho×Fl}(U:SB M (M.bM k) gb)(h:gFo M gb k Q s w L z aU):Q (rV (pJ (aA M.sc) (vh s)) (M.bM k (yt s)) w.2 w.1 L):=by
 cases z with
 |fr α σ as p B ex hp I aH s0 r b z=>refine AZ h λh1 h2 h3 h4=>?_;(refine h1.symm▸ex.symm▸(kE h2).symm▸?_);exact aox U hp h3 (λx r L=>bN _ _ (h4 x r L)) as.length 0 s0 L rfl r
 |_=>exact aln bO U _ _ _ _ bN h
theorem anb{σ:Type}{I:σ->En}{aH:σ->Prop}{m:σ->HG}{t:(s:σ)->aH s->Z}(U:SB M (M.bM k) gb)(h:∀x r L,(JO M.c 40 M.sc (d6 (I x) L) (vh s)).2 (t x r) λb z=>bz b z (λz=>Ek gb Q s (λl=>∃y,aH y/\m y<m x/\I y=l) (d6 (I x) L) z) λz=>aU (d6 (I x) L) z):
  ∀(n:HG)(x:σ)(L:ar),m x<n->aH x->Q (mR (λL=>(M.r (vh s) M.sc L).2) (M.bM k (yt s)) n (d6 (I x) L)):=by
 intro n;induction n with
 |zero=>intro x L R;exact IG R (Nat.not_lt_zero _)
 |succ n ih=>
  intro x L R r;obtain⟨b,z,e1,h1⟩:=(cx 40).t _ _ _ _ _ (h x r L);show Q ((M.r (vh s) M.sc (d6 (I x) L)).2.bind _);refine bO.symm▸?_;rw[e1,HT];rcases sR h1 with⟨e,z,h1⟩|⟨e,z,h1⟩
  ·refine e.symm▸(H5 rfl).symm▸?_;obtain h1:=af4 U h1;revert h1;generalize M.bM k (yt s) (d6 (I x) L)=o;intro h1;cases o with
   |none=>exact h1.elim
   |some o=>cases o with
    |next L=>obtain⟨l,h1,y,r,hy,rfl⟩:=h1;refine(kE h1).symm▸?_;have:=ih y L (Hs hy (LS R)) r;rw[bO]at this;exact this
    |ret y=>exact h1
    |fU y L=>exact h1
    |_=>exact h1.elim
  ·exact e.symm▸bN _ _ h1
theorem al2(g:G->Q (M.sM k s L))(U:SB M (M.bM k) gb)(hs:Cu s=Hq)(h:gWh M gb Q s L z aU G):Q (M.sM k s L):=by
 cases z with
 |wh σ I aH m s0 r R t=>refine xg h λh2 h1 h3=>?_;rw[amU hs,kE h2];exact anb bO bN U h3 100000 s0 L h1 r
 |_=>exact g h
omit bO bN in
theorem alr{Q:Ho×(Ho->Ho)->Z->Prop}(h:plc x Bt z Q):dc (place x Bt) Q:=by
 cases x with
 |list B=>cases Bt with
  |int i=>obtain⟨y,z,h1,h⟩:=dq (show pr V.x z (ed (.list B) (.int i)) (λy z=>cn (0<=i) z λz=>Q (y,λz=>.list (B.set i.toNat z)) z)from h);obtain⟨h2,z,h⟩:=d8 h;refine⟨_,z,?_,h⟩;(refine iT h2 ?_;rw[<-eR h2,show e7 _ _=hb y from h1]);rfl
  |_=>exact aS (z:=z) h
 |_=>exact aS (z:=z) h
omit bN in
theorem tD:∀k e d z Q,DI M k e L d z Q->dc (uh M k e L d) Q:=by
 intro k;induction k with
 |zero=>intro _ _ _ _ h;exact Oe h
 |succ k bX=>
  intro e d z Q h;show dc (bif _ then _ else _) _;rcases a9 h with⟨U,h⟩|⟨U,h⟩
  ·exact U.symm▸⟨_,z,rfl,h⟩
  refine U.symm▸?_;rcases a9 h with⟨U,h⟩|⟨U,h⟩
  ·refine U.symm▸(bX _ _ _ _ h).bind λp z h=>?_;show dc ((M.r _ M.sc L).1.bind _) Q;exact bO.symm▸((cx 40).v _ _ _ _ _ h).bind λq z h=>(alr h).rec λw z e h=>⟨_,z,by refine e.symm▸?_;rfl,h⟩
  ·refine U.symm▸?_;exact(aS h).bind λs z h=>(bX _ _ _ _ h).bind λp z h=>by
    obtain⟨i,z,e1,h⟩:=aS h;obtain⟨w,z,e2,h⟩:=dq h;obtain⟨r,e3,e4⟩:=ao e2;refine⟨_,z,?_,h⟩;unfold tZ;refine e1.symm▸?_;rw[HT,e3,HT,e4];rfl
omit bO bN in
theorem Be{o:Hp Out}{P:Z->Prop}(h:dc o λr z=>Q (hb r)):Q o:=by obtain⟨v,_,rfl,h⟩:=h;exact h
omit bO bN in
theorem oX{c:Prop}[La c]{r:Out}{z:Z}(hc:c)(h:Q (hb r)):dc (if c then hb r else Hu) λr _=>Q (hb r):=⟨r,z,H5 hc,h⟩
omit bO bN in
theorem DE{a:HG}(h:a<10000):a+1<=sizeLine:=Hs h (by decide)
theorem al9(ht:Cc M s (tX s) (cG s)=Hq)(h:Gi M s (cG s) (tX s) (BH s) L z aU):Q (M.sM k s L):=by
 rw[ans ht];generalize cG s=y at h;generalize tX s=x at h;refine Be (P:=λ_=>N9) ?_;unfold Gi at h;obtain⟨d,z,h1,h⟩:=aS h;obtain⟨p,z,h2,h⟩:=tD bO _ _ _ _ _ h;rcases a9 h with⟨U,h⟩|⟨U,h⟩
 ·refine U.symm▸?_;rcases a9 h with⟨hs,h⟩|⟨_,h⟩
  ·refine dc.gd hs ?_;refine dc.bd h1<|dc.bd h2 ?_;rw[bO];exact(aS h).bind λB z h=>(jN (cx 40) _ _ _ h).bind λvs z h=>(a9 h).rec (λU h=>(d8 h).elim λhc h=>h.elim λz h=>oX (z:=z) ⟨(aj U).1,Hs (IE (aj U).2) (by decide),DE hc⟩ (bN _ _ h)) λ_ h=>h.elim
  ·exact h.elim
 refine U.symm▸?_;rcases a9 h with⟨U,h⟩|⟨U,h⟩
 ·refine U.symm▸?_;show dc (qp _ _ (λL=>(M.r _ M.sc L).1) L) _;refine dc.bd h1<|dc.bd h2 ?_;rw[bO];exact(aS h).bind λB z h=>((cx 40).v _ _ _ _ _ h).bind λv z h=>(a9 h).rec (λU h=>(d8 h).elim λhc h=>h.elim λz h=>oX (z:=z) ⟨U,DE hc⟩ (bN _ _ h)) λ_ h=>h.elim
 refine U.symm▸?_;rcases a9 h with⟨U,h⟩|⟨U,h⟩
 ·refine U.symm▸?_;show dc (qm _ _ (λL=>(M.r _ M.sc L).1) L) _;refine dc.bd h1<|dc.bd h2 ?_;rw[bO];refine(aS h).bind λB z h=>((cx 40).v _ _ _ _ _ h).bind λv z h=>(aS h).bind λys z h=>?_;rcases a9 h with⟨hd,h⟩|⟨_,h⟩
  ·exact(d8 h).elim λha h=>h.elim λz h=>(d8 h).elim λhc h=>h.elim λz h=>oX (z:=z) ⟨ha,IK (DE hc),rq hd⟩ (bN _ _ h)
  ·exact h.elim
 refine U.symm▸?_;rcases a9 h with⟨U,h⟩|⟨U,h⟩
 ·refine dc.gd U ?_;show dc (AH _ _ (λL=>(M.r _ M.sc L).1) L) _;refine dc.bd h1<|dc.bd h2 ?_;rw[bO];exact(w8 h).bind λaW z h=>((cx 40).v _ _ _ _ _ h).bind λk z h=>(aS h).bind λkey z h=>(dq h).bind λw z h=>(d8 h).elim λhc h=>h.elim λz h=>oX (z:=z) hc (bN _ _ h)
 ·exact h.elim
theorem ak3(ht:Ch M s (sX s)=Hq)(h:gSt M s (sX s) L z aU):Q (M.sM k s L):=by
 rw[anm ht];generalize sX s=x at h;refine Be (P:=λ_=>N9) ?_;rcases a9 h with⟨h8,h⟩|⟨h8,h⟩
 ·refine h8.symm▸?_;obtain⟨d,z,h1,h⟩:=aS h;show dc (uI x _ (λL=>(M.r _ M.sc L).1) _ L) _;refine dc.bd h1 ?_;rw[bO];obtain⟨v,z,e,h⟩:=vE (cx 40) _ _ _ h;obtain⟨ys,e1⟩:=dI (show(kY (J M.c 40) M.sc (aa (dp s)).a (aa (dp s)).gs (aa (dp s)).sc L).map (λys=>(⟨.list ys,.d⟩:V))=hb v by refine e▸?_;show _=(xB.lookup (aa (dp s)).k).bind _;refine(aw h8).symm▸?_;rfl);exact dc.bd e1<|(tD bO _ _ _ _ _ h).bind λp z h=>(w8 h).bind λaW z h=>((cx 40).v _ _ _ _ _ h).bind λk z h=>(aS h).bind λkey z h=>(d8 h).elim λha h=>h.elim λz h=>(d8 h).elim λhc h=>h.elim λz h=>oX (z:=z) ⟨ha,DE hc⟩ (bN _ _ h)
 ·refine h8.symm▸?_;rcases a9 h with⟨hn,h⟩|⟨_,h⟩
  ·obtain⟨d,z,h1,h⟩:=aS h;refine dc.gd hn ?_;show dc (AV x _ (λL=>(M.r _ M.sc L).1) (λL=>(M.r _ M.sc L).1) L) _;refine dc.bd h1 ?_;rw[bO];exact((cx 40).v _ _ _ _ _ h).bind λv z h=>(tD bO _ _ _ _ _ h).bind λp z h=>(w8 h).bind λaW z h=>((cx 40).v _ _ _ _ _ h).bind λk z h=>(aS h).bind λkey z h=>(d8 h).elim λha h=>h.elim λz h=>(d8 h).elim λhc h=>h.elim λz h=>oX (z:=z) ⟨ha,DE hc⟩ (bN _ _ h)
  ·exact h.elim
variable{x:HP}
omit bO bN in
theorem anJ(h:y7 M s x=Hq):M.sM k s L=(M.eM (dp s) L).bind λv=>(bif(aa (qo s)).k==26&&(aa (qo s)).o3.isNone then(u9 M.r M.sc (aa (qo s)).o1 L).bind λa=>(u9 M.r M.sc (aa (qo s)).o2 L).bind λb=>(qP (L x) v a b).map λz=>Out.next (L.set x z)else(M.eM (qo s) L).bind λk=>(uG (L x) v k).map λz=>Out.next (L.set x z)):=by obtain⟨h,g⟩:=aj h;obtain⟨h,h3⟩:=aj h;obtain⟨h1,h2⟩:=aj h;obtain⟨g,g3⟩:=aj g;obtain⟨g,g2⟩:=aj g;obtain⟨g1,g0⟩:=aj g;refine(j6 (f:=uE) (aw h1) rfl L).trans ?_;show gd ((au s).ts.length==1) (pQ M (jF s) (dp s) L)=_;refine h2.symm▸?_;unfold pQ;refine(aw h3).symm▸?_;show te M (ug s) (qo s) (dp s) L=_;unfold te;refine(Jc.mp g1).symm▸g0.symm▸?_;show(nm (ug s)).bind _=_;refine(aw g2).symm▸?_;show gd (aA M.sc x&&j5 (dp s)) _=_;refine g3.symm▸?_;cases(aa (qo s)).k==26&&(aa (qo s)).o3.isNone<;>rfl
theorem alc(ht:y7 M s x=Hq)(h:gSi M s x L z aU):Q (M.sM k s L):=by
 obtain⟨v,z,e,h⟩:=(cx 40).v _ _ _ _ _ h;rw[anJ ht];show Q ((M.r (dp s) M.sc L).1.bind _);refine bO.symm▸?_;rw[e,HT];rcases a9 h with⟨U,h⟩|⟨U,h⟩
 ·obtain⟨a,z,e1,h⟩:=qO (cx 40) _ _ _ h;obtain⟨b,z,e2,h⟩:=qO (cx 40) _ _ _ h;refine U.symm▸?_;refine bQ _ e1<|bQ _ e2 ?_;revert h;cases hx:L x with
  |none=>exactλh=>h.elim
  |some o=>cases o with
   |val _=>exactλh=>h.elim
   |own o=>cases o with
    |lst B=>
     intro h;obtain⟨ys,z,e3,h⟩:=aS h;rcases a9 h with⟨h2,h⟩|⟨_,h⟩
     ·obtain⟨h3,_,h⟩:=d8 h;obtain⟨h4,_,h⟩:=d8 h;show Q (((listOfD v.x).bind _).map _);refine e3.symm▸?_;rw[HT,H5 ⟨rq h2,Hs (IK h3) (by decide),Hs (IK h4) (by decide)⟩];exact bN _ _ h
     ·exact h.elim
    |_=>exactλh=>h.elim
 ·obtain⟨j,z,e1,h⟩:=(cx 40).v _ _ _ _ _ h;refine U.symm▸?_;show Q ((M.r (qo s) M.sc L).1.bind _);refine bO.symm▸?_;rw[e1,HT];revert h;cases hx:L x with
  |none=>exactλh=>h.elim
  |some o=>cases o with
   |val _=>exactλh=>h.elim
   |own o=>cases o with
    |lq B=>intro h;obtain⟨i,z,e3,h⟩:=aS h;obtain⟨t,z,e4,h⟩:=aS h;obtain⟨h3,_,h⟩:=d8 h;show Q (((cD j.x).bind _).map _);(refine e3.symm▸?_;rw[HT,e4,HT,H5 (DE h3)]);exact bN _ _ h
    |_=>exactλh=>h.elim
theorem alx(ht:an0 M s (aX s)=Hq)(h:GA M s (aX s) L z aU):Q (M.sM k s L):=by
 obtain⟨h',g⟩:=aj ht;obtain⟨h',h5⟩:=aj h';obtain⟨h',h4⟩:=aj h';obtain⟨h2,h3⟩:=aj h';obtain⟨g1,g2⟩:=aj g;obtain e:M.sM k s L=Cj (aX s) (uh M 9 (Ft s)) (λL=>(M.r (GC s) M.sc L).1) (λL=>(M.r (dp s) M.sc L).1) L:=by refine(j6 (f:=AI) (aw h2) rfl _).trans ?_;show uB M (au s).t (au s).op (dp s) _=_;unfold uB;refine h3.symm▸(aw h4).symm▸?_;refine h5.symm▸(aw g1).symm▸?_;show gd (aA M.sc (aX s)) _=_;refine g2.symm▸?_;rfl
 refine e.symm▸?_;generalize aX s=x at h;refine Be (P:=λ_=>N9) ?_;unfold GA at h;obtain⟨d,z,h1,h⟩:=aS h;refine dc.bd h1 ?_;rw[bO];refine(tD bO _ _ _ _ _ h).bind λp z h=>(aS h).bind λB z h=>((cx 40).v _ _ _ _ _ h).bind λk z h=>(aS h).bind λj z h=>?_;obtain⟨y,z,h2,h⟩:=dq h;obtain⟨h3,z,h⟩:=d8 h;refine dc.iT h3 ?_;rw[<-eR h3,show e7 _ _=hb y from h2,HT];exact(aS h).bind λa z h=>((cx 40).v _ _ _ _ _ h).bind λv z h=>(aS h).bind λb z h=>⟨_,z,rfl,bN _ _ h⟩
theorem akW(ht:aon M s (cG s) (cX s)=Hq)(h:gCm M s (cG s) (cX s) L z aU):Q (M.sM k s L):=by
 obtain⟨h',g'⟩:=aj ht;obtain⟨h',h9⟩:=aj h';obtain⟨h',h8⟩:=aj h';obtain⟨h',h7⟩:=aj h';obtain⟨h',h6⟩:=aj h';obtain⟨h4,h5⟩:=aj h';obtain⟨g1,g3⟩:=aj g';obtain⟨g1,g2⟩:=aj g1;obtain e:M.sM k s L=sG (cX s) (λL=>(M.r (hd (dy s).es) M.sc L).1) (λL=>(M.r (sd (dy s).es.tail) M.sc L).1) (M.c.M (cG s)) L:=by refine(j6 (f:=DO) (aw h4) rfl _).trans ?_;show gd ((dy s).k==16) (bif tf M (dy s)then _ else gd ((dy s).ks.isEmpty&&cT (dy s).es) (bif(aa (dy s).a).k==20 then _ else bif(dy s).es.length==3 then(nm (dy s).a).bind λg=>(nm (sd (dy s).es)).bind λx=>gd (aY M.sc g&&aA M.sc x) (sG x (M.eM (hd (dy s).es)) (M.eM (sd (dy s).es.tail)) (M.c.M g) _)else _))=_;refine h5.symm▸(cE h6).symm▸h7.symm▸(cE h8).symm▸h9.symm▸(aw g1).symm▸(aw g2).symm▸?_;show gd (aY M.sc (cG s)&&aA M.sc (cX s)) (sG (cX s) _ _ _ _)=_;refine g3.symm▸?_;rfl
 refine e.symm▸?_;generalize cX s=x at h;refine Be (P:=λ_=>N9) ?_;obtain⟨d,z,h1,h⟩:=aS h;refine dc.bd h1 ?_;rw[bO];refine((cx 40).v _ _ _ _ _ h).bind λv1 z h=>((cx 40).v _ _ _ _ _ h).bind λv3 z h=>?_;rcases a9 h with⟨hf,h⟩|⟨_,h⟩
 ·obtain⟨h3,z,h⟩:=d8 h;obtain⟨d',z,h4,h⟩:=dq h;obtain⟨h5,z,h⟩:=d8 h;exact⟨_,z,by(refine iT ⟨λe=>(by rw[e]at hf;cases hf),h3⟩ ?_;rw[h4,HT,H5 h5]);rfl,bN _ _ h⟩
 ·exact h.elim
omit bO in
theorem tY{d:Hp Hv×Ho}(hd:bL L x=hb d)(h:Eo m x d L z aU):Q (m L):=by
 cases z with
 |f k p q v z=>cases k with
  |zero=>rw[h.1 d.1 L hd];exact bN _ _ h.2
  |succ k=>exact h.elim
 |_=>exact h.elim
omit bN in
theorem ae3{P:Ho->Z->Prop}(h:FZ M e L z P):dc (Au M 5 e L) P:=by
 rcases a9 h with⟨h1,h⟩|⟨_,h⟩
 ·obtain⟨h1,h3⟩:=aj h1;obtain⟨h1,h2⟩:=aj h1;obtain⟨x,z,e1,h⟩:=aS h;obtain⟨vs,z,e2,h⟩:=jN (cx 40) _ _ _ h;obtain⟨y,z,e3,h⟩:=dq h;refine⟨y,z,?_,h⟩;show(bif _ then _ else _)=_;refine(aw h1).symm▸?_;show(bif vG M.sc e "list" 1 then _ else _)=_;refine(cE h2).symm▸?_;show mQ (yO M e L) _=_;unfold yO;refine e1.symm▸?_;rw[HT,h3,bO];show mQ ((rW (J M.c 40) M.sc _ L).bind _) _=_;refine e2.symm▸?_;rw[HT,e3];rfl
 ·exact h.elim
theorem alU(ht:aou M s x=Hq)(h:gHd M s x L z aU):Q (M.sM k s L):=by
 obtain⟨h0,h5⟩:=aj ht;obtain⟨h0,h4⟩:=aj h0;obtain⟨h0,h3⟩:=aj h0;obtain⟨h1,h2⟩:=aj h0;obtain e:M.sM k s L=zj M x (qo s) (dp s) L:=by refine(j6 (f:=uE) (aw h1) rfl L).trans ?_;show gd ((au s).ts.length==1) (pQ M (jF s) (dp s) L)=_;refine h2.symm▸?_;unfold pQ;refine(aw h3).symm▸?_;show te M (ug s) (qo s) (dp s) L=_;unfold te;exact(aw h4)▸rfl
 refine e.symm▸?_;unfold zj;obtain⟨q,z,e1,h⟩:=aS h;obtain⟨d,z,e2,h⟩:=aS h;refine e1.symm▸h5.symm▸?_;rcases a9 h with⟨U,h⟩|⟨U,h⟩
 ·obtain⟨vj,z,e3,h⟩:=(cx 40).v _ _ _ _ _ h;obtain⟨vi,z,e4,h⟩:=(cx 40).v _ _ _ _ _ h;refine U.symm▸?_;show Q (g9 q.1 q.2.1 x (λ_=>(M.r (qo s) M.sc L).1) (λ_=>(M.r (aa (dp s)).b M.sc L).1) L);refine bO.symm▸e3.symm▸e4.symm▸?_;exact tY bN e2 h
 ·rcases a9 h with⟨hn,h⟩|⟨_,h⟩
  ·obtain⟨y,z,e3,h⟩:=ae3 bO h;obtain⟨vi,z,e4,h⟩:=(cx 40).v _ _ _ _ _ h;refine U.symm▸?_;show Q (gd (j5 (dp s)) (jb q.1 q.2.1 x (λ_=>(M.r (qo s) M.sc L).1) (λ_=>Au M 5 (dp s) L) L));refine hn.symm▸bO.symm▸e3.symm▸e4.symm▸?_;exact tY bN e2 h
  ·exact h.elim
omit bN in
theorem akM{P:Ho->Z->Prop}(h:oET M e L z P):dc (Au M 5 e L) P:=by
 rcases a9 h with⟨h1,h⟩|⟨h1,h⟩
 ·rcases a9 h with⟨h2,h⟩|⟨_,h⟩
  ·show dc (bif _ then _ else _) _;refine(aw h1).symm▸h2.symm▸bO.symm▸?_;exact(jN (cx 40) _ _ _ h).bind λvs z h=>dq h
  ·exact ae3 bO h
 ·rcases a9 h with⟨h2,h⟩|⟨_,h⟩
  ·show dc (bif _ then _ else _) _;exact h2.symm▸⟨_,z,rfl,h⟩
  rcases a9 h with⟨h2,h⟩|⟨_,h⟩
  ·show dc (bif _ then _ else _) _;refine h2.symm▸(aw (aj (aj h2).1).1).symm▸?_;exact⟨_,z,rfl,h⟩
  rcases a9 h with⟨_,h⟩|⟨h2,h⟩
  ·exact h.elim
  ·obtain h3:=Jn.mp h2;show dc (bif _ then _ else _) _;unfold vG yO DB;rw[h3.1,h3.2,h1];show dc (mQ Hu ((M.r e M.sc L).1.bind _)) P;refine bO.symm▸?_;exact((cx 40).v _ _ _ _ _ h).bind λv z h=>by
    obtain⟨hc,z,h⟩:=d8 h;exact⟨_,z,H5 hc,h⟩
theorem amt(h:gSa M s x L z aU):Q (M.sM k s L):=by
 obtain⟨q,z,e1,h⟩:=aS h;rcases a9 h with⟨ht,h⟩|⟨_,h⟩
 ·obtain⟨h0,h5⟩:=aj ht;obtain⟨h0,h4⟩:=aj h0;obtain⟨h0,h3⟩:=aj h0;obtain⟨h5,h7⟩:=aj h5;obtain⟨d,z,e2,h⟩:=aS h;obtain⟨y,z,e3,h⟩:=akM bO h;obtain⟨d',z,e4,h⟩:=dq h;rw[show M.sM k s L=zh q.1 x (aa (jF s)).x (Au M 5 (dp s)) L by refine(j6 (f:=uE) (aw h0) rfl _).trans ?_;show gd ((au s).ts.length==1) (pQ M (jF s) (dp s) _)=_;refine h3.symm▸?_;unfold pQ;refine(aw h4).symm▸?_;show wJ M (aa (jF s)).a (aa (jF s)).x (dp s) _=_;unfold wJ;refine e1.symm▸(aw h5).symm▸?_;show gd (aA M.sc x&&iL q.2 (aa (jF s)).x&&wf (.str (aa (jF s)).x)&&j5 (dp s)) _=_;refine h7.symm▸?_;rfl];refine bQ _ e2<|bQ _ e3 ?_;rw[e4];exact bN _ _ h
 ·exact h.elim
theorem amJ(ht:anp M s x=Hq)(h:gOp M s x L z aU):Q (M.sM k s L):=by
 obtain⟨h0,h6⟩:=aj ht;obtain⟨h0,h5⟩:=aj h0;obtain⟨h0,h4⟩:=aj h0;obtain⟨h0,h3⟩:=aj h0;obtain⟨h1,h2⟩:=aj h0;obtain⟨q,z,e1,h⟩:=aS h;obtain⟨d,z,e2,h⟩:=aS h;obtain⟨v,z,e3,h⟩:=(cx 40).v _ _ _ _ _ h;obtain e:M.sM k s L=kG q.1 q.2.1 x (λ_=>(M.r (dp s) M.sc L).1) L:=by refine(j6 (f:=AI) (aw h1) rfl _).trans ?_;show uB M (au s).t (au s).op (dp s) _=_;unfold uB;refine h2.symm▸(aw h3).symm▸?_;show sC M (aa (au s).t) (dp s) L=_;unfold sC;refine e1.symm▸(aw h4).symm▸?_;refine(aw h5).symm▸?_;show gd (aA M.sc x) _=_;refine h6.symm▸?_;rfl
 refine e.symm▸bO.symm▸e3.symm▸?_;exact tY bN e2 h
theorem ak2(ht:amZ M s x=Hq)(h:gAm M s x L z aU):Q (M.sM k s L):=by
 obtain⟨h0,g⟩:=aj ht;obtain⟨h0,h4⟩:=aj h0;obtain⟨h0,h3⟩:=aj h0;obtain⟨h1,h2⟩:=aj h0;obtain⟨g,g4⟩:=aj g;obtain⟨g,g3⟩:=aj g;obtain⟨g1,g2⟩:=aj g;obtain⟨q,z,e1,h⟩:=aS h;obtain⟨d,z,e2,h⟩:=aS h;obtain⟨vi,z,e4,h⟩:=(cx 40).v _ _ _ _ _ h;obtain⟨v,z,e3,h⟩:=(cx 40).v _ _ _ _ _ h;obtain e:M.sM k s L=je q.1 q.2.1 x (λ_=>(M.r (aa (Aw s)).b M.sc L).1) (λ_=>(M.r (dp s) M.sc L).1) L:=by refine(j6 (f:=AI) (aw h1) rfl _).trans ?_;show uB M (au s).t (au s).op (dp s) _=_;unfold uB;refine h2.symm▸(aw h3).symm▸?_;show sC M (aa (au s).t) (dp s) L=_;unfold sC;refine e1.symm▸(aw h4).symm▸?_;refine g1.symm▸g2.symm▸(aw g3).symm▸?_;show gd (aA M.sc x) _=_;refine g4.symm▸?_;rfl
 refine e.symm▸bO.symm▸e3.symm▸e4.symm▸?_;exact tY bN e2 h
omit bN in
theorem ag6{q:iK}{aU:Ho->GK}(hk:∀y L z,aU y L z->Q (kk L y))(h:Eh M q L z aU):Q (BK M q kk L):=by
 obtain⟨s,z,e1,h⟩:=aS h;obtain⟨d,z,e2,h⟩:=aS h;obtain⟨vs,z,e3,h⟩:=jN (cx 40) _ _ _ h;refine bQ _ e1<|bQ _ e2 ?_;rw[bO,e3,HT]
 match vs with
 |[]=>exact h.elim
 |_::_::_=>exact h.elim
 |[v]=>obtain⟨h1,z,h⟩:=d8 h;obtain⟨h2,z,h⟩:=d8 h;obtain⟨r,z,e4,h⟩:=dq h;obtain⟨h3,z,h⟩:=d8 h;obtain⟨h4,z,h⟩:=d8 h;refine DN _ ⟨h1,h2⟩ ?_;show Q ((M.c.R _ _).bind _);(refine bQ _ e4 ?_;rw[H5 ⟨h3,h4⟩]);exact hk _ _ _ h
theorem akG(ht:aos M s=Hq)(h:Eh M (dy s) L z λy L z=>bif isNone y then aU L z else Jg):Q (M.sM k s L):=by
 obtain⟨h0,h3⟩:=aj ht;obtain⟨h1,h2⟩:=aj h0;rw[show M.sM k s L=BK M (dy s) (λL z=>if isNone z=Hq then hb (.next L)else Hu) L by refine(j6 (f:=DO) (aw h1) rfl _).trans ?_;show gd ((dy s).k==16) (bif tf M (dy s)then _ else _)=_;(refine h2.symm▸h3.symm▸?_);rfl];refine ag6 bO (λy L z h=>?_) h;rcases a9 h with⟨U,h⟩|⟨_,h⟩
 ·exact DN _ U<|bN _ _ h
 ·exact h.elim
theorem amE(ht:aoo M s=Hq)(h:gCe M s L z aU):Q (M.sM k s L):=by
 obtain⟨h0,h6⟩:=aj ht;obtain⟨h0,h5⟩:=aj h0;obtain⟨h0,h4⟩:=aj h0;obtain⟨h0,h3⟩:=aj h0;obtain⟨h1,h2⟩:=aj h0;obtain⟨v,_,e,h⟩:=(cx 40).v _ _ _ _ _ h;rw[show M.sM k s L=(M.eM (au s).e L).bind λv=>gd (xY v.x) (hb (.next L)) by refine(j6 (f:=DO) (aw h1) rfl _).trans ?_;show gd ((dy s).k==16) (bif tf M (dy s)then _ else gd ((dy s).ks.isEmpty&&cT (dy s).es) (bif(aa (dy s).a).k==20 then _ else bif(dy s).es.length==3 then _ else _))=_;(refine h2.symm▸(cE h3).symm▸h4.symm▸(cE h5).symm▸(cE h6).symm▸?_);rfl];rcases a9 h with⟨U,h⟩|⟨_,h⟩
 ·show Q ((M.r (au s).e M.sc L).1.bind _);refine bO.symm▸?_;rw[e,HT,U];exact bN _ _ h
 ·exact h.elim
theorem alH(ht:anP M s=Hq)(h:Eh M (aa (dp s)) L z λy L z=>aU (L.set (nX s) (.val ⟨y,.d⟩)) z):Q (M.sM k s L):=by obtain⟨h0,h1⟩:=aj ht;obtain⟨h1,h4⟩:=aj h1;obtain⟨h2,h3⟩:=aj h1;rw[show M.sM k s L=BK M (aa (dp s)) (λL z=>hb (.next (L.set (nX s) (.val ⟨z,.d⟩)))) L by rw[o0 h0];unfold lx;refine(aw h2).symm▸?_;show mG M (nX s) (dp s) (aa (dp s)) L=_;unfold mG;(refine(cE h3).symm▸h4.symm▸?_);rfl];exact ag6 bO (λy L z h=>bN _ _ h) h
omit bO in
theorem ami(ht:anw M s AB=Hq)(h:gTc M s AB L z aU):Q (M.sM k s L):=by obtain⟨h0,h1⟩:=aj ht;obtain⟨h1,h5⟩:=aj h1;obtain⟨h1,h4⟩:=aj h1;obtain⟨h2,h3⟩:=aj h1;obtain⟨d,z,e,h⟩:=dq h;rw[o0 h0];unfold lx;refine(aw h2).symm▸?_;show Q (mG M (nX s) (dp s) (rU s) L);unfold mG aj9;(refine h3.symm▸(aw h4).symm▸?_);show Q (gd (aY M.sc AB&&(rU s).ks.isEmpty) _);(refine h5.symm▸e.symm▸?_);exact bN _ _ h
theorem ak4(ht:anY M s AB=Hq)(h:gOc M s AB L z aU):Q (M.sM k s L):=by
 obtain⟨h0,h1⟩:=aj ht;obtain⟨h1,h7⟩:=aj h1;obtain⟨h1,h6⟩:=aj h1;obtain⟨h1,h5⟩:=aj h1;obtain⟨h1,h4⟩:=aj h1;obtain⟨h2,h3⟩:=aj h1;obtain⟨vs,z,e1,h⟩:=jN (cx 40) _ _ _ h;obtain⟨y,z,e2,h⟩:=dq h;rw[o0 h0];unfold lx;refine(aw h2).symm▸?_;show Q (mG M (nX s) (dp s) (rU s) L);unfold mG ajF;refine(cE h3).symm▸(cE h4).symm▸h5.symm▸(aw h6).symm▸?_;show Q ((gd (aY M.sc AB&&cT (rU s).es&&(rU s).ks.isEmpty&&(bf AB).isNone) ((rW M.r M.sc (rU s).es L).bind _)).bind _);refine h7.symm▸?_;rw[bO,e1,HT,e2];clear ht e2 e1 h3 h2 h4 h5 h6 h7 h1 h0;cases y with
 |list ys=>obtain⟨hc,z,h⟩:=d8 h;exact DN _ hc<|bN _ _ h
 |_=>exact h.elim
theorem ali(ht:aoP s=Hq)(h:gTu M s L z aU):Q (M.sM k s L):=by obtain⟨h0,h4⟩:=aj ht;obtain⟨h0,h3⟩:=aj h0;obtain⟨h1,h2⟩:=aj h0;obtain⟨v,z,e,h⟩:=(cx 40).v _ _ _ _ _ h;obtain⟨ft,z,e2,h⟩:=aS h;refine(show M.sM k s L=_ from j6 (f:=uE) (aw h1) rfl _).symm▸?_;show Q (gd ((au s).ts.length==1) (pQ M (jF s) (dp s) _));refine h2.symm▸?_;unfold pQ;refine(aw h3).symm▸?_;show Q (gd (!gA 25 (dp s)&&j5 (dp s)) ((M.r (dp s) M.sc L).1.bind _));(refine h4.symm▸bO.symm▸e.symm▸?_);show Q ((pJ (aA M.sc) (jF s) v L).map .next);exact e2.symm▸bN _ _ h
theorem aoa(U:SB M (M.bM k) gb)(h:gS M gb k Q s L z aU):Q (M.sM k s L):=by
 obtain g:ur Q (M.sM k s L) z aU->Q (M.sM k s L):=λh=>adS h bN;rcases a9 h with⟨hs,h⟩|⟨_,h⟩
 ·exact akE bO bN U hs h
 rcases a9 h with⟨_,h⟩|⟨_,h⟩
 ·refine amg bO bN (λh=>?_) h;rcases a9 h with⟨ht,h⟩|⟨_,h⟩
  ·exact ak3 bO bN ht h
  rcases a9 h with⟨ht,h⟩|⟨_,h⟩
  ·exact alU bO bN ht h
  rcases a9 h with⟨ht,h⟩|⟨_,h⟩
  ·exact alc bO bN ht h
  rcases a9 h with⟨ht,h⟩|⟨_,h⟩
  ·exact alH bO bN ht h
  rcases a9 h with⟨ht,h⟩|⟨_,h⟩
  ·exact ami bN ht h
  rcases a9 h with⟨ht,h⟩|⟨_,h⟩
  ·exact ak4 bO bN ht h
  rcases a9 h with⟨ht,h⟩|⟨_,h⟩
  ·exact ali bO bN ht h
  rcases a9 h with⟨_,h⟩|⟨_,h⟩
  ·exact amt bO bN h
  ·exact g h
 rcases a9 h with⟨_,h⟩|⟨_,h⟩
 ·exact amH bO bN g h
 rcases a9 h with⟨_,h⟩|⟨_,h⟩
 ·refine amD bO bN (λh=>?_) h;rcases a9 h with⟨ht,h⟩|⟨_,h⟩
  ·exact al9 bO bN ht h
  rcases a9 h with⟨ht,h⟩|⟨_,h⟩
  ·exact akW bO bN ht h
  rcases a9 h with⟨ht,h⟩|⟨_,h⟩
  ·exact akG bO bN ht h
  rcases a9 h with⟨ht,h⟩|⟨_,h⟩
  ·exact amE bO bN ht h
  ·exact g h
 rcases a9 h with⟨ht,h⟩|⟨_,h⟩
 ·exact alx bO bN ht h
 rcases a9 h with⟨ht,h⟩|⟨_,h⟩
 ·exact amJ bO bN ht h
 rcases a9 h with⟨ht,h⟩|⟨_,h⟩
 ·exact ak2 bO bN ht h
 rcases a9 h with⟨hs,h⟩|⟨_,h⟩
 ·obtain⟨w,z,e,h⟩:=ahn (cx 40) _ _ _ _ h;rcases a9 h with⟨hf,h⟩|⟨_,h⟩
  ·rw[ale hs,bO,e,HT,Ir (by intro e;rw[e]at hf;cases hf)];exact amA bO bN U h
  ·exact h.elim
 rcases a9 h with⟨hs,h⟩|⟨_,h⟩
 ·exact al2 bO bN g U hs h
 ·exact g h
omit bO bN in
theorem aom{f:Z->Prop}{P:Prop}(one:∀z,f z->P):∀n z,gC f n z->P:=by
 intro n;induction n with
 |zero=>intro z h;exact one z h
 |succ n bX=>
  intro z h;cases z with
  |cs c x y=>cases c with
   |true=>exact bX _ (h.1 rfl)
   |false=>exact bX _ (h.2 rfl)
  |_=>exact one _ h
omit bN in
theorem zu:∀k,SB M (M.bM k) (gB M k):=by
 intro k;induction k with
 |zero=>exactλ_ _ _ _ _ h=>Oe h
 |succ k ih=>
  intro Q ss L z aU h bN;have one:∀z,gL M (gB M k) k Q ss L z aU->Q (M.bM (k+1) ss L):=λz h=>by
   cases ss with
   |nil=>exact bN _ _ h
   |cons s rest=>exact aoa (Q:=λo=>Q (o.bind (wF (M.bM k rest)))) bO (λL z q=>ih Q rest L z aU q bN) ih h
  refine aom (λz h=>?_) 3 z h;cases z with
  |lv l p q=>exact(kE h.1).symm▸h.2 _
  |_=>exact one _ h
end
variable{Q:Hp Out->Prop}
theorem vgK(hM:M.r=J M.c 40)(aU:ar->Prop)(hK:∀L,aU L->Q (hb (.next L)))(z:Z)(h:(∀L,gB M k Q (ss.drop i) (d6 l L) z λL _=>aU L)=∀_:ar,z.sp:=by kernel_rfl):M.G k ss i l Q:=λL=>zu hM k Q _ _ z _ (h.mpr (λ_=>z.ok) L) λ_ _ h=>hK _ h
variable{f:HP}
theorem vg(z:Z)(h:(∀L,gB (Mf P c f) k Q (ss.drop i) (d6 l L) z λL _=>Q (hb (.next L)))=∀_:ar,z.sp:=by kernel_rfl):(Mf P c f).G k ss i l Q:=λL=>zu rfl k Q _ _ z _ (h.mpr (λ_=>z.ok) L) λ_ _ h=>h
section
variable(Bp:JP)(qu:JC)(ao9:Ig)(mu:Hp Df)(pZ:Hn Ho)
def dM:Mc:=BN Bp qu ao9 (match mu with|some q=>q.2.2|none=>default)
noncomputable def dB:Hn IM:=match mu with|some q=>q.2.1|none=>[]
noncomputable def dP:Hn HP:=match mu with|some q=>q.1|none=>[]
def Co:Ig:=mu.isSome&&pZ.length==(dP mu).length
def dG(Q:Hp Out->Prop)(l:En)(z:Z)(aU:ar->Prop):Prop:=∀L,gB (dM Bp qu ao9 mu) 60 Q (dB mu) (d6 l L) z λL _=>aU L
def eA(aH:Ho->Prop)(z:((y:Ho)->aH y->Z)->Z):Prop:=Co mu pZ=Hq/\dG Bp qu HH mu (λmu=>∃y,mu.bind sU=hb y/\aH y) (E6 (dP mu) pZ) (z λy h=>.q (∃x,hb y=hb x/\aH x) ⟨y,rfl,h⟩) λ_=>∃x,hb .none=hb x/\aH x
def eB(aH:Ho->Prop)(z:((y:Ho)->aH y->Z)->Z):Prop:=Hq=Hq/\∀_:ar,(z λy h=>.q (∃x,hb y=hb x/\aH x) ⟨y,rfl,h⟩).sp
def rA(y:Ho)(z:((x:Ho)->x=y->Z)->Z):Prop:=Co mu pZ=Hq/\dG Bp qu HH mu (λmu=>mu.bind sU=hb y) (E6 (dP mu) pZ) (z λ_ h=>.q _ (HL hb h)) λ_=>hb .none=hb y
def rB(y:Ho)(z:((x:Ho)->x=y->Z)->Z):Prop:=Hq=Hq/\∀_:ar,(z λ_ h=>.q _ (HL hb h)).sp
def sA(w:I2)(z:((x:I2)->w=x->Z)->Z):Prop:=rA Bp qu mu pZ (.str (HA w)) λe=>z λx h=>e _ (HL (λx=>JF (HA x)) h.symm)
def sB(w:I2)(z:((x:I2)->w=x->Z)->Z):Prop:=rB (.str (HA w)) λe=>z λx h=>e _ (HL (λx=>JF (HA x)) h.symm)
noncomputable def tL(a:Hv)(d:Ho):((x:Ho)->x=d->Z):=λ_ h=>.q _ (HL (λx=>hb (VV.own (.tree (hb a) x))) h)
def mA(g:Hn HP->Ig)(px:HP)(d d':Ho)(z:Hv->((x:Ho)->x=d'->Z)->Z):Prop:=(Co mu pZ&&g (dP mu))=Hq/\((dP mu).zip pZ).lookup px=hb d/\∀a,dG Bp qu HH mu (λmu=>∃L,mu=hb (.next L)/\L px=hb (.own (.tree (hb a) d'))) (Ds (dP mu) pZ px a d) (z a (tL a d')) λL=>L px=hb (.own (.tree (hb a) d'))
def mB(d d':Ho)(z:Hv->((x:Ho)->x=d'->Z)->Z):Prop:=Hq=Hq/\hb d=hb d/\∀(a:Hv)(_:ar),(z a (tL a d')).sp
noncomputable def tR(a:Hv)(y d:Ho):(x e:Ho)->x=y->e=d->Z:=λ_ _ h1 h2=>.q _ (congr (HL (λx y=>(x,hb (VV.own (.tree (hb a) y)))) h1) h2)
def qR(px:HP)(a:Hv)(y d:Ho)(mu:Hp Out):Prop:=match mu with
 |some (.fU x L)=>(x,L px)=(y,hb (.own (.tree (hb a) d)))
 |some (.next L)=>(OI,L px)=(y,hb (.own (.tree (hb a) d)))
 |_=>Jg
def nA(px:HP)(d y d':Ho)(z:Hv->((x e:Ho)->x=y->e=d'->Z)->Z):Prop:=(Co mu pZ&&Fz (dP mu)&&p1 (dP mu)==px)=Hq/\((dP mu).zip pZ).lookup px=hb d/\∀a,dG Bp qu Hq mu (qR px a y d') (Ds (dP mu) pZ px a d) (z a (tR a y d')) λL=>(OI,L px)=(y,hb (.own (.tree (hb a) d')))
def nB(d y d':Ho)(z:Hv->((x e:Ho)->x=y->e=d'->Z)->Z):Prop:=Hq=Hq/\hb d=hb d/\∀(a:Hv)(_:ar),(z a (tR a y d')).sp
end
variable{o:Hp Df}
theorem xa{rt:Ig}{aU:ar->Prop}(h:dG P c rt o Q l FW aU)(hK:∀L,aU L->Q (hb (.next L)))(L:ar):Q (jB (dM P c rt o) 60 (dB o) (d6 l L)):=zu rfl 60 _ _ _ _ _ (h L) λL _ h=>hK L h
theorem nH(h:Co o B=Hq):∃q,o=hb q/\B.length=q.1.length:=by
 cases o with
 |none=>cases h
 |some q=>exact i12 q rfl (aw (aj h).2)
theorem xE0{aH:Ho->Prop}(z:((y:Ho)->aH y->Z)->Z)(h:eA P c o B aH z=eB aH z):∃y,(o.bind λq=>BE q.1 (mO P c HH q) B)=hb y/\aH y:=by refine ew (h.mpr ⟨rfl,λ_=>Z.ok _⟩) λha h=>aQ (nH ha) λq o1 hl=>?_;subst o1;refine aQ (xa h (λ_ h=>h) λ_=>Hu) λy h r=>i12 y ?_ r;(refine iT hl ?_;rw[jZ]);exact h
variable{y:Ho}
theorem FA(z:((x:Ho)->x=y->Z)->Z)(h:rA P c o B y z=rB y z):(o.bind λq=>BE q.1 (mO P c HH q) B)=hb y:=by refine ew (h.mpr ⟨rfl,λ_=>Z.ok _⟩) λha h=>aQ (nH ha) λq o1 hl=>?_;subst o1;obtain h:=xa h (λ_ h=>h) λ_=>Hu;(refine iT hl ?_;rw[jZ]);exact h
theorem xD{g:Hn HP->Ig}{z:Hv->((x:Ho)->x=d'->Z)->Z}(h:mA P c o B g px d d' z=mB d d' z):∃q,o=hb q/\g q.1=Hq/\lJ q.1 px (mO P c HH q) B=hb d':=by refine xg (h.mpr ⟨rfl,rfl,λ_ _=>Z.ok _⟩) λh1 h2 h3=>?_;obtain⟨h0,h1⟩:=aj h1;refine aQ (nH h0) λq o1 hl=>?_;subst o1;exact rL q rfl h1 (aea λa=>aQ (xa (h3 a) (λ_ h=>⟨_,rfl,h⟩) λ_=>Hu) λL e1 e2=>afI hl h2 e1 e2)
theorem xM0(z:Hv->((x:Ho)->x=d'->Z)->Z)(h:mA P c o B E8 (p2 (dP o)) d d' z=mB d d' z):(o.bind λq=>ajq q.1 (mO P c HH q) B)=hb d':=by refine kK (xD h) λq o1 h1 h2=>?_;subst o1;show gd (E8 q.1) _=_;exact h1.symm▸h2
theorem xR0(z:Hv->((x e:Ho)->x=y->e=d'->Z)->Z)(h:nA P c o B "self" d y d' z=nB d y d' z):(o.bind λq=>ajA q.1 (mO P c Hq q) B)=hb (y,d'):=by
 refine xg (h.mpr ⟨rfl,rfl,λ_ _=>Z.ok _⟩) λh1 h2 h3=>?_;obtain⟨h0,h4⟩:=aj h1;obtain⟨h0,h1⟩:=aj h0;refine aQ (nH h0) λq o1 hl=>?_;subst o1;show gd (Fz q.1) _=_;refine(show Fz q.1=Hq from h1).symm▸aeH λa=>?_;obtain h:=xa (h3 a) (λ_ h=>h) λ_=>Hu;rw[show p1 q.1="self"from aw h4];refine iT hl ?_;rw[show(q.1.zip B).lookup (HA "self")=hb d from h2,HT,jZ,qL];show(mO P c Hq q (d6 (Ds q.1 B "self" a d) λ_=>Hu)).bind _=_;revert h;show qR _ _ _ _ (mO P c Hq q (d6 (Ds q.1 B "self" a d) λ_=>Hu))->_;generalize mO P c Hq q (d6 (Ds q.1 B "self" a d) λ_=>Hu)=o;intro h;have fin:∀{x:Ho}{L:ar},(x,L "self")=(y,hb (VV.own (.tree (hb a) d')))->((bL L "self").bind λq=>if q.1=hb a then hb (x,q.2)else Hu)=hb (y,d'):=λh=>by
  refine ew (Prod.mk.inj h) λh1 h2=>?_;unfold bL;refine h2.symm▸h1.symm▸?_;exact H5 rfl
 cases o with
 |none=>exact h.elim
 |some o=>cases o with
  |next L=>exact fin h
  |fU x L=>exact fin h
  |_=>exact h.elim
variable{b:Ig}
theorem xE{aH:Ho->Prop}(z:((y:Ho)->aH y->Z)->Z)(h:eA P c (mY P.p f) B aH z=eB aH z:=by kernel_rfl):∃y,(gG P c b).F f B=hb y/\aH y:=xE0 z h
theorem xF(z:((x:Ho)->x=y->Z)->Z)(h:rA P c (mY P.p f) B y z=rB y z:=by kernel_rfl):(gG P c b).F f B=hb y:=FA z h
theorem xS{w:I2}(z:((x:I2)->w=x->Z)->Z)(h:sA P c (mY P.p f) B w z=sB w z:=by kernel_rfl):(gG P c b).F f B=hb (.str (HA w)):=FA _ h
theorem pF(z:((x:Ho)->x=y->Z)->Z)(h:rA P c (vZ P f) B y z=rB y z:=by kernel_rfl):(gG P c b).P f B=hb y:=FA z h
theorem pS{w:I2}(z:((x:I2)->w=x->Z)->Z)(h:sA P c (vZ P f) B w z=sB w z:=by kernel_rfl):(gG P c b).P f B=hb (.str (HA w)):=FA _ h
theorem xM(z:Hv->((x:Ho)->x=d'->Z)->Z)(h:mA P c (mY P.p f) B E8 (p2 (dP (mY P.p f))) d d' z=mB d d' z:=by kernel_rfl):(gG P c b).M f B=hb d':=xM0 z h
theorem xN{q:Hv×Hn HP}(hA:P.A f=hb q)(z:Hv->((x:Ho)->x=d'->Z)->Z)(h:mA P {Bd P with I:=hb q} (o7 P.p f "__init__") (ec q.1 [] []::B) (λps=>p1 ps=="self"&& !ps.isEmpty) "self" (ec q.1 [] []) d' z=mB (ec q.1 [] []) d' z:=by kernel_rfl):(gG P c Hq).N f B=hb d':=by show gd Hq ((P.A f).bind _)=_;refine hA.symm▸kK (xD h) λd e h1 h2=>bI e ?_;unfold xh;exact h1.symm▸h2
theorem xR(z:Hv->((x e:Ho)->x=y->e=d'->Z)->Z)(h:nA P c (vZ P f) B "self" d y d' z=nB d y d' z:=by kernel_rfl):(gG P c b).R f B=hb (y,d'):=xR0 z h
noncomputable abbrev fB(k:HG){l:Hp Ig}(h:l=hb b)(z:Z):Z:=.f k _ h ⟨.bool b,.d⟩ z
noncomputable abbrev fX(k:HG){l:Hp Ho}(h:l=hb x)(z:Z):Z:=.f k _ h ⟨x,.d⟩ z
noncomputable abbrev fV(k:HG){l:Hp V}(h:l=hb v)(z:Z):Z:=.f k _ h v z
noncomputable abbrev fI(k:HG){l:Hp (Hn Ho×Fl)}{f:Fl}(h:l=hb (B,f))(z:Z):Z:=.f k _ h ⟨.list B,f⟩ z
noncomputable abbrev fC(k:HG){c:Prop}[La c](h:c)(z:Z):Z:=.f k _ (H5 h:(if c then hb (V.mk .none .d)else Hu)=_) ⟨.none,.d⟩ z
noncomputable abbrev fT(k:HG){x:HP}(h:tP m x d d')(z:Z):Z:=.f k _ h ⟨d',.d⟩ z
noncomputable abbrev fP(k:HG){l:Hp (Ho×Ho)}{a b:Ho}(h:l=hb (a,b))(z:Z):Z:=.f k _ h ⟨.tuple [a,b],.d⟩ z
noncomputable abbrev fN(k:HG){p:Prop}(h:p)(z:Z):Z:=.f k p h ⟨.none,.d⟩ z
noncomputable abbrev fL{p:Prop}(h:p)(z:Z):Z:=.fl p h z
noncomputable abbrev fS(k:HG)(z:Z):Z:=.f k N9 trivial ⟨.none,.d⟩ z
abbrev bB(k:HG){l:Hp Ig}(h:l=hb b)(x:b=Hq->Z)(y:b=HH->Z):Z:=fB k h (.br b x y)
noncomputable abbrev fr{σ:Type}(as:Hn α){p:α->Ho}(hp:∀a,flat (p a)=Hq)(I:HG->σ->En)(aH:HG->σ->Prop)(s:σ)(r:aH 0 s)(b:(j:HG)->(a:α)->as[j]? =hb a->(s:σ)->aH j s->((l:En)->(∃s,aH (j+1) s/\I (j+1) s=l)->Z)->Z)(z:(s:σ)->aH as.length s->Z)(ex:B=as.map p:=by rfl):Z:=.fr α σ as p B ex hp I aH s r (λj a h s r=>b j a h s r λl h=>.e l _ h) z
noncomputable abbrev fo(as:Hn α){p:α->Ho}(hp:∀a,flat (p a)=Hq)(I:HG->En)(b:(j:HG)->(a:α)->as[j]? =hb a->((l:En)->I (j+1)=l->Z)->Z)(z:Z):Z:=fr (B:=as.map p) as hp (λj (_:Nq)=>I j) (λ_ _=>N9) () trivial (λj a h s _ e=>b j a h λl h=>e l ⟨(),trivial,h⟩) λ_ _=>z
noncomputable abbrev wh{σ:Type}(I:σ->En)(aH:σ->Prop)(m:σ->HG)(s:σ)(r:aH s)(h:m s<100000)(t:(s:σ)->aH s->((l:En)->(∃x,aH x/\m x<m s/\I x=l)->Z)->Z):Z:=.wh σ I aH m s r h λs r=>t s r λl h=>.e l _ h
noncomputable abbrev vL(α:Type)(as:Hn α)(p:α->Ho)(hp:∀a,flat (p a)=Hq)(g:α->Hp Ho)(ys:Hn Ho)(e:as.filterMap g=ys)(b:(a:α)->a∈as->Z)(z:Z):Z:=.lc α as p _ rfl (λa=>⟨p a,.d⟩) (λa=>qA (hp a)) g ys e b z
noncomputable abbrev lM(as:Hn α){p:α->Ho}(hp:∀a,flat (p a)=Hq)(g:α->Ho)(z:Z):Z:=vL α as p hp (λa=>hb (g a)) _ (Kx Je as) (λa _=>.q _ (Mg (hb (g a)))) z
noncomputable abbrev lN{as:Hn α}{p:α->Ho}(hp:∀a,flat (p a)=Hq){g:α->Ho}(e:as.map g=ys)(z:Z):Z:=vL α as p hp (λa=>hb (g a)) ys ((Kx Je as).trans e) (λa _=>.q _ (Mg (hb (g a)))) z
end X
open X
set_option genCtorIdx false in
inductive Row where
 |op (p:Hn HG)
 |lay (n p:Hn HG) (i:HI)
 |copy (n o p:Hn HG)
 |same (n o:Hn HG)
 |add (n o:Hn HG)
 |tell (n:Hn HG)
 |give (p:Hn HG)
 |fork (k:HI)
 |go (k:HI)
 |fin
abbrev aP:=Hn (Hn HG×Hp (Hn HG))
noncomputable def scan:aP->Hp (Hn HG)->Hn (Hn HG)
 |[],_=>[]
 |x::B,cur=>if hb x.1=cur then x.1::scan B x.2 else scan B cur
theorem gY{x:Hn HG×Hp (Hn HG)}{c:Hp (Hn HG)}:scan (x::dU) c=if hb x.1=c then x.1::scan dU x.2 else scan dU c:=rfl
theorem aeJ(B:aP):scan B Hu=[]:=by
 induction B with
 |nil=>exact rfl
 |cons x B bX=>(rw[gY];refine iF (by nofun) ?_);exact bX
theorem aaS{q:Hn HG}{B:aP}:q∉B.map (·.1)->scan (B++r7) (hb q)=scan r7 (hb q):=by
 induction B with
 |nil=>intro _;exact rfl
 |cons x B bX=>intro h;rw[HS,Hw,LR]at h;(rw[Lj,gY];refine iF (λe=>h.1 (H4 e).symm) ?_);exact bX h.2
theorem scan_len(B:aP):∀(o:Hp (Hn HG)),(scan B o).length<=B.length:=by
 induction B with
 |nil=>intro _;exact Io _
 |cons x B bX=>
  intro o;rw[gY];split
  ·exact Jv (bX x.2)
  ·exact Hs (bX o) (J1 _)
structure bW(n:Hn HG):Prop where
 one:1<=n.length
 DP:n.length<=8
 abc:∀x∈n,97<=x/\x<=122
structure aZ(ps:aP):Prop where
 nd:(ps.map (·.1)).Nodup
 out:∀(A fq:aP)(n q:Hn HG),ps=A++(n,hb q)::fq->q∈A.map (·.1)
 len:ps.length<=12
 nm:∀p∈ps,bW p.1
abbrev up(ps:aP)(n:Hn HG):Hn (Hn HG):=scan ps.reverse (hb n)
variable{ps:aP}
theorem vt(H:aZ ps)(n:Hn HG):(up ps n).length<=12:=by have:=scan_len ps.reverse (hb n);rw[JG]at this;exact Hs this H.len
inductive At(ps:aP)(n:Hn HG):Prop
 |mk (A fq:aP) (o:Hp (Hn HG)) (e:ps=A++(n,o)::fq)
variable{n:Hn HG}
theorem Ap:n∈ps.map (·.1)->At ps n:=by
 induction ps with
 |nil=>intro h;exact nomatch h
 |cons p ps bX=>
  intro h;rcases Hw.mp h with rfl|h
  ·exact⟨[],ps,p.2,rfl⟩
  ·obtain⟨A,fq,o,e⟩:=bX h;exact⟨p::A,fq,o,by refine e.symm▸?_;rfl⟩
theorem xf{A fq:aP}{o:Hp (Hn HG)}(H:aZ ps)(e:ps=A++(n,o)::fq):up ps n=n::(match o with|some q=>up ps q|none=>[])/\ps.lookup n=hb o:=by
 obtain nd:=H.nd;rw[e,HJ,HS,H8]at nd;obtain⟨_,h2,h3⟩:=nd;rw[HZ]at h2;have hn:n∉A.map (·.1):=λh=>h3 n h n (.head _) rfl;have hr:ps.reverse=fq.reverse++((n,o)::A.reverse):=by refine e.symm▸?_;simp
 obtain hB:n∉fq.reverse.map (·.1):=by rw[Kn,MP];exact h2.1
 refine⟨?_,?_⟩
 ·unfold up;refine hr.symm▸?_;((refine(aaS hB).trans ?_;rw[gY]);refine iT rfl ?_);clear hB hr h2;cases o with
  |none=>rw[aeJ]
  |some q=>
   obtain hq:=H.out A fq n q e;obtain h4:q∉fq.reverse.map (·.1):=by rw[Kn,MP];exactλh=>h3 q hq q (.tail _ h) rfl
   obtain h5:n≠q:=λh=>hn (by exact h.symm▸hq);show _=n::scan (fq.reverse++((n,hb q)::A.reverse)) (hb q);refine(aaS h4).symm▸?_;rw[gY,Ir (λh=>h5 (H4 h))]
 ·refine e.symm▸?_;have:∀{A:aP},n∉A.map (·.1)->(A++(n,o)::fq).lookup n=hb o:=by
   intro A;clear e H hB hr h3 h2;induction A with
   |nil=>intro _;(dsimp only[KX,HK];rw[Ih])
   |cons x A ih=>intro h;rw[HS,Hw,LR]at h;exact Lj.symm▸HK.trans<|(HO.mpr h.1).symm▸ih h.2
  exact this hn
theorem af5{A fq:aP}(H:aZ ps)(e:ps=A++(n,hb q)::fq):q∈ps.map (·.1):=by(refine e.symm▸HJ.symm▸?_);exact HF _ (H.out A fq n q e)
def zN(ps:aP)(c:Hn (Hn HG)):Prop:=∀i n,c[i]? =hb n->ps.lookup n=hb c[i+1]?
theorem ahf(H:aZ ps)(m:HG):∀{n:Hn HG},(up ps n).length<=m->n∈ps.map (·.1)->zN ps (up ps n)/\(up ps n)[0]? =hb n:=by
 induction m with
 |zero=>intro n R hn;obtain⟨A,fq,o,e⟩:=Ap hn;rw[(xf H e).1]at R;exact IG R (Nat.not_succ_le_zero _)
 |succ m bX=>
  intro n R hn;obtain⟨A,fq,o,e⟩:=Ap hn;refine ew (xf H e) λh1 h2=>?_;rw[h1]at R⊢;refine⟨?_,rfl⟩;intro i z hz;clear hn h1;cases o with
  |none=>
   cases i with
   |zero=>obtain hz:n=z:=H4 hz;refine hz▸h2.symm▸?_;rfl
   |succ i=>exact nomatch hz
  |some q=>
   refine ew (bX (Nat.le_of_succ_le_succ R) (af5 H e)) λc1 c2=>?_;clear H R;cases i with
   |zero=>obtain hz:n=z:=H4 hz;(refine hz▸h2.symm▸?_);exact HL hb c2.symm
   |succ i=>exact c1 i z hz
theorem qe(H:aZ ps)(hn:n∈ps.map (·.1)):∃t,up ps n=n::t:=by obtain⟨A,fq,o,e⟩:=Ap hn;exact⟨_,(xf H e).1⟩
theorem anK{z:Hn HG}(h:z∈up ps n):z∈ps.map (·.1):=by
 have:∀{B:aP}{o:Hp (Hn HG)},z∈scan B o->z∈B.map (·.1):=by
  intro B;induction B with
  |nil=>intro o h;exact nomatch h
  |cons x B ih=>
   intro o h;rw[gY]at h;split at h
   ·rcases Hw.mp h with rfl|h
    ·exact .head _
    ·exact .tail _ (ih h)
   ·exact .tail _ (ih h)
 have:=this h;rwa[Kn,MP]at this
structure eP where
 bG:Hn (Hn HG×HI)
 held:Hn (Hn HG×HI)
 aC:Hn (HI×HI)
 told:Hn HI
 given:Hn HI
 many:HI
noncomputable def vz:eP:=⟨[],[],[],[],[],0⟩
noncomputable def eH(st:eP)(i:HI):HI:=((st.aC[i.toNat]?).getD (0,0)).2
noncomputable def de(st:eP)(i:HI):HI:=((st.aC[i.toNat]?).getD (0,0)).1
def d0(st:eP)(n:Hn HG):I2:=match st.held.lookup n with
 |none=>"nothing"
 |some i=>bif decide (eH st i∈st.bG.map (·.2))then""else"gone"
noncomputable def dg(st:eP):Hn (Hn HG):=st.bG.map (·.1)
def aR(ps:aP)(st:eP)(r:Row):I2:=match r with
 |.op p=>bif decide (p∈dg st)then"open already"else match(up ps p)[1]?with
  |some q=>bif decide (q∈dg st)then""else"not open"
  |none=>""
 |.lay _ p _=>bif decide (p∈dg st)then""else"not open"
 |.copy _ o p=>bif d0 st o==""then(bif decide (p∈dg st)then""else"not open")else d0 st o
 |.same _ o=>bif(st.held.lookup o).isSome then""else"nothing"
 |.add n o=>bif d0 st n==""then d0 st o else d0 st n
 |.tell n=>d0 st n
 |.give p=>bif decide (p∈dg st)then""else"not open"
 |.fin=>bif st.bG.isEmpty then""else"left"
 |.fork _=>""
 |.go _=>""
variable{st:eP}{p:Hn HG}{i:HI}
theorem vy:aR ps st (.lay n p i)=bif decide (p∈dg st)then""else"not open":=rfl
variable{o:Hn HG}
theorem ky:aR ps st (.copy n o p)=bif d0 st o==""then(bif decide (p∈dg st)then""else"not open")else d0 st o:=rfl
theorem tn:aR ps st (.same n o)=bif(st.held.lookup o).isSome then""else"nothing":=rfl
theorem lR:aR ps st (.add n o)=bif d0 st n==""then d0 st o else d0 st n:=rfl
theorem tF:aR ps st (.give p)=bif decide (p∈dg st)then""else"not open":=rfl
theorem vF:aR ps st .fin=bif st.bG.isEmpty then""else"left":=rfl
noncomputable def tJ(n:Hn HG)(i:HI):Hn (Hn HG×HI)->Hn (Hn HG×HI)
 |[]=>[]
 |p::h=>if p.1=n then(p.1,i)::h else p::tJ n i h
def mn(h:Hn (Hn HG×HI))(n:Hn HG)(i:HI):Hn (Hn HG×HI):=if(h.lookup n).isSome then tJ n i h else h++[(n,i)]
noncomputable def bg(st:eP)(n:Hn HG):HI:=(st.held.lookup n).getD 0
noncomputable def jf(st:eP)(p:Hn HG):HI:=((st.bG.filter λq=>decide (q.1=p)).map (·.2)).headD 0
def dC(ps:aP)(p:Hn HG)(q:Hn HG×HI):Ig:=decide (p∈up ps q.1)
def d7(ps:aP)(st:eP)(r:Row):eP:=match r with
 |.op p=>{st with bG:=st.bG++[(p,st.many)],many:=st.many+1}
 |.lay n p i=>{st with held:=mn st.held n st.aC.length,aC:=st.aC++[(i,jf st p)]}
 |.copy n o p=>{st with held:=mn st.held n st.aC.length,aC:=st.aC++[(de st (bg st o),jf st p)]}
 |.same n o=>{st with held:=mn st.held n (bg st o)}
 |.add n o=>{st with aC:=st.aC.set (bg st n).toNat (de st (bg st n)+de st (bg st o),eH st (bg st n))}
 |.tell n=>{st with told:=st.told++[de st (bg st n)]}
 |.give p=>{st with given:=st.given++((st.bG.filter (dC ps p)).map (·.2)).reverse,bG:=st.bG.filter λq=> !dC ps p q}
 |.fork _=>st
 |.go _=>st
 |.fin=>st
def dS(st:eP)(n:Hn HG):Prop:=∃i,st.held.lookup n=hb i/\0<=i/\i.toNat<st.aC.length
def eX(st:eP)(n:Hn HG):Prop:=∀i,st.held.lookup n=hb i->0<=i/\i.toNat<st.aC.length
def wU(st:eP)(r:Row):Prop:=match r with
 |.op p=>p∉dg st
 |.lay _ p _=>p∈dg st
 |.copy _ o p=>dS st o/\p∈dg st
 |.same _ o=>dS st o
 |.add n o=>dS st n/\dS st o
 |.tell n=>dS st n
 |_=>N9
structure Inv(ps:aP)(k:HG)(st:eP):Prop where
 up:∀p∈dg st,p∈ps.map (·.1)
 xe:(dg st).Nodup
 low:∀q∈st.bG,q.2<st.many
 js:∀n,eX st n
 hn:(st.held.map (·.1)).Nodup
 asc:(st.bG.map (·.2)).Pairwise (·<·)
 held:st.held.length<=k
 aC:st.aC.length<=k
 told:st.told.length<=k
 gv:st.given.length+st.bG.length<=k
theorem Inv.mono(h:Inv ps k st)(hk:k<=k'):Inv ps k' st:=⟨h.up,h.xe,h.low,h.js,h.hn,h.asc,Hs h.held hk,Hs h.aC hk,Hs h.told hk,Hs h.gv hk⟩
theorem zJ(ps:aP):Inv ps 0 vz:=⟨λ_ h=>(nomatch h),I9,λ_ h=>(nomatch h),λ_ _ h=>(nomatch h),I9,QZ,Io _,Io _,Io _,Io _⟩
variable{h:Hn (Hn HG×HI)}
theorem oM{p:Hn HG×HI}:tJ n i (p::h)=if p.1=n then(p.1,i)::h else p::tJ n i h:=rfl
theorem ab8:∀{m:Hn HG},(tJ n i h).lookup m=if m=n then(h.lookup n).map λ_=>i else h.lookup m:=by
 induction h with
 |nil=>intro m;split<;>rfl
 |cons p h bX=>
  intro m;rw[oM];by_cases e:p.1=n
  ·rw[H5 e];refine HK.trans ?_;rw[HK,HK];subst e;by_cases e2:m=p.1
   ·subst e2;simp
   ·simp[e2,HO.mpr e2]
  ·rw[Ir e];refine HK.trans ?_;rw[HK,HK,bX];refine(HO.mpr (K9 e)).symm▸?_;by_cases e2:m=p.1
   ·subst e2;simp[e]
   ·exact(HO.mpr e2).symm▸rfl
theorem acf:(mn h n i).lookup GV=if GV=n then hb i else h.lookup GV:=by
 unfold mn;cases hl:h.lookup n with
 |some j=>(rw[H5 O2];refine ab8.trans ?_;rw[hl]);rfl
 |none=>
  rw[Ir (by exact ID)];refine List.lookup_append.trans ?_;by_cases e:GV=n
  ·subst e;simp[hl]
  ·refine Fa _ e ?_;dsimp only[HK];exact(HO.mpr e).symm▸Option.or_none
theorem abh(h:Hn (Hn HG×HI)):(tJ n i h).map (·.1)=h.map (·.1):=by
 induction h with
 |nil=>exact rfl
 |cons p h bX=>
  rw[oM];split
  ·rfl
  ·refine HS.trans ?_;(exact HS.symm▸bX.symm▸rfl)
theorem qy(h:Hn (Hn HG×HI)):(mn h n i).length<=h.length+1:=by
 unfold mn;by_cases e:(h.lookup n).isSome=Hq
 ·have:=HL Km (abh (n:=n) (i:=i) h);rw[Hr,Hr]at this;exact(H5 e).symm▸this.symm▸J1 _
 ·exact(Ir e).symm▸HN.symm▸Io _
theorem acs:h.lookup n=Hu->n∉h.map (·.1):=by
 induction h with
 |nil=>intro _;exact nofun
 |cons p h bX=>
  intro e;rw[HK]at e;split at e
  ·cases e
  ·rename_i q;rw[HS,Hw,LR];exact⟨HO.mp q,bX e⟩
theorem mS(hn:(h.map (·.1)).Nodup):((mn h n i).map (·.1)).Nodup:=by
 unfold mn;cases e:h.lookup n with
 |some j=>rw[H5 O2,abh];exact hn
 |none=>
  rw[Ir (by exact ID),HJ,H8];refine lW hn (HZ.mpr ⟨Ia,I9⟩) (λa ha b U q=>acs e ?_);obtain U:b=n:=by simpa using U
  exact U▸q▸ha
theorem acP(h:p∈dg st):(p,jf st p)∈st.bG:=by
 refine aQ (HX.mp h) λq hq e=>?_;have R:q∈st.bG.filter λq=>decide (q.1=p):=KB.mpr ⟨hq,by simpa using e⟩;unfold jf;clear h e hq;cases hl:(st.bG.filter λq=>decide (q.1=p))with
 |nil=>rw[hl]at R;cases R
 |cons z zs=>
  have hz:z∈st.bG.filter λq=>decide (q.1=p):=by exact hl.symm▸.head _
  refine ew (KB.mp hz) λh1 h2=>?_;obtain h2:z.1=p:=by simpa using h2
  clear hz R q;subst h2;exact h1
theorem oN(hi:∀n,eX st n)(hh:D7.held=mn st.held n i)(hw:st.aC.length<=D7.aC.length)(h0:0<=i/\i.toNat<D7.aC.length):∀m,eX D7 m:=by
 intro m j hj;rw[hh,acf]at hj;split at hj
 ·cases hj;exact h0
 ·have:=hi m j hj;exact⟨this.1,I0 this.2 hw⟩
theorem nI(h:dS st n):0<=bg st n/\(bg st n).toNat<st.aC.length:=by
 refine aQ h λi h1 h2=>?_;have:bg st n=i:=by unfold bg;refine h1.symm▸?_;rfl
 exact this.symm▸h2
theorem ae0(f:α->Ig)(l:Hn α):(l.filter f).length+(l.filter λa=> !f a).length=l.length:=by
 induction l with
 |nil=>exact rfl
 |cons a l bX=>have:=bX;refine JN.symm▸JN.symm▸?_;cases f a<;>simp<;>lia -abstractProof
theorem CD{l:Hn α}{a:α}(h:l.length<=k):(l++[a]).length<=k+1:=by exact HN.symm▸Jv h
variable{r:Row}
theorem qK(hi:Inv ps k st)(hn:wU st r)(hop:∀p,r=.op p->p∈ps.map (·.1)):Inv ps (k+1) (d7 ps st r):=by
 have h':=hi.mono (J1 k);cases r with
 |op p=>
  obtain hu:dg (d7 ps st (.op p))=dg st++[p]:=HJ;refine⟨?_,?_,?_,hi.js,hi.hn,?_,h'.held,h'.aC,h'.told,?_⟩
  ·refine hu.symm▸?_;intro q hq;rcases HD.mp hq with hq|hq
   ·exact hi.up q hq
   ·exact(HB.mp hq).symm▸(hop p rfl)
  ·refine hu.symm▸?_;rw[H8];exact lW hi.xe (HZ.mpr ⟨Ia,I9⟩) (λa ha b U e=>hn (by rw[HB.mp U]at e;exact e▸ha))
  ·intro q hq;rcases HD.mp hq with hq|hq
   ·have:=hi.low q hq;exact M3 this (JT (LH _))
   ·exact(HB.mp hq).symm▸Int.lt_succ _
  ·show((st.bG++[(p,st.many)]).map (·.2)).Pairwise (·<·);rw[HJ,List.pairwise_append];refine lW hi.asc (by simp) (λa ha b U=>aQ (HX.mp ha) λq hq o1=>?_);subst o1;obtain U:b=st.many:=by simpa using U
   exact U.symm▸hi.low q hq
  ·exact HN.symm▸List.length_singleton.symm▸Jv hi.gv
 |lay n p i=>exact⟨hi.up,hi.xe,hi.low,oN hi.js rfl (by unfold d7;simp) (by unfold d7;simp),mS hi.hn,hi.asc,Hs (qy _) (Jv hi.held),CD hi.aC,h'.told,h'.gv⟩
 |copy n o p=>exact⟨hi.up,hi.xe,hi.low,oN hi.js rfl (by unfold d7;simp) (by unfold d7;simp),mS hi.hn,hi.asc,Hs (qy _) (Jv hi.held),CD hi.aC,h'.told,h'.gv⟩
 |same n o=>exact⟨hi.up,hi.xe,hi.low,oN hi.js rfl (Io _) (nI (show dS st o from hn)),mS hi.hn,hi.asc,Hs (qy _) (Jv hi.held),h'.aC,h'.told,h'.gv⟩
 |add n o=>
  have a8:(d7 ps st (.add n o)).aC.length=st.aC.length:=by exact N6
  exact⟨hi.up,hi.xe,hi.low,λm j hj=>by exact a8.symm▸hi.js m j hj,hi.hn,hi.asc,h'.held,by exact a8.symm▸h'.aC,h'.told,h'.gv⟩
 |tell n=>exact⟨hi.up,hi.xe,hi.low,hi.js,hi.hn,hi.asc,h'.held,h'.aC,CD hi.told,h'.gv⟩
 |give p=>obtain hs:=Np;refine⟨λq hq=>hi.up q ((hs.map _).subset hq),List.Nodup.sublist (hs.map _) hi.xe,λq hq=>hi.low q (hs.subset hq),hi.js,hi.hn,hi.asc.sublist (hs.map _),h'.held,h'.aC,h'.told,?_⟩;show(st.given++((st.bG.filter (dC ps p)).map (·.2)).reverse).length+(st.bG.filter λq=> !dC ps p q).length<=k+1;rw[HN,JG,Hr,Ma,ae0];exact h'.gv
 |fork k=>exact h'
 |go k=>exact h'
 |fin=>exact h'
theorem adI(hi:Inv ps k st)(h:(st.held.lookup n).isSome=Hq):dS st n:=by exact dA (IV.mp h) λi hl=>i12 i hl (hi.js n i hl)
theorem qd(hi:Inv ps k st)(h:d0 st n=""):dS st n:=by
 refine adI hi ?_;unfold d0 at h;cases hl:st.held.lookup n with
 |none=>rw[hl]at h;exact IG (show"nothing"=""from h) (by decide)
 |some i=>rfl
theorem s8{p:Ig}{a b:I2}(U:b≠"")(h:(bif p then a else b)=""):p=Hq:=by
 cases p with
 |true=>rfl
 |false=>exact IG h U
theorem lz(hi:Inv ps k st)(h:aR ps st r=""):wU st r:=by
 cases r with
 |op p=>intro hp;unfold aR at h;dsimp only at h;rw[Ip hp]at h;exact IG (show"open already"=""from h) (by decide)
 |lay n p i=>show p∈dg st;exact IW (s8 (by decide) h)
 |copy n o p=>
  by_cases hl:d0 st o=""
  ·unfold aR at h;dsimp only at h;rw[hl]at h;exact⟨qd hi hl,IW (s8 (by decide) h)⟩
  ·unfold aR at h;dsimp only at h;rw[HO.mpr hl]at h;exact IG h hl
 |same n o=>exact adI hi (s8 (by decide) h)
 |add n o=>
  by_cases hl:d0 st n=""
  ·unfold aR at h;dsimp only at h;rw[hl]at h;exact⟨qd hi hl,qd hi h⟩
  ·unfold aR at h;dsimp only at h;rw[HO.mpr hl]at h;exact IG h hl
 |tell n=>exact qd hi h
 |give p=>trivial
 |fork k=>trivial
 |go k=>trivial
 |fin=>trivial
def c0(ps:aP)(size:HI):Row->Prop
 |.op p=>p∈ps.map (·.1)
 |.lay n p i=>bW n/\p∈ps.map (·.1)/\ -1000000000000000000<=i/\i<=1000000000000000000
 |.copy n o p=>bW n/\bW o/\p∈ps.map (·.1)
 |.same n o=>bW n/\bW o
 |.add n o=>bW n/\bW o
 |.tell n=>bW n
 |.give p=>p∈ps.map (·.1)
 |.fork k=>0<=k/\k<=size
 |.go k=>0<=k/\k<=size
 |.fin=>N9
noncomputable def wQ:Row->Ig
 |.fork _=>HH
 |.go _=>HH
 |.fin=>HH
 |_=>Hq
theorem c0.any{a b:HI}(h:c0 ps a r)(R:wQ r=Hq):c0 ps b r:=by cases r<;>first|exact h|cases R
theorem c0.more{a b:HI}(h:c0 ps a r)(R:a<=b):c0 ps b r:=by cases r<;>first|exact h|exact⟨h.1,HY h.2 R⟩
structure uO(ps:aP)(st:eP)(r:Row):Prop where
 wr:aR ps st r=""
 mv:wQ r=Hq
 ok:c0 ps 0 r
theorem afF{p:Hn HG×Hp (Hn HG)}(H:aZ (p::ps)):up (p::ps) p.1=[p.1]:=by
 obtain⟨n,o⟩:=p;refine((xf (A:=[]) (fq:=ps) H rfl).1).trans ?_;cases o with
 |none=>rfl
 |some q=>exact nomatch H.out [] ps n q rfl
noncomputable def pw:IB:=PySem.Challenge.pw_uf010022_10
noncomputable def ow0(x:HP):Ig:=x=="_law_rows"||x=="do"||x=="give"||x=="_law_homes"
def K0(x:HP):Hp Ho:=
 bif x=="LETTERS"then hb (.str "abcdefghijklmnopqrstuvwxyz")else bif x=="MOST_LETTERS"then hb (.int 8)else bif x=="MOST_PLOTS"then hb (.int 12)else bif x=="MOST_ROWS"then hb (.int 60)else
 bif x=="MOST_NUMBER"then hb (.int 1000000000000000000)else bif x=="MOST_STEPS"then hb (.int 1000000)else bif x=="SHAPES"then hb (dictOf [("open",.tuple [.str "plot"]),("lay",.tuple [.str "name",.str "plot",.str "number"]),("copy",.tuple [.str "name",.str "name",.str "plot"]),("same",.tuple [.str "name",.str "name"]),
  ("add",.tuple [.str "name",.str "name"]),("tell",.tuple [.str "name"]),("give",.tuple [.str "plot"]),("fork",.tuple [.str "place"]),("go",.tuple [.str "place"]),("end",.tuple [])])else Hu
def PP(S:Hp (Hv×Hv×Hv×Hn Ho))(A:HP->Hp (Hv×Hn HP)):JP:=⟨pw,K0,ow0,S,A⟩
noncomputable abbrev D(x:Ho):VV:=.val ⟨x,.d⟩
noncomputable abbrev sh(x:Ho):VV:=.val ⟨x,.s⟩
noncomputable abbrev iV(i:HI):V:=⟨.int i,.d⟩
noncomputable def cJ(l:Hn HI)(k:HI):HI:=(l[k.toNat]?).getD 0
noncomputable def aq(l:Hn HI):Hn Ho:=l.map .int
variable{S0:Hp (Hv×Hv×Hv×Hn Ho)}{A0:HP->Hp (Hv×Hn HP)}{b0:Ig}
theorem apA(l:Hn HI)(k:HI)(hk:0<=k):(gG (PP S0 A0) c b0).F "_law_at" [.list (aq l),.int k]=hb (.int (cJ l k)):=by
 have e:(aq l).length=l.length:=Hr _;have g:decide (k<((aq l).length:HI))=Hq->ed (.list (aq l)) (.int k)=hb (.int (cJ l k)):=λh=>by
  have h:=IW h;unfold cJ aq at*;show e7 _ k=_;refine(eR hk).trans ?_;(refine Iz.trans ?_;rw[HQ (by lia -abstractProof)]);rfl
 exact xF λt=>.br (decide (k<((aq l).length:HI))) (λh=>fX 0 (g h)<|t _ rfl) λh=>t (.int 0) (by unfold cJ;rw[Jw (by have:=Ji h;lia -abstractProof)];rfl)
theorem aiU(i:HI):(gG (PP S0 A0) c b0).F "_law_whole" [.int i]=hb (.bool Hq):=by kernel_rfl
noncomputable def gM(c k:HI):HI:=c+31*k*(c%2)
def fO(c k:HI)(n:HG):HI:=gM c k/26%(9-n)
def eQ(c k:HI)(n:HG):Hn HG:=(H0 (fO c k n).toNat).map λ(j:HG)=>97+((gM c k+5*(j:HI)*(1+gM c k%3))%26).toNat
def lI(c k:HI)(n:HG):HI:=bif c%2==0 then c/4%(fO c k n+1)else fO c k n
def eK(c k:HI)(s:Hn HG):Hn HG:=(eQ c k s.length).take (lI c k s.length).toNat++s++(eQ c k s.length).drop (lI c k s.length).toNat
variable{n:HG}
theorem nW(x k:HI)(h2:n<=8):0<=fO x k n/\fO x k n<9:=by obtain hn:(0:HI)<9-(n:HG):=LU (Jj.mpr (K6 h2));exact⟨Ic _ (Kb (LU (Jj.mpr (K6 h2)))),by have:=H9 (gM x k/26) hn;exact IJ this (Mj 9 (H3 _))⟩
theorem akS(x k:HI)(h2:n<=8):0<=lI x k n/\lI x k n<=fO x k n:=by
 obtain hz:=nW x k h2;unfold lI;cases x%2==0 with
 |true=>exact⟨Ic _ (by exact Kb (JT hz.1)),by have:=H9 (x/4) (show 0<fO x k n+1 by exact JT hz.1);simp only[Ku];exact(OF 1).mp this⟩
 |false=>exact⟨hz.1,LH _⟩
theorem aeQ(x k:HI)(h2:n<=8):pE (HA "") (List.map (λj:HG=>JF (S [97+((gM x k+5*(j:HI)*(1+gM x k%3))%26).toNat])) (H0 (fO x k n).toNat))=hb (.str (S (eQ x k n))):=by
 obtain hz:=nW x k h2;obtain e:=aiq (ts:=(H0 (fO x k n).toNat).map λj:HG=>[97+((gM x k+5*(j:HI)*(1+gM x k%3))%26).toNat]) (by rw[aj5];simp;exact HY (IZ hz.2) (by decide)) (by simp;exact HY (IZ hz.2) (by decide)) (λt ht x hx=>by
  refine aQ (HX.mp ht) λj o1 o2=>?_;subst o2;exact(HB.mp hx).symm▸HC (Ij (DF (n:=25) _ (by decide) (by decide)) 97) (by decide))
 refine ahB.symm▸?_;rw[Ii,aj5]at e;exact e
theorem agH{l:Hn HG}:vJ lo hi Hu ⟨.str (S l),f⟩=hb ⟨.str (S ((l.take (fg hi l.length)).drop (eI lo l.length))),.d⟩:=by obtain e:vJ lo hi Hu ⟨.str (S l),f⟩=eZ lo hi Hu ⟨.str (S l),f⟩:=rfl;refine e.trans ?_;unfold eZ;refine(show kF lo hi Hu (V.x ⟨.str (S l),f⟩)=_ from aey lo hi l).symm▸?_;rfl
theorem ad8(h0:0<=i)(h1:i<26):ed (.str (S ql)) (.int i)=hb (.str (S [97+i.toNat])):=by show Jo _ (e7 ql _)=_;refine(ac8 h0 h1).symm▸?_;rfl
theorem ahQ(x k:HI)(h2:n<=8):(eQ x k n).length<=9:=by unfold eQ;rw[Hr,Iy];exact JE.mpr (IZ (nW x k h2).2)
theorem ajT{a:Hn HG}(ha:a.length<=400)(U:b.length<=400):gD .Add ⟨.str (S a),f⟩ ⟨.str (S b),g⟩=hb ⟨.str (S (a++b)),.d⟩:=af9 (Hs (Js ha U) (by decide))
theorem kC{l:Hn α}(h:l.length<=n):(l.take k).length<=n:=Hs (O3 k l) h
theorem adX{l:Hn α}(h:l.length<=n):(l.drop k).length<=n:=Hs (by exact Li.symm▸M1 _ _) h
variable{a:HG}
theorem aly{l m:Hn α}{b:HG}(h:l.length<=a)(k:m.length<=b):(l++m).length<=a+b:=by exact HN.symm▸Js h k
theorem afw(x k:HI)(s:Hn HG)(hk:0<=k)(h1:1<=s.length)(h2:s.length<=8):(gG (PP S0 A0) c b0).F "_law_called" [.int x,.int k,.str (S s)]=hb (.str (S (eK x k s))):=by
 have hz:=nW x k h2;have BC:=akS x k h2;have ht:=ahQ x k h2;have z6:(smallInt (31*k)||smallInt (x%2))=Hq:=by rw[show smallInt (x%2)=Hq from abH (IJ (by decide) (Ic _ (by decide))) (M3 (H9 _ (by decide)) (by decide)),NK]
 have R:smallInt (1+gM x k%3)=Hq:=abH (IJ (by decide) (wG (a:=1) (b:=3) _ (by decide) (by decide) (by decide)).1) (Ka (wG (a:=1) (b:=3) _ (by decide) (by decide) (by decide)).2 (by decide));have hl:((eQ x k s.length).length:HI)=fO x k s.length:=by simp[eQ];exact Qg hz.1
 have e1:∀q,lI x k s.length=q->vJ Hu (hb q) Hu ⟨.str (S (eQ x k s.length)),.d⟩=hb ⟨.str (S ((eQ x k s.length).take q.toNat)),.d⟩:=λq h=>by
  subst h;refine agH.trans<|(aiI BC.1 (hl▸BC.2)).symm▸?_;rfl
 have e2:∀q,lI x k s.length=q->vJ (hb q) Hu Hu ⟨.str (S (eQ x k s.length)),.d⟩=hb ⟨.str (S ((eQ x k s.length).drop q.toNat)),.d⟩:=λq h=>by
  subst h;refine agH.trans<|(adl BC.1 (hl▸BC.2)).symm▸?_;exact JD▸rfl
 let aH (q:HI) (h:lI x k s.length=q) (t:(y:Ho)->y=.str (S (eK x k s))->Z):Z:=fV 0 (e1 q h)<|fV 0 (ajT (a:=(eQ x k s.length).take q.toNat) (b:=s) (f:=.d) (g:=.d) (Hs (kC ht) (by decide)) (Hs h2 (by decide)))<|fV 0 (e2 q h)<|fV 0 (ajT (a:=(eQ x k s.length).take q.toNat++s) (b:=(eQ x k s.length).drop q.toNat) (f:=.d) (g:=.d) (Hs (aly (kC ht) h2) (by decide)) (Hs (adX ht) (by decide)))<|t (.str (S ((eQ x k s.length).take q.toNat++s++(eQ x k s.length).drop q.toNat))) (by subst h;rfl);exact xF λt=>fV 1 (aj4 z6)<|fV 4 (jd (a:=gM x k/26) (b:=9-(s.length:HG)) (LU (Jj.mpr (K6 h2))))<|fI 0 (fZ (k:=fO x k s.length) hz.1 (HY (IZ hz.2) (by decide)))<|vL _ (H0 (fO x k s.length).toNat) (λj=>.int (j:HG)) (λ_=>rfl) (λj=>hb (.str (S [97+((gM x k+5*(j:HI)*(1+gM x k%3))%26).toNat]))) _ (Kx Je _) (λj _=>fV 2 (aj4 (a:=5*j) (b:=1+gM x k%3) (by rw[R,NK]))<|fX 2 (ad8 (i:=(gM x k+5*j*(1+gM x k%3))%26) (Ic _ (by decide)) (H9 _ (by decide)))<|.q _ (Mg (hb (JF (S [97+((gM x k+5*j*(1+gM x k%3))%26).toNat])))))<|fX 0 (aeQ x k h2)<|.br (x%2==0) (λh=>fV 2 (jd (a:=x/4) (b:=fO x k s.length+1) (JT hz.1))<|aH (x/4%(fO x k s.length+1)) (by unfold lI;refine h.symm▸?_;rfl) t) λh=>aH (fO x k s.length) (by unfold lI;refine h.symm▸?_;rfl) t
section
def mD(l:Hn HI):HI:=bif cJ l 0/4%8==1 then 12-cJ l 0/32%8 else 1+cJ l 0%4
def mF(l:Hn HI)(k:HG):HI:=bif cJ l 1%4==3&&decide (k>0)then k-1 else(cJ l 1+7*k)*48271%10007%(k+1)
def lu(l:Hn HI)(k:HG):Hn HG:=eK (cJ l 1/3) k [97+k]
def mP(l:Hn HI)(k:HG):Hp (Hn HG):=bif decide (mF l k<k)then hb (lu l (mF l k).toNat)else Hu
def ke:Hp (Hn HG)->Ho
 |none=>.none
 |some n=>.str (S n)
def aF(p:Hn HG×Hp (Hn HG)):Ho:=.tuple [.str (S p.1),ke p.2]
def um(l:Hn HI)(k:HG):Hn HG×Hp (Hn HG):=(lu l k,mP l k)
def d9(l:Hn HI):Hn (Hn HG×Hp (Hn HG)):=(H0 (mD l).toNat).map (um l)
theorem adn(l:Hn HI):1<=mD l/\mD l<=12:=by
 unfold mD;cases cJ l 0/4%8==1 with
 |true=>simp only[Ku];exact emc _ (by decide) (by decide) (by decide)
 |false=>simp only[Kg];exact wG _ (by decide) (by decide) (by decide)
theorem ado(l:Hn HI)(k:HG):0<=mF l k/\mF l k<=k:=by
 unfold mF;by_cases hk:k>0
 ·cases cJ l 1%4==3 with
  |true=>refine(Ip hk).symm▸?_;(rw[MG];dsimp only[Ku]);exact⟨O4 (I4.mpr hk),Mj _ (by decide)⟩
  |false=>exact⟨Ic _ (by exact K9 (Nk rfl)),by have:=H9 ((cJ l 1+7*k)*48271%10007) (show 0<(k:HI)+1 by exact LG _);simp only[Og,Kg];exact KF this⟩
 ·refine(Iw hk).symm▸?_;rw[Bool.and_false];exact⟨Ic _ (by exact K9 (Nk rfl)),by have:=H9 ((cJ l 1+7*k)*48271%10007) (show 0<(k:HI)+1 by exact LG _);simp only[Kg];exact KF this⟩
def qU(c:JC):Prop:=∀(l:Hn HI)(k:HI),0<=k->c.F "_law_at" [.list (aq l),.int k]=hb (.int (cJ l k))
def lO(c:JC):Prop:=∀(x k:HI)(s:Hn HG),0<=k->1<=s.length->s.length<=8->c.F "_law_called" [.int x,.int k,.str (S s)]=hb (.str (S (eK x k s)))
theorem ahl(p:α->Ho)(g:HG->α)(h0:0<=i)(h1:i<n):ed (.list (((H0 n).map g).map p)) (.int i)=hb (p (g i.toNat)):=by show e7 _ i=_;(refine(eR h0).symm▸Iz.symm▸?_;refine(jD _ ((Lk h0).mpr h1)).symm▸?_);rfl
theorem gt_int(j:HG):decide (j>0)=decide ((j:HI)>0):=by
 by_cases h:j>0
 ·exact(Ip h).trans<|(Ip (Jt.mpr h)).symm
 ·exact(Iw h).trans<|(Iw (λq=>h (Jj.mp q))).symm
theorem aeh(h:j<12):ed (.str (S ((H0 12).map (97+·)))) (.int j)=hb (.str (S [97+j])):=by show Jo _ (e7 ((H0 12).map (97+·)) (j:HI))=_;rw[eR (by exact H3 _),jD _ (by exact NR h)];rfl
theorem cZ(p:Hn HG×Hp (Hn HG)):flat (aF p)=Hq:=by obtain⟨_,_|_⟩:=p<;>rfl
theorem yx(h:(H0 n)[j]? =hb a):a=j/\j<n:=by obtain⟨h1,h2⟩:=H2.mp h;rw[Ps]at h2;rw[Iy]at h1;exact⟨h2.symm,h1⟩
def AK(l:Hn HI)(s:Hn Ho):En:=[("_law_script",sh (.list (aq l))),("_law_plots_here",.own (.lst s))]
def A3(l:Hn HI)(j:HG)(s:Hn Ho):Prop:=s=((H0 j).map (um l)).map aF
section
variable{l:Hn HI}{s:Hn Ho}(Ae:qU c)(CZ:lO c)(dn:a=j/\j<12)(dF:A3 l j s)
theorem ahJ(dn:a=j)(dF:A3 l j s):A3 l (j+1) (s++[aF (lu l a,mP l a)]):=by subst dn;unfold A3 at dF⊢;rw[kL,HJ,<-dF];rfl
theorem als(dn:a=j/\j<12)(dF:A3 l j s):s.length<10000:=by rw[dF,Hr,Hr,Iy];exact I0 dn.2 (by decide)
theorem aoh{q:HI}(dn:a=j/\j<12)(dF:A3 l j s)(hq:mF l a=q)(hl:decide (q<(a:HI))=Hq):ed (.list s) (.int q)=hb (aF (um l q.toNat)):=by obtain⟨rfl,_⟩:=dn;subst hq;exact dF.symm▸ahl aF (um l) (ado l a).1 (IW hl)
def zPk{q:HI}(hq:mF l a=q)(e:(l':En)->(∃y,A3 l (j+1) y/\AK l y=l')->Z):Z:=
 let aH (k:HG) (o:Hp (Hn HG)) (ho:mP l a=o):Z:=fX k (Ae l 1 (by decide))<|fX 1 (aeh (j:=a) (dn.1.symm▸dn.2))<|fX 0 (CZ (cJ l 1/3) a [97+a] (H3 _) (Io 1) (by show 1<=8;decide))<|fC 1 (als dn dF)<|e (AK l (s++[aF (lu l a,o)])) ⟨s++[aF (lu l a,o)],ho▸ahJ dn.1 dF,rfl⟩
 .br (decide (q<(a:HI))) (λg=>fX 0 (aoh dn dF hq g)<|fL (cZ (um l q.toNat))<|aH 1 (hb (lu l q.toNat)) (by unfold mP;(refine hq.symm▸g.symm▸?_);rfl)) λg=>aH 0 Hu (by unfold mP;(refine hq.symm▸g.symm▸?_);rfl)
def zPl(e:(l':En)->(∃y,A3 l (j+1) y/\AK l y=l')->Z):Z:=
 fX 0 (Ae l 1 (by decide))<|fV 3 (jd (a:=(cJ l 1+7*a)*48271%10007) (b:=a+1) (LG _))<|fS 0<|fX 0 (Ae l 1 (by decide))<|.br (cJ l 1%4==3&&decide ((a:HI)>0)) (λg=>zPk Ae CZ dn dF (q:=a-1) (by unfold mF;rw[gt_int,g];rfl) e) λg=>zPk Ae CZ dn dF (q:=(cJ l 1+7*a)*48271%10007%(a+1)) (by unfold mF;rw[gt_int,g];rfl) e
end
theorem ah2(ha:qU c)(hc:lO c)(l:Hn HI):(gG (PP S0 A0) c b0).F "_law_plots" [.list (aq l)]=hb (.list ((d9 l).map aF)):=by have a0:=ha l 0 (by decide);have R:=adn l;let aH (k:HG) (n:HI) (h:mD l=n) (t:(y:Ho)->y=.list ((d9 l).map aF)->Z):Z:=fI k (fZ (k:=n) (h▸HY (by decide) R.1) (h▸HY R.2 (by decide)))<|fr (H0 n.toNat) (p:=λj=>.int (j:HG)) (λ_=>rfl) (λ_ s=>AK l s) (λk s=>A3 l k s) [] rfl (λj a h s r e=>zPl ha hc (a:=a) (by have:=yx h;lia -abstractProof) r e) λs r=>t (.list s) (by(refine r.symm▸Iy.symm▸h▸?_);rfl);exact xF λt=>fX 0 a0<|fX 2 a0<|.br (cJ l 0/4%8==1) (λh=>fX 0 a0<|aH 3 (12-cJ l 0/32%8) (by unfold mD;refine h.symm▸?_;rfl) t) λh=>aH 0 (1+cJ l 0%4) (by unfold mD;refine h.symm▸?_;rfl) t
end
def iC(l:Hn HI):HI:=bif cJ l 2/5%16==3 then 60 else 1+cJ l 2%5
noncomputable def nU(k:HG):Hn HG:=[97+k/26,122-k%26]
abbrev aB(n:Hn HG):Ho:=.str (S n)
def jM(l:Hn HI)(ps:Hn (Hn HG×Hp (Hn HG))):Hn (Hn HG):=
 bif cJ l 2/5%4==1 then(ps.map (·.1)).take (iC l).toNat else(H0 (iC l).toNat).map λ(k:HG)=>eK (cJ l 2/80) k (nU k)
theorem abM(l:Hn HI):1<=iC l/\iC l<=60:=by
 unfold iC;cases cJ l 2/5%16==3 with
 |true=>simp only[Ku];exact⟨by decide,by decide⟩
 |false=>simp only[Kg];exact wG _ (by decide) (by decide) (by decide)
theorem kz(ns:Hn (Hn HG)):bZ (ns.map aB)=Hq:=by
 induction ns with
 |nil=>exact rfl
 |cons n ns bX=>exact HS.symm▸bX
theorem ala(h:k<78):e7 [97,98,99] ((k:HI)/26)=hb (97+k/26):=by
 refine(eR (by exact Qh (H3 _) (by decide))).trans ?_;refine(show((k:HI)/26).toNat=k/26 by exact rfl).symm▸?_;have:k/26<3:=Pd h;generalize k/26=j at this
 match j,this with
 |0,_=>rfl
 |1,_=>rfl
 |2,_=>rfl
theorem aih(k:HG):e7 ((H0 26).map (122-·)) ((k:HI)%26)=hb (122-k%26):=by exact(eR (H3 _)).trans<|jD _ (Ru _ (by decide))
theorem abk{n:HI}(h:0<=n)(hf:bZ B=Hq):vJ Hu (hb n) Hu ⟨.list B,f⟩=hb ⟨.list (B.take n.toNat),.d⟩:=by
 obtain e:vJ Hu (hb n) Hu ⟨.list B,f⟩=eZ Hu (hb n) Hu ⟨.list B,f⟩:=rfl;refine e.trans ?_;unfold eZ;refine(show kF Hu (hb n) Hu (V.x ⟨.list B,f⟩)=_ from slice_list Hu (hb n) B).symm▸?_;obtain h2:(B.take (fg (hb n) B.length)).drop (eI Hu B.length)=B.take n.toNat:=by
  refine aip.symm▸Oi.symm▸?_;simp only[fg];refine(Ir (MQ h)).symm▸?_;by_cases hle:n.toNat<=B.length
  ·exact Kx (HL _ (Jk hle)) _
  ·refine(KP (P7 hle)).symm▸?_;(refine(Kl (Io _)).trans ?_;rw[Kl (P7 hle)])
 refine h2.symm▸?_;obtain h3:bZ (B.take n.toNat)=Hq:=by
  have:∀(ys:Hn Ho)(m:HG),bZ ys=Hq->bZ (ys.take m)=Hq:=by
   intro ys;induction ys with
   |nil=>intro m _;refine List.take_nil.symm▸?_;rfl
   |cons y ys ih=>
    intro m hy;cases m with
    |zero=>rfl
    |succ m=>rw[bZ,HU]at hy;(dsimp only[List.take_succ_cons];rw[bZ,hy.1,ih m hy.2]);rfl
  exact this B _ hf
 show hb (V.eE _ _)=_;unfold V.eE;refine h3.symm▸?_;rfl
theorem adt(h:j<78):gD .Add ⟨.str (S [97+j/26]),.d⟩ ⟨.str (S [122-j%26]),.d⟩=hb ⟨.str (S (nU j)),.d⟩/\ed (.str (S [97,98,99])) (.int ((j:HI)/26))=hb (.str (S [97+j/26]))/\ed (.str (S ((H0 26).map (122-·)))) (.int ((j:HI)%26))=hb (.str (S [122-j%26])):=by
 refine lW (af9 (IE rfl)) ?_ ?_
 ·show Jo _ (e7 [97,98,99] ((j:HI)/26))=_;refine(ala h).symm▸?_;rfl
 ·show Jo _ (e7 ((H0 26).map (122-·)) ((j:HI)%26))=_;rw[aih];rfl
theorem ah7(ha:qU c)(hc:lO c)(l:Hn HI)(ps:Hn (Hn HG×Hp (Hn HG))):(gG (PP S0 A0) c b0).F "_law_names" [.list (aq l),.list (ps.map aF)]=hb (.list ((jM l ps).map aB)):=by have R:=abM l;have ht:∀n,iC l=n->_:=λn h=>abk (B:=ps.map λp=>aB p.1) (n:=n) (f:=.d) (h▸HY (by decide) R.1) (by(refine(show(ps.map λp=>aB p.1)=(ps.map λp=>p.1).map aB by refine Ii.symm▸?_;rfl).symm▸?_);exact kz _);have hs {n:HI} (hn:iC l=n) {j:HG} (h:j∈H0 n.toNat):=adt (j:=j) (by have:=JK.mp h;exact DC (hn▸R) this (by decide));let aH (n:HI) (hn:iC l=n) (t:(y:Ho)->y=.list ((jM l ps).map aB)->Z):Z:=.br (cJ l 2/5%4==1) (λg=>lM ps cZ (λp=>aB p.1)<|fV 0 (ht n hn)<|t (.list ((ps.map λp=>aB p.1).take n.toNat)) (by unfold jM;(refine g.symm▸?_;(rw[hn];dsimp only[Ku];rw[Lw,Ii]));rfl)) λg=>fI 0 (fZ (k:=n) (hn▸HY (by decide) R.1) (hn▸HY R.2 (by decide)))<|vL _ (H0 n.toNat) (λj=>.int (j:HG)) (λ_=>rfl) (λj=>hb (aB (eK (cJ l 2/80) j (nU j)))) _ (Kx Je _) (λj h=>fX 2 (hs hn h).2.1<|fX 1 (hs hn h).2.2<|fV 0 (hs hn h).1<|fX 0 (hc (cJ l 2/80) j (nU j) (H3 _) (IE rfl) (IE rfl))<|.q _ (Mg (hb (aB (eK (cJ l 2/80) j (nU j))))))<|t (.list ((H0 n.toNat).map λ(k:HG)=>aB (eK (cJ l 2/80) k (nU k)))) (by unfold jM;(refine g.symm▸?_;(rw[hn];dsimp only[Kg];rw[Ii]));rfl);exact xF λt=>fX 0 (ha l 2 (by decide))<|.br (cJ l 2/5%16==3) (λh=>aH 60 (by unfold iC;refine h.symm▸?_;rfl) t) λh=>aH (1+cJ l 2%5) (by unfold iC;refine h.symm▸?_;rfl) t
def Row.parts:Row->I2×Hn Ho
 |.op p=>("open",[aB p])
 |.lay n p i=>("lay",[aB n,aB p,.int i])
 |.copy n o p=>("copy",[aB n,aB o,aB p])
 |.same n o=>("same",[aB n,aB o])
 |.add n o=>("add",[aB n,aB o])
 |.tell n=>("tell",[aB n])
 |.give p=>("give",[aB p])
 |.fork k=>("fork",[.int k])
 |.go k=>("go",[.int k])
 |.fin=>("end",[])
noncomputable def av(r:Row):Ho:=.tuple (.str (HA r.parts.1)::r.parts.2)
noncomputable def cQ(c:HI):HI:=(c/10*48271+11)%1000003
def vW(c:HI):HI:=bif cQ c%4==1 then c/10%2000000000000000001-1000000000000000000 else c/10%19-9
noncomputable def dv(ns:Hn (Hn HG))(i:HI):Hn HG:=(ns[(i%ns.length).toNat]?).getD []
noncomputable def gw(ps:Hn (Hn HG×Hp (Hn HG)))(i:HI):Hn HG:=((ps[(i%ps.length).toNat]?).getD ([],Hu)).1
noncomputable def anD(k:HG)(nm ot pl:Hn HG)(num at':HI):Row:=
 match k with
 |0=>.op pl
 |1=>.lay nm pl num
 |2=>.copy nm ot pl
 |3=>.same nm ot
 |4=>.add nm ot
 |5=>.tell nm
 |6=>.give pl
 |7=>.fork at'
 |8=>.go at'
 |_=>.fin
def lh(c:HI)(ps:Hn (Hn HG×Hp (Hn HG)))(ns:Hn (Hn HG))(size:HI):Row:=
 anD (c%10).toNat (dv ns (cQ c)) (dv ns (cQ c/7)) (gw ps (cQ c/61)) (vW c) (cQ c/1013%(size+1))
variable{ns:Hn (Hn HG)}
theorem ab3(h:0<ns.length)(i:HI):e7 (ns.map aB) (i%ns.length)=hb (aB (dv ns i)):=by obtain h1:=Ic i (show(ns.length:HI)≠0 by exact K7.mpr h);obtain h2:=H9 i (show 0<(ns.length:HI) by exact Jt.mpr h);refine(eR h1).trans (Iz.trans ?_);unfold dv;refine(HQ ((Lz h).mpr h2)).symm▸?_;rfl
theorem abQ{ps:Hn (Hn HG×Hp (Hn HG))}(h:0<ps.length)(i:HI):∃o,e7 (ps.map aF) (i%ps.length)=hb (aF (gw ps i,o)):=by obtain h1:=Ic i (show(ps.length:HI)≠0 by exact K7.mpr h);obtain h2:=H9 i (show 0<(ps.length:HI) by exact Jt.mpr h);refine⟨((ps[(i%ps.length).toNat]?).getD ([],Hu)).2,?_⟩;refine(eR h1).trans (Iz.trans ?_);unfold gw;refine(HQ ((Lz h).mpr h2)).symm▸?_;rfl
theorem ten{P:HG->Prop}(h0:P 0)(h1:P 1)(h2:P 2)(h3:P 3)(h4:P 4)(h5:P 5)(h6:P 6)(h7:P 7)(h8:P 8)(h9:P 9):∀k,k<10->P k:=by
 intro k hk;rcases k with _|_|_|_|_|_|_|_|_|_|k
 ·exact h0
 ·exact h1
 ·exact h2
 ·exact h3
 ·exact h4
 ·exact h5
 ·exact h6
 ·exact h7
 ·exact h8
 ·exact h9
 ·exact IG hk (JH.mpr (Jl 10 k))
theorem ae7(rs:Hn Row)(h0:0<=i)(h1:i<rs.length):ed (.list (rs.map av)) (.int i)=hb (av ((rs[i.toNat]?).getD .fin)):=by show e7 _ i=_;(refine(eR h0).symm▸Iz.symm▸?_;refine(HQ ((Lk h0).mpr h1)).symm▸?_);rfl
theorem fk(r:Row):flat (av r)=Hq:=by cases r<;>rfl
section
variable(p9:0<ns.length)
include p9
theorem ak8(i:HI):gD .Mod ⟨.int i,.d⟩ ⟨.int ((ns.map aB).length:HG),.d⟩=hb ⟨.int (i%((ns.map aB).length:HG)),.d⟩:=jd (by rw[Hr];exact Jt.mpr p9)
theorem anI(i:HI):ed (.list (ns.map aB)) (.int (i%((ns.map aB).length:HG)))=hb (aB (dv ns i)):=by rw[Hr];exact ab3 p9 i
abbrev BG(k:HG)(i:HI)(z:Z):Z:=fV k (ak8 p9 i)<|fX 0 (anI p9 i) z
end
variable{o:Hp (Hn HG)}
def zRk{x:HI}{ps:Hn (Hn HG×Hp (Hn HG))}{size:HI}(hp:0<ps.length)(hn:0<ns.length)(hz:0<size+1)(ek:x%10=k)(p1:ed (.list (ps.map aF)) (.int (cQ x/61%((ps.map aF).length:HG)))=hb (aF (gw ps (cQ x/61),o)))(t:(y:Ho)->y=av (lh x ps ns size)->Z):Z:=
 let aH (m:HG) (n:HI) (h:vW x=n):Z:=fV m (jd (a:=cQ x/1013) (b:=size+1) hz)<|fV 0 (show gD .Mod ⟨.int x,.d⟩ ⟨.int 10,.d⟩=hb ⟨.int (k:HG),.d⟩from ek▸jd (by decide))<|t (av (anD k (dv ns (cQ x)) (dv ns (cQ x/7)) (gw ps (cQ x/61)) n (cQ x/1013%(size+1)))) (by unfold lh;(refine ek.symm▸h.symm▸?_);rfl)
 BG hn 4 (cQ x)<|BG hn 2 (cQ x/7)<|fV 2 (jd (a:=cQ x/61) (b:=((ps.map aF).length:HG)) (by rw[Hr];exact Jt.mpr hp))<|fX 0 p1<|fL (cZ (gw ps (cQ x/61),o))<|.br (cQ x%4==1) (λh=>aH 5 (x/10%2000000000000000001-1000000000000000000) (by unfold vW;refine h.symm▸?_;rfl)) λh=>aH 2 (x/10%19-9) (by unfold vW;refine h.symm▸?_;rfl)
theorem ano(x:HI)(ps:Hn (Hn HG×Hp (Hn HG)))(ns:Hn (Hn HG))(size:HI)(hp:0<ps.length)(hn:0<ns.length)(hz:0<=size):
  (gG (PP S0 A0) c b0).F "_law_row" [.int x,.list (ps.map aF),.list (ns.map aB),.int size]=hb (av (lh x ps ns size)):=by
 obtain⟨o,p1⟩:=abQ hp (cQ x/61);rw[<-Hr aF]at p1;obtain⟨k,hk,ek⟩:∃k:HG,k<10/\x%10=k:=⟨(x%10).toNat,(Lk (Ic _ (by decide))).mpr (H9 _ (by decide)),(Lu (Ic _ (by decide))).symm⟩;revert k;refine ten ?_ ?_ ?_ ?_ ?_ ?_ ?_ ?_ ?_ ?_<;>exactλe=>xF λt=>zRk hp hn (JT hz) e p1 t
def hG(l:Hn HI):Ig:=cJ l 0/4%16==9
theorem aaB(ha:qU c)(l:Hn HI):(gG (PP S0 A0) c b0).F "_law_is_plain" [.list (aq l)]=hb (.bool (hG l)):=xF λt=>fX 0 (ha l 0 (by decide))<|t _ rfl
theorem ac6(i:HI):(gG (PP S0 A0) c b0).F "is_whole" [.int i]=hb (.bool Hq):=by kernel_rfl
noncomputable def vV(n:HI):HI:=if n<0 then -n else n
def m6(n:HI):HI:=bif vV n/14%4==1 then vV n/56%61 else vV n%14
noncomputable def CI(n:HI):HG->HI
 |0=>n/14
 |j+1=>CI n j/8
noncomputable def oo(m:HI):HI:=(([0,1,0,2,0-1,0,0-6,1000000000000]:Hn HI)[m.toNat]?).getD 0
def agM(n:HI)(j:HG):HI:=oo ((CI n j+5*j)%8)
def iP(n:HI):Hn HI:=(H0 (m6 n).toNat).map (agM n)
theorem afy(n:HI):0<=m6 n/\m6 n<=60:=by
 unfold m6;cases vV n/14%4==1 with
 |true=>simp only[Ku];exact A9 _ (by decide) (by decide)
 |false=>simp only[Kg];exact A9 _ (by decide) (by decide)
theorem agv{m:HI}(h0:0<=m)(h1:m<8):e7 (([0,1,0,2,0-1,0,0-6,1000000000000]:Hn HI).map IL) m=hb (.int (oo m)):=by refine(eR h0).trans (Iz.trans ?_);unfold oo;rw[HQ (by simp;exact Int.lt_of_add_one_le h1)];rfl
def inE(m:HI)(s:Hn Ho):En:=[("_law_number",D (.int m)),("_law_found",.own (.lst s))]
def Fg(n:HI)(j:HG)(s:HI×Hn Ho):Prop:=s.1=CI n j/\s.2=aq ((H0 j).map (agM n))
theorem ah8{n:HI}{s:HI×Hn Ho}(h:a=j)(r:Fg n j s):Fg n (j+1) (s.1/8,s.2++[.int (oo ((s.1+5*a)%8))]):=by subst h;refine⟨HL (·/8) r.1,?_⟩;rw[kL,r.2,r.1];unfold aq;rw[HJ];rfl
theorem af1(n:HI):(gG (PP S0 A0) c b0).F "_law_inputs" [.int n]=hb (.list (aq (iP n))):=by
 have R:=afy n;have hl {j:HG} {s:HI×Hn Ho} (r:Fg n j s) (h:j<100):s.2.length<10000:=by rw[r.2];unfold aq;rw[Hr,Hr,Iy];exact Nat.lt_add_left _ h
 let aH (k:HG) (m:HI) (h:m6 n=m) (t:(y:Ho)->y=.list (aq (iP n))->Z):Z:=
  fI k (fZ (k:=m) (h▸R.1) (h▸HY R.2 (by decide)))<|fr (H0 m.toNat) (p:=λj=>.int (j:HG)) (λ_=>rfl) (λ_ s=>inE s.1 s.2) (Fg n) (n/14,[]) ⟨rfl,rfl⟩
  (λj a g s r e=>fX 5 (show ed (.list (([0,1,0,2,0-1,0,0-6,1000000000000]:Hn HI).map IL)) (.int ((s.1+5*a)%8))=hb (.int (oo ((s.1+5*a)%8)))from agv (Ic _ (by decide)) (H9 _ (by decide)))<|fC 0 (hl r (by have:=(yx g).2;exact DC (h▸R) this (by decide)))<|e (inE (s.1/8) (s.2++[.int (oo ((s.1+5*a)%8))])) ⟨_,ah8 (yx g).1 r,rfl⟩) λs r=>t (.list s.2) (by(refine r.2.symm▸?_;refine Iy.symm▸h▸?_);rfl)
 exact xF λt=>.br (vV n/14%4==1) (λh=>aH 4 (vV n/56%61) (by unfold m6;refine h.symm▸?_;rfl) t) λh=>aH 1 (vV n%14) (by unfold m6;refine h.symm▸?_;rfl) t
def d5(l:Hn HI):HI:=12+cJ l 5%40
def qN(l:Hn HI):Row:=bif cJ l 4/2%3==1 then .go (d5 l+1)else .tell [122,122]
def qC(l:Hn HI):Hn Row:=((H0 (d5 l).toNat).map λ(k:HG)=>Row.fork (k+1))++[.fork (d5 l+2),.fin,qN l]
theorem eF(rs:Hn Row):bZ (rs.map av)=Hq:=by
 induction rs with
 |nil=>exact rfl
 |cons r rs bX=>rw[HS,bZ,fk,bX];rfl
theorem zB(h:B.length+ys.length<=1000)(hf:bZ (B++ys)=Hq):gD .Add ⟨.list B,f⟩ ⟨.list ys,g⟩=hb ⟨.list (B++ys),.d⟩:=by show Jo _ (if B.length+ys.length<=sizeLine then hb (Mw (B++ys))else Hu)=_;rw[H5 (Hs h (by decide))];show hb (V.eE _ _)=_;unfold V.eE;refine hf.symm▸?_;rfl
theorem oi(rs:Hn Row)(f:Fl):V.eE (rs.map av) f=⟨.list (rs.map av),.d⟩:=by unfold V.eE;rw[eF];rfl
theorem aa1(l:Hn HI)(r:Row):(((H0 (d5 l).toNat).map λ(k:HG)=>Row.fork (k+1))++[.fork (d5 l+2),.fin,r]).map av=((H0 (d5 l).toNat).map λ(k:HG)=>av (.fork (k+1)))++[.fork (d5 l+2),.fin,r].map av:=by(refine HJ.trans ?_;rw[Ii]);rfl
theorem aiL(ha:qU c)(l:Hn HI):(gG (PP S0 A0) c b0).F "_law_forks" [.list (aq l)]=hb (.list ((qC l).map av)):=by
 have R:12<=d5 l/\d5 l<=51:=by exact wG _ (by decide) (by decide) (by decide)
 let aH (k:HG) (r:Row) (h:qN l=r) (t:(y:Ho)->y=.list ((qC l).map av)->Z):Z:=fV k (show(if 3<=sizeLine then hb (V.eE ([.fork (d5 l+2),.fin,r].map av) .d)else Hu)=hb ⟨.list ([.fork (d5 l+2),.fin,r].map av),.d⟩ by(refine iT (by decide) ?_;rw[oi]))<|fV 0 (zB (B:=(H0 (d5 l).toNat).map λ(k:HG)=>av (.fork (k+1))) (ys:=[.fork (d5 l+2),.fin,r].map av) (f:=.d) (g:=.d) (by rw[Hr,Iy];exact Im (DM (n:=997) R (by decide)) 3) (aa1 l r▸eF _))<|t (.list (((H0 (d5 l).toNat).map λ(k:HG)=>av (.fork (k+1)))++[.fork (d5 l+2),.fin,r].map av)) (by rw[<-aa1,<-h];rfl);exact xF λt=>fX 0 (ha l 5 (by decide))<|fI 2 (fZ (k:=d5 l) (HY (by decide) R.1) (HY R.2 (by decide)))<|lM (H0 (d5 l).toNat) (p:=λj=>.int (j:HG)) (λ_=>rfl) (λk=>av (.fork (k+1)))<|fX 1 (ha l 4 (by decide))<|.br (cJ l 4/2%3==1) (λh=>aH 5 (.go (d5 l+1)) (by unfold qN;refine h.symm▸?_;rfl) t) λh=>aH 3 (.tell [122,122]) (by unfold qN;refine h.symm▸?_;rfl) t
def dH(l:Hn HI):HI:=20+cJ l 4/2%36
def gW(l:Hn HI)(k:HG):Hn HG:=eK (cJ l 5) k (nU k)
def lA(l:Hn HI):Hn HG:=bif cJ l 4/72%3==1 then gW l (cJ l 4/216%dH l).toNat else gW l (dH l).toNat
def kq(l:Hn HI)(p:Hn HG):Hn Row:=.op p::(H0 (dH l).toNat).map λ(k:HG)=>Row.lay (gW l k) p k
theorem abN(l:Hn HI):20<=dH l/\dH l<=55:=by exact wG _ (by decide) (by decide) (by decide)
theorem aaU(l:Hn HI)(p:Hn HG):(kq l p).map av=[av (.op p)]++(H0 (dH l).toNat).map λ(k:HG)=>av (.lay (gW l k) p k):=by(refine HS.trans ?_;rw[Ii]);rfl
theorem alJ(ha:qU c)(hc:lO c)(l:Hn HI)(p:Hn HG×Hp (Hn HG))(pt:Hn (Hn HG×Hp (Hn HG))):
  (gG (PP S0 A0) c b0).F "_law_many" [.list (aq l),.list ((p::pt).map aF)]=hb (.list ((kq l p.1++[Row.tell (lA l),Row.give p.1]).map av)):=by
 have R:=abN l;have a4:=ha l 4 (by decide);have q:=H9 (cJ l 4/216) (show 0<dH l by exact IJ (by decide) R.1);have at' (i:HI) (h0:0<=i) (h1:i<=dH l):=ahl aB (gW l) (n:=(dH l+1).toNat) (i:=i) h0 (IJ (JT h1) (LO _));have hs {j:HG} (h:j∈H0 (dH l+1).toNat):=adt (j:=j) (by have:=JK.mp h;exact I0 this (JE.mpr (HY (Md R.2 1) (by decide))));have r2:=zB (B:=[av (.op p.1)]) (ys:=(H0 (dH l).toNat).map λ(k:HG)=>av (.lay (gW l k) p.1 k)) (f:=.d) (g:=.d) (by rw[Hr,Iy];exact Ij (DM (n:=999) R (by decide)) 1) (aaU l p.1▸eF _);rw[<-aaU]at r2;have r3 (n:Hn HG):=zB (B:=(kq l p.1).map av) (ys:=[Row.tell n,Row.give p.1].map av) (f:=.d) (g:=.d) (by unfold kq;rw[Hr,Ju,Hr,Iy];show _+2<=1000;exact Im (DM (n:=997) R (by decide)) 3) (by exact HJ▸eF _);let aH (n:Hn HG) (h:lA l=n) (t:(y:Ho)->y=.list ((kq l p.1++[Row.tell (lA l),Row.give p.1]).map av)->Z):Z:=fV 5 (r3 n)<|t (.list ((kq l p.1).map av++[Row.tell n,Row.give p.1].map av)) (by(refine h.symm▸?_;exact HJ.symm▸rfl));exact xF λt=>fX 0 a4<|fX 3 (ha l 5 (by decide))<|fI 1 (fZ (k:=dH l+1) (Mz (HY (by decide) R.1) (by decide)) (Ka R.2 (by decide)))<|vL _ (H0 (dH l+1).toNat) (λj=>.int (j:HG)) (λ_=>rfl) (λj=>hb (aB (gW l j))) (((H0 (dH l+1).toNat).map (gW l)).map aB) ((Kx Je _).trans (by refine Ii.symm▸?_;rfl)) (λj h=>fX 1 (hs h).2.1<|fX 1 (hs h).2.2<|fV 0 (hs h).1<|fX 0 (hc (cJ l 5) j (nU j) (H3 _) (IE rfl) (IE rfl))<|.q _ (Mg (hb (aB (gW l j)))))<|fI 4 (fZ (k:=dH l) (HY (by decide) R.1) (HY R.2 (by decide)))<|vL _ (H0 (dH l).toNat) (λj=>.int (j:HG)) (λ_=>rfl) (λj=>hb (av (.lay (gW l j) p.1 j))) _ (Kx Je _) (λj h=>fX 0 (at' j (H3 _) (by have:=JK.mp h;exact IZ (NU.mp this)))<|.q _ (Mg (hb (av (.lay (gW l j) p.1 j)))))<|fV 0 r2<|fX 0 (at' (dH l) (HY (by decide) R.1) (LH _))<|fX 0 a4<|.br (cJ l 4/72%3==1) (λh=>fX 0 a4<|fV 1 (jd (a:=cJ l 4/216) (b:=dH l) (IJ (by decide) R.1))<|fX 0 (at' (cJ l 4/216%dH l) (Ic _ (Kb (IJ (by decide) R.1))) (IZ q))<|aH (gW l (cJ l 4/216%dH l).toNat) (by unfold lA;refine h.symm▸?_;rfl) t) λh=>aH (gW l (dH l).toNat) (by unfold lA;refine h.symm▸?_;rfl) t
theorem aeg(f:β->α->β)(b:β){B:Hn α}{x:α}(h:B[j]? =hb x):(B.take (j+1)).foldl f b=f ((B.take j).foldl f b) x:=by(refine KD.symm▸h.symm▸List.foldl_append.symm▸?_);rfl
theorem ahW(n:HG):df Hu Hu (hb (-1)) n=(H0 n).map λk=>n-1-k:=by
 delta df Jr
 simp only[LW,show¬((-1:HI)>0) by decide,K8];unfold ON;simp only[show¬((-1:HI)>0) by decide,K8];obtain e:(if(n:HI)-1> -1 then((n:HI)-1- -1- -1-1)/(- -1)else 0).toNat=n:=by
  split
  ·rw[show(- -1:HI)=1 by decide,OQ];rw[O5,O5,PD,Mu];rfl
  ·exact(n0 ‹_›).symm
 refine e.symm▸J0 λk hk=>?_;have:=JK.mp hk;exact apR _ _
theorem afX{f g:α->Hp β}{B:Hn α}:(∀x∈B,f x=g x)->B.filterMap f=B.filterMap g:=by
 induction B with
 |nil=>intro _;exact rfl
 |cons x B bX=>intro h;(exact I1.symm▸I1.symm▸(h x (.head _)).symm▸(bX λy hy=>h y (.tail _ hy)).symm▸rfl)
theorem ahb(B:Hn α):((H0 B.length).map λk=>B.length-1-k).filterMap (B[·]?)=B.reverse:=by
 refine Pq.symm▸?_;have:∀k∈H0 B.length,((λx=>B[x]?)∘λk=>B.length-1-k) k=B.reverse[k]? :=by intro k hk;have:=JK.mp hk;refine(List.getElem?_reverse this).symm▸?_;rfl
 refine(afX this).symm▸?_;obtain h2:=pick_run B.reverse 0 B.length (by simp);obtain h3:(H0 B.length).map (λk=>0+k)=H0 B.length:=by simp
 rw[h3]at h2;exact h2.trans (Oi.trans ((Kl (by simp))))
theorem wc{l:Hn Ho}(h:bZ l.reverse=Hq):vJ Hu Hu (hb (-1)) ⟨.list l,f⟩=hb ⟨.list l.reverse,.d⟩:=by show eZ Hu Hu (hb (-1)) ⟨.list l,f⟩=_;show Jo _ (if(hb (-1):Hp HI)=hb 0 then Hu else hb (Mw ((df Hu Hu (hb (-1)) l.length).filterMap (l[·]?))))=_;rw[Ir (by decide),ahW,ahb];show hb (V.eE l.reverse f)=_;unfold V.eE;refine h.symm▸?_;rfl
theorem fA{p:α->Ho}(h:∀a,flat (p a)=Hq)(B:Hn α):bZ (B.map p)=Hq:=by rw[aeB];intro x hx;refine aQ (HX.mp hx) λa o1 o2=>?_;subst o2;exact h a
theorem ajx(a b:Hn HG):(S a==S b)=decide (a=b):=by(rw[N7];refine KA.trans ?_;rw[Ik]);exact apG
variable{n:Hn HG}
theorem ana:bV .Eq (aB n) (ke o)=hb (decide (hb n=o)):=by
 cases o with
 |none=>rfl
 |some x=>show hb (S n==S x)=_;rw[ajx];simp
noncomputable def r8(s:Hn (Hn HG)×Hp (Hn HG))(p:Hn HG×Hp (Hn HG)):Hn (Hn HG)×Hp (Hn HG):=bif decide (hb p.1=s.2)then(s.1++[p.1],p.2)else s
theorem aaX:∀(B:aP)(fs:Hn (Hn HG))(cur:Hp (Hn HG)),(B.foldl r8 (fs,cur)).1=fs++scan B cur:=by
 intro B;induction B with
 |nil=>exactλfs cur=>(IA fs).symm
 |cons x B ih=>
  intro fs cur;rw[gY];show(List.foldl r8 (bif decide (hb x.1=(fs,cur).2)then((fs,cur).1++[x.1],x.2)else(fs,cur)) B).1=_;by_cases e:hb x.1=cur
  ·refine(Ip (show hb x.1=(fs,cur).2 from e)).symm▸?_;rw[H5 e,Ku,ih,I6];rfl
  ·refine(Iw (show¬hb x.1=(fs,cur).2 from e)).symm▸?_;(rw[Ir e];dsimp only[Kg];rw[ih])
theorem afN(fs:Hn (Hn HG)×Hp (Hn HG)):∀B:aP,(B.foldl r8 fs).1.length<=fs.1.length+B.length:=by intro B;obtain⟨fs,cur⟩:=fs;rw[aaX,HN];exact Ij (scan_len B cur) _
def Er(fs:Hn Ho)(o:Hp (Hn HG)):En:=[("_law_found",.own (.lst fs)),("_law_plot",D (ke o))]
def Ef(ps:aP)(n:Hn HG)(j:HG)(s:Hn (Hn HG)×Hp (Hn HG)):Prop:=s=(ps.take j).foldl r8 ([],hb n)
section
variable{p:Hn HG×Hp (Hn HG)}{s:Hn (Hn HG)×Hp (Hn HG)}(gN:ps[j]? =hb p)(dF:Ef ps n j s)
include gN dF
theorem adM:Ef ps n (j+1) (r8 s p):=by unfold Ef at dF⊢;(exact(aeg r8 ([],hb n) gN).symm▸dF.symm▸rfl)
theorem alb(hl:ps.length<=900):(s.1.map aB).length<10000:=by rw[Hr,dF];exact HC (Hs (afN ([],hb n) (ps.take j)) (Hs (JY (QY _)) (kC hl))) (by decide)
def zOu(hl:ps.length<=900)(e:(l:En)->(∃y,Ef ps n (j+1) y/\Er (y.1.map aB) y.2=l)->Z):Z:=
 bB 0 (ana (n:=p.1) (o:=s.2)) (λh=>fC 0 (alb gN dF hl)<|e (Er (s.1.map aB++[aB p.1]) p.2) ⟨r8 s p,adM gN dF,by unfold r8;(refine h.symm▸?_;dsimp only[Ku]);show Er (List.map aB (s.1++[p.1])) p.2=_;refine HJ.symm▸?_;rfl⟩) λh=>e (Er (s.1.map aB) s.2) ⟨r8 s p,adM gN dF,by unfold r8;refine h.symm▸?_;rfl⟩
end
theorem aaF(ps:aP)(hl:ps.length<=900)(n:Hn HG):(gG (PP S0 A0) c b0).F "_law_outward" [.list (ps.map aF),aB n]=hb (.list ((up ps n).map aB)):=by
 have fl:bZ (ps.reverse.map aF)=Hq:=fA cZ _;have hr:ps.reverse.length<=900:=by exact JG.symm▸hl
 exact xF λt=>fV 0 (show vJ Hu Hu (hb (-1)) ⟨.list (ps.map aF),.s⟩=hb ⟨.list (ps.reverse.map aF),.d⟩ by rw[Kn]at fl⊢;exact wc fl)<|fr ps.reverse cZ (λ_ s=>Er (s.1.map aB) s.2) (Ef ps.reverse n) ([],hb n) rfl (λj p h s r e=>zOu h r hr e) λs r=>t (.list (s.1.map aB)) (by(refine r.symm▸?_;(refine JD.symm▸?_;rw[aaX]));rfl)
def B7(p:Hn HG×Hp (Hn HG)):HP×Ho:=(S p.1,ke p.2)
theorem alp:ps.lookup n=hb o->ed (dictOf (ps.map B7)) (.str (S n))=hb (ke o):=by
 induction ps with
 |nil=>intro h;exact no h
 |cons p ps bX=>
  intro h;rw[HK]at h;show atKey (S n) ((.str (S p.1),ke p.2)::(ps.map B7).map λp=>(.str p.1,p.2))=_;dsimp only[atKey];by_cases e:n=p.1
  ·subst e;rw[Ih]at h;exact(H5 rfl).symm▸(H4 h)▸rfl
  ·rw[HO.mpr e]at h;exact(Ir λq=>e (jt q).symm).symm▸bX h
theorem aaD{l:Hn α}(h:l.Nodup){i:HG}{a:α}(hi:l[i]? =hb a):a∉l.take i:=by
 intro R;refine dA (Nf R) λj hj=>?_;have hj':j<i:=by have:=(H2.mp hj).1;rw[J9]at this;exact I0 this (Mm _ _)
 rw[List.getElem?_take,H5 hj']at hj;have:=(PE (H2.mp hj).1 h).mp (hj.trans hi.symm);exact IG this (Jq hj')
def mJ(ps:aP):Hn (Ho×Ho):=(ps.map B7).map λp=>(.str p.1,p.2)
theorem aiO:n∉ps.map (·.1)->dz (S n) (mJ ps)=HH:=by
 induction ps with
 |nil=>intro _;exact rfl
 |cons p ps bX=>intro h;rw[HS,Hw,LR]at h;show(decide (S p.1=S n)||dz (S n) (mJ ps))=_;refine(bX h.2).symm▸(Iw λe=>h.1 (jt e).symm).symm▸?_;rfl
theorem aiv{p:Hn HG×Hp (Hn HG)}(h:p.1∉ps.map (·.1)):lg (S p.1) (ke p.2) (mJ ps)=mJ (ps++[p]):=by unfold lg;refine(aiO h).symm▸?_;unfold mJ;(refine HJ.symm▸HJ.symm▸?_);rfl
theorem adb(ps:aP):dQ (mJ ps)=Hq:=gj _ _ _
theorem agG(o:Hp (Hn HG)):bV .IsNot (ke o) .none=hb o.isSome:=by cases o<;>rfl
theorem abB(o:Hp (Hn HG)):flat (ke o)=Hq:=by cases o<;>rfl
def Ga(n:Hn HG)(d:Hn (Ho×Ho)):En:=[("outer",.own (.tree Hu (.dict d))),("plot",D (aB n))]
def owE(d:Hn (Ho×Ho))(o:Hp (Hn HG))(fs:Hn Ho):En:=[("outer",.own (.tree Hu (.dict d))),("plot",D (ke o)),("found",.own (.lst fs))]
theorem ai6(H:aZ ps){p:Hn HG×Hp (Hn HG)}(hp:ps[j]? =hb p):lg (S p.1) (ke p.2) (mJ (ps.take j))=mJ (ps.take (j+1)):=by(refine(aiv (ps:=ps.take j) (p:=p) (by exact Lw.symm▸aaD H.nd (by(refine Iz.trans ?_;rw[hp]);rfl))).trans ?_;(refine KD.symm▸hp.symm▸?_));rfl
theorem aiQ(H:aZ ps)(j:HG):(mJ (ps.take j)).length<10000:=by unfold mJ;rw[Hr,Hr];exact HC (kC H.len) (by decide)
abbrev F9:=Hn (Ho×Ho)×Hp (Hn HG)×Hn Ho×HG
def Gp(ps:aP)(u:Hn (Hn HG))(x:F9):Prop:=x.1=mJ ps/\x.2.1=u[x.2.2.2]? /\x.2.2.1=(u.take x.2.2.2).map aB
section
variable{u:Hn (Hn HG)}{x:F9}(dF:Gp ps u x)
include dF
theorem aiA(h:x.2.1.isSome=Hq):Gp ps u (x.1,u[x.2.2.2+1]?,x.2.2.1++[ke x.2.1],x.2.2.2+1):=by obtain⟨h1,h2,h3⟩:=dF;refine⟨h1,rfl,?_⟩;obtain⟨z,hz⟩:=IV.mp h;(refine h3.symm▸KD.symm▸h2▸hz.symm▸HJ.symm▸?_);rfl
theorem aop(Et:zN ps u)(h:x.2.1.isSome=Hq):ed (.dict x.1) (ke x.2.1)=hb (ke u[x.2.2.2+1]?):=by obtain⟨z,hz⟩:=IV.mp h;rw[hz,dF.1];exact alp (Et _ z (dF.2.1▸hz))
theorem aog(h:x.2.1.isSome=Hq):x.2.2.2<u.length:=by obtain⟨z,hz⟩:=IV.mp h;exact(H2.mp (dF.2.1▸hz)).1
theorem alP(h:u.length<=12):x.2.2.1.length<10000:=by rw[dF.2.2,Hr];exact HC (kC h) (by decide)
theorem amI(h:x.2.1.isSome=HH):x.2.2.1=u.map aB:=by
 rw[dF.2.2,Kl];cases e:x.2.1 with
 |none=>exact MD.mp (dF.2.1▸e)
 |some z=>rw[e]at h;cases h
end
def zOw{u:Hn (Hn HG)}{d:Hn (Ho×Ho)}(hd:d=mJ ps)(Et:zN ps u)(p6:u.length<=12)(h0:u[0]? =hb n)(t:(y:Ho)->y=.list (u.map aB)->Z):Z:=
 wh (λx:F9=>owE x.1 x.2.1 x.2.2.1) (Gp ps u) (λx=>u.length-x.2.2.2) (d,hb n,[],0) ⟨hd,h0.symm,rfl⟩ (HC (Hs (M1 _ _) p6) (by decide)) λx r e=>bB 0 (agG x.2.1) (λh=>fC 0 (alP r p6)<|fX 0 (aop r Et h)<|fL (abB u[x.2.2.2+1]?)<|e (owE x.1 u[x.2.2.2+1]? (x.2.2.1++[ke x.2.1])) ⟨_,aiA r h,Nat.sub_succ_lt_self _ _ (aog r h),rfl⟩) λh=>t (.list x.2.2.1) (HL _ (amI r h))
theorem aeV(H:aZ ps)(hn:n∈ps.map (·.1)):(gG (PP S0 A0) c b0).F "outward" [.list (ps.map aF),aB n]=hb (.list ((up ps n).map aB)):=by obtain⟨Et,h0⟩:=ahf H _ (Io _) hn;exact xF λt=>fr ps cZ (λ_ (s:HG)=>Ga n (mJ (ps.take s))) (λj s=>s=j) 0 rfl (λj p h s r e=>fC 1 (adb (ps.take s))<|fC 1 (abB p.2)<|fC 0 (aiQ H s)<|e (Ga n (lg (S p.1) (ke p.2) (mJ (ps.take s)))) ⟨s+1,HL (·+1) r,HL (Ga n) (ai6 H (r▸h)).symm⟩) λs r=>zOw (d:=mJ (ps.take s)) (by(refine(show s=ps.length from r).symm▸?_;exact JD.symm▸rfl)) Et (vt H n) h0 t
noncomputable abbrev dr(x:I2):Ho:=.str (HA x)
def dm(p:Hn HG×HI):Ho:=.tuple [aB p.1,.int p.2]
noncomputable def xO(p:HI×HI):Ho:=.list [.int p.1,.int p.2]
def Ci(p:Hn HG×HI):HP×Ho:=(S p.1,.int p.2)
abbrev l9(h:Hn (Hn HG×HI)):Hn (Ho×Ho):=(h.map Ci).map λp=>(.str p.1,p.2)
abbrev ey(h:Hn (Hn HG×HI)):Ho:=.dict (l9 h)
def fG(st:eP):Ho:=dictOf [("open",.list (st.bG.map dm)),("held",ey st.held),("worth",.list (st.aC.map xO)),("told",.list (aq st.told)),("given",.list (aq st.given)),("many",.int st.many)]
theorem qY(n:Hn HG)(h:Hn (Hn HG×HI)):ed (ey h) (aB n)=(h.lookup n).map .int:=by
 induction h with
 |nil=>exact rfl
 |cons p h bX=>
  rw[HK];by_cases e:n=p.1
  ·subst e;refine iT rfl ?_;rw[Ih];rfl
  ·refine iF (λq=>e (jt q).symm) ((HO.mpr e).symm▸?_);exact bX
theorem tM(n:Hn HG)(h:Hn (Hn HG×HI)):dz (S n) (l9 h)=(h.lookup n).isSome:=by
 induction h with
 |nil=>exact rfl
 |cons p h bX=>
  show(decide (S p.1=S n)||dz (S n) (l9 h))=_;refine bX.symm▸?_;rw[HK];by_cases e:n=p.1
  ·subst e;rw[Ip rfl,Ih];rfl
  ·refine(Iw λq=>e (jt q).symm).symm▸(HO.mpr e).symm▸?_;rfl
theorem og(n:Hn HG)(h:Hn (Hn HG×HI)):bV .In (aB n) (ey h)=hb (h.lookup n).isSome:=by show FN (S n) (l9 h)=_;rw[adO (λp:HP×Ho=>p.1) (λp=>p.2),tM]
theorem iO(n:Hn HG)(h:Hn (Hn HG×HI)):bV .NotIn (aB n) (ey h)=hb (!(h.lookup n).isSome):=by show(bV .In (aB n) (ey h)).map _=_;rw[og];rfl
theorem ahD{f:α->Ho}(hf:∀a,plain k (f a))(B:Hn α):xP (B.map f)=Hq:=(tx _).mpr λx hx=>by
 refine aQ (HX.mp hx) λa o1 o2=>?_;subst o2;exact(hf a).1
theorem qI{p:α->Ho}(hp:∀a,plain k (p a))(hk:k<=60)(he:∀a b,IX (p b) (p a)=Hq↔a=b)(a:α)(l:Hn α)[La (a∈l)]:bV .In (p a) (.list (l.map p))=hb (decide (a∈l)):=by
 obtain h:(nd (p a)&&xP (l.map p)&&decide (min (Mb (l.map p)) (p a).depth<=60))=Hq:=by(refine((hp a).1).symm▸(ahD hp l).symm▸?_);exact Ip (Hs (I7 _ _) (Hs (hp a).2 hk))
 refine iT h ?_;congr 1;rw[N7];refine NY.trans ?_;rw[decide_eq_true_iff];refine⟨λ⟨x,hx,e⟩=>?_,λh=>⟨p a,HX.mpr ⟨a,h,rfl⟩,(he a a).mpr rfl⟩⟩;refine aQ (HX.mp hx) λb U o1=>?_;subst o1;exact((he a b).mp e).symm▸U
theorem aaq{p:α->Ho}(hp:∀a,plain k (p a))(hk:k<=60)(he:∀a b,IX (p b) (p a)=Hq↔a=b)(a:α)(l:Hn α)[La (a∈l)]:bV .NotIn (p a) (.list (l.map p))=hb (!decide (a∈l)):=by show(bV .In (p a) (.list (l.map p))).map _=_;rw[qI hp hk he];rfl
theorem qG(a b:Hn HG):IX (aB b) (aB a)=Hq↔a=b:=by(rw[aB,aB,IX];refine KA.trans ?_);exact⟨λh=>(jt h).symm,λh=>h▸rfl⟩
theorem ad2(a b:HI):IX (.int b) (.int a)=Hq↔a=b:=by(rw[IX];refine KA.trans ?_);exact⟨PV,PV⟩
theorem mM(n:Hn HG):plain 1 (aB n):=bT _
theorem kJ(p:Hn HG)(l:Hn (Hn HG)):bV .In (aB p) (.list (l.map aB))=hb (decide (p∈l)):=qI mM (by decide) qG p l
theorem ji(p:Hn HG)(l:Hn (Hn HG)):bV .NotIn (aB p) (.list (l.map aB))=hb (!decide (p∈l)):=aaq mM (by decide) qG p l
theorem ad1(i:HI)(l:Hn HI):bV .In (.int i) (.list (aq l))=hb (decide (i∈l)):=qI (p:=IL) (λ_=>eT _) (by decide) ad2 i l
theorem nJ{p:α->Ho}{l:Hn α}{a:α}(h0:0<=i)(h:l[i.toNat]? =hb a):ed (.list (l.map p)) (.int i)=hb (p a):=by show e7 _ i=_;(refine(eR h0).symm▸Iz.symm▸?_;refine h.symm▸?_);rfl
theorem aaW(h0:0<=i)(h:i.toNat<st.aC.length):st.aC[i.toNat]? =hb (de st i,eH st i):=by dsimp only[de,eH];refine(HQ h).symm▸?_;rfl
theorem dS.get(h:dS st n):ed (ey st.held) (aB n)=hb (.int (bg st n))/\ed (.list (st.aC.map xO)) (.int (bg st n))=hb (xO (de st (bg st n),eH st (bg st n))):=by
 refine ew (nI h) λh2 h3=>aQ h λi h1 o1=>⟨?_,nJ h2 (aaW h2 h3)⟩;obtain e:bg st n=i:=by unfold bg;refine h1.symm▸?_;rfl
 rw[qY,h1,e];rfl
theorem fw(q:Hn HG×HI):flat (dm q)=Hq:=rfl
theorem adH(o:Hn (Hn HG×HI)):(o.map λp=>aB p.1)=(o.map (·.1)).map aB:=by refine Ii.symm▸?_;rfl
theorem aci(o:Hn (Hn HG×HI)):(o.map λp=>IL p.2)=aq (o.map (·.2)):=by refine Ii.symm▸?_;rfl
theorem uM{b:Ig}(h:(!b)=Hq):b=HH:=by cases b with|false=>rfl|true=>cases h
theorem mE{b:Ig}(h:(!b)=HH):b=Hq:=by cases b with|true=>rfl|false=>cases h
theorem akD(st:eP)(n:Hn HG)(hh:eX st n):(gG (PP S0 A0) c b0).F "_law_lack" [fG st,aB n]=hb (dr (d0 st n)):=by
 cases e:st.held.lookup n with
 |none=>exact xS λr=>fB 1 ((iO n st.held).trans (by refine e.symm▸?_;rfl):_=hb Hq)<|r "nothing" (by unfold d0;exact e▸rfl)
 |some i=>
  have hi:dS st n:=⟨i,e,hh i e⟩;have hl:d0 st n=bif decide (eH st (bg st n)∈st.bG.map (·.2))then""else"gone":=by delta d0 bg;refine e.symm▸?_;rfl
  exact xS λr=>fB 1 ((iO n st.held).trans (by refine e.symm▸?_;rfl):_=hb HH)<|fX 2 hi.get.1<|fX 0 hi.get.2<|lN fw (aci st.bG)<|bB 0 (ad1 (eH st (bg st n)) _) (λh=>r "" (by(refine hl.trans ?_;refine h.symm▸?_);rfl)) λh=>r "gone" (by(refine hl.trans ?_;refine h.symm▸?_);rfl)
def w9(c:JC):Prop:=∀(ps:aP)(n:Hn HG),ps.length<=900->c.F "_law_outward" [.list (ps.map aF),aB n]=hb (.list ((up ps n).map aB))
def afh(c:JC):Prop:=∀(st:eP)(n:Hn HG),eX st n->c.F "_law_lack" [fG st,aB n]=hb (dr (d0 st n))
theorem fe(st:eP)(n:Hn HG):d0 st n="nothing"∨d0 st n="gone"∨d0 st n="":=by
 unfold d0;cases st.held.lookup n with
 |none=>exact .inl rfl
 |some i=>
  cases e:decide (eH st i∈st.bG.map (·.2))with
  |true=>exact .inr (.inr (by simp[e]))
  |false=>exact .inr (.inl (by simp[e]))
abbrev zU(st:eP)(z:Z):Z:=lN fw (adH st.bG) z
theorem amK(l:Hn (Hn HG)):bV .NotEq (.list (l.map aB)) (.list [])=hb (!l.isEmpty):=by
 cases l with
 |nil=>rfl
 |cons x l=>(refine(AN (b7 (cV λy hy=>by refine aQ (HX.mp hy) λa o1 o2=>?_;subst o2;exact bT _) (by decide)) (b7 (cV (k:=1) λy hy=>(Ia hy).elim) (by decide))).trans ?_;dsimp only[HS,IX,KE]);rfl
theorem aiM(ho:w9 c)(hk:afh c)(ps:aP)(hl:ps.length<=900)(st:eP)(hh:∀n,eX st n)(r:Row):(gG (PP S0 A0) c b0).F "_law_wrong" [.list (ps.map aF),fG st,av r]=hb (dr (aR ps st r)):=by
 have lk:=λn=>hk st n (hh n);cases r with
 |op p=>
  have ho:=ho ps p hl;have w:aR ps st (.op p)=bif decide (p∈dg st)then"open already"else match(up ps p)[1]?with
   |some q=>bif decide (q∈dg st)then""else"not open"
   |none=>"":=rfl
  revert ho w;rcases up ps p with _|⟨a,_|⟨q,t⟩⟩<;>intro ho w
  ·exact xS λr=>zU st<|bB 2 (kJ p (dg st)) (λh=>r "open already" (by(refine w.trans ?_;refine h.symm▸?_);rfl)) λh=>fX 1 ho<|r "" (by(refine w.trans ?_;refine h.symm▸?_);rfl)
  ·exact xS λr=>zU st<|bB 2 (kJ p (dg st)) (λh=>r "open already" (by(refine w.trans ?_;refine h.symm▸?_);rfl)) λh=>fX 1 ho<|r "" (by(refine w.trans ?_;refine h.symm▸?_);rfl)
  ·have h1:bV .Gt (.int (((t.map aB).length+1+1:HG):HI)) (.int 1)=hb Hq:=HL hb (Ip (Int.compare_eq_gt.mp rfl));exact xS λr=>zU st<|bB 2 (kJ p (dg st)) (λh=>r "open already" (by(refine w.trans ?_;refine h.symm▸?_);rfl)) λh=>fX 1 ho<|fB 2 h1<|bB 1 (ji q (dg st)) (λh2=>r "not open" (by(refine w.trans ?_;refine h.symm▸?_);exact HL (λb=>bif b then""else"not open") (uM h2))) λh2=>r "" (by(refine w.trans ?_;refine h.symm▸?_);exact HL (λb=>bif b then""else"not open") (mE h2))
 |lay n p i=>exact xS λr=>zU st<|bB 10 (ji p (dg st)) (λh=>r "not open" (by rw[vy,uM h];rfl)) λh=>r "" (by rw[vy,mE h];rfl)
 |give p=>exact xS λr=>zU st<|bB 10 (ji p (dg st)) (λh=>r "not open" (by rw[tF,uM h];rfl)) λh=>r "" (by rw[tF,mE h];rfl)
 |same n o=>exact xS λr=>zU st<|bB 5 (iO o st.held) (λh=>r "nothing" (by rw[tn,uM h];rfl)) λh=>r "" (by rw[tn,mE h];rfl)
 |tell n=>
  have w:=lk n;rcases fe st n with e|e|e<;>rw[e]at w
  ·exact xS λr=>zU st<|fX 7 w<|fX 2 w<|r _ e
  ·exact xS λr=>zU st<|fX 7 w<|fX 2 w<|r _ e
  ·exact xS λr=>zU st<|fX 7 w<|r _ e
 |add n o=>
  have w:=lk n;have w':=lk o;rcases fe st n with e|e|e<;>rw[e]at w
  ·exact xS λr=>zU st<|fX 7 w<|fX 2 w<|r "nothing" (by rw[lR,e];rfl)
  ·exact xS λr=>zU st<|fX 7 w<|fX 2 w<|r "gone" (by rw[lR,e];rfl)
  ·rcases fe st o with e'|e'|e'<;>rw[e']at w'
   ·exact xS λr=>zU st<|fX 7 w<|fX 2 w'<|fX 2 w'<|r "nothing" (by rw[lR,e,e'];rfl)
   ·exact xS λr=>zU st<|fX 7 w<|fX 2 w'<|fX 2 w'<|r "gone" (by rw[lR,e,e'];rfl)
   ·exact xS λr=>zU st<|fX 7 w<|fX 2 w'<|r "" (by rw[lR,e,e'];rfl)
 |copy n o p=>
  have w:=lk o;rcases fe st o with e|e|e<;>rw[e]at w
  ·exact xS λr=>zU st<|fX 7 w<|fX 2 w<|r "nothing" (by rw[ky,e];rfl)
  ·exact xS λr=>zU st<|fX 7 w<|fX 2 w<|r "gone" (by rw[ky,e];rfl)
  ·exact xS λr=>zU st<|fX 7 w<|bB 6 (ji p (dg st)) (λh=>r "not open" (by rw[ky,e,uM h];rfl)) λh=>r "" (by rw[ky,e,mE h];rfl)
 |fork k=>exact xS λr=>zU st<|r _ rfl
 |go k=>exact xS λr=>zU st<|r _ rfl
 |fin=>
  have DR:st.bG.isEmpty=(dg st).isEmpty:=by unfold dg;cases st.bG<;>rfl
  exact xS λr=>zU st<|bB 11 (amK (dg st)) (λh=>r "left" (by rw[vF,DR,uM h];rfl)) λh=>r "" (by rw[vF,DR,mE h];rfl)
theorem ai2:(gG (PP S0 A0) c b0).T "_law_fresh"=hb (fG vz):=by kernel_rfl
def apz(o h w t g:Ho)(m:HI):Ho:=dictOf [("open",o),("held",h),("worth",w),("told",t),("given",g),("many",.int m)]
theorem agD(n:Hn HG)(i:HI)(h:Hn (Hn HG×HI)):ll (S n) (.int i) (l9 h)=l9 (tJ n i h):=by
 induction h with
 |nil=>exact rfl
 |cons p h bX=>
  show(if S p.1=S n then(JF (S p.1),IL i)::l9 h else(.str (S p.1),.int p.2)::ll (S n) (.int i) (l9 h))=l9 (if p.1=n then(p.1,i)::h else p::tJ n i h);by_cases e:p.1=n
  ·refine iT (HL _ e)<|(H5 e).symm▸?_;rfl
  ·refine iF (λq=>e (jt q)) ?_;(refine(Ir e).symm▸bX.symm▸?_);rfl
theorem abW(n:Hn HG)(i:HI)(h:Hn (Hn HG×HI)):lg (S n) (.int i) (l9 h)=l9 (mn h n i):=by
 dsimp only[lg,mn];rw[tM];cases(h.lookup n).isSome with
 |true=>(refine iT rfl<|(H5 rfl).symm▸?_);exact agD n i h
 |false=>(refine iF ID ?_;rw[Ir ID]);unfold l9;(refine HJ.symm▸HJ.symm▸?_);rfl
theorem adP(h:Hn (Hn HG×HI)):(l9 h).length=h.length:=by rw[Hr,Hr]
theorem agw(f:Hn HG×HI->Ig)(o:Hn (Hn HG×HI)):o.filterMap (λq=>bif f q then hb (dm q)else Hu)=(o.filter f).map dm:=by
 induction o with
 |nil=>exact rfl
 |cons q o bX=>(refine I1.symm▸JN.symm▸bX.symm▸?_);cases f q<;>rfl
theorem afx(p:Hn HG)(o:Hn (Hn HG×HI)):o.filterMap (λq=>bif decide (q.1=p)then hb (IL q.2)else Hu)=aq ((o.filter λq=>decide (q.1=p)).map (·.2)):=by
 induction o with
 |nil=>exact rfl
 |cons q o bX=>(refine I1.symm▸JN.symm▸bX.symm▸?_);cases decide (q.1=p)<;>rfl
theorem agf(h:p∈dg st):ed (.list (st.bG.filterMap λq=>bif decide (q.1=p)then hb (IL q.2)else Hu)) (.int 0)=hb (.int (jf st p)):=by
 rw[afx];refine aQ (HX.mp h) λq hq e=>?_;have R:q∈st.bG.filter λq=>decide (q.1=p):=KB.mpr ⟨hq,by simpa using e⟩;unfold jf;cases hl:(st.bG.filter λq=>decide (q.1=p))with
 |nil=>rw[hl]at R;cases R
 |cons z zs=>rfl
theorem aff(a b:Hn HG×HI):IX (dm b) (dm a)=Hq↔a=b:=by unfold dm;rw[IX,KE,KE,KE,QA,HU,qG,ad2];exact⟨λh=>MN h.1 h.2,λh=>by exact h.symm▸⟨rfl,rfl⟩⟩
theorem aaw(p:Hn HG×HI):plain 2 (dm p):=hY λx hx=>by
 exact Cb x hx (bT _) (eT _)
structure uC(st:eP):Prop where
 bG:st.bG.length<9000
 held:st.held.length<9000
 aC:st.aC.length<9000
 told:st.told.length<9000
 gv:st.given.length+st.bG.length<9000
theorem rH{p:α->Ho}{l:Hn α}(h:l.length<9000):(l.map p).length<10000:=by rw[Hr];exact I0 h (by decide)
abbrev x7(o:Hn Ho)(h:Hn (Ho×Ho))(w t g:Hn Ho)(m:HI):Ho:=apz (.list o) (.dict h) (.list w) (.list t) (.list g) m
abbrev zH(h:p∈dg st)(z:Z):Z:=vL _ st.bG dm fw (λq=>bif decide (q.1=p)then hb (IL q.2)else Hu) _ rfl (λq _=>bB 0 (HL hb (ajx q.1 p)) (λh=>.q _ (by refine h.symm▸?_;rfl:hb (IL q.2)=bif decide (q.1=p)then hb (IL q.2)else Hu)) λh=>.q _ (by refine h.symm▸?_;rfl:Hu=bif decide (q.1=p)then hb (IL q.2)else Hu)) (fX 0 (agf h) z)
abbrev zF(o:Hn (Hn HG×HI))(g:Hn HG×HI->Ig)(b:(q:Hn HG×HI)->q∈o->(g q=Hq->Z)×(g q=HH->Z)->Z)(z:Z):Z:=vL _ o dm fw (λq=>bif g q then hb (dm q)else Hu) _ (agw g o) (λq h=>b q h (λe=>.q _ (by refine e.symm▸?_;rfl:hb (dm q)=bif g q then hb (dm q)else Hu),λe=>.q _ (by refine e.symm▸?_;rfl:Hu=bif g q then hb (dm q)else Hu))) z
theorem af7(a b:Hn HI):aq a++(aq b).reverse=aq (a++b.reverse):=by unfold aq;(exact HJ.symm▸Kn.symm▸rfl)
theorem ajE(st:eP)(n:Hn HG)(i j:HI):x7 (st.bG.map dm) (lg (S n) (.int ((st.aC.map xO).length:HG)) (l9 st.held)) (st.aC.map xO++[xO (i,j)]) (aq st.told) (aq st.given) st.many=fG {st with held:=mn st.held n st.aC.length,aC:=st.aC++[(i,j)]}:=by rw[abW,Hr];unfold fG;refine HJ.symm▸?_;rfl
theorem alT(ho:w9 c)(ps:aP)(hl:ps.length<=900)(st:eP)(aH:uC st)(r:Row)(hn:wU st r):(gG (PP S0 A0) c b0).M "_law_deed" [.list (ps.map aF),fG st,av r]=hb (fG (d7 ps st r)):=by
 have hk:(l9 st.held).length<10000:=by rw[adP];exact I0 aH.held (by decide)
 have pk:dQ (l9 st.held)=Hq:=gj _ _ _;cases r with
 |op p=>exact xM (d:=fG st) λ_ r=>fC 5 (rH (p:=dm) aH.bG)<|r _ (HL (λl=>x7 l (l9 st.held) (st.aC.map xO) (aq st.told) (aq st.given) (st.many+1)) (HJ (l₂:=[(p,st.many)])).symm)
 |lay n p i=>exact xM (d:=fG st) λ_ r=>zH hn<|fC 2 pk<|fC 2 hk<|fC 0 (rH (p:=xO) aH.aC)<|r _ (ajE st n _ _)
 |copy n o p=>exact xM (d:=fG st) λ_ r=>fX 11 hn.1.get.1<|fX 0 hn.1.get.2<|zH hn.2<|fC 2 pk<|fC 2 hk<|fC 0 (rH (p:=xO) aH.aC)<|r _ (ajE st n _ _)
 |same n o=>exact xM (d:=fG st) λ_ r=>fX 8 (dS.get hn).1<|fC 0 pk<|fC 2 hk<|r _ (HL (λh=>x7 (st.bG.map dm) h (st.aC.map xO) (aq st.told) (aq st.given) st.many) (abW n _ st.held))
 |add n o=>exact xM (d:=fG st) λ_ r=>fX 10 hn.2.get.1<|fX 0 hn.2.get.2<|fX 3 hn.1.get.1<|fX 0 hn.1.get.2<|fC 0 (nI hn.1).1<|r _ (HL (λw=>x7 (st.bG.map dm) (l9 st.held) w (aq st.told) (aq st.given) st.many) (NI (f:=xO) (l:=st.aC) (i:=(bg st n).toNat) (a:=(de st (bg st n)+de st (bg st o),eH st (bg st n)))).symm)
 |tell n=>exact xM (d:=fG st) λ_ r=>fX 11 (dS.get hn).1<|fX 0 (dS.get hn).2<|fC 1 (rH (p:=.int) aH.told)<|r _ (HL (λt=>x7 (st.bG.map dm) (l9 st.held) (st.aC.map xO) t (aq st.given) st.many) (HJ (f:=IL) (l₁:=st.told) (l₂:=[de st (bg st n)])).symm)
 |give p=>
  have hg:∀q∈st.bG,bV .NotIn (dm q) (.list ((st.bG.filter (dC ps p)).map dm))=hb (!dC ps p q):=λq hq=>by
   rw[show dC ps p q=decide (q∈(st.bG.filter (dC ps p))) by
    cases e:dC ps p q with
    |true=>exact(Ip (KB.mpr ⟨hq,e⟩)).symm
    |false=>exact(Iw λh=>nomatch((KB.mp h).2).symm.trans e).symm]
   exact aaq aaw (by decide) aff q _
  have hr:bZ (aq ((st.bG.filter (dC ps p)).map (·.2))).reverse=Hq:=by exact Kn▸fA (λ_=>rfl) _
  have hn:(aq st.given).length+(aq ((st.bG.filter (dC ps p)).map (·.2))).reverse.length<10000:=by unfold aq;rw[Hr,JG,Hr,Hr];exact I0 (HC (Ij (KY _ _) _) aH.gv) (by decide)
  exact xM (d:=fG st) λ_ r=>zF st.bG (dC ps p) (λq _ kR=>fX 2 (ho ps q.1 hl)<|bB 0 (kJ p (up ps q.1)) kR.1 kR.2)<|lN fw (aci (st.bG.filter (dC ps p)))<|fV 0 (wc (f:=.d) hr)<|fC 0 hr<|fC 0 hn<|
   zF st.bG (λq=> !dC ps p q) (λq hq kR=>bB 0 (hg q hq) kR.1 kR.2)<|fC 1 (fA fw (st.bG.filter λq=> !dC ps p q))<|r _ (HL (λg=>x7 ((st.bG.filter λq=> !dC ps p q).map dm) (l9 st.held) (st.aC.map xO) (aq st.told) g st.many) (af7 st.given _))
 |_=>exact xM (d:=fG st) λ_ r=>r _ rfl
theorem adF(x:I2):(HA x==HA "")=(x==""):=by(rw[N7];refine KA.trans ?_;rw[KA]);refine⟨λh=>?_,λh=>HL _ h⟩;rw[OV,OV]at h;obtain h:=HL (λs=>s.cps.toList) h;simpa using h
theorem adZ(x:I2):bV .Eq (dr x) (dr "")=hb (x==""):=HL hb (adF x)
theorem qn(x:I2):bV .NotEq (dr x) (dr "")=hb (!(x=="")):=HL (λb=>hb (!b)) (adF x)
theorem iZ(h:0<ns.length)(i:HI):dv ns i∈ns:=by obtain h1:=Ic i (show(ns.length:HI)≠0 by exact K7.mpr h);obtain h2:=H9 i (show 0<(ns.length:HI) by exact Jt.mpr h);have:(i%ns.length).toNat<ns.length:=(Lz h).mpr h2;unfold dv;refine(HQ this).symm▸?_;exact KM this
theorem rm(h:0<ps.length)(i:HI):gw ps i∈ps.map (·.1):=by obtain h1:=Ic i (show(ps.length:HI)≠0 by exact K7.mpr h);obtain h2:=H9 i (show 0<(ps.length:HI) by exact Jt.mpr h);have:(i%ps.length).toNat<ps.length:=(Lz h).mpr h2;unfold gw;refine(HQ this).symm▸?_;exact HX.mpr ⟨_,KM this,rfl⟩
theorem amB(x:HI): -1000000000000000000<=vW x/\vW x<=1000000000000000000:=by
 unfold vW;cases cQ x%4==1 with
 |true=>simp only[Ku];exact have q:=A9 (b:=2000000000000000000) _ (by decide) (by decide);⟨Oj (HY (by decide) q.1),Int.sub_right_le_of_le_add (HY q.2 (by decide))⟩
 |false=>simp only[Kg];exact⟨HY (by decide) (Pe (Ic _ (by decide)) 9),HY (Mj _ (by decide)) (HY (IZ (H9 _ (by decide))) (by decide))⟩
theorem vM(x:HI){size:HI}(hp:0<ps.length)(hn:0<ns.length)(l7:∀n∈ns,bW n)(hs:0<=size):c0 ps size (lh x ps ns size):=by obtain a:=l7 _ (iZ hn (cQ x));obtain b:=l7 _ (iZ hn (cQ x/7));obtain d:=rm hp (cQ x/61);obtain e:0<=cQ x/1013%(size+1)/\cQ x/1013%(size+1)<=size:=⟨Ic _ (by exact Kb (JT hs)),by have:=H9 (cQ x/1013) (show 0<size+1 by exact Int.le_iff_lt_add_one.mp hs);exact(OF 1).mp this⟩;obtain hk:(x%10).toNat<10:=(Lk (Ic _ (by decide))).mpr (H9 _ (by decide));unfold lh;revert hk;generalize(x%10).toNat=k;revert k;exact ten d ⟨a,d,amB x⟩ ⟨a,b,d⟩ ⟨a,b⟩ ⟨a,b⟩ a d e e trivial
theorem aa3{n:HI}(h:0<=n)(hn:n<=B.length)(hf:bZ (B.drop n.toNat)=Hq):vJ (hb n) Hu Hu ⟨.list B,f⟩=hb ⟨.list (B.drop n.toNat),.d⟩:=by obtain e:vJ (hb n) Hu Hu ⟨.list B,f⟩=eZ (hb n) Hu Hu ⟨.list B,f⟩:=rfl;refine e.trans ?_;unfold eZ;refine(show kF (hb n) Hu Hu (V.x ⟨.list B,f⟩)=_ from slice_list (hb n) Hu B).symm▸(adl h (Rh.mpr hn)).symm▸?_;show hb (V.eE (Rk _ (Rl B.length _)) _)=_;refine JD.symm▸?_;unfold V.eE;refine hf.symm▸?_;rfl
def wa(c:JC):Prop:=∀(x:HI)(ps:aP)(ns:Hn (Hn HG))(size:HI),0<ps.length->0<ns.length->0<=size->c.F "_law_row" [.int x,(.list (ps.map aF)),(.list (ns.map aB)),.int size]=hb (av (lh x ps ns size))
def tg(c:JC):Prop:=∀(ps:aP)(st:eP)(r:Row),ps.length<=900->(∀n,eX st n)->c.F "_law_wrong" [(.list (ps.map aF)),fG st,av r]=hb (dr (aR ps st r))
theorem agm(r:Row):bV .NotIn (dr r.parts.1) (.tuple [dr "fork",dr "go",dr "end"])=hb (wQ r):=by cases r<;>kernel_rfl
variable{n:HG}
theorem adU(x:HI)(h:(0:HI)<(n:HG)):0<=x%(n:HG)/\x%(n:HG)<(n:HG)/\(x%(n:HG)).toNat<n:=
 have h1:=Ic x (Kb h);have h2:=H9 x h
 ⟨h1,h2,(Lk h1).mpr h2⟩
def qS(st:eP)(x:HI):Hn HG×HI:=(st.bG[(x/10%((st.bG.map dm).length:HG)).toNat]?).getD ([],0)
theorem zA(x:HI)(h:st.bG≠[]):(0:HI)<((st.bG.map dm).length:HG)/\ed (.list (st.bG.map dm)) (.int (x/10%((st.bG.map dm).length:HG)))=hb (dm (qS st x))/\qS st x∈st.bG:=by
 have lo:(0:HI)<((st.bG.map dm).length:HG):=by rw[Hr];have:=Pf.mpr h;exact Jt.mpr this
 refine xg (adU (x/10) lo) λh1 o1 kl=>?_;have kl:=Nv kl (Hr (f:=dm) (as:=st.bG));have e:qS st x=st.bG[(x/10%((st.bG.map dm).length:HG)).toNat]:=by unfold qS;refine(HQ kl).symm▸?_;rfl
 exact⟨lo,e▸nJ (p:=dm) h1 (HQ kl),e▸KM kl⟩
theorem ab7{as:Hn α}{a:α}(h:as[j]? =hb a):as.drop j=a::as.drop (j+1):=by obtain⟨hj,rfl⟩:=H2.mp h;exact J6 hj
theorem akL(hr:wa c)(hw:tg c)(x:HI)(H:aZ ps)(hp:0<ps.length)(hn:0<ns.length)(l7:∀n∈ns,bW n)(hh:∀n,eX st n)(hu:∀p∈dg st,p∈ps.map (·.1)):
  ∃y,(gG (PP S0 A0) c b0).F "_law_next" [.int x,(.list (ps.map aF)),(.list (ns.map aB)),fG st]=hb y/\∃r,y=av r/\uO ps st r:=by
 have hl:ps.length<=900:=Hs H.len (by decide);have lp:(0:HI)<((ps.map aF).length:HG):=by rw[Hr];exact Jt.mpr hp
 have ln:(0:HI)<((ns.map aB).length:HG):=by rw[Hr];exact Jt.mpr hn
 have Bu:=hr x ps ns 0 hp hn (by decide);have FU:=vM x (size:=0) hp hn l7 (by decide);revert Bu FU;generalize lh x ps ns 0=r;intro Bu FU;have s7:=hw ps st r hl hh;have i2:=ab3 hn (x/70);rw[<-Hr aB]at i2;let last:st.bG≠[]->((y:Ho)->(∃r,y=av r/\uO ps st r)->Z)->Z:=λh e=>fV 4 (jd (a:=x/10) (zA x h).1)<|fX 0 (zA x h).2.1<|fV 3 (jd (a:=x/70) ln)<|fX 0 i2<|e (av (.lay (dv ns (x/70)) (qS st x).1 (x/10%19-9))) ⟨_,rfl,by
  have m:(qS st x).1∈dg st:=HX.mpr ⟨_,(zA x h).2.2,rfl⟩;exact⟨(HL (λb=>bif b then""else"not open") (Ip m)),rfl,l7 _ (iZ hn _),hu _ m,HY (by decide) (Pe (Ic _ (by decide)) 9),HY (Mj _ (by decide)) (HY (IZ (H9 _ (by decide))) (by decide))⟩⟩
 have hd:=adU x lp;have s1:=aa3 (f:=.s) hd.1 (IZ hd.2.1) (by exact L8▸fA cZ _);have DT:(ps.map aF).length<=12:=by rw[Hr];exact H.len
 have s2:=zB (B:=(ps.map aF).drop (x%((ps.map aF).length:HG)).toNat) (ys:=ps.map aF) (f:=.d) (g:=.s) (Hs (Js (adX DT) DT) (by decide)) (by(refine L8▸?_;refine HJ▸?_);exact fA cZ _);rw[<-L8,<-HJ]at s2;rw[<-L8]at s1;generalize hL:ps.drop (x%((ps.map aF).length:HG)).toNat=A at s1 s2;have nc:∀{j:HG}{a},(A++ps)[j]? =hb a->a.1∈ps.map (·.1):=λh=>HX.mpr ⟨_,(HD.mp (Il h)).elim (λh=>Lc (hL▸h)) id,rfl⟩;have h0:(∃p∈(A++ps).drop 0,aR ps st (.op p.1)="")∨st.bG≠[]:=by
  by_cases ho:st.bG=[]
  ·left
   clear nc hL s2 DT s1 hd last i2 s7 FU Bu lp hl hu ln;obtain⟨p,ps',rfl⟩:∃p t,ps=p::t:=by
    cases ps with
    |nil=>cases hp
    |cons p t=>exact CL p t rfl
   refine i12 p (Hx _ (.head _)) ?_;show(bif decide (p.1∈dg st)then"open already"else match(up (p::ps') p.1)[1]?with|some q=>bif decide (q∈dg st)then""else"not open"|none=>"")="";refine(show dg st=[] by unfold dg;refine ho.symm▸?_;rfl).symm▸?_;refine(afF H).symm▸?_;rfl
  ·exact .inr ho
 exact xE λe=>fX 0 Bu<|fS 0<|fB 2 (agm r)<|fX 0 s7<|fB 0 (adZ (aR ps st r))<|.br (wQ r&&(aR ps st r=="")) (λh=>e (av r) ⟨r,rfl,aw (aj h).2,(aj h).1,FU⟩) λ_=>.br (decide ((((st.bG.map dm).length:HG):HI)*2<((ps.map aF).length:HG)+x/10%2))
  (λh=>fV 1 (jd (a:=x) lp)<|fV 0 s1<|fV 0 s2<|fr (A++ps) cZ (λ_ _=>[("_law_cell",D (.int x)),("_law_plots_here",sh (.list (ps.map aF))),("_law_names_here",sh (.list (ns.map aB))),("_law_state",sh (fG st))]) (λj _=>(∃p∈(A++ps).drop j,aR ps st (.op p.1)="")∨st.bG≠[]) () h0
   (λj a h _ r t=>fX 1 (hw ps st (.op a.1) hl hh)<|bB 0 (adZ (aR ps st (.op a.1))) (λg=>e (av (.op a.1)) ⟨_,rfl,aw g,rfl,nc h⟩) λg=>t _ ⟨(),r.imp (λ⟨p,hp,k⟩=>⟨p,by
    rw[ab7 h]at hp;rcases Hw.mp hp with rfl|hp
    ·rw[k]at g;cases g
    ·exact hp,k⟩) id,rfl⟩)
   λ_ r=>last (r.elim (λ⟨p,hp,_⟩=>by rw[KN]at hp;cases hp) id) e)
  λh=>last (λe=>by
   have h:=Ji h;rw[e]at h;exact h (by exact Int.add_pos_of_pos_of_nonneg lp (Ic _ (by decide)))) e
abbrev kc(c:JC):JC:={c with K:=K0}
noncomputable def yH:HP:=HA "abcdefghijklmnopqrstuvwxyz"
theorem ajf:∀k,k<26->(Lg yH ⟨#[97+k]⟩ 0 yH.length 1).isEmpty=HH:=by decide +kernel
theorem alk{x:HG}(h:97<=x/\x<=122):bV .In (.str (S [x])) (.str yH)=hb Hq:=by obtain⟨k,rfl⟩:=Nat.exists_eq_add_of_le h.1;show hb (!(Lg yH ⟨#[97+k]⟩ 0 yH.length 1).isEmpty)=_;refine(ajf k (K6 (Nat.le_of_add_le_add_left (a:=97) h.2))).symm▸?_;rfl
theorem ad9(B:Hn α):kN (B.map λ_=>.bool Hq)=hb (B.map λ_=>Hq):=by
 induction B with
 |nil=>exact rfl
 |cons x B bX=>show(kN (B.map λ_=>.bool Hq)).map (Hq::·)=_;rw[bX];rfl
theorem all_map(B:Hn α):CP [⟨.list (B.map λ_=>.bool Hq),.d⟩]=hb ⟨.bool Hq,.d⟩:=by show(kN (B.map λ_=>.bool Hq)).map _=_;rw[ad9];show hb (V.mk (.bool ((B.map λ_=>Hq).all id)) .d)=_;(exact(show(B.map λ_=>Hq).all id=Hq by rw[JM];intro b U;refine aQ (HX.mp U) λo1 o2 o3=>?_;subst o3;rfl).symm▸rfl)
theorem afe(h1:1<=n)(h2:n<=8):bV .LtE (.int 1) (.int (n:HG))=hb Hq/\bV .LtE (.int (n:HG)) (.int 8)=hb Hq:=⟨HL hb (Ip (JE.mp h1)),HL hb (Ip (Nat.ToInt.of_le rfl rfl h2))⟩
abbrev Gr(as:Hn α){p:α->Ho}(hp:∀a,flat (p a)=Hq)(b:(a:α)->a∈as->Z->Z)(z:Z):Z:=vL α as p hp (λ_=>hb (.bool Hq)) (as.map λ_=>.bool Hq) (Kx Je as) (λa h=>b a h (.q _ (Mg (hb (PyData.bool Hq))))) (fV 0 (all_map as) z)
theorem aeA(h:bW u4):(gG (PP S0 A0) (kc c) b0).F "is_name" [aB u4]=hb (.bool Hq):=
 xF λt=>fB 3 (show bV .LtE (.int 1) (.int ((S u4).length:HG))=hb Hq from(afe h.one h.DP).1)<|fB 0 (show bV .LtE (.int ((S u4).length:HG)) (.int 8)=hb Hq from(afe h.one h.DP).2)<|Gr u4 (p:=λx=>.str (S [x])) (λ_=>rfl) (λx hx=>fB 0 (alk (h.abc x hx)))<|t _ rfl
def rj(c:JC):Prop:=∀n,bW n->c.F "is_name" [aB n]=hb (.bool Hq)
variable{m:HG}
theorem ajP(h:n<=m):bV .Gt (.int (n:HG)) (.int (m:HG))=hb HH:=HL hb (Iw (Kq.mpr (I4.mpr h)))
theorem abU(p:α->Ho)(as:Hn α):jW (as.map p)=as.zipIdx.map λq=>.tuple [.int q.2,p q.1]:=by unfold jW;(refine P8.symm▸Ii.symm▸?_);rfl
theorem kA{as:Hn α}{q:α×HG}(h:as.zipIdx[j]? =hb q):as[j]? =hb q.1:=by rw[OZ]at h;refine aQ (H6.mp h) λa h1 h2=>?_;(exact h1.symm▸h2▸rfl)
def F4(ps:aP)(as:Hn Ho):En:=[("plots",sh (.list (ps.map aF))),("ahead",.own (.lst as))]
section
variable{p:Hn HG×Hp (Hn HG)}(bF:aZ ps)(gN:ps[j]? =hb p)
include bF gN
theorem alS:bV .In (aB p.1) (.list (((ps.take j).map (·.1)).map aB))=hb HH:=by rw[kJ,Iw];exact Lw.symm▸aaD bF.nd (by(refine Iz.trans ?_;refine gN.symm▸?_);rfl)
theorem agj(hn:rj c)(h:p.2.isSome=Hq):c.F "is_name" [ke p.2]=hb (.bool Hq)/\bV .NotIn (ke p.2) (.list (((ps.take j).map (·.1)).map aB))=hb HH:=by
 obtain⟨nm,_|q⟩:=p
 ·cases h
 have e:ps=ps.take j++(nm,hb q)::ps.drop (j+1):=by
  conv=>lhs;rw[<-L0 j ps,ab7 gN]
 have R:=bF.out _ _ _ _ e;refine gQ (hn q ?_) ((ji q _).trans (by refine(Ip R).symm▸?_;rfl));refine aQ (HX.mp R) λz hz o1=>?_;subst o1;exact bF.nm z (Kc hz)
theorem ags:(((ps.take j).map (·.1)).map aB).length<10000:=by rw[Hr,Hr];exact HC (kC bF.len) (by decide)
theorem adE:F4 ps (((ps.take (j+1)).map (·.1)).map aB)=F4 ps (((ps.take j).map (·.1)).map aB++[aB p.1]):=by(refine(show ps.take (j+1)=ps.take j++[p] by(refine KD.trans ?_;rw[gN]);rfl).symm▸?_;refine HJ.symm▸HJ.symm▸?_);rfl
end
theorem abp(hn:rj c)(H:aZ ps):(gG (PP S0 A0) (kc c) b0).F "need_plots" [.list (ps.map aF)]=hb .none:=by
 have hl:(ps.map aF).length<=12:=by rw[Hr];exact H.len
 exact xF λt=>fB 3 (show bV .Gt (.int ((ps.map aF).length:HG)) (.int 12)=hb HH from ajP hl)<|fr ps.zipIdx (p:=λq=>.tuple [.int q.2,aF q.1]) (λq=>by show(Hq&&(flat (aF q.1)&&Hq))=Hq;rw[cZ];rfl) (λj (_:Nq)=>F4 ps (((ps.take j).map (·.1)).map aB)) (λ_ _=>N9) () trivial
  (λj q h _ _ e=>fX 5 (hn q.1.1 (H.nm q.1 (Il (kA h))))<|fB 1 (alS H (kA h))<|fB 2 (agG q.1.2)<|.br q.1.2.isSome (λg=>fX 2 (agj H (kA h) hn g).1<|fB 1 (agj H (kA h) hn g).2<|fC 1 (ags H (kA h))<|e _ ⟨(),trivial,adE H (kA h)⟩) λ_=>fC 1 (ags H (kA h))<|e _ ⟨(),trivial,adE H (kA h)⟩)
  (λ_ _=>t _ rfl) (abU aF ps)
variable{z:HI}
theorem aeq(hn:rj c)(h:bW u4)(R:u4∈ns):(gG (PP S0 A0) (kc c) b0).F "fits" [aB u4,dr "plot",.list (ns.map aB),.int z]=hb (.bool Hq):=xF λt=>fX 1 (hn u4 h)<|fB 0 (show bV .In (aB u4) (.list (ns.map aB))=hb Hq by rw[kJ,Ip R])<|t _ rfl
theorem ad4(hn:rj c)(h:bW u4):(gG (PP S0 A0) (kc c) b0).F "fits" [aB u4,dr "name",.list (ns.map aB),.int z]=hb (.bool Hq):=xF λt=>fX 2 (hn u4 h)<|t _ rfl
def qf(c:JC):Prop:=∀i:HI,c.F "is_whole" [.int i]=hb (.bool Hq)
theorem oq{a b:HI}(h:a<=b):bV .LtE (.int a) (.int b)=hb Hq:=HL hb (Ip h)
theorem abO(hw:qf c)(h1: -1000000000000000000<=i)(h2:i<=1000000000000000000):(gG (PP S0 A0) (kc c) b0).F "fits" [.int i,dr "number",.list (ns.map aB),.int z]=hb (.bool Hq):=xF λt=>fX 3 (hw i)<|fB 0 (oq h1)<|fB 0 (oq h2)<|t _ rfl
theorem acW(hw:qf c)(h1:0<=i)(h2:i<=z):(gG (PP S0 A0) (kc c) b0).F "fits" [.int i,dr "place",.list (ns.map aB),.int z]=hb (.bool Hq):=xF λt=>fX 3 (hw i)<|fB 0 (oq h1)<|fB 0 (oq h2)<|t _ rfl
structure vT(c:JC):Prop where
 AW:∀{n:Hn HG}{ns:Hn (Hn HG)}{z:HI},bW n->n∈ns->c.F "fits" [aB n,dr "plot",.list (ns.map aB),.int z]=hb (.bool Hq)
 name:∀{n:Hn HG}{ns:Hn (Hn HG)}{z:HI},bW n->c.F "fits" [aB n,dr "name",.list (ns.map aB),.int z]=hb (.bool Hq)
 number:∀{i:HI}{ns:Hn (Hn HG)}{z:HI},-1000000000000000000<=i->i<=1000000000000000000->c.F "fits" [.int i,dr "number",.list (ns.map aB),.int z]=hb (.bool Hq)
 place:∀{i:HI}{ns:Hn (Hn HG)}{z:HI},0<=i->i<=z->c.F "fits" [.int i,dr "place",.list (ns.map aB),.int z]=hb (.bool Hq)
noncomputable def rwA:Row->Hn ((Hn HG⊕HI)×I2)
 |.op p=>[(.inl p,"plot")]
 |.lay n p i=>[(.inl n,"name"),(.inl p,"plot"),(.inr i,"number")]
 |.copy n o p=>[(.inl n,"name"),(.inl o,"name"),(.inl p,"plot")]
 |.same n o=>[(.inl n,"name"),(.inl o,"name")]
 |.add n o=>[(.inl n,"name"),(.inl o,"name")]
 |.tell n=>[(.inl n,"name")]
 |.give p=>[(.inl p,"plot")]
 |.fork k=>[(.inr k,"place")]
 |.go k=>[(.inr k,"place")]
 |.fin=>[]
def B6(a:Hn HG⊕HI):Ho:=match a with
 |.inl n=>aB n
 |.inr i=>.int i
theorem rS{P:α->Prop}:∀a∈([]:Hn α),P a:=λ_ h=>nomatch h
def am3(c:JC)(ns:Hn (Hn HG))(z:HI)(a:(Hn HG⊕HI)×I2):Prop:=c.F "fits" [B6 a.1,dr a.2,.list (ns.map aB),.int z]=hb (.bool Hq)
theorem akY(hf:vT c)(l7:∀n∈ps.map (·.1),bW n)(r:Row)(h:c0 ps z r):∀a∈rwA r,am3 c (ps.map (·.1)) z a:=by
 cases r with
 |op p=>exact all_cons (hf.AW (l7 _ h) h) rS
 |lay n p i=>exact all_cons (hf.name h.1) (all_cons (hf.AW (l7 _ h.2.1) h.2.1) (all_cons (hf.number h.2.2.1 h.2.2.2) rS))
 |copy n o p=>exact all_cons (hf.name h.1) (all_cons (hf.name h.2.1) (all_cons (hf.AW (l7 _ h.2.2) h.2.2) rS))
 |same n o=>exact all_cons (hf.name h.1) (all_cons (hf.name h.2) rS)
 |add n o=>exact all_cons (hf.name h.1) (all_cons (hf.name h.2) rS)
 |tell n=>exact all_cons (hf.name h) rS
 |give p=>exact all_cons (hf.AW (l7 _ h) h) rS
 |fork k=>exact all_cons (hf.place h.1 h.2) rS
 |go k=>exact all_cons (hf.place h.1 h.2) rS
 |fin=>exact rS
theorem afq(a:(Hn HG⊕HI)×I2):flat (.tuple [B6 a.1,dr a.2])=Hq:=by obtain⟨_|_,_⟩:=a<;>rfl
def zRw(as:Hn ((Hn HG⊕HI)×I2))(h:∀a∈as,am3 c ns z a)(t:Z):Z:=Gr as (p:=λa=>.tuple [B6 a.1,dr a.2]) afq (λa m=>.f 0 _ (h a m) ⟨.bool Hq,.d⟩) t
theorem afc(hf:vT c)(l7:∀p∈ps,bW p.1)(r:Row)(h:c0 ps z r):(gG (PP S0 A0) (kc c) b0).F "is_row" [av r,.list ((ps.map (·.1)).map aB),.int z]=hb (.bool Hq):=by have h:=akY hf (λn hn=>by refine aQ (HX.mp hn) λp hp o=>?_;subst o;exact l7 p hp) r h;cases r<;>exact xF λt=>zRw _ h (t _ rfl)
def ag4(c:JC):Prop:=∀(ps:aP)(z:HI)(r:Row),(∀p∈ps,bW p.1)->c0 ps z r->c.F "is_row" [av r,.list ((ps.map (·.1)).map aB),.int z]=hb (.bool Hq)
def ndE(ps:aP)(rs:Hn Row):En:=[("rows",sh (.list (rs.map av))),("names",D (.list ((ps.map (·.1)).map aB)))]
variable{rs:Hn Row}
theorem al1(hp:c.F "need_plots" [.list (Dm.map aF)]=hb .none)(hr:ag4 c)(H:aZ Dm)(hl:rs.length<=60)(hk:∀r∈rs,c0 Dm rs.length r):(gG (PP S0 A0) (kc c) b0).F "need" [.list (Dm.map aF),.list (rs.map av)]=hb (.bool Hq):=by
 have l60:(rs.map av).length<=60:=by rw[Hr];exact hl
 have h:∀{j:HG}{q:Row×HG},rs.zipIdx[j]? =hb q->c.F "is_row" [av q.1,.list ((Dm.map (·.1)).map aB),.int ((rs.map av).length:HG)]=hb (.bool Hq):=λh=>by rw[Hr];exact hr Dm rs.length _ H.nm (hk _ (Il (kA h)))
 exact xF λt=>fX 0 hp<|fB 3 (show bV .Gt (.int ((rs.map av).length:HG)) (.int 60)=hb HH from ajP l60)<|lN (g:=λp:Hn HG×Hp (Hn HG)=>aB p.1) cZ (Ii (f:=λp:Hn HG×Hp (Hn HG)=>p.1) (g:=aB) (l:=Dm)).symm<|fr rs.zipIdx (p:=λq=>.tuple [.int q.2,av q.1]) (λq=>by show(Hq&&(flat (av q.1)&&Hq))=Hq;rw[fk];rfl) (λ_ (_:Nq)=>ndE Dm rs) (λ_ _=>N9) () trivial (λj q m _ _ e=>fX 1 (h m)<|e _ ⟨(),trivial,rfl⟩) (λ_ _=>t _ rfl) (abU av rs)
theorem acB(hw:qf c)(l:Hn HI){n:HI}(h0:0<=n)(h1:n<=1000000):(gG (PP S0 A0) (kc c) b0).F "need_run" [.list (aq l),.int n]=hb .none:=
 xF λt=>fS 0<|Gr l (p:=IL) (λ_=>rfl) (λi _=>fX 0 (hw i))<|fX 1 (hw n)<|fB 0 (oq h0)<|fB 0 (oq h1)<|t _ rfl
noncomputable def eD(rs:Hn Row)(k:HG):Row:=(rs[k]?).getD .fin
theorem ag3(rs:Hn Row)(k:HG):(gG (PP S0 A0) c b0).F "row_at" [.list (rs.map av),.int k]=hb (av (eD rs k)):=by
 have e:(rs.map av).length=rs.length:=Hr _;have g:decide ((k:HI)<((rs.map av).length:HG))=Hq->k<rs.length:=λh=>by have h:=IW h;exact e▸Jj.mp h
 exact xF λt=>.br (decide ((k:HI)<((rs.map av).length:HG))) (λh=>fX 0 (nJ (p:=av) (l:=rs) (i:=k) (a:=rs[k]'(g h)) (H3 k) (HQ (g h)))<|fL (fk (rs[k]'(g h)))<|t (av (rs[k]'(g h))) (by unfold eD;refine(HQ (g h)).symm▸?_;rfl)) (λh=>t (av .fin) (by unfold eD;rw[Jw (by exact JQ λq=>(Ji h) (Jj.mpr (e.symm▸q)))];rfl))
def eL(l:Hn HI):Hn HI:=(l.take (fg (hb 22) l.length)).drop (eI (hb 6) l.length)
theorem nM(l:Hn HI):(eL l).length<=16:=by
 refine Li.symm▸J9.symm▸?_;generalize l.length=n;show min (min 22 n) n-min 6 n<=16;refine(Jk (I7 22 n)).symm▸?_;by_cases h:6<=n
 ·exact(Jk h).symm▸Nat.sub_le_of_le_add (Mm 22 n)
 ·refine(KP (Ll h)).symm▸(KZ (I7 22 n)).symm▸?_;exact JS 16
theorem acg(l:Hn HI):vJ (hb 6) (hb 22) Hu ⟨.list (aq l),f⟩=hb ⟨.list (aq (eL l)),.d⟩:=by
 obtain e:vJ (hb 6) (hb 22) Hu ⟨.list (aq l),f⟩=eZ (hb 6) (hb 22) Hu ⟨.list (aq l),f⟩:=rfl;refine e.trans ?_;unfold eZ;refine(show kF (hb 6) (hb 22) Hu (V.x ⟨.list (aq l),f⟩)=_ from slice_list (hb 6) (hb 22) (aq l)).symm▸?_;obtain e2:((aq l).take (fg (hb 22) (aq l).length)).drop (eI (hb 6) (aq l).length)=aq (eL l):=by dsimp only[eL,aq];rw[Hr,L8,Lw]
 refine e2.symm▸?_;show hb (V.eE _ _)=_
 delta V.eE aq
 rw[fA (λ_=>rfl)];rfl
def am0(ns:Hn (Hn HG))(n:HI)(x:HI):Hn Row:=[.tell (dv ns (cQ x)),.same (dv ns (cQ x)) (dv ns (cQ x/7)),.add (dv ns (cQ x)) (dv ns (cQ x)),.fork (cQ x/1013%(n+1)),.go (cQ x/1013%(n+1)),.fin]
def jO(ns:Hn (Hn HG))(n:HI)(x:HI):Row:=((am0 ns n x)[(x%10*3/5).toNat]?).getD .fin
def Gu(ns:Hn (Hn HG))(cs:Hn HI)(j:HG):En:=[("_law_names_here",sh (.list (ns.map aB))),("_law_cells",D (.list (aq cs))),("_law_rows",.own (.lst (((cs.take j).map (jO ns cs.length)).map av)))]
variable{x:HI}
theorem aie{cs:Hn HI}(h:cs[j]? =hb x):Gu ns cs (j+1)=([("_law_names_here",sh (.list (ns.map aB))),("_law_cells",D (.list (aq cs))),("_law_rows",.own (.lst (((cs.take j).map (jO ns cs.length)).map av++[av (jO ns cs.length x)])))]:En):=by unfold Gu;(refine KD.symm▸h.symm▸HJ.symm▸HJ.symm▸?_);rfl
theorem ahG{cs:Hn HI}(h:cs.length<=16)(j:HG):(((cs.take j).map (jO ns cs.length)).map av).length<10000:=by rw[Hr,Hr];exact HC (kC h) (by decide)
theorem aiW(l:Hn HI)(hn:0<ns.length):(gG (PP S0 A0) c b0).F "_law_plain" [.list (aq l),(.list (ns.map aB))]=hb (.list (((eL l).map (jO ns (eL l).length)).map av)):=by have hc:=nM l;have sl:=acg l (f:=.s);generalize eL l=cs at hc sl⊢;have m3 (x:HI):gD .Mod ⟨.int (cQ x/1013),.d⟩ ⟨.int (((aq cs).length:HG)+1),.d⟩=hb ⟨.int (cQ x/1013%((cs.length:HG)+1)),.d⟩:=(jd (LG _)).trans (by unfold aq;rw[Hr]);have i6 (x:HI):=ae7 (am0 ns cs.length x) (i:=x%10*3/5) (Qh (Ow (Ic _ (by decide)) (by decide)) (by decide)) (by show x%10*3/5<((6:HG):HI);exact Int.ediv_lt_of_lt_mul (by decide) (Ka (L9 (A9 (b:=9) _ (by decide) (by decide)).2 (by decide)) (by decide)));exact xF λt=>fV 0 sl<|fr cs (p:=IL) (λ_=>rfl) (λj (_:Nq)=>Gu ns cs j) (λ_ _=>N9) () trivial (λj x h _ _ e=>BG hn 4 (cQ x)<|fV 3 (m3 x)<|BG hn 3 (cQ x/7)<|fX 9 (i6 x)<|fL (fk (jO ns cs.length x))<|fC 0 (ahG (ns:=ns) hc j)<|e _ ⟨(),trivial,aie h⟩) λ_ _=>t (.list (((cs.take cs.length).map (jO ns cs.length)).map av)) (JD▸rfl)
def mZ(ns:Hn (Hn HG))(x:HI)(p:Hn HG)(j:HG):Hn Row:=.op p::(H0 j).map λ(k:HG)=>Row.lay (dv ns (x/7+k)) p k
def amT(ns:Hn (Hn HG))(x:HI)(p:Hn HG):Hn Row:=(mZ ns x p (x/3%4).toNat++[Row.lay (dv ns x) p 5])++[Row.fork ((((mZ ns x p (x/3%4).toNat++[Row.lay (dv ns x) p 5]).map av).length:HG)+3),Row.give p,Row.go (((mZ ns x p (x/3%4).toNat++[Row.lay (dv ns x) p 5]).map av).length:HG)]
def B2(ns:Hn (Hn HG))(x:HI)(p:Hn HG):Hn Row:=[.tell (dv ns x),.lay (dv ns x) p 1,.add (dv ns x) (dv ns x),.copy (dv ns x) (dv ns x) p,.fin,.give p]
def xT(ns:Hn (Hn HG))(x:HI)(p:Hn HG):Row:=((B2 ns x p)[(x/12%6).toNat]?).getD .fin
def y9(ns:Hn (Hn HG))(x:HI)(p:Hn HG):Hn Row:=amT ns x p++[xT ns x p,.give p]
noncomputable def uy(ps:aP):Hn HG:=((ps.filter λp=>p.2.isNone).map (·.1)).headD []
theorem aeo(ps:aP):ps.filterMap (λp=>bif p.2.isNone then hb (aB p.1)else Hu)=((ps.filter λp=>p.2.isNone).map (·.1)).map aB:=by
 induction ps with
 |nil=>exact rfl
 |cons p ps bX=>(refine I1.symm▸JN.symm▸bX.symm▸?_);cases p.2.isNone<;>rfl
theorem ad0(H:aZ ps)(hp:0<ps.length):uy ps∈ps.map (·.1)/\ed (.list (ps.filterMap λp=>bif p.2.isNone then hb (aB p.1)else Hu)) (.int 0)=hb (aB (uy ps)):=by
 rw[aeo];obtain⟨⟨n,o⟩,t,rfl⟩:∃p t,ps=p::t:=by
  cases ps with
  |nil=>cases hp
  |cons p t=>exact CL p t rfl
 clear hp;cases o with
 |none=>exact gQ (.head _) rfl
 |some q=>exact nomatch H.out [] t n q rfl
theorem Cr{B ys:Hn Row}(h:B.length+ys.length<=1000):gD .Add ⟨.list (B.map av),f⟩ ⟨.list (ys.map av),g⟩=hb ⟨.list ((B++ys).map av),.d⟩:=by exact HJ.symm▸zB (by rw[Hr,Hr];exact h) (by exact HJ▸eF _)
theorem nS(ns:Hn (Hn HG))(x:HI)(p:Hn HG)(j:HG):(mZ ns x p j).length=j+1:=by(refine Ju.trans ?_;rw[Hr,Iy])
def Gm(ns:Hn (Hn HG))(x:HI)(p:Hn HG)(j:HG):En:=[("_law_names_here",sh (.list (ns.map aB))),("_law_plot",D (aB p)),("_law_cell",D (.int x)),("_law_name",D (aB (dv ns x))),("_law_rows",.own (.lst ((mZ ns x p j).map av)))]
theorem is_none(o:Hp (Hn HG)):bV .Is (ke o) .none=hb o.isNone:=by cases o<;>rfl
abbrev zRo(ps:aP)(z:Z):Z:=vL _ ps aF cZ (λp=>bif p.2.isNone then hb (aB p.1)else Hu) _ rfl (λp _=>bB 0 (is_none p.2) (λh=>.q _ (by refine h.symm▸?_;rfl:hb (aB p.1)=bif p.2.isNone then hb (aB p.1)else Hu)) λh=>.q _ (by refine h.symm▸?_;rfl:Hu=bif p.2.isNone then hb (aB p.1)else Hu)) z
theorem ag7(h:a=j):Gm ns x p (j+1)=([("_law_names_here",sh (.list (ns.map aB))),("_law_plot",D (aB p)),("_law_cell",D (.int x)),("_law_name",D (aB (dv ns x))),("_law_rows",.own (.lst ((mZ ns x p j).map av++[av (.lay (dv ns (x/7+a)) p a)])))]:En):=by subst h;dsimp only[Gm,mZ];rw[kL,HS,HS,HJ];rfl
theorem agq{s:HG}(h:(H0 n)[j]? =hb a)(r:s=j)(hn:n<=3):((mZ ns x p s).map av).length<10000:=by have:=(yx h).2;rw[Hr,nS];exact r▸HC (Hs this hn) (by decide)
def uK(ns:Hn (Hn HG))(x:HI)(p:Hn HG)(n:HG):Hn Row:=mZ ns x p n++[.lay (dv ns x) p 5]
def CA(rs:Hn Row)(p:Hn HG):Hn Row:=[.fork (((rs.map av).length:HG)+3),.give p,.go ((rs.map av).length:HG)]
def zLp(h:n=(H0 (x/3%4).toNat).length)(t:(y:Ho)->y=.list ((y9 ns x p).map av)->Z):Z:=
 have h:=h.trans Iy;have hl:(uK ns x p n).length<=100:=by unfold uK;rw[HN,nS];show _+1<=_;exact h▸Hs (Im (DF (n:=3) _ (by decide) (by decide)) 2) (by decide)
 fV 2 (Cr (B:=mZ ns x p n) (ys:=[Row.lay (dv ns x) p 5]) (f:=.t) (g:=.d) (by rw[nS];exact h▸Hs (Im (DF (n:=3) _ (by decide) (by decide)) 2) (by decide)))<|
 fV 6 (Cr (B:=uK ns x p n) (ys:=CA (uK ns x p n) p) (f:=.d) (g:=.d) (by exact Hs (Im hl 3) (by decide)))<|
 fX 10 (show ed (.list ((B2 ns x p).map av)) (.int (x/12%6))=hb (av (xT ns x p))from ae7 (B2 ns x p) (Ic _ (by decide)) (by exact H9 _ (by decide)))<|fL (fk (xT ns x p))<|
 fV 1 (show(if 2<=sizeLine then hb (V.eE ([xT ns x p,.give p].map av) .d)else Hu)=_ from(H5 (by decide)).trans (HL hb (oi _ _)))<|fV 0 (Cr (B:=uK ns x p n++CA (uK ns x p n) p) (ys:=[xT ns x p,.give p]) (f:=.d) (g:=.d) (by exact HN.symm▸Hs (Im hl 5) (by decide)))<|t (.list ((uK ns x p n++CA (uK ns x p n) p++[xT ns x p,.give p]).map av)) (by subst h;rfl)
theorem an4(ha:qU c)(l:Hn HI)(H:aZ ps)(hp:0<ps.length)(hn:0<ns.length):(gG (PP S0 A0) c b0).F "_law_lap" [.list (aq l),(.list (ps.map aF)),(.list (ns.map aB))]=hb (.list ((y9 ns (cJ l 5) (uy ps)).map av)):=by have a5:=ha l 5 (by decide);generalize cJ l 5=x at a5⊢;have r0:=(ad0 H hp).2;generalize uy ps=p at r0⊢;exact xF λt=>zRo ps<|fX 0 r0<|fX 0 a5<|BG hn 1 x<|fI 3 (fZ (k:=x/3%4) (Ic _ (by decide)) (HY (IZ (H9 _ (by decide))) (by decide)))<|fr (H0 (x/3%4).toNat) (p:=λj=>.int (j:HG)) (λ_=>rfl) (λ_ s=>Gm ns x p s) (λj s=>s=j) 0 rfl (λj a h s r e=>BG hn 3 (x/7+a)<|fC 1 (agq (ns:=ns) (x:=x) (p:=p) h r (DF _ (by decide) (by decide)))<|e _ ⟨s+1,HL (·+1) r,ag7 ((yx h).1.trans r.symm)⟩) λ_ r=>zLp r t
def AJ(ns as:Hn (Hn HG))(x:HI)(k:HG):Row:=.lay (dv ns (x/24+k)) (dv as (x/7+k)) k
def sV(ns as:Hn (Hn HG))(x:HI):Hn Row:=(as.map Row.op++(H0 (1+x/100%3).toNat).map (AJ ns as x))++[.give (as.headD [])]
noncomputable def jh(ns as:Hn (Hn HG))(x:HI):HG->Hn Row
 |0=>[]
 |j+1=>jh ns as x j++sV ns as x
def xc(ps:aP)(ns:Hn (Hn HG))(x:HI):Hn Row:=jh ns (up ps (gw ps x)).reverse x (2+x/12%2).toNat
variable{as:Hn (Hn HG)}
theorem afm(x:HI)(ha:as.length<=12):(sV ns as x).length<=16:=by unfold sV;rw[HN,HN,Hr,Hr,Iy];exact Im (Js ha (DJ (n:=3) _ (by decide) (by decide))) 1
theorem nr{ns:Hn (Hn HG)}(x:HI)(ha:as.length<=12):∀j,(jh ns as x j).length<=16*j
 |0=>Io _
 |j+1=>by
  have:=nr (ns:=ns) x ha j;have:=afm (ns:=ns) x ha;exact HN.symm▸Js ‹_› this
def Fv(ns as:Hn (Hn HG))(x:HI)(s:Hn Ho):En:=[("_law_names_here",sh (.list (ns.map aB))),("_law_cell",D (.int x)),("_law_around",D (.list (as.map aB))),("_law_rows",.own (.lst s))]
section
def A5(ns as:Hn (Hn HG))(x:HI)(j k:HG)(s:Hn Ho):Prop:=s=(jh ns as x j++(as.map Row.op++(H0 k).map (AJ ns as x))).map av
variable{s:Hn Ho}
theorem ahT(r:s=(jh ns as x j).map av):A5 ns as x j 0 (s++as.map λp=>av (.op p)):=by subst r;unfold A5;(refine List.range_zero.symm▸?_;rw[MX,IA,HJ,Ii]);rfl
theorem ai8(h:a=k)(r:A5 ns as x j k s):A5 ns as x j (k+1) (s++[av (AJ ns as x a)]):=by subst h;unfold A5 at r⊢;rw[kL,<-I6 (as:=as.map Row.op),<-I6 (as:=jh ns as x j),HJ (l₁:=jh ns as x j++_),<-r];rfl
theorem aiP(h:k=(1+x/100%3).toNat)(r:A5 ns as x j k s):s++[av (.give (as.headD []))]=(jh ns as x (j+1)).map av:=by subst h;unfold A5 at r;show s++_=(jh ns as x j++sV ns as x).map av;unfold sV;rw[<-I6,HJ (l₁:=jh ns as x j++_),<-r];rfl
variable(t9:as.length<=12)(gq:j<4)
include t9 gq
theorem alE(r:s=(jh ns as x j).map av):s.length+(as.map λp=>av (.op p)).length<10000:=by have:=nr (ns:=ns) x t9 j;(refine r.symm▸?_;rw[Hr,Hr]);exact HC (Js (Hs this (Kj 16 (IK gq))) t9) (by decide)
theorem afa(hk:k<=3)(r:A5 ns as x j k s):s.length<10000:=by have:=nr (ns:=ns) x t9 j;(refine r.symm▸?_;rw[Hr,HN,HN,Hr,Hr,Iy]);exact HC (Js (Hs this (Kj 16 (IK gq))) (Js t9 hk)) (by decide)
omit t9 gq in
theorem ajg(h:0<as.length):ed (.list (as.map aB)) (.int 0)=hb (aB (as.headD [])):=by
 cases as with
 |nil=>cases h
 |cons a t=>rfl
def zNe(hn:0<ns.length)(ha:0<as.length)(r:s=(jh ns as x j).map av)(e:(l:En)->(∃y,y=(jh ns as x (j+1)).map av/\Fv ns as x y=l)->Z):Z:=
 have lr:∀{k:HG},k=(H0 (1+x/100%3).toNat).length->k=(1+x/100%3).toNat:=λh=>h.trans Iy
 lM as (p:=aB) (λ_=>rfl) (λp=>av (.op p))<|fC 0 (alE t9 gq r)<|fI 3 (fZ (k:=1+x/100%3) (Mz (by decide) (Ic _ (by decide))) ((wG (a:=1) (b:=10000) _ (by decide) (by decide) (by decide)).2))<|
 fr (H0 (1+x/100%3).toNat) (p:=λj=>.int (j:HG)) (λ_=>rfl) (λ_ s=>Fv ns as x s) (λk s=>A5 ns as x j k s) (s++as.map λp=>av (.op p)) (ahT r)
  (λk a h s r e=>BG hn 3 (x/24+a)<|BG ha 3 (x/7+a)<|fC 1 (afa t9 gq (by have:=(yx h).2;exact IK (I0 this (DJ _ (by decide) (by decide)))) r)<|e _ ⟨s++[av (AJ ns as x a)],ai8 (yx h).1 r,rfl⟩)
  λs r=>fX 0 (ajg ha)<|fC 1 (afa t9 gq (by exact(lr rfl).symm▸DJ _ (by decide) (by decide)) r)<|e (Fv ns as x (s++[av (.give (as.headD []))])) ⟨s++[av (.give (as.headD []))],aiP (lr rfl) r,rfl⟩
end
theorem alQ(ha:qU c)(ho:w9 c)(l:Hn HI)(H:aZ ps)(hp:0<ps.length)(hn:0<ns.length):(gG (PP S0 A0) c b0).F "_law_nest" [.list (aq l),(.list (ps.map aF)),(.list (ns.map aB))]=hb (.list ((xc ps ns (cJ l 5)).map av)):=by
 have lp:(0:HI)<((ps.map aF).length:HG):=by rw[Hr];exact Jt.mpr hp
 have a5:=ha l 5 (by decide);generalize cJ l 5=x at a5⊢;obtain⟨o,i1⟩:=abQ hp x;rw[<-Hr aF]at i1;obtain⟨t,hu⟩:=qe H (rm hp x);have rv:=wc (l:=(up ps (gw ps x)).map aB) (f:=.d) (by exact Kn▸kz _);rw[<-Kn]at rv;unfold xc;have yG:0<(up ps (gw ps x)).reverse.length:=by(refine JG.symm▸?_;refine hu.symm▸?_);exact KW _
 have hau:(up ps (gw ps x)).reverse.length<=12:=by exact JG.symm▸vt H (gw ps x)
 generalize(up ps (gw ps x)).reverse=as at rv yG hau⊢;exact xF λt=>fX 0 a5<|fV 1 (jd (a:=x) lp)<|fX 0 (show ed (.list (ps.map aF)) (.int (x%((ps.map aF).length:HG)))=hb (aF (gw ps x,o))from i1)<|fL (cZ (gw ps x,o))<|fX 1 (ho ps (gw ps x) (Hs H.len (by decide)))<|fV 0 rv<|fI 3 (fZ (k:=2+x/12%2) (Mz (by decide) (Ic _ (by decide))) ((wG (a:=1) (b:=10000) _ (by decide) (by decide) (by decide)).2))<|
  fr (H0 (2+x/12%2).toNat) (p:=λj=>.int (j:HG)) (λ_=>rfl) (λ_ s=>Fv ns as x s) (λk s=>s=(jh ns as x k).map av) [] rfl (λj a h s r e=>zNe hau (by have:=(yx h).2;exact I0 this (DJ _ (by decide) (by decide))) hn yG r e) λs r=>t (.list s) (by(refine r.symm▸?_;exact Iy.symm▸rfl))
abbrev Look:=Hn Ho×Hn Ho
noncomputable def km(q:Look):Ho:=.tuple [.list q.1,.list q.2]
abbrev md(q:Look):Prop:=plain 60 (km q)
theorem aol(ha:md s6)(U:md yF):bV .Eq (km s6) (km yF)=hb (IX (km s6) (km yF)):=A6 ha U
def kW(seen:Hn Look)(dT:Look):Hn HG:=seen.zipIdx.filterMap λq=>bif IX (km q.1) (km dT)then hb q.2 else Hu
theorem ah0(seen:Hn Look):jW (seen.map km)=seen.zipIdx.map λq=>.tuple [.int (q.2:HG),km q.1]:=by unfold jW;(refine P8.symm▸Ii.symm▸?_);rfl
theorem afd(seen:Hn Look)(dT:Look):(seen.zipIdx.filterMap λq=>bif IX (km q.1) (km dT)then hb (IL (q.2:HG))else Hu)=(kW seen dT).map λ(k:HG)=>.int k:=by refine List.map_filterMap.symm▸HL (λf=>seen.zipIdx.filterMap f) (funext λq=>?_);cases IX (km q.1) (km dT)<;>rfl
variable{seen:Hn Look}
theorem ajd{dT:Look}(h:k∈kW seen dT):k<seen.length:=by
 refine aQ (Mq.mp h) λo1 h1 h2=>?_;obtain⟨a,i⟩:=o1;have:=(List.mem_zipIdx' h1).1;revert h2;cases IX (km a) (km dT)with
 |true=>intro e;exact(si e)▸this
 |false=>exactλe=>no e
theorem amM(l:Hn HG):bV .Eq (.list (l.map λ(k:HG)=>.int k)) (.list [])=hb l.isEmpty:=by
 cases l with
 |nil=>rfl
 |cons x l=>(refine(A6 (b7 (cV λy hy=>by refine aQ (HX.mp hy) λa o1 o2=>?_;subst o2;exact eT _) (by decide)) (b7 (cV (k:=1) λy hy=>(Ia hy).elim) (by decide))).trans ?_;dsimp only[HS,IX,KE]);rfl
inductive uL(c:JC)(seen:Hn Look)(dT:Look)(x:HI):Prop
 |mk (r:HI) (h:c.F "_law_back" [.list (seen.map km),km dT,.int x]=hb (.int r)) (h1: -1<=r) (h2:r<seen.length):uL c seen dT x
inductive zK(S:Hn HG)(x:HI)(n:HG)(r:HI):Prop
 |no (h:S=[]) (e:r= -1):zK S x n r
 |yes (h:0<S.length) (h1:0<=r) (h2:r<n) (e:ed (.list (S.map λ(k:HG)=>.int k)) (.int (x/10%(((S.map λ(k:HG)=>IL k).length:HG):HI)))=hb (.int r)):zK S x n r
theorem aoK{S:Hn HG}(h:∀k∈S,k<n)(x:HI):∃r,zK S x n r:=by
 by_cases e:S=[]
 ·exact vb (-1) (.no e rfl)
 ·have hl:=Pf.mpr e;have Ab:=Jt.mpr hl;obtain h2:=(Lz hl).mpr (H9 (x/10) Ab);refine vb (S[(x/10%(S.length:HG)).toNat]:HG) (.yes hl (H3 _) (Jj.mpr (h _ (KM h2))) ?_);rw[Hr];refine iT (Ic (x/10) (Kb Ab)) ?_;rw[Iz,HQ h2];rfl
abbrev zSm{dT:Look}(hs:∀q∈seen,md q)(hn:md dT)(z:Z):Z:=
 .lc _ seen.zipIdx (λq=>.tuple [.int (q.2:HG),km q.1]) _ (ah0 seen) (λq=>⟨.tuple [.int (q.2:HG),km q.1],.s⟩) (λ_=>rfl) (λq=>bif IX (km q.1) (km dT)then hb (IL (q.2:HG))else Hu) _ (afd seen dT) (λq h=>bB 0 (aol (hs _ (List.fst_mem_of_mem_zipIdx h)) hn) (λh=>.q _ (by refine h.symm▸?_;rfl:hb (IL (q.2:HG))=bif IX (km q.1) (km dT)then hb (IL (q.2:HG))else Hu)) λh=>.q _ (by refine h.symm▸?_;rfl:Hu=bif IX (km q.1) (km dT)then hb (IL (q.2:HG))else Hu)) z
theorem alo{dT:Look}(hs:∀q∈seen,md q)(hn:md dT)(x:HI):uL (gG (PP S0 A0) c b0) seen dT x:=by
 refine dA (aoK (S:=kW seen dT) (λk hk=>ajd hk) x) λr hr=>⟨r,?_,by rcases hr with⟨_,e⟩|⟨_,h,_,_⟩<;>lia -abstractProof,by rcases hr with⟨_,e⟩|⟨_,_,h,_⟩<;>lia -abstractProof⟩;have hy:kW seen dT≠[]->(0:HI)<(((kW seen dT).map λ(k:HG)=>IL k).length:HG)/\ed (.list ((kW seen dT).map λ(k:HG)=>.int k)) (.int (x/10%((((kW seen dT).map λ(k:HG)=>IL k).length:HG):HI)))=hb (.int r):=λh=>by
  rcases hr with⟨e,_⟩|⟨hl,_,_,hi⟩
  ·exact IG e h
  ·exact⟨by rw[Hr];exact Jt.mpr hl,hi⟩
 have hz:(kW seen dT).isEmpty=Hq->r= -1:=λh=>by
  rcases hr with⟨_,e⟩|⟨hl,_,_,_⟩
  ·exact e
  ·rw[IC.mp h]at hl;cases hl
 have nn:(kW seen dT).isEmpty=HH->kW seen dT≠[]:=λh e=>by rw[e]at h;cases h
 exact xF λt=>zSm hs hn<|fB 1 (amM (kW seen dT))<|.br (kW seen dT).isEmpty (λh=>t (.int (-1)) ((hz h)▸rfl)) λh=>fV 2 (jd (a:=x/10) (hy (nn h)).1)<|fX 0 (hy (nn h)).2<|t _ rfl
noncomputable def yy(o:Hn (Hn HG×HI)):HG->Hn (HI×HP)
 |0=>[]
 |j+1=>match o[j]?with
  |some p=>nL (yy o j) p.2 (S p.1)
  |none=>yy o j
theorem agc(B:Hn (HI×HP))(k:HI)(v:HP):(nL B k v).length<=B.length+1:=by
 unfold nL;cases B.any λp=>decide (p.1=k)with
 |true=>exact JZ (JY (Hr _))
 |false=>exact JY HN
theorem ahL(o:Hn (Hn HG×HI)):∀j,(yy o j).length<=j:=by
 intro j;induction j with
 |zero=>exact Io _
 |succ j this=>
  show(match o[j]?with|some p=>nL (yy o j) p.2 (S p.1)|none=>yy o j).length<=_;cases o[j]?with
  |none=>exact JZ this
  |some p=>exact Hs (agc _ _ _) (Jv this)
def Gw(st:eP)(n:Hn HG):Ho:=bif(st.held.lookup n).isSome then .str ((ry (yy st.bG st.bG.length) (eH st (bg st n))).getD "")else .none
def kT(st:eP)(ns:Hn (Hn HG)):Look:=((sL ((dg st).map S)).map .str,ns.map (Gw st))
theorem agr(st:eP)(n:Hn HG):plain 1 (Gw st n):=by
 unfold Gw;cases(st.held.lookup n).isSome with
 |true=>exact bT _
 |false=>exact aay
theorem adD(st:eP)(ns:Hn (Hn HG)):md (kT st ns):=by
 refine b7 (hY (k:=2) λx hx=>?_) (by decide);rcases Hw.mp hx with rfl|hx
 ·refine cV λy hy=>aQ (HX.mp hy) λs o1 o2=>?_;subst o2;exact bT s
 ·refine(HB.mp hx).symm▸cV λy hy=>aQ (HX.mp hy) λn o1 o2=>?_;subst o2;exact agr st n
theorem ael(l:Hn (Hn HG)):sx (l.map aB)=hb (l.map S):=by
 induction l with
 |nil=>exact rfl
 |cons n l bX=>show(hb (S n)).bind (λk=>(sx (l.map aB)).map (k::·))=_;refine bX.symm▸?_;rfl
theorem ahN{l:Hn (Hn HG)}(h:l.length<64):zC [⟨.list (l.map aB),.d⟩]=hb ⟨.list ((sL (l.map S)).map .str),.d⟩:=by
 show(sx (l.map aB)).bind _=_
 ((rw[ael];dsimp only[HT]);exact(H5 (by rw[Hr];exact h)))
def lkI(st:eP)(ns:Hn (Hn HG))(h:Hn (HI×HP)):En:=[("_law_state",sh (fG st)),("_law_names_here",sh (.list (ns.map aB))),("_law_up",D (.list ((dg st).map aB))),("_law_homes",.own (.lq h))]
theorem alz(B:Hn (HI×HP))(i:HI):yL ⟨oZ B,f⟩ ⟨.int i,.d⟩ ⟨.str "",.d⟩=hb ⟨.str ((ry B i).getD ""),.d⟩:=by show(xV (oZ B)).bind _=_;rw[acd];show hb (match ry B i with|some x=>(⟨.str x,.d⟩:V)|none=>⟨.str "",.d⟩)=_;cases ry B i<;>rfl
theorem agx(hh:∀u4,eX st u4)(h:(st.held.lookup u4).isSome=Hq):dS st u4:=by obtain⟨i,e⟩:=IV.mp h;exact i12 i e (hh u4 i e)
theorem akU(hl:st.bG.length<64){p:Hn HG×HI}(hp:st.bG[j]? =hb p){h:Hn (HI×HP)}(r:h=yy st.bG j):h.length<10000:=by have:=ahL st.bG j;have:=(H2.mp hp).1;exact r.symm▸M6 (M6 (HC ‹_› this) hl) (by decide)
variable{o:Hn (Hn HG×HI)}
theorem aiT{p:Hn HG×HI}(hp:o[j]? =hb p)(r:hZq=yy o j):nL hZq p.2 (S p.1)=yy o (j+1):=by show _=match o[j]?with|some p=>nL (yy o j) p.2 (S p.1)|none=>yy o j;rw[hp,r]
def DA(st:eP)(h:Hn (HI×HP))(n:Hn HG):Ho:=bif(st.held.lookup n).isSome then .str ((ry h (eH st (bg st n))).getD "")else .none
theorem alv(st:eP)(ns:Hn (Hn HG))(hh:∀n,eX st n)(hl:st.bG.length<64):(gG (PP S0 A0) c b0).F "_law_look_of" [fG st,(.list (ns.map aB))]=hb (km (kT st ns)):=
 xF λt=>lN fw (adH st.bG)<|fr st.bG fw (λ_ h=>lkI st ns h) (λj h=>h=yy st.bG j) [] rfl (λj p hp h r e=>fC 0 (akU hl hp r)<|e (lkI st ns (nL h p.2 (S p.1))) ⟨_,aiT hp r,rfl⟩) λh r=>vL _ ns aB (λ_=>rfl) (λn=>hb (DA st h n)) _ (Kx Je _) (λn _=>bB 0 (og n st.held) (λg=>fX 1 (agx hh g).get.1<|fX 0 (agx hh g).get.2<|fV 1 (alz (f:=.s) h (eH st (bg st n)))<|.q _ (by unfold DA;refine g.symm▸?_;rfl:hb (JF ((ry h (eH st (bg st n))).getD ""))=hb (DA st h n))) λg=>.q _ (by unfold DA;refine g.symm▸?_;rfl:hb OI=hb (DA st h n)))<|fV 0 (ahN (l:=dg st) (by unfold dg;rw[Hr];exact hl))<|t (km ((sL ((dg st).map S)).map .str,ns.map (DA st h))) (by refine(show h=_ from r).symm▸?_;rfl)
def aij(c:JC):Prop:=∀(st:eP)(ns:Hn (Hn HG)),(∀n,eX st n)->st.bG.length<64->c.F "_law_look_of" [fG st,(.list (ns.map aB))]=hb (km (kT st ns))
def aiB(c:JC):Prop:=∀(seen:Hn Look)(dT:Look)(x:HI),(∀q∈seen,md q)->md dT->uL c seen dT x
def adp(c:JC):Prop:=∀(x:HI)(ps:aP)(ns:Hn (Hn HG))(st:eP),aZ ps->0<ps.length->0<ns.length->(∀n∈ns,bW n)->(∀n,eX st n)->(∀p∈dg st,p∈ps.map (·.1))->∃r,c.F "_law_next" [.int x,(.list (ps.map aF)),(.list (ns.map aB)),fG st]=hb (av r)/\uO ps st r
def tq(c:JC):Prop:=∀(ps:aP)(st:eP)(r:Row),ps.length<=900->uC st->wU st r->c.M "_law_deed" [(.list (ps.map aF)),fG st,av r]=hb (fG (d7 ps st r))
structure w0(c:JC):Prop where
 look:aij c
 back:aiB c
 next:adp c
 Bf:tq c
theorem sN(a b:HI):bV .Eq (.int a) (.int b)=hb (decide (a=b)):=by(refine(A6 (b7 (eT a) (by decide)) (b7 (eT b) (by decide))).trans ?_;dsimp only[IX]);rfl
theorem adB{l:Hn Ho}{a:Ho}:ed (.list (l++[a])) (.int (-1))=hb a:=by show e7 (l++[a]) (-1)=hb a;(refine iF (by decide) ?_;rw[H5 (by rw[HN];show-((l.length+1:HG):HI)<= -1;exact Rat.intCast_le_intCast.mp rfl),HN]);(refine(show(-1+((l.length+1:HG):HI)).toNat=l.length by lia -abstractProof).symm▸?_;exact List.getElem?_concat_length)
structure x6(ps:aP)(j:HG)(rs:Hn Row)(seen:Hn Look)(st:eP):Prop where
 inv:Inv ps j st
 len:seen.length=rs.length
 cnt:rs.length+st.bG.length<=2*j
 lk:∀q∈seen,md q
 ok:∀r∈rs,c0 ps rs.length r
theorem x6.room(h:x6 ps j rs seen st)(hj:j<=100):uC st:=by have:=h.inv.gv;exact⟨HC (Hs (Hs (Jl _ _) this) hj) (by decide),HC h.inv.held (HC hj (by decide)),HC h.inv.aC (HC hj (by decide)),HC h.inv.told (HC hj (by decide)),HC (Hs this hj) (by decide)⟩
def Go(ps:aP)(ns:Hn (Hn HG))(rs seen:Hn Ho)(st:eP):En:=[("_law_plots_here",sh (.list (ps.map aF))),("_law_names_here",sh (.list (ns.map aB))),("_law_rows",.own (.lst rs)),("_law_seen",.own (.lst seen)),("_law_state",.own (.tree Hu (fG st)))]
abbrev CS:=Hn Row×Hn Look×eP
def Dt(ps:aP)(ns:Hn (Hn HG))(s:CS):En:=Go ps ns (s.1.map av) (s.2.1.map km) s.2.2
theorem nQ{ts:Hn Row}(h:∀r∈rs,c0 ps rs.length r)(h':∀r∈ts,c0 ps ((rs.length+ts.length:HG):HI) r):∀r∈rs++ts,c0 ps ((rs++ts).length:HG) r:=by
 refine HN.symm▸?_;intro r hr;rcases HD.mp hr with hr|hr
 ·exact(h r hr).more (Int.le.intro _ rfl)
 ·exact h' r hr
variable{q:Look}
theorem qg(h:∀q∈seen,md q)(hq:md q):∀p∈seen++[q],md p:=λp hp=>(HD.mp hp).elim (h p) λhp=>HB.mp hp▸hq
theorem afZ(ps:aP)(st:eP)(r:Row):(d7 ps st r).bG.length<=st.bG.length+1:=by
 cases r with
 |op p=>exact JY HN
 |give p=>exact JZ (KY _ _)
 |_=>exact J1 _
theorem anj(aH:x6 ps j rs seen st)(hq:md q){t:HI}(ht:0<=t/\t<=(rs.length:HI)+2):x6 ps (j+1) (rs++[.fork (((rs.map av).length:HG)+2),.go t]) ((seen++[q])++[q]) st:=by
 have:=aH.cnt;refine⟨aH.inv.mono (J1 j),by(refine HN.symm▸?_;refine HN.symm▸HN.symm▸aH.len.symm▸?_);rfl,by exact HN.symm▸Hs (JY (LD _ 2 _)) (Im this 2),qg (qg aH.lk hq) hq,nQ aH.ok λr hr=>?_⟩;rcases Hw.mp hr with rfl|hr
 ·rw[Hr];exact⟨H3 (_+2),LH _⟩
 ·exact(HB.mp hr).symm▸And.comm.mp (id (And.symm ht))
theorem ap0(aH:x6 ps j rs seen st)(hq:md q){t:HI}(ht:0<=t/\t<=(rs.length:HI)+1):x6 ps (j+1) (rs++[.fork t]) (seen++[q]) st:=by have:=aH.cnt;refine⟨aH.inv.mono (J1 j),by(refine HN.trans ?_;(refine HN.symm▸aH.len.symm▸?_));rfl,by exact HN.symm▸Hs (JY (LA _ _)) (JZ (Jv this)),qg aH.lk hq,nQ aH.ok λr hr=>?_⟩;exact(HB.mp hr).symm▸And.comm.mp (id (And.symm ht))
theorem cr2{a b:Row}{p:Look}:Dt ps ns (rs++[a,b],(seen++[p])++[q],st)=Go ps ns ((rs.map av++[av a])++[av b]) ((seen.map km++[km p])++[km q]) st:=by unfold Dt;(refine HJ.symm▸?_;rw[HJ,HJ,I6 (as:=rs.map av)]);rfl
theorem cr1{a:Row}:Dt ps ns (rs++[a],seen++[q],st)=Go ps ns (rs.map av++[av a]) (seen.map km++[km q]) st:=by unfold Dt;(refine HJ.symm▸HJ.symm▸?_);rfl
theorem uL.ex{dT:Look}(h:uL c seen dT x):∃r,c.F "_law_back" [.list (seen.map km),km dT,.int x]=hb (.int r)/\ -1<=r/\r<seen.length:=by obtain⟨r,h,h1,h2⟩:=h;exact rL r h h1 h2
theorem apI(aH:x6 ps j rs seen st)(hq:md q){w:Row}(hx:uO ps st w):x6 ps (j+1) (rs++[w]) (seen++[q]) (d7 ps st w):=by refine⟨qK aH.inv (lz aH.inv hx.wr) λp e=>by have:=hx.ok;rw[e]at this;exact this,by(refine HN.trans ?_;(refine HN.symm▸aH.len.symm▸?_));rfl,?_,qg aH.lk hq,nQ aH.ok λr hr=>by exact(HB.mp hr).symm▸hx.ok.any hx.mv⟩;have:=afZ ps st w;have:=aH.cnt;exact HN.symm▸l17 ‹_› this
variable{a b:HI}{q:Ig}
theorem As(h:decide (a>b)=q):bV .Gt (.int a) (.int b)=hb q:=HL hb h
theorem F2(h:decide (a<b)=q):bV .Lt (.int a) (.int b)=hb q:=HL hb h
theorem F8(h:decide (a<0)=q):bV .GtE (.int a) (.int 0)=hb (!q):=by
 subst h;refine HL hb ?_;by_cases g:a<0
 ·exact(Ip g).symm▸Iw (Mx.mpr g)
 ·exact(Iw g).symm▸Ip (Kq.mp g)
theorem Bi(h:decide (a=b)=q):bV .Eq (.int a) (.int b)=hb q:=h▸sN a b
section
variable{r:HI}{w:Row}(la:x6 ps j rs seen st)(gq:j<60)
include la gq
theorem Fx:(rs.map av).length<10000:=by rw[Hr];have:=la.cnt;exact NV (zD gq this)
theorem cl2(a:Ho):(rs.map av++[a]).length<10000:=by rw[HN,Hr];have:=la.cnt;exact zD gq this
theorem Fw:(seen.map km).length<10000:=by rw[Hr,la.len];have:=la.cnt;exact NV (zD gq this)
theorem cl4(a:Ho):(seen.map km++[a]).length<10000:=by rw[HN,Hr,la.len];have:=la.cnt;exact zD gq this
def zCt(H:w0 c)(P:aZ ps)(hr: -1<=r/\r<seen.length)(hw:c.F "_law_next" [.int x,(.list (ps.map aF)),(.list (ns.map aB)),fG st]=hb (av w))(hx:uO ps st w)(e:(l:En)->(∃y:CS,x6 ps (j+1) y.1 y.2.1 y.2.2/\Dt ps ns y=l)->Z):Z:=
 have lk:=adD st ns;have hl:=la.len
 .cs (decide (x%10>7)) (λhA=>.cs (decide (r<0))
  (λhB=>fB 2 (As hA)<|fB 1 (F2 hB)<|fC 0 (Fw la gq)<|fC 3 (Fx la gq)<|fC 0 (cl4 la gq (km (kT st ns)))<|fB 2 (As hA)<|fB 0 (F8 hB)<|fB 1 (As hA)<|fC 3 (cl2 la gq (av (.fork (((rs.map av).length:HG)+2))))<|e _ ⟨(rs++[.fork (((rs.map av).length:HG)+2),.go ((((rs.map av)++[av (.fork (((rs.map av).length:HG)+2))]).length:HG)+1)],(seen++[kT st ns])++[kT st ns],st),anj la lk ⟨H3 (_+1),by refine HN.symm▸?_;rw[Hr];exact LH _⟩,cr2⟩)
  λhB=>.cs (decide (x/10%3=1))
   (λhC=>fB 2 (As hA)<|fB 1 (F2 hB)<|fB 2 (Bi hC)<|fC 0 (Fw la gq)<|fC 3 (Fx la gq)<|fC 0 (cl4 la gq (km (kT st ns)))<|fB 2 (As hA)<|fB 0 (F8 hB)<|fB 3 (Bi hC)<|fC 3 (cl2 la gq (av (.fork (((rs.map av).length:HG)+2))))<|e _ ⟨(rs++[.fork (((rs.map av).length:HG)+2),.go r],(seen++[kT st ns])++[kT st ns],st),anj la lk ⟨Kq.mp (Ji hB),HY (IZ (hl▸hr.2)) (Kp (by decide))⟩,cr2⟩)
   λhC=>fB 2 (As hA)<|fB 1 (F2 hB)<|fB 2 (Bi hC)<|fC 0 (Fw la gq)<|fB 2 (As hA)<|fB 0 (F8 hB)<|fB 3 (Bi hC)<|fC 3 (Fx la gq)<|e _ ⟨(rs++[.fork r],seen++[kT st ns],st),ap0 la lk ⟨Kq.mp (Ji hB),HY (IZ (hl▸hr.2)) (Kp (by decide))⟩,cr1⟩)
 λhA=>fB 2 (As hA)<|fC 0 (Fw la gq)<|fB 2 (As hA)<|fB 1 (As hA)<|fX 0 hw<|fC 0 (Fx la gq)<|fX 0 (adB (l:=rs.map av) (a:=av w))<|fL (fk w)<|fC 0 (fk w)<|fX 0 (H.Bf ps st w (Hs P.len (by decide)) (la.room (LS (Hs gq (by decide)))) (lz la.inv hx.wr))<|e _ ⟨(rs++[w],seen++[kT st ns],d7 ps st w),apI la lk hx,cr1⟩
end
structure x9(ps:aP)(m j:HG)(rs:Hn Row)(st:eP):Prop where
 inv:Inv ps j st
 cnt:rs.length+st.bG.length<=2*m
 all:j+st.bG.length<=200
 ok:∀r∈rs,c0 ps rs.length r
def cwX(ps:aP)(rs:Hn Ho)(st:eP):En:=[("_law_plots_here",sh (.list (ps.map aF))),("_law_rows",.own (.lst rs)),("_law_state",.own (.tree Hu (fG st)))]
theorem amr(l:Hn (Hn HG×HI)):bV .NotEq (.list (l.map dm)) (.list [])=hb (!l.isEmpty):=by
 cases l with
 |nil=>rfl
 |cons x l=>(refine(AN (b7 (cV λy hy=>by refine aQ (HX.mp hy) λa o1 o2=>?_;subst o2;exact aaw _) (by decide)) (b7 (cV (k:=1) λy hy=>(Ia hy).elim) (by decide))).trans ?_;dsimp only[HS,IX,KE]);rfl
noncomputable def wO(st:eP):Hn HG×HI:=st.bG.headD ([],0)
section
variable(la:x9 ps m j rs st)(By:(!st.bG.isEmpty)=Hq)
include By
theorem an3:ed (.list (st.bG.map dm)) (.int 0)=hb (dm (wO st)):=by
 unfold wO;revert By;cases st.bG with
 |nil=>exactλh=>nomatch h
 |cons p t=>exactλ_=>rfl
include la
theorem x9.give(P:aZ ps):x9 ps m (j+1) (rs++[.give (wO st).1]) (d7 ps st (.give (wO st).1))/\(d7 ps st (.give (wO st).1)).bG.length<st.bG.length:=by
 obtain⟨p,t,e⟩:∃p t,st.bG=p::t:=by
  revert By;cases st.bG with
  |nil=>exactλh=>nomatch h
  |cons p t=>exactλ_=>⟨p,t,rfl⟩
 obtain eh:wO st=p:=by unfold wO;refine e.symm▸?_;rfl
 refine eh.symm▸?_;have nc:=la.inv.up p.1 (Nn (by exact e.symm▸.head _));obtain⟨u,hu⟩:=qe P nc;obtain hl:(d7 ps st (.give p.1)).bG.length<st.bG.length:=by show(st.bG.filter λq=> !dC ps p.1 q).length<_;refine e.symm▸JN.symm▸(show dC ps p.1 p=Hq from Ip (by exact hu.symm▸.head _)).symm▸?_;exact K6 (KY _ t)
 have:=la.cnt;have:=la.all;exact⟨⟨qK la.inv trivial (λ_ q=>Row.noConfusion q),by exact HN.symm▸Hs (Hs (JY (LA _ _)) (Ij hl _)) ‹_›,Hs (Hs (JY (LA _ _)) (Ij hl _)) this,nQ la.ok λr hr=>by exact(HB.mp hr).symm▸nc⟩,hl⟩
omit By in
theorem x9.room:uC st:=by have:=la.inv.gv;have:=la.all;exact⟨HC (Hs (Jl _ _) this) (by decide),HC la.inv.held (HC (Hs (Ib _ _) this) (by decide)),HC la.inv.aC (HC (Hs (Ib _ _) this) (by decide)),HC la.inv.told (HC (Hs (Ib _ _) this) (by decide)),HC (Hs ‹_› (Hs (Ib _ _) this)) (by decide)⟩
end
inductive lQ(c:JC)(B:Hn HI)(ps:aP)(ns:Hn (Hn HG)):Prop
 |mk (rs:Hn Row) (h:c.F "_law_careful" [.list (aq B),(.list (ps.map aF)),(.list (ns.map aB))]=hb (.list (rs.map av))) (h1:rs.length<=2*B.length) (h2:∀r∈rs,c0 ps rs.length r):lQ c B ps ns
def zCw(R:m<60)(H:w0 c)(P:aZ ps)(aH:x9 ps m m rs st)(e:(y:Ho)->(∃rs:Hn Row,y=.list (rs.map av)/\rs.length<=2*m/\∀r∈rs,c0 ps rs.length r)->Z):Z:=
 wh (λs:Hn Row×eP×HG=>cwX ps (s.1.map av) s.2.1) (λs=>x9 ps m s.2.2 s.1 s.2.1) (λs=>s.2.1.bG.length) (rs,st,m) aH (by have:=aH.all;exact HC (Hs (Jl _ _) this) (by decide)) λs r t=>bB 2 (amr s.2.1.bG)
  (λho=>fX 1 (an3 ho)<|fL (fw (wO s.2.1))<|fC 2 (show(s.1.map av).length<10000 by rw[Hr];have:=r.cnt;exact NV (zD R this))<|fX 0 (adB (l:=s.1.map av) (a:=av (.give (wO s.2.1).1)))<|fX 1 (H.Bf ps s.2.1 (.give (wO s.2.1).1) (Hs P.len (by decide)) r.room trivial)<|t (cwX ps (s.1.map av++[av (.give (wO s.2.1).1)]) (d7 ps s.2.1 (.give (wO s.2.1).1))) ⟨(s.1++[.give (wO s.2.1).1],d7 ps s.2.1 (.give (wO s.2.1).1),s.2.2+1),(r.give ho P).1,(r.give ho P).2,by refine HJ.symm▸?_;rfl⟩)
  λ_=>e (.list (s.1.map av)) ⟨s.1,rfl,by have:=r.cnt;exact Nat.le_of_add_right_le this,r.ok⟩
theorem aed(H:w0 c)(hf:c.T "_law_fresh"=hb (fG vz))(B:Hn HI)(hx:B.length<60)(P:aZ ps)(hp:0<ps.length)(hn:0<ns.length)(l7:∀n∈ns,bW n):lQ (gG (PP S0 A0) c b0) B ps ns:=by
 have bk {j:HG} {s:CS} (r:x6 ps j s.1 s.2.1 s.2.2) (x:HI):=(H.back s.2.1 (kT s.2.2 ns) x r.lk (adD s.2.2 ns)).ex;have nx {j:HG} {s:CS} (r:x6 ps j s.1 s.2.1 s.2.2) (x:HI):=H.next x ps ns s.2.2 P hp hn l7 r.inv.js r.inv.up;have lt {j:HG} {x:HI} (h:B[j]? =hb x):j<B.length:=(H2.mp h).1;obtain hE:∃y,(gG (PP S0 A0) c b0).F "_law_careful" [.list (aq B),(.list (ps.map aF)),(.list (ns.map aB))]=hb y/\∃rs:Hn Row,y=.list (rs.map av)/\rs.length<=2*B.length/\∀r∈rs,c0 ps rs.length r:=by exact xE λe=>fX 0 hf<|fr B (p:=IL) (λ_=>rfl) (λ_ s=>Dt ps ns s) (λj (s:CS)=>x6 ps j s.1 s.2.1 s.2.2) ([],[],vz) ⟨zJ ps,rfl,Io _,(λ_ h=>nomatch h),(λ_ h=>nomatch h)⟩ (λj x h s r e=>fX 0 (H.look s.2.2 ns r.inv.js (by have:=r.inv.gv;have:=lt h;exact M6 (HC (Hs (Jl _ _) ‹_›) (M6 this hx)) (by decide)))<|fX 0 (bk r x).choose_spec.1<|zCt r (by have:=lt h;exact M6 this hx) H P (bk r x).choose_spec.2 (nx r x).choose_spec.1 (nx r x).choose_spec.2 e) λs r=>zCw hx H P ⟨r.inv,r.cnt,by have:=r.cnt;exact Hs (Js (IK hx) (Hs (Hs (Jl _ _) this) (Kj 2 (IK hx)))) (by decide),r.ok⟩ e
 obtain⟨y,h,rs,rfl,h1,h2⟩:=hE;exact⟨rs,h,h1,h2⟩
structure fF(ps:aP)(rs:Hn Row):Prop where
 len:rs.length<=60
 ok:∀r∈rs,c0 ps rs.length r
theorem tG{l:Hn α}{i:HG}{d:α}{P:α->Prop}(h:∀a∈l,P a)(hd:P d):P ((l[i]?).getD d):=by
 cases e:l[i]?with
 |none=>exact hd
 |some a=>exact h a (Il e)
theorem all1{P:α->Prop}{a:α}{l:Hn α}(h:P a)(t:∀x∈l,P x):∀x∈a::l,P x:=λx hx=>(Hw.mp hx).elim (λe=>e▸h) (t x)
theorem pR{P:α->Prop}:∀x∈([]:Hn α),P x:=λ_ h=>nomatch h
theorem all2{P:α->Prop}{l m:Hn α}(h:∀x∈l,P x)(t:∀x∈m,P x):∀x∈l++m,P x:=λx hx=>(HD.mp hx).elim (h x) (t x)
theorem r6{P:β->Prop}{f:α->β}{l:Hn α}(h:∀a∈l,P (f a)):∀x∈l.map f,P x:=λx hx=>by
 refine aQ (HX.mp hx) λa ha o1=>?_;subst o1;exact h a ha
theorem ahs(l:Hn HI)(hn:0<ns.length)(l7:∀n∈ns,bW n):fF [] ((eL l).map (jO ns (eL l).length)):=by
 refine⟨by rw[Hr];exact K3 (nM l),r6 λx _=>?_⟩;rw[Hr];obtain k:=λi=>l7 _ (iZ hn i);obtain e:0<=cQ x/1013%(((eL l).length:HI)+1)/\cQ x/1013%(((eL l).length:HI)+1)<=((eL l).length:HI):=by obtain h1:=Ic (cQ x/1013) (show((eL l).length:HI)+1≠0 by exact K9 (Nk rfl));obtain h2:=H9 (cQ x/1013) (show 0<((eL l).length:HI)+1 by exact LG _);exact⟨h1,KF h2⟩
 exact tG (all1 (k _) (all1 ⟨k _,k _⟩ (all1 ⟨k _,k _⟩ (all1 e (all1 e (all1 trivial pR)))))) trivial
theorem alN(hn:0<ns.length)(l7:∀n∈ns,bW n)(hp:p∈ps.map (·.1))(x:HI):fF ps (y9 ns x p):=by
 have k:=λi=>l7 _ (iZ hn i);obtain hB:(amT ns x p).length=(mZ ns x p (x/3%4).toNat).length+4:=by(refine HN.trans<|HN.symm▸?_);rfl
 obtain hS:(y9 ns x p).length=(mZ ns x p (x/3%4).toNat).length+6:=by(refine HN.trans<|hB.symm▸?_);rfl
 refine⟨by(refine hS.symm▸?_;refine(nS ns x p (x/3%4).toNat).symm▸?_);exact Hs (Im (DF (n:=3) _ (by decide) (by decide)) 7) (by decide),?_⟩;refine hS.symm▸?_;obtain R:((mZ ns x p (x/3%4).toNat++[Row.lay (dv ns x) p 5]).map av).length=(mZ ns x p (x/3%4).toNat).length+1:=by(rw[Hr];refine HN.trans ?_);rfl
 obtain lay:∀i:HI,-1000000000000000000<=i->i<=1000000000000000000->∀n,bW n->c0 ps (((mZ ns x p (x/3%4).toNat).length+6:HG):HI) (.lay n p i):=λi h1 h2 n hn=>⟨hn,hp,h1,h2⟩;refine all2 (all2 (all2 (all1 hp (r6 λj hj=>?_)) (all1 (lay 5 (by decide) (by decide) _ (k _)) pR)) (all1 ?_ (all1 hp (all1 ?_ pR)))) (all1 (tG (all1 (k _) (all1 (lay 1 (by decide) (by decide) _ (k _)) (all1 ⟨k _,k _⟩ (all1 ⟨k _,k _,hp⟩ (all1 trivial (all1 hp pR)))))) trivial) (all1 hp pR))
 ·have:=JK.mp hj;exact lay j (MM 1000000000000000000 _) (HY (I4.mpr (IK (I0 this (DF _ (n:=3) (by decide) (by decide))))) (by decide)) _ (k _)
 ·exact R.symm▸⟨H3 (_+4),I4.mpr (Ij (by decide:4<=6) _)⟩
 ·exact R.symm▸⟨H3 (_+1),I4.mpr (Ij (by decide:1<=6) _)⟩
theorem afj(l:Hn HI)(hz:bW [122,122]):fF ps (qC l):=by
 have R:12<=d5 l/\d5 l<=51:=by exact wG _ (by decide) (by decide) (by decide)
 obtain hl:(qC l).length=(d5 l).toNat+3:=by(refine HN.trans ?_;rw[Hr,Iy]);rfl
 refine⟨by exact hl.symm▸Im (DM R (by decide)) 3,?_⟩;refine hl.symm▸all2 (r6 λj hj=>?_) (all1 ?_ (all1 trivial (all1 ?_ pR)))
 ·have:=JK.mp hj;exact⟨H3 (_+1),I4.mpr (Hs this (Ib _ 3))⟩
 ·exact⟨Mz (HY (by decide) R.1) (by decide),tn3 (by decide) R (by decide)⟩
 ·unfold qN;cases cJ l 4/2%3==1 with
  |true=>show 0<=_/\_<=_;exact⟨Mz (HY (by decide) R.1) (by decide),tn3 (by decide) R (by decide)⟩
  |false=>exact hz
theorem aix(hn:0<ns.length)(l7:∀n∈ns,bW n)(ha:0<as.length)(hp:∀p∈as,p∈ps.map (·.1))(x size:HI):∀r∈sV ns as x,c0 ps size r:=by
 obtain k:=λi=>l7 _ (iZ hn i);have q:=λi=>hp _ (iZ ha i);obtain h0:as.headD []∈ps.map (·.1):=by
  cases as with
  |nil=>cases ha
  |cons a t=>exact hp a (.head _)
 refine all2 (all2 (r6 λp h=>hp p h) (r6 λj hj=>?_)) (all1 h0 pR);have:=JK.mp hj;exact zz (k _) (q _) (MM 1000000000000000000 _) (HY (I4.mpr (IK (I0 this (DJ _ (n:=3) (by decide) (by decide))))) (by decide))
theorem acr(hn:0<ns.length)(l7:∀n∈ns,bW n)(ha:0<as.length)(hp:∀p∈as,p∈ps.map (·.1))(x size:HI):∀j,∀r∈jh ns as x j,c0 ps size r
 |0=>pR
 |j+1=>all2 (acr hn l7 ha hp x size j) (aix hn l7 ha hp x size)
theorem aii(H:aZ ps)(h0:0<ps.length)(hn:0<ns.length)(l7:∀n∈ns,bW n)(x:HI):fF ps (xc ps ns x):=by
 refine dA (qe H (rm h0 x)) λt hu=>?_;obtain ha:0<(up ps (gw ps x)).reverse.length:=by(refine JG.symm▸?_;refine hu.symm▸?_);exact KW _
 refine⟨?_,acr hn l7 ha (λp h=>anK (MP.mp h)) x _ _⟩;have:=nr (ns:=ns) (as:=(up ps (gw ps x)).reverse) x (by exact JG.symm▸(vt H (gw ps x))) (2+x/12%2).toNat;exact Hs this (Hs (Kj 16 (DJ (n:=3) _ (by decide) (by decide))) (by decide))
theorem rx(c k:HI)(n:HG):(eQ c k n).length=(fO c k n).toNat:=by unfold eQ;(rw[Hr];exact Iy)
theorem aaG(a:HG)(t s:Hn α):(t.take a++s++t.drop a).length=t.length+s.length:=by(refine HN.trans ?_;rw[HN,LD,<-HN,L0])
theorem aaQ(x k:HI)(h1:1<=rP.length)(h2:rP.length<=8)(hs:∀a∈rP,97<=a/\a<=122):bW (eK x k rP):=by have hl:(eK x k rP).length=(fO x k rP.length).toNat+rP.length:=(aaG _ _ _).trans (by rw[rx]);have ht:∀a∈eQ x k rP.length,97<=a/\a<=122:=r6 λj _=>⟨Ib _ _,Ij (LS ((Lk (Ic _ (by decide))).mpr (H9 _ (by decide)))) 97⟩;have hz:(fO x k rP.length).toNat+rP.length<=8:=LS (Nat.add_lt_of_lt_sub ((Lk (nW x k h2).1).mpr (QD (JZ h2)▸H9 _ (LU (Jj.mpr (K6 h2))))));refine⟨by rw[hl];exact Hs h1 (Jl _ _),by exact hl.symm▸hz,?_⟩;exact all2 (all2 (λa ha=>ht a (Kc ha)) hs) λa ha=>ht a (Lc ha)
theorem adf{c k k':HI}(hl:rP.length=s'.length)(h:eK c k rP=eK c k' s'):rP=s':=by
 unfold eK at h;cases hc:c%2==0 with
 |true=>
  have e:∀j,gM c j=c:=λj=>by unfold gM;rw[aw hc,Int.mul_zero,Q0]
  have e1:∀j n,fO c j n=c/26%(9-n):=λj n=>by unfold fO;rw[e]
  obtain e2:∀j n,eQ c j n=eQ c 0 n:=λj n=>by unfold eQ;rw[e1,e1,e,e]
  have e3:∀j n,lI c j n=lI c 0 n:=λj n=>by unfold lI;rw[e1,e1]
  rw[e2 k,e2 k',e3 k,e3 k',<-hl]at h;exact List.append_cancel_left (List.append_cancel_right h)
 |false=>
  have e3:∀j n,lI c j n=fO c j n:=λj n=>by unfold lI;refine hc.symm▸?_;rfl
  have e4:∀j n,(eQ c j n).take (lI c j n).toNat=eQ c j n:=λj n=>by(rw[e3,<-rx];exact JD)
  have e5:∀j n,(eQ c j n).drop (lI c j n).toNat=[]:=λj n=>by(rw[e3,<-rx];exact KN)
  rw[e4,e4,e5,e5,IA,IA]at h;exact(List.append_inj' h hl).2
theorem aiG(l:Hn HI)(h:k<12):bW (lu l k):=aaQ _ _ (by show 1<=1;decide) (by show 1<=8;decide) (all1 (⟨Ib _ _,Hs (Ij (IK h) 97) (by decide)⟩) pR)
theorem afk{l:Hn HI}{i:HG}(h:lu l i=lu l j):i=j:=by obtain h2:[97+i]=[97+j]:=adf (c:=cJ l 1/3) (k:=i) (k':=j) rfl h;have:=(IP h2).1;exact Pj this
theorem aba(l:Hn HI):(d9 l).map (·.1)=(H0 (mD l).toNat).map (lu l):=by refine Ii.trans ?_;rfl
theorem agZ(l:Hn HI):aZ (d9 l):=by
 obtain R:=adn l;refine⟨?_,λA fq n q e=>?_,by unfold d9;rw[Hr,Iy];exact JE.mpr R.2,?_⟩
 ·rw[aba,Q4,Pw];exact Q1 (λh e=>h (afk e)) List.nodup_range
 ·obtain hk:(d9 l)[A.length]? =hb (n,hb q):=by(refine e.symm▸?_;(refine(Ld (Io _)).trans ?_;rw[OT]));rfl
  unfold d9 at hk;rw[Iz]at hk;refine aQ (H6.mp hk) λk hk1 CX=>?_;clear R;obtain⟨kl,rfl⟩:A.length<(mD l).toNat/\A.length=k:=by refine dA (H2.mp hk1) λh e=>?_;rw[Iy]at h;rw[Ps]at e;exact⟨h,e⟩
  obtain ho:mP l A.length=hb q:=HL NF CX;obtain hA:A.map (·.1)=(H0 A.length).map (lu l):=by obtain h:=HL (λz=>(z.map (·.1)).take A.length) e;rw[show((A++(n,hb q)::fq).map (·.1)).take A.length=A.map (·.1) by rw[HJ,<-Hr (·.1),List.take_left'];rw[Hr]]at h;refine h▸?_;rw[aba];exact Lw▸List.take_range.symm▸(Jk (IK kl)).symm▸rfl
  unfold mP at ho;clear kl CX hk1 e fq;cases hp:decide (mF l A.length<A.length)with
  |false=>rw[hp]at ho;exact no ho
  |true=>rw[hp]at ho;refine hA.symm▸(si ho)▸?_;obtain h1:=IW hp;obtain h0:=(ado l A.length).1;exact Nn (JK.mpr (Jj.mp ((Lu h0).symm▸h1)))
 ·exact r6 λk hk=>aiG l (by have:=JK.mp hk;exact DC R this (by decide))
theorem qh(x:HI)(k:HI)(h:j<78):bW (eK x k (nU j)):=aaQ _ _ (by show 1<=2;decide) (by show 2<=8;decide) (all1 (⟨Ib _ _,Ij (Hs (IK (Pd h:_/26<3)) (by decide:3<=25)) 97⟩) (all1 (⟨Nat.le_sub_of_add_le (Ij (LS (Ru _ (by decide))) 97),M1 _ _⟩) pR))
theorem ahh(l:Hn HI)(H:aZ ps):∀n∈jM l ps,bW n:=by
 unfold jM;cases cJ l 2/5%4==1 with
 |true=>intro n hn;refine aQ (HX.mp (Kc hn)) λp hp o1=>?_;subst o1;exact H.nm p hp
 |false=>exact r6 λk hk=>qh _ _ (by have:=JK.mp hk;exact DC (abM l) this (by decide))
theorem ahI(l:Hn HI)(hp:p∈ps.map (·.1)):fF ps (kq l p++[Row.tell (lA l),Row.give p]):=by
 obtain R:=abN l;obtain hl:(kq l p).length=(dH l).toNat+1:=by(refine Ju.trans ?_;rw[Hr,Iy])
 refine⟨by(refine HN.symm▸?_;refine hl.symm▸?_);exact Im (DM (n:=57) R (by decide)) 3,all2 (all1 hp (r6 λk hk=>?_)) (all1 ?_ (all1 hp pR))⟩
 ·have:=JK.mp hk;exact zz (qh _ _ (DC R this (by decide))) hp (MM 1000000000000000000 _) (HY (I4.mpr (IK (DC (n:=55) R this (by decide)))) (by decide))
 ·unfold lA;obtain q:=H9 (cJ l 4/216) (show 0<dH l by exact IJ (by decide) R.1);cases cJ l 4/72%3==1 with
  |true=>exact qh _ _ ((Lz (by decide)).mpr (IJ q (HY R.2 (by decide))))
  |false=>exact qh _ _ (HC (DM (n:=55) R (by decide)) (by decide))
theorem aiR(f:α->β)(a b:Hp HI)(B ys:Hn α):pY a b (B.map f) (ys.map f)=(pY a b B ys).map f:=by unfold pY;rw[Hr,HJ,HJ,Lw,L8]
theorem al3(k n:HG):Jr (hb (k:HI)) (hb ((k:HI)+1)) Hu n=(((min k n:HG):HI),((min (k+1) n:HG):HI),1):=by
 have cl:∀j:HG,max 0 (min (if(j:HI)<0 then(j:HI)+n else j) (n:HI))=((min j n:HG):HI):=λj=>by
  have h:=Kq.mpr (H3 j);exact(Ir h).symm▸lP h
 exact congr (HL Prod.mk (cl k)) (HL (·,(1:HI)) (cl (k+1)))
theorem adT{B:Hn α}{y:α}{s:HI}(h0:0<=s)(h1:s<max 1 (B.length:HI)):B.length<=(pY (hb s) (hb (s+1)) B [y]).length/\(pY (hb s) (hb (s+1)) B [y]).length<=B.length+1:=by
 obtain⟨k,rfl⟩:=MT h0;unfold pY;rw[HN,HN,J9,Li,al3];generalize B.length=n at*;show n<=min (min k n) n+1+(n-(max ((min k n:HG):HI) (min (k+1) n:HG)).toNat)/\min (min k n) n+1+(n-(max ((min k n:HG):HI) (min (k+1) n:HG)).toNat)<=n+1;refine(MS (I4.mpr (Nat.le_min.mpr ⟨Hs (Mm _ _) (J1 k),I7 _ _⟩))).symm▸?_;rw[ME,Jk (I7 k n)];by_cases h:k<n
 ·refine(Jk (IK h)).symm▸(Jk h).symm▸(Nat.add_sub_of_le h).symm▸?_;exact⟨Io n,J1 n⟩
 ·cases n with
  |zero=>rw[Q2,Q2];exact⟨JS _,Io _⟩
  |succ n=>exact IG (Jj.mp (MS (a:=1) (b:=((n+1:HG):HI)) (I4.mpr (Jv (JS n)))▸h1)) h
theorem alV{P:α->Prop}{B ys:Hn α}{a b:Hp HI}(h:∀x∈B,P x)(t:∀x∈ys,P x):∀x∈pY a b B ys,P x:=all2 (all2 (λx hx=>h x (Kc hx)) t) λx hx=>h x (Lc hx)
theorem akJ{w:Row}{s:HI}(h:∀r∈rs,c0 ps rs.length r)(hl:rs.length<=59)(hw:c0 ps rs.length w)(h0:0<=s)(h1:s<max 1 (rs.length:HI)):fF ps (pY (hb s) (hb (s+1)) rs [w]):=by exact ew (adT (y:=w) h0 h1) λl1 l2=>⟨Hs l2 (Jv hl),alV (λr hr=>(h r hr).more (I4.mpr l1)) (all1 (hw.more (I4.mpr l1)) pR)⟩
structure we(c:JC):Prop where
 at_:qU c
 row:wa c
 El:∀l,c.F "_law_is_plain" [(.list (aq l))]=hb (.bool (hG l))
 plain:∀(l:Hn HI)(ns:Hn (Hn HG)),0<ns.length->c.F "_law_plain" [(.list (aq l)),(.list (ns.map aB))]=hb (.list (((eL l).map (jO ns (eL l).length)).map av))
 aju:∀l,c.F "_law_forks" [(.list (aq l))]=hb (.list ((qC l).map av))
 many:∀(l:Hn HI)(p:Hn HG×Hp (Hn HG))(pt:aP),c.F "_law_many" [(.list (aq l)),.list ((p::pt).map aF)]=hb (.list ((kq l p.1++[Row.tell (lA l),Row.give p.1]).map av))
 lap:∀(l:Hn HI)(ps:aP)(ns:Hn (Hn HG)),aZ ps->0<ps.length->0<ns.length->c.F "_law_lap" [(.list (aq l)),(.list (ps.map aF)),(.list (ns.map aB))]=hb (.list ((y9 ns (cJ l 5) (uy ps)).map av))
 nest:∀(l:Hn HI)(ps:aP)(ns:Hn (Hn HG)),aZ ps->0<ps.length->0<ns.length->c.F "_law_nest" [(.list (aq l)),(.list (ps.map aF)),(.list (ns.map aB))]=hb (.list ((xc ps ns (cJ l 5)).map av))
 adQ:∀(B:Hn HI)(ps:aP)(ns:Hn (Hn HG)),B.length<60->aZ ps->0<ps.length->0<ns.length->(∀n∈ns,bW n)->lQ c B ps ns
theorem aoX(n:HI):Cp [iV 1,iV n]=hb (iV (max 1 n)):=by
 show hb (⟨.int (if n>1 then n else 1),.d⟩:V)=hb ⟨.int (max 1 n),.d⟩;by_cases h:n>1
 ·exact(H5 h).symm▸(MS (IZ h)).symm▸rfl
 ·exact(Ir h).symm▸(Qg (Kq.mp h)).symm▸rfl
def pv(l:Hn HI):HI:=18+cJ l 3/27%7+36*(if decide (cJ l 3%3=1)=Hq then 1 else 0)
def zI(l:Hn HI)(k:HG):HI:=cJ l (6+(k:HI)%3)/7+7919*k
def tV(l:Hn HI):Hn HI:=(H0 (pv l).toNat).map (zI l)
theorem lQ.ex{B:Hn HI}(h:lQ c B ps ns):∃rs:Hn Row,c.F "_law_careful" [.list (aq B),(.list (ps.map aF)),(.list (ns.map aB))]=hb (.list (rs.map av))/\rs.length<=2*B.length/\∀r∈rs,c0 ps rs.length r:=by obtain⟨rs,h,h1,h2⟩:=h;exact⟨rs,h,h1,h2⟩
theorem ak9(l:Hn HI):18<=pv l/\pv l<=60/\((cJ l 3%3==1)=HH->pv l<=24):=by
 unfold pv;by_cases e:cJ l 3%3=1
 ·refine(Ip e).symm▸(H5 rfl).symm▸e.symm▸?_;exact⟨Kp (Ic _ (by decide))|>λh=>HY h (Kp (by decide)),Md (wG (k:=18) (a:=0) (b:=24) _ (by decide) (by decide) (by decide)).2 36,λh=>nomatch h⟩
 ·refine(Iw e).symm▸(Ir ID).symm▸?_;rw[show(36:HI)*0=0 from rfl,Q0];exact have q:=wG (a:=18) (b:=24) (cJ l 3/27) (m:=7) (by decide) (by decide) (by decide);⟨q.1,HY q.2 (by decide),λ_=>q.2⟩
abbrev PrE(ps:aP):Type 1:=(y:Ho)->(∃rs:Hn Row,y=.list (rs.map av)/\fF ps rs)->Z
section
variable(bF:we c)(sg:Hn HI)(Bp:aZ ps)(gN:0<ps.length)(p9:0<ns.length)(xx:∀n∈ns,bW n)(Aq:PrE ps)
def zSp(hl:rs.length<=48)(ho:∀r∈rs,c0 ps rs.length r):Z:=
 have el:((rs.map av).length:HI)=rs.length:=by rw[Hr]
 have h0:=Ic _ (Kb (IJ (by decide) (Of _ _)));have h1:=H9 _ (IJ (by decide) (Of _ _));have bl:=adT (y:=av (lh (cJ sg 5) ps ns ((rs.map av).length:HG))) h0 h1
 fX 0 (bF.at_ sg 4 (by decide))<|fV 1 (aoX (((rs.map av).length:HG):HI))<|fV 0 (jd (a:=cJ sg 4) (b:=max 1 (((rs.map av).length:HG):HI)) (by exact IJ (by decide) (Of _ _)))<|fX 0 (bF.at_ sg 5 (by decide))<|fX 1 (bF.row (cJ sg 5) ps ns ((rs.map av).length:HG) gN p9 (H3 _))<|fV 0 (show(if 1<=sizeLine then hb (V.eE [av (lh (cJ sg 5) ps ns ((rs.map av).length:HG))] .d)else Hu)=hb ⟨.list [av (lh (cJ sg 5) ps ns ((rs.map av).length:HG))],.d⟩from(H5 (by decide)).trans (HL hb (oi [lh (cJ sg 5) ps ns ((rs.map av).length:HG)] .d)))<|fC 1 (show(rs.map av).length+1<10000 by exact HC (Im (J7 el▸hl) 1) (by decide))<|fC 0 (show(pY (hb (cJ sg 4%max 1 (((rs.map av).length:HG):HI))) (hb (cJ sg 4%max 1 (((rs.map av).length:HG):HI)+1)) (rs.map av) [av (lh (cJ sg 5) ps ns ((rs.map av).length:HG))]).length<10000 from HC bl.2 (by exact HC (Im (J7 el▸hl) 1) (by decide)))<|Aq (.list (pY (hb (cJ sg 4%max 1 (((rs.map av).length:HG):HI))) (hb (cJ sg 4%max 1 (((rs.map av).length:HG):HI)+1)) (rs.map av) [av (lh (cJ sg 5) ps ns ((rs.map av).length:HG))])) ⟨_,HL Mw (aiR av _ _ rs [lh (cJ sg 5) ps ns ((rs.map av).length:HG)]),akJ ho (by exact K3 hl) (by exact el▸vM (cJ sg 5) gN p9 xx (H3 _)) h0 (by exact el▸h1)⟩
def zCe(k:HG){cs:Hn HI}(hc:cs.length<=60)(hd:(cJ sg 3%3==1)=HH->cs.length<=24):Z:=
 have cr (h:(cJ sg 3%3==1)=HH):=(bF.adQ cs ps (ns.take 6) (by have:=hd h;exact HC (hd h) (by decide)) Bp gN (by rw[J9];exact Rv.mpr ⟨by decide,p9⟩) λn h=>xx n (Kc h)).ex;have tk:vJ Hu (hb 6) Hu ⟨.list (ns.map aB),.s⟩=hb ⟨.list ((ns.take 6).map aB),.d⟩:=by have tk:=abk (B:=ns.map aB) (n:=6) (f:=.s) (by decide) (kz ns);rw[show(ns.map aB).take (6:HI).toNat=(ns.take 6).map aB from Lw.symm]at tk;exact tk
 .br (cJ sg 3%3==1) (λ_=>vL _ cs IL (λ_=>rfl) (λx=>hb (av (lh x ps ns ((aq cs).length:HG)))) _ (Kx Je _) (λx _=>fX 1 (bF.row x ps ns ((aq cs).length:HG) gN p9 (H3 _))<|.q _ (Mg (hb (av (lh x ps ns ((aq cs).length:HG))))))<|Aq (.list (cs.map λx=>av (lh x ps ns ((aq cs).length:HG)))) ⟨cs.map λx=>lh x ps ns ((aq cs).length:HG),by refine Ii.symm▸?_;rfl,by rw[Hr];exact hc,r6 λx _=>by
   have Aq:(aq cs).length=cs.length:=Hr _;rw[Hr,Aq];exact vM x gN p9 xx (H3 _)⟩)
  λh=>fV 0 tk<|fX 0 (cr h).choose_spec.1<|fC 0 (eF (cr h).choose)<|.br (cJ sg 3%3==2) (λ_=>zSp bF sg gN p9 xx Aq (by have:=(cr h).choose_spec.2.1;have:=hd h;lia -abstractProof) (cr h).choose_spec.2.2) λ_=>Aq _ ⟨(cr h).choose,rfl,by have:=(cr h).choose_spec.2.1;have:=hd h;lia -abstractProof,(cr h).choose_spec.2.2⟩
end
theorem aeT(H:we c)(l:Hn HI)(P:aZ ps)(hp:0<ps.length)(hn:0<ns.length)(l7:∀n∈ns,bW n):
  ∃y,(gG (PP S0 A0) c b0).F "_law_program" [(.list (aq l)),(.list (ps.map aF)),(.list (ns.map aB))]=hb y/\∃rs:Hn Row,y=.list (rs.map av)/\fF (bif hG l then[]else ps) rs:=by
 have a4:=H.at_ l 4 (by decide);have hz:bW [122,122]:=⟨by decide,by decide,by decide⟩;have R:∃aH:Hn Row,c.F "_law_many" [(.list (aq l)),.list (ps.map aF)]=hb (.list (aH.map av))/\fF ps aH:=by
  cases ps with
  |nil=>cases hp
  |cons p pt=>exact⟨_,H.many l p pt,ahI l (.head _)⟩
 have hs:=ak9 l;have lc:(tV l).length=(pv l).toNat:=by unfold tV;rw[Hr];exact Iy
 let aH (e:PrE ps):Z:=fS 0<|fX 3 a4<|.br (cJ l 3/3%5==1&&cJ l 4%2==1) (λ_=>fX 0 (H.aju l)<|e _ ⟨_,rfl,afj l hz⟩) λ_=>.br (cJ l 3/3%5==1) (λ_=>fX 0 R.choose_spec.1<|e _ ⟨_,rfl,R.choose_spec.2⟩) λ_=>fS 0<|fX 3 a4<|.br (cJ l 3/3%5==2&&cJ l 4%3==1) (λ_=>fX 0 (H.lap l ps ns P hp hn)<|e _ ⟨_,rfl,alN hn l7 (ad0 P hp).1 (cJ l 5)⟩) λ_=>fS 0<|fX 3 a4<|.br (cJ l 3/3%5==2&&cJ l 4%3==2) (λ_=>fX 0 (H.nest l ps ns P hp hn)<|e _ ⟨_,rfl,aii P hp hn l7 (cJ l 5)⟩) λ_=>.br (cJ l 3/3%9==4) (λ_=>fB 4 (sN (cJ l 3%3) 1)<|fI 2 (fZ (k:=pv l) (HY (by decide) hs.1) (HY hs.2.1 (by decide)))<|vL _ (H0 (pv l).toNat) (λj=>.int (j:HG)) (λ_=>rfl) (λj=>hb (.int (zI l j))) (aq (tV l)) ((Kx Je _).trans (by refine Ii.symm▸?_;rfl)) (λj _=>fX 2 (H.at_ l (6+(j:HI)%3) (Int.zero_le_ofNat (6+_%Int.natAbs 3)))<|.q _ (Mg (hb (IL (zI l j)))))<|zCe H l P hp hn l7 e 0 (cs:=tV l) (by lia -abstractProof) λh=>by have:=hs.2.2 h;lia -abstractProof) λ_=>zCe H l P hp hn l7 e 0 (cs:=eL l) (by have:=nM l;exact K3 this) λ_=>by have:=nM l;exact K3 this
 exact xE λe=>fX 0 (H.at_ l 3 (by decide))<|fV 0 (acg l (f:=.s))<|fX 0 (H.El l)<|.br (hG l) (λg=>fX 0 (H.plain l ns hn)<|e (.list (((eL l).map (jO ns (eL l).length)).map av)) ⟨_,rfl,by exact g.symm▸ahs l hn l7⟩) λg=>aH λy h=>e y (by exact g.symm▸h)
structure WS where
 pl:HG
 tk:HG
 st:eP
noncomputable def kX:Row->Ig
 |.fin=>Hq
 |_=>HH
noncomputable def pU:Row->Ig
 |.go _=>Hq
 |_=>HH
noncomputable def iA:Row->Ig
 |.fork _=>Hq
 |_=>HH
noncomputable def uQ(bY:Hn HI)(k:HG):HI:=(bY[k]?).getD 0
def B5(bY:Hn HI)(k:HG):Ig:= !decide (uQ bY k=0)
def stepT(ps:aP)(bY:Hn HI)(r:Row)(s:WS):WS:=match r with
 |.go k=>⟨k.toNat,s.tk,s.st⟩
 |.fork k=>⟨bif B5 bY s.tk then k.toNat else s.pl+1,s.tk+1,s.st⟩
 |r=>⟨s.pl+1,s.tk,d7 ps s.st r⟩
def xJ(r:Row)(w:I2):Hp I2:=bif kX r|| !(w=="")then hb (bif w==""then"done"else w)else Hu
noncomputable def fM(ps:aP)(rs:Hn Row)(bY:Hn HI):HG->HG->WS->I2×HG×WS
 |0,j,s=>("going",j,s)
 |n+1,j,s=>match xJ (eD rs s.pl) (aR ps s.st (eD rs s.pl))with
  |some w=>(w,j+1,s)
  |none=>fM ps rs bY n (j+1) (stepT ps bY (eD rs s.pl) s)
variable{bY:Hn HI}{s:WS}
theorem tI:fM ps rs bY (n+1) j s=match xJ (eD rs s.pl) (aR ps s.st (eD rs s.pl))with|some w=>(w,j+1,s)|none=>fM ps rs bY n (j+1) (stepT ps bY (eD rs s.pl) s):=rfl
theorem yW(h:pU r=Hq):∃k,r=.go k:=by cases r<;>first|exact⟨_,rfl⟩|exact Iu h
theorem tj(h:iA r=Hq):∃k,r=.fork k:=by cases r<;>first|exact⟨_,rfl⟩|exact Iu h
theorem alR(h:kX r=Hq):r=.fin:=by cases r<;>first|rfl|exact Iu h
theorem aaV(h1:pU r=HH)(h2:iA r=HH):stepT ps bY r s=⟨s.pl+1,s.tk,d7 ps s.st r⟩:=by cases r<;>first|rfl|exact Iu h1|exact Iu h2
theorem gx(h:fF ps rs)(k:HG):c0 ps rs.length (eD rs k):=by exact tG (P:=c0 ps rs.length) h.ok trivial
theorem abE(hi:Inv ps j s.st)(hw:aR ps s.st r=""){z:HI}(hr:c0 ps z r):Inv ps (j+1) (stepT ps bY r s).st:=by
 have h:=qK hi (lz hi hw) λp e=>by rw[e]at hr;exact hr
 clear hr z hw;cases r with
 |go k=>exact hi.mono (J1 j)
 |fork k=>exact hi.mono (J1 j)
 |_=>exact h
theorem Inv.room(h:Inv ps j st)(hj:j<=3000):uC st:=by have:=h.gv;exact⟨HC (Hs (Hs (Jl _ _) this) hj) (by decide),HC h.held (HC hj (by decide)),HC h.aC (HC hj (by decide)),HC h.told (HC hj (by decide)),HC (Hs this hj) (by decide)⟩
def sP:WS:=⟨0,0,vz⟩
structure WR(ps:aP)(rs:Hn Row)(bY:Hn HI)(n j:HG)(s:WS):Prop where
 le:j<=n
 inv:Inv ps j s.st
 eq:fM ps rs bY (n-j) j s=fM ps rs bY n 0 sP
section
theorem WR.zero:WR ps rs bY n 0 sP:=⟨JS _,zJ ps,rfl⟩
theorem WR.last(h:WR ps rs bY n n s):fM ps rs bY n 0 sP=("going",n,s):=by(refine h.eq.symm.trans ?_;rw[OT]);rfl
variable(Aq:eD rs s.pl=r)(dn:WR ps rs bY n j s)(gq:j<n)
include Aq dn gq
theorem WR.end(he:(kX r|| !(aR ps s.st r==""))=Hq):fM ps rs bY n 0 sP=(bif aR ps s.st r==""then"done"else aR ps s.st r,j+1,s):=by(refine dn.eq.symm.trans ?_;rw[show n-j=(n-(j+1))+1 from(PI (PM gq)).symm,tI,Aq,xJ,he]);rfl
theorem WR.next(hr:fF ps rs)(he:(kX r|| !(aR ps s.st r==""))=HH):WR ps rs bY n (j+1) (stepT ps bY r s):=by
 refine⟨gq,abE dn.inv ?_ (Aq▸gx hr s.pl),?_⟩
 ·exact aw (by simpa using(Jn.mp he).2)
 ·refine dn.eq▸?_;rw[show n-j=(n-(j+1))+1 from(PI (PM gq)).symm,tI,Aq,xJ,he];rfl
end
noncomputable def arg:Row->HI
 |.fork k=>k
 |.go k=>k
 |_=>0
theorem adu(h:pU r=Hq):stepT ps bY r s=⟨(arg r).toNat,s.tk,s.st⟩:=by obtain⟨k,rfl⟩:=yW h;rfl
theorem step_fork(h:iA r=Hq):stepT ps bY r s=⟨bif B5 bY s.tk then(arg r).toNat else s.pl+1,s.tk+1,s.st⟩:=by obtain⟨k,rfl⟩:=tj h;rfl
theorem tm(h:c0 ps z r):((arg r).toNat:HI)=arg r:=Lu (by cases r<;>first|exact LH 0|exact h.1)
theorem tQ(h:pU r=Hq∨iA r=Hq):ed (av r) (.int 1)=hb (.int (arg r)):=by
 rcases h with h|h
 ·obtain⟨k,rfl⟩:=yW h;rfl
 ·obtain⟨k,rfl⟩:=tj h;rfl
theorem ag5(h:kX r=Hq):d7 ps st r=st:=by refine(alR h).symm▸?_;rfl
theorem wW(h:pU r=Hq∨iA r=Hq):(kX r|| !(aR ps st r==""))=HH:=by
 rcases h with h|h
 ·obtain⟨k,rfl⟩:=yW h;rfl
 ·obtain⟨k,rfl⟩:=tj h;rfl
structure vD(c:JC):Prop where
 ux:tg c
 Bf:tq c
 fresh:c.T "_law_fresh"=hb (fG vz)
def BP(ps:aP)(rs:Hn Row)(bY:Hn HI)(n pl tk:HI)(st:eP):En:=[("_law_plots_here",sh (.list (ps.map aF))),("_law_rows",sh (.list (rs.map av))),("_law_inputs_here",sh (.list (aq bY))),("_law_steps",D (.int n)),("_law_state",.own (.tree Hu (fG st))),("_law_place",D (.int pl)),("_law_taken",D (.int tk))]
def Fi(ps:aP)(rs:Hn Row)(bY:Hn HI)(n:HI)(s:WS):En:=BP ps rs bY n s.pl s.tk s.st
def nR(q:I2×HG×WS):Ho:=.tuple [dr q.1,.int q.2.2.pl,.int q.2.1,fG q.2.2.st,.int q.2.2.tk]
theorem agu(r:Row):bV .Eq (dr r.parts.1) (dr "end")=hb (kX r):=by cases r<;>kernel_rfl
theorem akn(r:Row):bV .Eq (dr r.parts.1) (dr "go")=hb (pU r):=by cases r<;>kernel_rfl
theorem adq(r:Row):bV .Eq (dr r.parts.1) (dr "fork")=hb (iA r):=by cases r<;>kernel_rfl
theorem ne_int(a b:HI):bV .NotEq (.int a) (.int b)=hb (!decide (a=b)):=by have:=sN a b;revert this;intro h;rfl
theorem aj3(h:decide ((k:HI)<((aq bY).length:HG))=Hq):ed (.list (aq bY)) (.int (k:HG))=hb (.int (uQ bY k)):=by have h:=IW h;unfold aq at h;rw[Hr]at h;have ht:=Jj.mp h;(refine(show uQ bY k=bY[k] by unfold uQ;refine(HQ ht).symm▸?_;rfl).symm▸?_);exact nJ (p:=IL) (H3 k) (HQ ht)
theorem ae9(h:decide ((k:HI)<((aq bY).length:HG))=HH):B5 bY k=HH:=by
 have h:=Ji h;unfold aq at h;rw[Hr]at h
 delta B5 uQ
 rw[Jw (JQ λq=>h (Jj.mpr q))];rfl
theorem akC(h:decide ((k:HI)<((rs.map av).length:HG))=Hq):ed (.list (rs.map av)) (.int (k:HG))=hb (av (eD rs k)):=by have h:=IW h;rw[Hr]at h;have ht:=Jj.mp h;(refine(show eD rs k=rs[k] by unfold eD;refine(HQ ht).symm▸?_;rfl).symm▸?_);exact nJ (p:=av) (H3 k) (HQ ht)
theorem ah9(h:decide ((k:HI)<((rs.map av).length:HG))=HH):eD rs k=.fin:=by have h:=Ji h;rw[Hr]at h;unfold eD;rw[Jw (JQ λq=>h (Jj.mpr q))];rfl
theorem alZ(h:decide ((k:HI)+1<=((aq bY).length:HG))=Hq):ed (.list (aq bY)) (.int ((k:HI)+1-1))=hb (.int (uQ bY k)):=by refine(show(k:HI)+1-1=k by exact Mu (↑_) 1).symm▸?_;exact aj3 (Ip (by have:=IW h;exact this))
variable{row:Row}
theorem nC(e0:eD rs s.pl=row)(r:WR ps rs bY n j s)(hj:j<n)(hr:fF ps rs)(he:(kX row|| !(aR ps s.st row==""))=HH){l:En}(q:Fi ps rs bY n (stepT ps bY row s)=l):∃x,WR ps rs bY n (j+1) x/\Fi ps rs bY n x=l:=⟨_,r.next e0 hj hr he,q⟩
def zTn(k:HG){a:HG}(ea:a=j)(H:vD c)(hl:ps.length<=900)(hr:fF ps rs)(hn:n<=3000)(e0:eD rs s.pl=row)(r:WR ps rs bY n j s)(hj:j<n)(t:(y:Ho)->y=nR (fM ps rs bY n 0 sP)->Z)(e:(l:En)->(∃x,WR ps rs bY n (j+1) x/\Fi ps rs bY n x=l)->Z):Z:=
 fX k (H.ux ps s.st row hl r.inv.js)<|fS 0<|fB 1 (agu row)<|fB 0 (qn (aR ps s.st row))<|.br (kX row|| !(aR ps s.st row==""))
  (λhe=>bB 0 (qn (aR ps s.st row)) (λh=>t (nR (aR ps s.st row,a+1,s)) (by(refine ea.symm▸?_;refine(r.end e0 hj he).symm▸(cE h).symm▸?_);rfl)) λh=>t (nR ("done",a+1,s)) (by(refine ea.symm▸?_;refine(r.end e0 hj he).symm▸(mE h).symm▸?_);rfl))
  λhe=>bB 2 (akn row) (λhg=>fX 0 (tQ (.inl hg))<|e (BP ps rs bY n (arg row) s.tk s.st) (nC e0 r hj hr he (by exact(adu hg).symm▸HL (λi=>BP ps rs bY n i s.tk s.st) (tm (e0▸gx hr s.pl)))))
   λhg=>bB 1 (adq row)
    (λhf=>.br (decide ((s.tk:HI)+1<=((aq bY).length:HG)))
     (λht=>fX 1 (alZ ht)<|bB 0 (ne_int (uQ bY s.tk) 0)
      (λhk=>fX 0 (tQ (.inr hf))<|e (BP ps rs bY n (arg row) ((s.tk:HI)+1) s.st) (nC e0 r hj hr he (by(refine(step_fork hf).symm▸?_;refine(show B5 bY s.tk=Hq from hk).symm▸?_);exact HL (λi=>BP ps rs bY n i ((s.tk:HI)+1) s.st) (tm (e0▸gx hr s.pl)))))
      λhk=>e (BP ps rs bY n ((s.pl:HI)+1) ((s.tk:HI)+1) s.st) (nC e0 r hj hr he (by(refine(step_fork hf).symm▸?_;refine(show B5 bY s.tk=HH from hk).symm▸?_);rfl)))
     λht=>e (BP ps rs bY n ((s.pl:HI)+1) ((s.tk:HI)+1) s.st) (nC e0 r hj hr he (by rw[step_fork hf,ae9 (Iw (by have:=Ji ht;exact this))];rfl)))
    λhf=>fC 0 (fk row)<|fX 0 (H.Bf ps s.st row hl (r.inv.room (Hs r.le hn)) (lz r.inv (aw (mE (Jn.mp he).2))))<|e (BP ps rs bY n ((s.pl:HI)+1) s.tk (d7 ps s.st row)) (nC e0 r hj hr he (by refine(aaV hg hf).symm▸?_;rfl))
theorem ams(H:vD c)(P:aZ ps)(hr:fF ps rs)(bY:Hn HI)(hn:n<=3000):(gG (PP S0 A0) c b0).F "_law_walk" [(.list (ps.map aF)),.list (rs.map av),.list (aq bY),.int n]=hb (nR (fM ps rs bY n 0 sP)):=by
 have hl:ps.length<=900:=Hs P.len (by decide);exact xF (λt=>fX 0 H.fresh<|fI 0 (fZ (H3 n) (I4.mpr (Hs hn (by decide))))<|fr (H0 n) (p:=λj=>.int (j:HG)) (λ_=>rfl) (λ_ s=>Fi ps rs bY n s) (λj s=>WR ps rs bY n j s) sP .zero (λj a h s r e=>.br (decide ((s.pl:HI)<((rs.map av).length:HG)))
   (λhp=>fX 0 (akC hp)<|fL (fk (eD rs s.pl))<|zTn 0 (yx h).1 H hl hr hn rfl r (yx h).2 t e)
   λhp=>zTn 1 (yx h).1 H hl hr hn (ah9 hp) r (yx h).2 t e)
  λs r=>t (nR ("going",n,s)) (HL nR (by rw[Iy]at r;exact r.last.symm)))
def ia(h:Hn (Hn HG×HI)):Hn (HP×HG):=h.map λq=>(S q.1,q.2.toNat)
def fQ(st:eP):jr:=⟨.list (aq st.told),st.many,.list (aq st.given),ey st.bG,ia st.held,st.aC⟩
def wY(V:Hv)(st:eP):Ho:=dictOf (st.held.map λq=>(S q.1,valOf V st.aC q.2.toNat))
theorem acH(C V p:Hv)(st:eP):iw C V "held" (aE C V p (fQ st))=hb (wY V st):=by
 rw[ac1,ab0]
 delta sv wY fQ ia
 refine Ii.symm▸?_;rfl
theorem agC(n:Hn HG)(g:HI->Ho)(h:Hn (Hn HG×HI)):dz (S n) ((h.map λq=>(S q.1,g q.2)).map λp=>(.str p.1,p.2))=(h.lookup n).isSome:=by
 induction h with
 |nil=>exact rfl
 |cons p h bX=>
  show(decide (S p.1=S n)||dz (S n) ((h.map λq=>(S q.1,g q.2)).map λp=>(.str p.1,p.2)))=_;refine bX.symm▸?_;rw[HK];by_cases e:n=p.1
  ·subst e;rw[Ip rfl,Ih];rfl
  ·refine(Iw λq=>e (jt q).symm).symm▸(HO.mpr e).symm▸?_;rfl
theorem agL(n:Hn HG)(g:HI->Ho)(h:Hn (Hn HG×HI)):atKey (S n) ((h.map λq=>(S q.1,g q.2)).map λp=>(.str p.1,p.2))=(h.lookup n).map g:=by
 induction h with
 |nil=>exact rfl
 |cons p h bX=>
  rw[HK];by_cases e:n=p.1
  ·subst e;refine iT rfl ?_;rw[Ih];rfl
  ·refine iF (λq=>e (jt q).symm) ((HO.mpr e).symm▸?_);exact bX
theorem lG(V:Hv)(st:eP)(n:Hn HG):bV .NotIn (aB n) (wY V st)=hb (!(st.held.lookup n).isSome):=by show(FN (S n) ((st.held.map λq=>(S q.1,valOf V st.aC q.2.toNat)).map λp=>(.str p.1,p.2))).map (λb=> !b)=_;rw[adO (λp:HP×Ho=>p.1) (λp=>p.2),agC n λi=>valOf V st.aC i.toNat];rfl
variable{n:Hn HG}
theorem acm(V:Hv)(h:dS st n):ed (wY V st) (aB n)=hb (oH V (de st (bg st n)) (eH st (bg st n))):=by
 show atKey (S n) ((st.held.map λq=>(S q.1,valOf V st.aC q.2.toNat)).map λp=>(.str p.1,p.2))=_;refine kK h λi h1 h2 h3=>?_;rw[agL n λi=>valOf V st.aC i.toNat,h1];obtain e:bg st n=i:=by unfold bg;refine h1.symm▸?_;rfl
 refine e.symm▸?_;show hb (valOf V st.aC i.toNat)=_;dsimp only[valOf,de,eH];refine(HQ h3).symm▸?_;rfl
theorem ko(n:Hn HG)(h:Hn (Hn HG×HI)):(h.lookup n).isSome=decide (n∈h.map (·.1)):=by
 induction h with
 |nil=>exact rfl
 |cons p h bX=>
  rw[HK,HS];by_cases e:n=p.1
  ·subst e;rw[Ih];exact(Ip (.head _)).symm
  ·refine(HO.mpr e).symm▸bX.symm▸?_;exact decide_eq_decide.mpr (by rw[Hw];exact⟨.inr,λq=>q.resolve_left e⟩)
theorem agJ(n:Hn HG)(st:eP):bV .In (aB n) (ey st.bG)=hb (decide (n∈dg st)):=(og n st.bG).trans (HL hb (ko n st.bG))
theorem aaM(n:Hn HG)(st:eP):bV .NotIn (aB n) (ey st.bG)=hb (!decide (n∈dg st)):=(iO n st.bG).trans (HL (λb=>hb (!b)) (ko n st.bG))
theorem abT(h:Hn (Hn HG×HI)):(l9 h).map (·.2)=aq (h.map (·.2)):=by unfold aq;(refine Ii.trans ?_;rw[Ii,Ii]);rfl
theorem il(l:Hn HI):bZ (aq l)=Hq:=by
 induction l with
 |nil=>exact rfl
 |cons x l bX=>refine bX.symm▸?_;rfl
theorem ada(i:HI)(l:Hn HI):bV .NotIn (.int i) (.list (aq l))=hb (!decide (i∈l)):=by show(bV .In (.int i) (.list (aq l))).map _=_;rw[ad1];rfl
theorem adh(i:HI)(h:Hn (Hn HG×HI)):bV .NotIn (.int i) (.list ((l9 h).map (·.2)))=hb (!decide (i∈h.map (·.2))):=by rw[abT];exact ada i _
theorem qQ(h:Hn (Hn HG×HI)):dQ (l9 h)=Hq:=gj _ _ _
theorem ahd(h:Hn (Hn HG×HI)):bZ ((l9 h).map (·.2))=Hq:=by rw[abT];exact il _
section
noncomputable abbrev cS(c:JC)(q:Hv×Hv×Hv×Hn Ho):JC:={c with S:=hb q}
theorem aiF(l:Hn (Hn HG)):bV .NotEq (.list (l.map aB)) (.list [])=hb (!l.isEmpty):=by
 cases l with
 |nil=>rfl
 |cons x l=>(refine(AN (b7 (cV λy hy=>by refine aQ (HX.mp hy) λa o1 o2=>?_;subst o2;exact mM _) (by decide)) (b7 (cV (k:=1) λy hy=>(Ia hy).elim) (by decide))).trans ?_;dsimp only[HS,IX,KE]);rfl
variable(bc bu bq:Hv)(aN:aP)(eO:eP)
abbrev zg(k:HG)(z:Z):Z:=fX k (aaa bc bu bq (fQ eO)) z
abbrev Ej(k:HG)(z:Z):Z:=fX k (acH bc bu bq eO) z
abbrev PC:JP:=PP (hb (bc,bu,bq,aN.map aF)) A0
abbrev cC(c:JC):JC:=cS c (bc,bu,bq,aN.map aF)
abbrev sD:Ho:=aE bc bu bq (fQ eO)
theorem akT(x y:HI):(gG (PC (A0:=A0) bc bu bq aN) (cC bc bu bq aN c) b0).P "is_gone" [sD bc bu bq eO,oH bu x y]=hb (.bool (!decide (y∈eO.bG.map (·.2)))):=
 pF λr=>fX 0 (aaI bc bu x y)<|zg bc bu bq eO 0<|fC 0 (qQ eO.bG)<|fC 0 (ahd eO.bG)<|fB 0 (adh y eO.bG)<|r _ rfl
def ae4(c:JC):Prop:=∀(eO:eP)(x y:HI),c.P "is_gone" [sD bc bu bq eO,oH bu x y]=hb (.bool (!decide (y∈eO.bG.map (·.2))))
theorem aec(hg:ae4 bc bu bq c)(n:Hn HG)(hh:eX eO n):(gG (PC (A0:=A0) bc bu bq aN) (cC bc bu bq aN c) b0).P "lacking" [sD bc bu bq eO,aB n]=hb (dr (d0 eO n)):=by
 cases e:eO.held.lookup n with
 |none=>exact pS λr=>Ej bc bu bq eO 0<|fB 0 ((lG bu eO n).trans (by refine e.symm▸?_;rfl):_=hb Hq)<|r "nothing" (by unfold d0;exact e▸rfl)
 |some i=>
  have hi:dS eO n:=⟨i,e,hh i e⟩;have hl:d0 eO n=bif decide (eH eO (bg eO n)∈eO.bG.map (·.2))then""else"gone":=by delta d0 bg;refine e.symm▸?_;rfl
  exact pS λr=>Ej bc bu bq eO 0<|fB 0 ((lG bu eO n).trans (by refine e.symm▸?_;rfl):_=hb HH)<|Ej bc bu bq eO 0<|fX 0 (acm bu hi)<|fC 0 (dW bc bu bq (fQ eO))<|fX 0 (hg eO (de eO (bg eO n)) (eH eO (bg eO n)))<|.br (!decide (eH eO (bg eO n)∈eO.bG.map (·.2))) (λh=>r "gone" (by(refine hl.trans ?_;refine(uM h).symm▸?_);rfl)) λh=>r "" (by(refine hl.trans ?_;refine(mE h).symm▸?_);rfl)
def aa2(c:JC):Prop:=∀(eO:eP)(n:Hn HG),eX eO n->c.P "lacking" [sD bc bu bq eO,aB n]=hb (dr (d0 eO n))
def oU(c:JC):Prop:=∀q,q∈aN.map (·.1)->c.F "outward" [.list (aN.map aF),aB q]=hb (.list ((up aN q).map aB))
end
section
theorem aiX(h:Hn (Hn HG×HI))(fl:Fl):aoj [⟨ey h,fl⟩]=hb ⟨.int (h.length:HG),.d⟩:=by show(if dQ (l9 h)=Hq then hb (IL ((l9 h).length:HG))else Hu).map _=_;rw[H5 (gj _ _ _),Hr,Hr];rfl
variable(bc bu bq:Hv)(aN:aP)
theorem qF{pl:Hn HG}{b:Ig}(h:decide (pl∈dg st)=b):bV .NotIn (aB pl) (ey st.bG)=hb (!b):=h▸aaM pl st
theorem ahp(hp:aZ aN)(ho:oU aN c)(hl:aa2 bc bu bq c)(st:eP)(hh:∀n,eX st n)(r:Row)(hr:c0 aN z r)(h1:pU r=HH)(h2:iA r=HH):(gG (PC (A0:=A0) bc bu bq aN) (cC bc bu bq aN c) b0).P "wrong" [sD bc bu bq st,av r]=hb (dr (aR aN st r)):=by
 have lk:=λn=>hl st n (hh n);have sl:=dW bc bu bq (fQ st);cases r with
 |fork k=>cases h2
 |go k=>cases h1
 |op pl=>
  refine dA (qe hp (show pl∈aN.map (·.1)from hr)) λt ht=>?_;have hf:=ho pl hr;have hw:aR aN st (.op pl)=bif decide (pl∈dg st)then"open already"else match(up aN pl)[1]?with|some q=>bif decide (q∈dg st)then""else"not open"|none=>"":=rfl
  rw[ht]at hf hw;have E0:=aa3 (B:=(pl::t).map aB) (n:=1) (f:=.d) (by decide) (by rw[Hr,Ju];exact JT (H3 _)) (kz t);have gu:=aiF t;cases t with
  |nil=>exact pS λr=>fV 2 (jL bc bu bq (aN.map aF) (fQ st))<|fX 1 hf<|fV 0 E0<|zg bc bu bq st 1<|bB 0 (agJ pl st) (λh=>r "open already" (by rw[hw,h];rfl)) λh=>r "" (by rw[hw,h];rfl)
  |cons q t=>exact pS λr=>fV 2 (jL bc bu bq (aN.map aF) (fQ st))<|fX 1 hf<|fV 0 E0<|zg bc bu bq st 1<|bB 0 (agJ pl st) (λh=>r "open already" (by rw[hw,h];rfl)) λh=>fB 2 gu<|zg bc bu bq st 1<|bB 0 (aaM q st) (λh2=>r "not open" (by rw[hw,h];exact HL (λb=>bif b then""else"not open") (uM h2))) λh2=>r "" (by rw[hw,h];exact HL (λb=>bif b then""else"not open") (mE h2))
 |lay n pl i=>cases h:decide (pl∈dg st)<;>exact pS λr=>zg bc bu bq st 5<|fB 0 (qF h)<|r _ (by rw[vy,h])
 |copy n o pl=>
  have w:=lk o;rcases fe st o with e|e|e<;>rw[e]at w
  ·exact pS λr=>fC 7 sl<|fX 0 w<|r _ (by rw[ky,e])
  ·exact pS λr=>fC 7 sl<|fX 0 w<|r _ (by rw[ky,e])
  ·cases h:decide (pl∈dg st)<;>exact pS λr=>fC 7 sl<|fX 0 w<|zg bc bu bq st 1<|fB 0 (qF h)<|r _ (by rw[ky,e,h])
 |same n o=>cases h:(st.held.lookup o).isSome<;>exact pS λr=>Ej bc bu bq st 9<|fB 0 (h▸lG bu st o)<|r _ (by rw[tn,h])
 |add n o=>
  have w:=lk n;have w':=lk o;rcases fe st n with e|e|e<;>rw[e]at w
  ·exact pS λr=>fC 11 sl<|fX 0 w<|r _ (by rw[lR,e])
  ·exact pS λr=>fC 11 sl<|fX 0 w<|r _ (by rw[lR,e])
  ·rcases fe st o with e'|e'|e'<;>rw[e']at w'<;>exact pS λr=>fC 11 sl<|fX 0 w<|fC 1 sl<|fX 0 w'<|r _ (by rw[lR,e,e'])
 |tell n=>exact pS λr=>fC 13 sl<|fX 0 (lk n)<|r _ rfl
 |give pl=>cases h:decide (pl∈dg st)<;>exact pS λr=>zg bc bu bq st 15<|fB 0 (qF h)<|r _ (by rw[tF,h])
 |fin=>have hc:bV .Gt (.int (st.bG.length:HG)) (.int 0)=hb (!st.bG.isEmpty):=HL hb (by cases st.bG with|nil=>rfl|cons a l=>exact Ip (show(0:HI)<((l.length+1:HG):HI) by exact Int.ofNat_succ_pos _));cases h:st.bG.isEmpty<;>exact pS λr=>zg bc bu bq st 14<|fV 0 (aiX st.bG .s)<|fB 0 (h▸hc)<|r _ (by rw[vF,h])
end
section
theorem air(n:Hn HG)(h:Hn (Hn HG×HI)):NS (uA (S n) (l9 h))=ey (h.filter λp=>decide (p.1≠n)):=by
 rw[abA];congr 2;induction h with
 |nil=>rfl
 |cons q h ih=>
  by_cases e:q.1=n
  ·((rw[HS];refine(Jm (by simp[Ci,e])).trans ?_;rw[Jm (by simp[e])]);exact ih)
  ·rw[HS];refine(Jy (p:=λp:HP×Ho=>decide (p.1≠S n)) (a:=Ci q) (Ip (λq'=>e (jt q')))).trans ?_;rw[Jy (by simp[e]),ih];rfl
theorem ag9{k:HI}:(h.map (·.1)).Nodup->(n,k)∈h->h.lookup n=hb k:=by
 induction h with
 |nil=>intro _ q;exact nomatch q
 |cons p h bX=>
  intro hn q;rw[HS,HZ]at hn;refine HK.trans ?_;rcases Hw.mp q with rfl|q
  ·rw[Ih]
  ·refine cFa (HO.mpr λe=>hn.1 (by exact e▸HX.mpr ⟨_,q,rfl⟩)) ?_;exact bX hn.2 q
def jC(ps:aP)(pl:Hn HG)(o:Hn (Hn HG×HI))(j:HG):Hn (Hn HG×HI):=((o.take j).filter λq=> !dC ps pl q)++o.drop j
def jm(ps:aP)(pl:Hn HG)(o:Hn (Hn HG×HI))(j:HG):Hn HI:=((o.take j).filter (dC ps pl)).map (·.2)
theorem afz(ps:aP)(pl:Hn HG)(o:Hn (Hn HG×HI))(j:HG):(jC ps pl o j).Sublist o:=by
 conv=>rhs;rw[<-L0 j o]
 exact Np.append (Me _)
section
variable{q:Hn HG×HI}{pl:Hn HG}(rG:o[j]? =hb q)
include rG
theorem agK:o.take (j+1)=o.take j++[q]:=by(refine KD.trans ?_;refine rG.symm▸?_);rfl
theorem qD:o.drop j=q::o.drop (j+1):=by(refine(J6 (H2.mp rG).1).trans ?_;exact Kx (HL _ ((H2.mp rG).2)) _)
theorem aim:q∈jC ps pl o j:=by unfold jC;exact(qD rG).symm▸Hx _ (.head _)
theorem anG(h:dC ps pl q=HH):jC ps pl o (j+1)=jC ps pl o j/\jm ps pl o (j+1)=jm ps pl o j:=by
 unfold jC jm;refine(agK rG).symm▸?_;rw[qD rG,LC,LC,JN,JN,h];refine⟨?_,?_⟩
 ·rw[I6];rfl
 ·show((_++[]).map _)=_;rw[IA]
theorem ajw(hn:(o.map (·.1)).Nodup)(h:dC ps pl q=Hq):((jC ps pl o j).filter λp=>decide (p.1≠q.1))=jC ps pl o (j+1)/\jm ps pl o (j+1)=jm ps pl o j++[q.2]:=by
 have DV:=hn;rw[<-L0 j o,HJ,H8]at DV;unfold jC jm;refine(agK rG).symm▸?_;rw[LC,LC,LC,JN,JN,h];refine⟨?_,?_⟩
 ·show _=(_++[])++_;rw[IA];congr 1
  ·refine Pg.mpr λy hy=>?_;rw[Ik];exact DV.2.2 y.1 (HX.mpr ⟨y,(KB.mp hy).1,rfl⟩) q.1 (HX.mpr ⟨q,by exact(qD rG).symm▸.head _,rfl⟩)
  ·rw[qD rG];refine(Jm (by simp)).trans ?_;rw[Pg.mpr];intro y hy;rw[Ik];intro e;have:=DV.2.1;rw[qD rG,HS,HZ]at this;exact this.1 (by exact e▸HX.mpr ⟨y,hy,rfl⟩)
 ·refine HJ.trans ?_;rfl
end
theorem afJ:∀{l m:Hn (Hn HG)},l.Nodup->(∀a∈l,a∈m)->l.length<=m.length:=by
 intro l;induction l with
 |nil=>exactλ_ _=>JS _
 |cons a l ih=>intro m hn hs;rw[HZ]at hn;obtain ha:=hs a (.head _);have:=ih (m:=m.erase a) hn.2 λb U=>(List.mem_erase_of_ne (show b≠a fromλe=>hn.1 (by exact e▸U))).mpr (hs b (.tail _ U));rw[List.length_erase_of_mem ha]at this;obtain h0:=List.length_pos_of_mem ha;exact Ju.symm▸Nat.add_le_of_le_sub h0 this
theorem aeO(h:Hn (Hn HG×HI))(fl:Fl):uD [⟨ey h,fl⟩]=hb ⟨.list (h.map λp=>aB p.1),.d⟩:=by show mQ Hu ((gK (ey h)).map λaW=>(⟨.list (aW.map (·.1)),.d⟩:V))=_;(refine(show gK (ey h)=hb (l9 h)from H5 (gj _ _ _)).symm▸?_;(dsimp only[Lr];rw[Ii,Ii]));rfl
variable(bc bu bq:Hv)(aN:aP)
theorem vU(f:jr)(i:Fin 3):((gk bc bu (aE bc bu bq f)).bind λr=>r.2[yb i]?)=hb f.three[i]:=by
 rw[d1];dsimp only[HT];rcases i with⟨_|_|_|i,hi⟩
 ·rfl
 ·rfl
 ·rfl
 ·exact IG hi (JH.mpr (Jl 3 i))
theorem adC(f:jr):((gk bc bu (aE bc bu bq f)).bind λr=>r.2[yb 2]?)=hb f.bD:=vU bc bu bq f 2
theorem ai7(f:jr):((gk bc bu (aE bc bu bq f)).bind λr=>r.2[yb 1]?)=hb f.given:=vU bc bu bq f 1
theorem ahV(f:jr):((gk bc bu (aE bc bu bq f)).bind λr=>r.2[yb 0]?)=hb f.told:=vU bc bu bq f 0
abbrev sF(st:eP)(o:Ho):jr:={fQ st with bD:=o}
def sdE(st:eP)(o:Ho):Ho:=aE bc bu bq (sF st o)
def F1(a:Hv)(st:eP)(pl:Hn HG)(o:Ho)(ns:Hn Ho):En:=[("self",.own (.tree (hb a) (sdE bc bu bq st o))),("plot",D (aB pl)),("numbers",.own (.lst ns))]
theorem alg(hp:aZ aN)(ho:oU aN c)(st:eP)(hi:Inv aN k st)(hk:k<=3000)(pl:Hn HG):(gG (PC (A0:=A0) bc bu bq aN) (cC bc bu bq aN c) b0).R "give" [sD bc bu bq st,aB pl]=hb (.none,sD bc bu bq (d7 aN st (.give pl))):=by
 have hol:st.bG.length<=12:=by have:=afJ hi.xe hi.up;unfold dg at this;rw[Hr,Hr]at this;exact Hs this hp.len
 have eN:jm aN pl st.bG st.bG.length=(st.bG.filter (dC aN pl)).map (·.2):=by unfold jm;exact JD.symm▸rfl
 have eC:jC aN pl st.bG st.bG.length=st.bG.filter λq=> !dC aN pl q:=by unfold jC;refine JD.symm▸?_;rw[KN,IA]
 have hN:∀j,(jm aN pl st.bG j).length<=12:=λj=>by
  unfold jm;rw[Hr];exact Hs (KY _ _) (Hs (O3 j st.bG) hol)
 have hs:sH ⟨.list (aq (jm aN pl st.bG st.bG.length)),.t⟩=hb ⟨.list (aq (jm aN pl st.bG st.bG.length).reverse),.d⟩:=by
  have es:sortI (jm aN pl st.bG st.bG.length)=jm aN pl st.bG st.bG.length:=by exact eN.symm▸aar (sortI_perm _) (aai _) ((hi.asc.sublist (Np.map _)).imp λh=>IZ h)
  show(sJ ((jm aN pl st.bG st.bG.length).map .int)).bind _=_
  ((rw[aeK];dsimp only[HT]);refine iT (HC (hN _) (by decide))<|es.symm▸?_);rfl
 have hl:(aq st.given).length+(aq (jm aN pl st.bG st.bG.length).reverse).length<10000:=by have:=hN st.bG.length;have:st.given.length<=3000:=Hs (Hs (Ib _ _) hi.gv) hk;unfold aq;rw[Hr,Hr,JG];exact HC (Js this ‹_›) (by decide)
 have hix:∀{j q},st.bG[j]? =hb q->ed (ey (jC aN pl st.bG j)) (aB q.1)=hb (.int q.2):=λ{j q} hq=>by
  rw[qY,ag9 (hi.xe.sublist ((afz aN pl st.bG j).map _)) (aim hq)];rfl
 exact xR (d:=sD bc bu bq st) λa r=>zg bc bu bq st 0<|fV 0 (aeO st.bG .t)<|fo st.bG (p:=λq=>aB q.1) (λ_=>rfl) (λj=>F1 bc bu bq a st pl (ey (jC aN pl st.bG j)) (aq (jm aN pl st.bG j)))
  (λj q hq t=>fV 0 (jL bc bu bq (aN.map aF) (sF st (ey (jC aN pl st.bG j))))<|fX 0 (ho q.1 (hi.up q.1 (HX.mpr ⟨q,Il hq,rfl⟩)))<|bB 0 (kJ pl (up aN q.1))
   (λh=>fX 0 (aaa bc bu bq (sF st (ey (jC aN pl st.bG j))))<|fX 0 (hix hq)<|fC 0 (show(aq (jm aN pl st.bG j)).length<10000 by have:=hN j;unfold aq;rw[Hr];exact HC this (by decide))<|fX 0 (adC bc bu bq (sF st (ey (jC aN pl st.bG j))))<|fC 0 (qQ (jC aN pl st.bG j))<|fX 0 (hix hq)<|t (F1 bc bu bq a st pl (.dict (uA (S q.1) (l9 (jC aN pl st.bG j)))) (aq (jm aN pl st.bG j)++[.int q.2])) (by(refine((ajw hq hi.xe h).1)▸?_;(refine((ajw hq hi.xe h).2).symm▸?_;rw[<-air]));unfold aq;refine HJ.symm▸?_;rfl))
   λh=>t (F1 bc bu bq a st pl (ey (jC aN pl st.bG j)) (aq (jm aN pl st.bG j))) (by(refine((anG hq h).1).symm▸?_;exact((anG hq h).2).symm▸rfl)))<|
  fX 0 (ai7 bc bu bq (sF st (ey (jC aN pl st.bG st.bG.length))))<|fV 0 hs<|fC 0 (il (jm aN pl st.bG st.bG.length).reverse)<|fC 0 hl<|r .none (aE bc bu bq {fQ st with bD:=ey (jC aN pl st.bG st.bG.length),given:=.list (aq st.given++aq (jm aN pl st.bG st.bG.length).reverse)}) rfl (by(refine eC.symm▸eN.symm▸?_);refine HJ▸?_;rfl)
end
section
theorem ah5{up:Hn (Hn HG×HI)}{pl:Hn HG}(h:pl∉up.map (·.1))(o:HI):NS (lg (S pl) (.int o) (l9 up))=ey (up++[(pl,o)]):=by unfold lg;rw[Ir (by rw[tM,ko,Iw h];exact ID)];unfold ey l9;(refine HJ.symm▸HJ.symm▸?_);rfl
theorem aa8(hn:(h.map (·.1)).Nodup)(n:Hn HG)(i:HI):ia (mn h n i)=j1 (ia h) (S n) i.toNat:=by
 obtain key:∀h:Hn (Hn HG×HI),(ia h).any (λp=>decide (p.1=S n))=(h.lookup n).isSome:=by
  intro h;induction h with
  |nil=>rfl
  |cons q h ih=>
   show(decide (S q.1=S n)||(ia h).any λp=>decide (p.1=S n))=_;refine ih.symm▸?_;rw[HK];by_cases e:n=q.1
   ·subst e;rw[Ip rfl,Ih];rfl
   ·refine(Iw λz=>e (jt z).symm).symm▸(HO.mpr e).symm▸?_;rfl
 obtain Hu:∀h:Hn (Hn HG×HI),n∉h.map (·.1)->(ia h).map (λp=>if p.1=S n then(p.1,i.toNat)else p)=ia h:=by intro h R;exact Ii.trans<|J0 λq hq=>Ir λe=>R (HX.mpr ⟨q,hq,jt e⟩)
 dsimp only[mn,j1];rw[key];cases(h.lookup n).isSome with
 |false=>(refine Fa _ ID ?_;rw[Ir ID]);refine HJ.trans ?_;rfl
 |true=>
  refine DN _ rfl<|(H5 rfl).symm▸?_;induction h with
  |nil=>rfl
  |cons q h ih=>
   rw[HS,HZ]at hn;rw[oM];by_cases e:q.1=n
   ·refine(H5 e).symm▸?_;show(S q.1,i.toNat)::ia h=(if S q.1=S n then(S q.1,i.toNat)else(S q.1,q.2.toNat))::(ia h).map _;rw[H5 (e.symm▸rfl),Hu h (e▸hn.1)]
   ·refine(Ir e).symm▸?_;show(S q.1,q.2.toNat)::ia (tJ n i h)=(if S q.1=S n then(S q.1,i.toNat)else(S q.1,q.2.toNat))::(ia h).map _;exact(Ir λz=>e (jt z)).symm▸(ih hn.2).symm▸rfl
theorem aex(n:Hn HG):∀h:Hn (Hn HG×HI),jg (ia h) (S n)=(h.lookup n).map Int.toNat:=by
 intro h;induction h with
 |nil=>rfl
 |cons q h ih=>
  unfold jg ia at ih⊢;refine HS.symm▸?_;rw[Lx,HK];by_cases e:n=q.1
  ·subst e;simp
  ·refine(HO.mpr e).symm▸?_;have:decide ((S q.1,q.2.toNat).1=S n)=HH:=Iw λz=>e (jt z).symm;exact this.symm▸ih
theorem dS.look(h:dS st n):jg (ia st.held) (S n)=hb (bg st n).toNat:=by refine aQ h λi h1 o1=>?_;rw[aex,h1];unfold bg;refine h1.symm▸?_;rfl
theorem ab2(h:pl∈dg st)(hn:(dg st).Nodup):ed (ey st.bG) (aB pl)=hb (.int (jf st pl)):=by rw[qY,ag9 hn (acP h)];rfl
variable(bc bu bq:Hv)(aN:aP)
structure B4(c:JC):Prop where
 ux:∀(st:eP)(r:Row)(z:HI),(∀n,eX st n)->c0 aN z r->pU r=HH->iA r=HH->c.P "wrong" [sD bc bu bq st,av r]=hb (dr (aR aN st r))
 give:∀(st:eP)(k:HG)(pl:Hn HG),Inv aN k st->k<=3000->c.R "give" [sD bc bu bq st,aB pl]=hb (.none,sD bc bu bq (d7 aN st (.give pl)))
 new:∀x y:HI,c.N "Value" [.int x,.int y]=hb (oj bu (x,y))
abbrev Gk(k:HG)(h:dS st n)(z:Z):Z:=Ej bc bu bq st k<|fX 1 (acm bu h)<|fX 0 (abt bc bu (de st (bg st n)) (eH st (bg st n))) z
theorem apP(f:jr)(b:HI):tP (kG bc bu "self" λ_=>hb ⟨.int b,.d⟩) "self" (aE bc bu bq f) (aE bc bu bq {f with opened:=f.opened+b}):=λ_ _ h=>abF h rfl
variable{f:jr}{ki:HP}
theorem ajS(v:HI×HI)(h5:f.held.length+1<=sizeLine)(h6:f.aC.length+1<=sizeLine):tP (jb bc bu "self" (λ_=>hb ⟨.str ki,.d⟩) λ_=>hb (oj bu v)) "self" (aE bc bu bq f) (aE bc bu bq {f with held:=j1 f.held ki f.aC.length,aC:=f.aC++[v]}):=λ_ _ h=>abo h rfl rfl h5 h6
theorem alB(h3:jg f.held kj=hb j)(h5:f.held.length+1<=sizeLine):tP (g9 bc bu "self" (λ_=>hb ⟨.str ki,.d⟩) λ_=>hb ⟨.str kj,.d⟩) "self" (aE bc bu bq f) (aE bc bu bq {f with held:=j1 f.held ki j}):=λ_ _ h=>aaK h rfl h3 rfl h5
theorem anN{v:HI×HI}(b:HI)(h3:jg f.held ki=hb j)(h4:f.aC[j]? =hb v):tP (je bc bu "self" (λ_=>hb ⟨.str ki,.d⟩) λ_=>hb ⟨.int b,.d⟩) "self" (aE bc bu bq f) (aE bc bu bq {f with aC:=f.aC.set j (v.1+b,v.2)}):=λ_ _ h=>abr h rfl h3 h4 rfl
theorem ajC(hn:(st.held.map (·.1)).Nodup)(n:Hn HG)(v:HI×HI):aE bc bu bq {fQ st with held:=j1 (fQ st).held (S n) (fQ st).aC.length,aC:=(fQ st).aC++[v]}=sD bc bu bq {st with held:=mn st.held n st.aC.length,aC:=st.aC++[v]}:=HL (λh=>aE bc bu bq {fQ st with held:=h,aC:=st.aC++[v]}) (aa8 hn n (st.aC.length:HG)).symm
theorem amk(H:B4 bc bu bq aN c)(st:eP)(hh:∀n,eX st n)(r:Row)(hr:c0 aN z r)(h1:pU r=HH)(h2:iA r=HH)(hw:aR aN st r≠""):(gG (PC (A0:=A0) bc bu bq aN) (cC bc bu bq aN c) b0).R "do" [sD bc bu bq st,av r]=hb (dr (aR aN st r),sD bc bu bq st):=by have e:=qn (aR aN st r);rw[HO.mpr hw]at e;exact xR (d:=sD bc bu bq st) λ_ t=>fC 0 (dW bc bu bq (fQ st))<|fX 0 (H.ux st r z hh hr h1 h2)<|fB 0 e<|t _ _ rfl rfl
theorem anf(H:B4 bc bu bq aN c)(st:eP)(hi:Inv aN k st)(hk:k<=3000)(r:Row)(hr:c0 aN z r)(h1:pU r=HH)(h2:iA r=HH)(hw:aR aN st r=""):(gG (PC (A0:=A0) bc bu bq aN) (cC bc bu bq aN c) b0).R "do" [sD bc bu bq st,av r]=hb (dr "",sD bc bu bq (d7 aN st r)):=by
 have hn:=lz hi hw;have aH:=hi.room hk;have g5:(fQ st).held.length+1<=sizeLine:=Hs (by show(ia st.held).length+1<=9000;unfold ia;rw[Hr];exact aH.held) (by decide);have g6:(fQ st).aC.length+1<=sizeLine:=Hs (show st.aC.length+1<=9000 from aH.aC) (by decide);have w:=H.ux st r z hi.js hr h1 h2;have sl:=dW bc bu bq (fQ st);rw[hw]at w;cases r with
 |fork k=>cases h2
 |go k=>cases h1
 |op pl=>exact xR (d:=sD bc bu bq st) λ_ t=>fC 0 sl<|fX 0 w<|fX 3 (aah bc bu bq (fQ st))<|fX 0 (adC bc bu bq (fQ st))<|fC 0 (qQ st.bG)<|fC 2 (show(l9 st.bG).length<10000 by rw[adP];exact I0 aH.bG (by decide))<|fT 0 (apP bc bu bq (sF st (.dict (lg (S pl) (.int st.many) (l9 st.bG)))) 1)<|t _ _ rfl (HL (λo=>aE bc bu bq {fQ st with bD:=o,opened:=st.many+1}) (ah5 (show pl∉st.bG.map (·.1)from hn) st.many))
 |lay n pl i=>exact xR (d:=sD bc bu bq st) λ_ t=>fC 0 sl<|fX 0 w<|zg bc bu bq st 6<|fX 1 (ab2 (show pl∈dg st from hn) hi.xe)<|fX 0 (H.new i (jf st pl))<|fT 1 (ajS bc bu bq (i,jf st pl) (ki:=S n) g5 g6)<|t _ _ rfl (ajC bc bu bq hi.hn n _)
 |copy n o pl=>exact xR (d:=sD bc bu bq st) λ_ t=>fC 0 sl<|fX 0 w<|Gk bc bu bq 7 hn.1<|zg bc bu bq st 0<|fX 1 (ab2 hn.2 hi.xe)<|fX 0 (H.new (de st (bg st o)) (jf st pl))<|fT 1 (ajS bc bu bq (de st (bg st o),jf st pl) (ki:=S n) g5 g6)<|t _ _ rfl (ajC bc bu bq hi.hn n _)
 |same n o=>exact xR (d:=sD bc bu bq st) λ_ t=>fC 0 sl<|fX 0 w<|fT 11 (alB bc bu bq (ki:=S n) (dS.look hn) g5)<|t _ _ rfl (HL (λh=>aE bc bu bq {fQ st with held:=h}) (aa8 hi.hn n _).symm)
 |add n o=>exact xR (d:=sD bc bu bq st) λ_ t=>fC 0 sl<|fX 0 w<|Gk bc bu bq 12 hn.2<|fT 0 (anN bc bu bq (f:=fQ st) (de st (bg st o)) hn.1.look (aaW (nI hn.1).1 (nI hn.1).2))<|t _ _ rfl rfl
 |tell n=>exact xR (d:=sD bc bu bq st) λ_ t=>fC 0 sl<|fX 0 w<|fX 13 (ahV bc bu bq (fQ st))<|Gk bc bu bq (n:=n) 0 hn<|fC 0 (rH (p:=.int) aH.told)<|t _ _ rfl (HL (λo=>aE bc bu bq {fQ st with told:=.list o}) (HJ (f:=IL) (l₁:=st.told) (l₂:=[de st (bg st n)])).symm)
 |give pl=>exact xR (d:=sD bc bu bq st) λ_ t=>fC 0 sl<|fX 0 w<|fC 16 sl<|fP 1 (H.give st k pl hi hk)<|t _ _ rfl rfl
 |fin=>exact xR (d:=sD bc bu bq st) λ_ t=>fC 0 sl<|fX 0 w<|t _ _ rfl rfl
end
section
noncomputable def dJ:Hn HP:=["end","row","steps","told","opened","given"]
def AA(V O:Hv)(f:HP):Hp (Hv×Hn HP):=bif f=="Value"then hb (V,valNames)else bif f=="Outcome"then hb (O,dJ)else Hu
theorem n9(C:Hv)(rs:Hn (HP×Hv))(fs:Hn (HP×Ho))(y:HP)(z:Ho)(h:(!dz y (fs.map λp=>(.str p.1,p.2))&&Ln (rs.length+fs.length) 18&& !qE y (rs.map λq=>.tuple [.str q.1,.int q.2]))=Hq:=by kernel_rfl):zp C y z (ec C rs fs)=hb (ec C rs (fs++[(y,z)])):=by obtain⟨h,h3⟩:=aj h;obtain⟨h1,h2⟩:=aj h;unfold zp;(rw[eU,HT];refine iT ⟨cE h3,cE h1,by simpa using IE h2⟩ ?_);unfold ec;refine HJ.symm▸?_;rfl
variable{V O:Hv}
theorem aia(x y:HI):(gG (PP S0 (AA V O)) c Hq).N "Value" [.int x,.int y]=hb (oj V (x,y)):=
 xN (q:=(V,valNames)) rfl λ_ r=>fX 1 (n9 V [] [] "amount" (.int x))<|fX 1 (n9 V [] [("amount",.int x)] "opening" (.int y))<|r _ rfl
def m8(O:Hv)(w:I2)(pl j:HI)(st:eP):Ho:=ec O [] [("end",dr w),("row",.int pl),("steps",.int j),("told",.list (aq st.told)),("opened",.int st.many),("given",.list (aq st.given))]
theorem toL(l:Hn HI)(f:Fl):qJ [⟨.list (aq l),f⟩]=hb (.list (aq l)):=H5 (il l)
theorem aej{pl:Hn Ho}(w:I2)(at' j:HI)(st:eP):(gG (PP (hb (C,V,nj,pl)) (AA V O)) c Hq).N "Outcome" [dr w,.int at',.int j,(aE C V nj (fQ st))]=hb (m8 O w at' j st):=by exact xN (q:=(O,dJ)) rfl (λ_ r=>fX 1 (n9 O [] [] "end" (dr w))<|fX 1 (n9 O [] [("end",dr w)] "row" (.int at'))<|fX 1 (n9 O [] [("end",dr w),("row",.int at')] "steps" (.int j))<|fX 0 (acC C V nj (fQ st))<|fX 0 (toL st.told .s)<|fX 0 (n9 O [] [("end",dr w),("row",.int at'),("steps",.int j)] "told" (.list (aq st.told)))<|fX 0 (aah C V nj (fQ st))<|fX 1 (n9 O [] [("end",dr w),("row",.int at'),("steps",.int j),("told",.list (aq st.told))] "opened" (.int st.many))<|fX 0 (acq C V nj (fQ st))<|fX 0 (toL st.given .s)<|fX 0 (n9 O [] [("end",dr w),("row",.int at'),("steps",.int j),("told",.list (aq st.told)),("opened",.int st.many)] "given" (.list (aq st.given)))<|r _ rfl)
end
section
variable{V O:Hv}(bc bq:Hv)(aN:aP)
structure zG(V O:Hv)(c:JC):Prop where
 afO:∀(rs:Hn Row)(k:HG),c.F "row_at" [.list (rs.map av),.int k]=hb (av (eD rs k))
 ok:∀(st:eP)(k:HG)(r:Row)(z:HI),Inv aN k st->k<=3000->c0 aN z r->pU r=HH->iA r=HH->aR aN st r=""->c.R "do" [sD bc V bq st,av r]=hb (dr "",sD bc V bq (d7 aN st r))
 bad:∀(st:eP)(r:Row)(z:HI),(∀n,eX st n)->c0 aN z r->pU r=HH->iA r=HH->aR aN st r≠""->c.R "do" [sD bc V bq st,av r]=hb (dr (aR aN st r),sD bc V bq st)
 out:∀(w:I2)(i j:HI)(st:eP),c.N "Outcome" [dr w,.int i,.int j,sD bc V bq st]=hb (m8 O w i j st)
 Fd:∀B,c.F "Outcome" B=Hu
def BR(V:Hv)(rs:Hn Row)(bY:Hn HI)(n:HG)(pl tk:HI)(st:eP)(j:HI):En:=[("plots",sh (.list (aN.map aF))),("rows",sh (.list (rs.map av))),("inputs",sh (.list (aq bY))),("steps",D (.int n)),("store",.own (.tree Hu (sD bc V bq st))),("at",D (.int pl)),("done",D (.int j)),("taken",D (.int tk))]
def Fh(V:Hv)(rs:Hn Row)(bY:Hn HI)(n:HG)(s:WS)(j:HG):En:=BR bc bq aN V rs bY n s.pl s.tk s.st j
def x8(O:Hv)(q:I2×HG×WS):Ho:=m8 O q.1 q.2.2.pl q.2.1 q.2.2.st
section
variable{bc bq aN}{n:HG}
theorem nz(e0:eD rs s.pl=row)(r:WR aN rs bY n j s)(hj:j<n)(hr:fF aN rs)(he:(kX row|| !(aR aN s.st row==""))=HH){l:En}(q:Fh bc bq aN V rs bY n (stepT aN bY row s) (j+1)=l):∃y:WS×HG,WR aN rs bY n y.2 y.1/\n-y.2<n-j/\Fh bc bq aN V rs bY n y.1 y.2=l:=⟨(_,j+1),r.next e0 hj hr he,Po hj (L4 j),q⟩
theorem aga(e0:eD rs s.pl=row)(r:WR aN rs bY n j s)(hj:j<n)(he:(kX row|| !(aR aN s.st row==""))=Hq):x8 O (fM aN rs bY n 0 sP)=m8 O (bif aR aN s.st row==""then"done"else aR aN s.st row) s.pl ((j:HI)+1) s.st:=HL (x8 O) (r.end e0 hj he)
def zRn(H:zG bc bq aN V O c)(hr:fF aN rs)(hn:n<=3000)(e0:eD rs s.pl=row)(r:WR aN rs bY n j s)(hj:j<n)(t:(y:Ho)->y=x8 O (fM aN rs bY n 0 sP)->Z)(e:(l:En)->(∃y:WS×HG,WR aN rs bY n y.2 y.1/\n-y.2<n-j/\Fh bc bq aN V rs bY n y.1 y.2=l)->Z):Z:=
 bB 1 (akn row) (λhg=>fX 0 (tQ (.inl hg))<|e (BR bc bq aN V rs bY n (arg row) s.tk s.st ((j:HI)+1)) (nz e0 r hj hr (wW (.inl hg)) (by refine(adu hg).symm▸?_;exact HL (λi=>BR bc bq aN V rs bY n i s.tk s.st ((j:HI)+1)) (tm (e0▸gx hr s.pl)))))
  λhg=>bB 1 (adq row)
   (λhf=>.br (decide ((s.tk:HI)<((aq bY).length:HG)))
    (λht=>fX 0 (aj3 ht)<|fB 0 (ne_int (uQ bY s.tk) 0)<|.br (B5 bY s.tk)
     (λhk=>fX 0 (tQ (.inr hf))<|e (BR bc bq aN V rs bY n (arg row) ((s.tk:HI)+1) s.st ((j:HI)+1)) (nz e0 r hj hr (wW (.inr hf)) (by(refine(step_fork hf).symm▸?_;refine hk.symm▸?_);exact HL (λi=>BR bc bq aN V rs bY n i ((s.tk:HI)+1) s.st ((j:HI)+1)) (tm (e0▸gx hr s.pl)))))
     λhk=>e (BR bc bq aN V rs bY n ((s.pl:HI)+1) ((s.tk:HI)+1) s.st ((j:HI)+1)) (nz e0 r hj hr (wW (.inr hf)) (by(refine(step_fork hf).symm▸?_;refine hk.symm▸?_);rfl)))
    λht=>e (BR bc bq aN V rs bY n ((s.pl:HI)+1) ((s.tk:HI)+1) s.st ((j:HI)+1)) (nz e0 r hj hr (wW (.inr hf)) (by(refine(step_fork hf).symm▸?_;refine(ae9 ht).symm▸?_);rfl)))
   λhf=>.cs (aR aN s.st row=="")
    (λhw=>fC 0 (dW bc V bq (fQ s.st))<|fC 0 (fk row)<|fP 0 (H.ok s.st j row _ r.inv (Hs r.le hn) (e0▸gx hr s.pl) hg hf (aw hw))<|bB 4 (agu row)
     (λhF=>fN 0 H.Fd<|fX 0 (H.out "done" s.pl ((j:HI)+1) (d7 aN s.st row))<|t (m8 O "done" s.pl ((j:HI)+1) (d7 aN s.st row)) (by(refine(aga e0 r hj (by refine hF.symm▸?_;rfl)).symm▸?_;refine hw.symm▸(ag5 hF).symm▸?_);rfl))
     λhF=>e (BR bc bq aN V rs bY n ((s.pl:HI)+1) s.tk (d7 aN s.st row) ((j:HI)+1)) (nz e0 r hj hr (by(refine hF.symm▸?_;refine hw.symm▸?_);rfl) (by refine(aaV hg hf).symm▸?_;rfl)))
    λhw=>fC 0 (dW bc V bq (fQ s.st))<|fC 0 (fk row)<|fP 0 (H.bad s.st row _ r.inv.js (e0▸gx hr s.pl) hg hf (HO.mp hw))<|fB 2 ((qn _).trans (by rw[hw];rfl):_=hb Hq)<|fN 0 H.Fd<|fX 0 (H.out (aR aN s.st row) s.pl ((j:HI)+1) s.st)<|t (m8 O (aR aN s.st row) s.pl ((j:HI)+1) s.st) (by(refine(aga e0 r hj (by rw[hw,Bool.not_false,NK])).symm▸?_;refine hw.symm▸?_);rfl)
end
theorem agz(H:zG bc bq aN V O c)(hr:fF aN rs)(bY:Hn HI)(n:HG)(hn:n<=3000):(Mf (PC (A0:=AA V O) bc V bq aN) (cC bc V bq aN c) "run").G 57 (bd (PC (A0:=AA V O) bc V bq aN) "run") 3 ([("plots",sh (.list (aN.map aF))),("rows",sh (.list (rs.map av))),("inputs",sh (.list (aq bY))),("steps",D (.int n)),("store",.own (.tree Hu (aE bc V bq DG)))]:En) (λo=>o=hb (.ret (x8 O (fM aN rs bY n 0 sP)))):=by
 let t (y:Ho) (h:y=x8 O (fM aN rs bY n 0 sP)):Z:=.q _ (HL (λy=>hb (Out.ret y)) h);exact vg (wh (λx:WS×HG=>Fh bc bq aN V rs bY n x.1 x.2) (λx=>WR aN rs bY n x.2 x.1) (λx=>n-x.2) (sP,0) .zero (by exact HC hn (by decide)) λx r e=>.br (decide ((x.2:HI)<(n:HI)))
  (λhj=>fX 0 (H.afO rs x.1.pl)<|zRn H hr hn rfl r (Jj.mp (IW hj)) t e)
  λhj=>fN 0 H.Fd<|fX 0 (H.out "going" x.1.pl x.2 x.1.st)<|t (m8 O "going" x.1.pl x.2 x.1.st) (by
   have e:x.2=n:=by have:=Ji hj;have:=r.le;exact M7 this (JQ λq=>IG (Jj.mpr q) (Ji hj))
   rw[e]at r⊢;refine r.last.symm▸?_;rfl))
end
section
abbrev cI(c:JC)(O:Hv):JC:={c with S:=Hu,I:=hb (O,dJ)}
theorem anT(h:B.length+ys.length<=20000)(hf:bZ (B++ys)=Hq):gD .Add ⟨.list B,f⟩ ⟨.list ys,g⟩=hb ⟨.list (B++ys),.d⟩:=by show Jo _ (if B.length+ys.length<=sizeLine then hb (Mw (B++ys))else Hu)=_;rw[H5 (Hs h (by decide))];show hb (V.eE _ _)=_;unfold V.eE;refine hf.symm▸?_;rfl
theorem t7(h:plain 60 gc):bV .NotEq gc gc=hb HH:=by(refine(AN h h).trans ?_;refine(rg gc h.1).symm▸?_);rfl
theorem mW(l:Hn HI):plain 2 (.list (aq l)):=cV λx hx=>by
 refine aQ (HX.mp hx) λa o1 o2=>?_;subst o2;exact eT a
theorem l5(h:bZ B=Hq):uD [⟨.list B,f⟩]=hb ⟨.list B,.d⟩:=by show hb (V.eE B f)=_;unfold V.eE;refine h.symm▸?_;rfl
theorem aiH(B:Hn α):B.filterMap (λ_=>(Hu:Hp β))=[]:=by
 induction B with
 |nil=>exact rfl
 |cons _ B bX=>exact bX
variable{O:Hv}
theorem ou(w:I2)(pl j:HI)(st:eP)(y:HP)(hy:iL dJ y=Hq)(h:atKey y (([("end",dr w),("row",.int pl),("steps",.int j),("told",.list (aq st.told)),("opened",.int st.many),("given",.list (aq st.given))]:Hn (HP×Ho)).map λp=>(.str p.1,p.2))=hb gc):j7 O dJ y (m8 O w pl j st)=hb gc:=by unfold j7 m8;(rw[eU,HT];refine iT (th hy) ?_);exact h
def acb(c:JC):Prop:=∀i:HI,c.F "_law_whole" [.int i]=hb (.bool Hq)
structure ajY(O:Hv)(ps:aP)(rs:Hn Row)(bY:Hn HI)(n:HG)(c:JC):Prop where
 run:c.F "run" [(.list (ps.map aF)),(.list (rs.map av)),(.list (aq bY)),.int n]=hb (x8 O (fM ps rs bY n 0 sP))
 walk:c.F "_law_walk" [(.list (ps.map aF)),(.list (rs.map av)),(.list (aq bY)),.int n]=hb (nR (fM ps rs bY n 0 sP))
 whole:acb c
theorem agb(hr:fF ps rs)(bY:Hn HI):∀(m j:HG)(s:WS),Inv ps j s.st->Inv ps (j+m) (fM ps rs bY m j s).2.2.st:=by
 intro m;induction m with
 |zero=>intro j s hi;exact hi
 |succ m ih=>
  intro j s hi;rw[tI];cases he:(kX (eD rs s.pl)|| !(aR ps s.st (eD rs s.pl)==""))with
  |true=>rw[xJ,he];exact hi.mono (Ib _ _)
  |false=>rw[xJ,he];refine ew (Jn.mp he) λh1 h2=>?_;obtain hw:aR ps s.st (eD rs s.pl)="":=aw (by simpa using h2);have:=ih (j+1) _ (abE (bY:=bY) hi hw (gx hr s.pl));rw[LD]at this;exact this
theorem aeF(o:Hp (Hn HG)):plain 1 (ke o):=by
 cases o with
 |none=>exact aay
 |some n=>exact bT _
theorem ac9(q:Hn HG×Hp (Hn HG)):plain 2 (aF q):=hY λx hx=>by
 exact Cb x hx (bT _) (aeF _)
theorem aeR(r:Row):plain 2 (av r):=hY (fm (bT _) (by
 cases r with
 |op p=>exact fm (bT _) wV
 |lay n p i=>exact fm (bT _) (fm (bT _) (fm (eT _) wV))
 |copy n o p=>exact fm (bT _) (fm (bT _) (fm (bT _) wV))
 |same n o=>exact fm (bT _) (fm (bT _) wV)
 |add n o=>exact fm (bT _) (fm (bT _) wV)
 |tell n=>exact fm (bT _) wV
 |give p=>exact fm (bT _) wV
 |fork k=>exact fm (eT _) wV
 |go k=>exact fm (eT _) wV
 |fin=>exact wV))
theorem abL(ps:aP)(rs:Hn Row)(bY:Hn HI):bV .NotEq (.list [(.list (ps.map aF)),(.list (rs.map av)),(.list (aq bY))]) (.list [(.list (ps.map aF)),(.list (rs.map av)),(.list (aq bY))])=hb HH:=t7 (b7 (cV (k:=3) λx hx=>by
 simp only[Hw,Ia,Kv]at hx;rcases hx with rfl|rfl|rfl
 ·exact cV λy hy=>by refine aQ (HX.mp hy) λa o1 o2=>?_;subst o2;exact ac9 a
 ·exact cV λy hy=>by refine aQ (HX.mp hy) λa o1 o2=>?_;subst o2;exact aeR a
 ·exact b7 (mW bY) (by decide)) (by decide))
theorem abx(w:I2):bV .NotEq (dr w) (dr w)=hb HH:=t7 (b7 (bT _) (by decide))
def oh(l:Hn HI):HI:=bif decide (cJ l 5/1000%16=3)then(cJ l 5/10%100)*4 else(cJ l 5/10%100)
def gf(l:Hn HI):HI:=bif(decide (cJ l 5/1000%8=5)&&decide (cJ l 3%3=1))then oh l*20 else oh l
theorem qV(l:Hn HI):0<=gf l/\gf l<=1980:=by
 obtain h0:0<=(cJ l 5/10%100)/\(cJ l 5/10%100)<=99:=A9 _ (by decide) (by decide);dsimp only[gf,oh];by_cases h6:cJ l 5/1000%16=3
 ·obtain h7:¬cJ l 5/1000%8=5:=λh=>by lia
  refine(Ip h6).symm▸?_;(rw[Iw h7];dsimp only[Ku];rw[Og];dsimp only[Kg]);exact⟨Ow (Ic _ (by decide)) (by decide),HY (L9 (A9 (b:=99) _ (by decide) (by decide)).2 (by decide)) (by decide)⟩
 ·refine(Iw h6).symm▸?_;dsimp only[Kg];clear h0;cases decide (cJ l 5/1000%8=5)&&decide (cJ l 3%3=1)with
  |true=>exact⟨Ow (Ic _ (by decide)) (by decide),HY (L9 (A9 (b:=99) _ (by decide) (by decide)).2 (by decide)) (by decide)⟩
  |false=>exact A9 _ (by decide) (by decide)
structure Cg(c:JC)(l:Hn HI)(rs:Hn Row):Prop where
 at_:qU c
 kU:c.F "_law_plots" [(.list (aq l))]=hb (.list ((d9 l).map aF))
 names:c.F "_law_names" [(.list (aq l)),(.list ((d9 l).map aF))]=hb (.list ((jM l (d9 l)).map aB))
 am8:c.F "_law_program" [(.list (aq l)),(.list ((d9 l).map aF)),(.list ((jM l (d9 l)).map aB))]=hb (.list (rs.map av))
 El:c.F "_law_is_plain" [(.list (aq l))]=hb (.bool (hG l))
 amo:c.F "_law_inputs" [.int (cJ l 4/60)]=hb (.list (aq (iP (cJ l 4/60))))
theorem akc(w:I2)(pl j:HI)(st:eP):j7 O dJ "end" (m8 O w pl j st)=hb (dr w):=ou w pl j st "end" rfl rfl
theorem ajN(w:I2)(pl j:HI)(st:eP):j7 O dJ "row" (m8 O w pl j st)=hb (.int pl):=ou w pl j st "row" rfl rfl
theorem ajQ(w:I2)(pl j:HI)(st:eP):j7 O dJ "steps" (m8 O w pl j st)=hb (.int j):=ou w pl j st "steps" rfl rfl
theorem ze(w:I2)(pl j:HI)(st:eP):j7 O dJ "told" (m8 O w pl j st)=hb (.list (aq st.told)):=ou w pl j st "told" rfl rfl
theorem aka(w:I2)(pl j:HI)(st:eP):j7 O dJ "opened" (m8 O w pl j st)=hb (.int st.many):=ou w pl j st "opened" rfl rfl
theorem zk(w:I2)(pl j:HI)(st:eP):j7 O dJ "given" (m8 O w pl j st)=hb (.list (aq st.given)):=ou w pl j st "given" rfl rfl
theorem anu(a b d:HI):bV .NotEq (.tuple [.int a,.int b,.int d]) (.tuple [.int a,.int b,.int d])=hb HH:=t7 (b7 (hY (k:=1) λx hx=>by
 simp only[Hw,Ia,Kv]at hx;rcases hx with rfl|rfl|rfl<;>exact eT _) (by decide))
theorem ag0{a b:Hn HI}(h:a.length+b.length<=9000):gD .Add ⟨.list (aq a),.d⟩ ⟨.list (aq b),.d⟩=hb ⟨.list (aq (a++b)),.d⟩:=by have:aq (a++b)=aq a++aq b:=HJ;exact this.symm▸anT (by unfold aq;rw[Hr,Hr];exact Hs h (by decide)) (this▸il _)
def zLw{u v:HI}(hv:u=v){q:I2×HG×WS}(f:Fl)(hw:acb c)(h1:c.F "run" [(.list (ps.map aF)),(.list (rs.map av)),(.list (aq bY)),.int u]=hb (x8 O q))(h2:c.F "_law_walk" [(.list (ps.map aF)),(.list (rs.map av)),(.list (aq bY)),.int u]=hb (nR q))(hs:q.2.2.st.told.length+q.2.2.st.given.length<=9000)(t:Z):Z:=
 fV 0 (l5 (B:=ps.map aF) (f:=f) (fA cZ _))<|fV 0 (l5 (B:=rs.map av) (f:=.t) (eF rs))<|fV 0 (l5 (B:=aq bY) (f:=.d) (il bY))<|fX 3 (hv▸h1:c.F "run" [(.list (ps.map aF)),(.list (rs.map av)),(.list (aq bY)),.int v]=hb (x8 O q))<|fX 0 (hv▸h2:c.F "_law_walk" [(.list (ps.map aF)),(.list (rs.map av)),(.list (aq bY)),.int v]=hb (nR q))<|fB 2 (abL ps rs bY)<|fX 0 (akc (O:=O) q.1 q.2.2.pl q.2.1 q.2.2.st)<|fX 1 (akc (O:=O) q.1 q.2.2.pl q.2.1 q.2.2.st)<|fB 0 (abx q.1)<|
 fX 0 (ajN (O:=O) q.1 q.2.2.pl q.2.1 q.2.2.st)<|fX 0 (ajQ (O:=O) q.1 q.2.2.pl q.2.1 q.2.2.st)<|fX 0 (aka (O:=O) q.1 q.2.2.pl q.2.1 q.2.2.st)<|vL _ [(q.2.2.pl:HI),(q.2.1:HI),q.2.2.st.many] .int (λ_=>rfl) (λ_=>Hu) [] rfl (λi _=>fX 0 (hw i)<|.q _ (Mg (Hu:Hp Ho)))<|
 fX 2 (ajN (O:=O) q.1 q.2.2.pl q.2.1 q.2.2.st)<|fX 0 (ajQ (O:=O) q.1 q.2.2.pl q.2.1 q.2.2.st)<|fX 0 (aka (O:=O) q.1 q.2.2.pl q.2.1 q.2.2.st)<|fB 3 (anu q.2.2.pl q.2.1 q.2.2.st.many)<|fX 1 (ze (O:=O) q.1 q.2.2.pl q.2.1 q.2.2.st)<|fX 1 (zk (O:=O) q.1 q.2.2.pl q.2.1 q.2.2.st)<|fX 1 (ze (O:=O) q.1 q.2.2.pl q.2.1 q.2.2.st)<|fX 0 (zk (O:=O) q.1 q.2.2.pl q.2.1 q.2.2.st)<|fV 0 (ag0 hs)<|vL _ (q.2.2.st.told++q.2.2.st.given) .int (λ_=>rfl) (λ_=>Hu) [] (aiH _) (λi _=>fX 0 (hw i)<|.q _ (Mg (Hu:Hp Ho)))<|
 fX 2 (ze (O:=O) q.1 q.2.2.pl q.2.1 q.2.2.st)<|fB 1 (aa7 (b7 (mW q.2.2.st.told) (by decide)))<|fX 0 (zk (O:=O) q.1 q.2.2.pl q.2.1 q.2.2.st)<|fB 1 (aa7 (b7 (mW q.2.2.st.given) (by decide)))<|t
theorem ajz{n:HG}(h:Inv ps (0+n) st)(hn:n<=3000):st.told.length+st.given.length<=9000:=by have:=h.told;have:=h.gv;exact Hs (Js ‹_› (Hs (Ib _ _) this)) (Hs (Js (Ij hn 0) (Ij hn 0)) (by decide))
variable{l:Hn HI}
def zS2(a3:c.F "_law_at" [.list (aq l),.int 3]=hb (.int (cJ l 3)))(a5:c.F "_law_at" [.list (aq l),.int 5]=hb (.int (cJ l 5)))(u:HI)(hu:oh l=u)(aH:(v:HI)->gf l=v->Z):Z:=
 fS 0<|fX 0 a5<|fB 2 (sN (cJ l 5/1000%8) 5)<|fX 0 a3<|fB 1 (sN (cJ l 3%3) 1)<|.br (decide (cJ l 5/1000%8=5)&&decide (cJ l 3%3=1)) (λh=>aH (u*20) (by unfold gf;(refine h.symm▸hu.symm▸?_);rfl)) λh=>aH u (by unfold gf;(refine h.symm▸hu.symm▸?_);rfl)
def zMd(A:Cg c l rs)(k:HG)(aH:(v:HI)->gf l=v->Z):Z:=
 fX k (A.at_ l 4 (by decide))<|fX 1 A.amo<|fX 0 (A.at_ l 5 (by decide))<|fX 2 (A.at_ l 5 (by decide))<|bB 2 (sN (cJ l 5/1000%16) 3) (λh=>zS2 (A.at_ l 3 (by decide)) (A.at_ l 5 (by decide)) (cJ l 5/10%100*4) (by unfold oh;refine h.symm▸?_;rfl) aH) λh=>zS2 (A.at_ l 3 (by decide)) (A.at_ l 5 (by decide)) (cJ l 5/10%100) (by unfold oh;refine h.symm▸?_;rfl) aH
variable{V:Hv}
theorem anU(A:Cg c l rs)(hr:fF (bif hG l then[]else(d9 l)) rs)(H:ajY O (bif hG l then[]else(d9 l)) rs (iP (cJ l 4/60)) (gf l).toNat c):(gG (PP Hu (AA V O)) (cI c O) b0).F "law" [(.list (aq l))]=hb (.bool Hq):=by
 have ym:(gf l).toNat<=3000:=by have:=(qV l).2;exact JE.mpr (HY this (by decide))
 have h1:=H.run;have h2:=H.walk;rw[(Lu (qV l).1)]at h1 h2;have hs:=agb hr (iP (cJ l 4/60)) (gf l).toNat 0 sP (zJ _);cases hp:hG l with
 |false=>rw[hp]at h1 h2 hs hr;exact xF λt=>fX 0 A.kU<|fX 0 A.names<|fX 0 A.am8<|fC 0 (eF rs)<|fX 0 (hp▸A.El)<|zMd A 0 λv hv=>zLw hv .d H.whole h1 h2 (ajz hs ym) (t _ rfl)
 |true=>rw[hp]at h1 h2 hs hr;exact xF λt=>fX 0 A.kU<|fX 0 A.names<|fX 0 A.am8<|fC 0 (eF rs)<|fX 0 (hp▸A.El)<|zMd A 0 λv hv=>zLw hv .t H.whole h1 h2 (ajz hs ym) (t _ rfl)
end
section
section
variable(S0:Hp (Hv×Hv×Hv×Hn Ho))(A0:HP->Hp (Hv×Hn HP))(eV:HG)
abbrev X:JC:=jc (PP S0 A0) eV
theorem rX:qU (X S0 A0 (eV+1)):=λl k h=>apA l k h
theorem qB:lO (X S0 A0 (eV+1)):=λx k s h h1 h2=>afw x k s h h1 h2
theorem y6:w9 (X S0 A0 (eV+1)):=λps n h=>aaF ps h n
theorem akQ:afh (X S0 A0 (eV+1)):=λst n h=>akD st n h
theorem ajn:wa (X S0 A0 (eV+1)):=λx ps ns z h h1 h2=>ano x ps ns z h h1 h2
theorem adw:tg (X S0 A0 (eV+2)):=λps st r h h1=>aiM (y6 S0 A0 eV) (akQ S0 A0 eV) ps h st h1 r
theorem afp:tq (X S0 A0 (eV+2)):=λps st r h h1 h2=>alT (y6 S0 A0 eV) ps h st h1 r h2
theorem al7:adp (X S0 A0 (eV+3)):=λx ps ns st h1 h2 h3 h4 h5 h6=>by
 obtain⟨y,e,r,rfl,h⟩:=akL (S0:=S0) (A0:=A0) (b0:=Ln 1 (eV+2)) (ajn S0 A0 (eV+1)) (adw S0 A0 eV) x h1 h2 h3 h4 h5 h6;exact i12 r e h
theorem anZ:w0 (X S0 A0 (eV+3)):=⟨λst ns h h1=>alv st ns h h1,λseen dT x h h1=>alo h h1 x,al7 S0 A0 eV,afp S0 A0 (eV+1)⟩
theorem adN:(X S0 A0 (eV+1)).T "_law_fresh"=hb (fG vz):=ai2
theorem akF:we (X S0 A0 (eV+4))where
 at_:=rX S0 A0 (eV+3)
 row:=ajn S0 A0 (eV+3)
 El:=λl=>aaB (rX S0 A0 (eV+2)) l
 plain:=λl ns h=>aiW l h
 aju:=λl=>aiL (rX S0 A0 (eV+2)) l
 many:=λl p pt=>alJ (rX S0 A0 (eV+2)) (qB S0 A0 (eV+2)) l p pt
 lap:=λl ps ns h h1 h2=>an4 (rX S0 A0 (eV+2)) l h h1 h2
 nest:=λl ps ns h h1 h2=>alQ (rX S0 A0 (eV+2)) (y6 S0 A0 (eV+2)) l h h1 h2
 adQ:=λB ps ns h h1 h2 h3 h4=>aed (anZ S0 A0 eV) (adN S0 A0 (eV+2)) B h h1 h2 h3 h4
theorem amq:vD (X S0 A0 (eV+2)):=⟨adw S0 A0 eV,afp S0 A0 eV,adN S0 A0 (eV+1)⟩
theorem kO:X S0 A0 (eV+1)=gG (PP S0 A0) (kc (X S0 A0 eV)) (Ln 1 eV):=by cases eV<;>rfl
theorem ahi:rj (X S0 A0 (eV+1)):=λn h=>by
 rw[kO];exact aeA h
theorem adR:qf (X S0 A0 (eV+1)):=λi=>ac6 i
theorem abm(h:aZ ps):(X S0 A0 (eV+2)).F "need_plots" [.list (ps.map aF)]=hb .none:=by rw[kO];exact abp (ahi S0 A0 eV) h
theorem al4:vT (X S0 A0 (eV+2)):=by
 obtain a:=ahi S0 A0 eV;obtain b:=adR S0 A0 eV;refine⟨λh k=>?_,λh=>?_,λh k=>?_,λh k=>?_⟩
 ·rw[kO];exact aeq a h k
 ·rw[kO];exact ad4 a h
 ·rw[kO];exact abO b h k
 ·rw[kO];exact acW b h k
theorem ae5:ag4 (X S0 A0 (eV+3)):=λps z r h k=>by
 rw[kO];exact afc (al4 S0 A0 eV) h r k
theorem amn(h:aZ ps)(hr:fF ps rs):(X S0 A0 (eV+4)).F "need" [.list (ps.map aF),.list (rs.map av)]=hb (.bool Hq):=by rw[kO];exact al1 (abm S0 A0 (eV+1) h) (ae5 S0 A0 eV) h hr.len hr.ok
theorem acD(l:Hn HI){n:HI}(h0:0<=n)(h1:n<=1000000):(X S0 A0 (eV+2)).F "need_run" [.list (aq l),.int n]=hb .none:=by rw[kO];exact acB (adR S0 A0 eV) l h0 h1
end
section
variable(bc bq bu rI:Hv)(gN:aZ ps)(eV:HG)
abbrev kR(ps:aP)(eV:HG):JC:=jc (PP (hb (bc,bu,bq,ps.map aF)) (AA bu rI)) eV
theorem oY:kR bc bq bu rI ps (eV+1)=gG (PP (hb (bc,bu,bq,ps.map aF)) (AA bu rI)) (cS (kR bc bq bu rI ps eV) (bc,bu,bq,ps.map aF)) (Ln 1 eV):=by cases eV<;>rfl
theorem apX:cS (kR bc bq bu rI ps eV) (bc,bu,bq,ps.map aF)=kR bc bq bu rI ps eV:=by cases eV<;>rfl
include gN
theorem akb:oU ps (kR bc bq bu rI ps (eV+1)):=λq hq=>aeV gN hq
omit gN in
theorem amf:ae4 bc bu bq (kR bc bq bu rI ps (eV+1)):=λst x y=>by
 rw[oY];exact akT bc bu bq ps st x y
omit gN in
theorem amb:aa2 bc bu bq (kR bc bq bu rI ps (eV+2)):=λst n h=>by
 rw[oY];exact aec bc bu bq ps st (amf bc bq bu rI eV) n h
theorem amW:B4 bc bu bq ps (kR bc bq bu rI ps (eV+3))where
 ux:=λst r z h h1 h2 h3=>by
  rw[oY];exact ahp bc bu bq ps gN (akb bc bq bu rI gN (eV+1)) (amb bc bq bu rI eV) st h r h1 h2 h3
 give:=λst k pl h h1=>by
  rw[oY];exact alg bc bu bq ps gN (akb bc bq bu rI gN (eV+1)) st h h1 pl
 new:=λx y=>aia x y
theorem anx:zG bc bq ps bu rI (kR bc bq bu rI ps (eV+4))where
 afO:=λrs k=>ag3 rs k
 ok:=λst k r z h h1 h2 h3 h4 h5=>by
  rw[oY];exact anf bc bu bq ps (amW bc bq bu rI gN eV) st h h1 r h2 h3 h4 h5
 bad:=λst r z h h1 h2 h3 h4=>by
  rw[oY];exact amk bc bu bq ps (amW bc bq bu rI gN eV) st h r h1 h2 h3 h4
 out:=λw i j st=>aej w i j st
 Fd:=λB=>by kernel_rfl
theorem akR(hr:fF ps rs)(bY:Hn HI)(n:HG)(hn:n<=3000):(Mf (PP (hb (bc,bu,bq,ps.map aF)) (AA bu rI)) (kR bc bq bu rI ps (eV+4)) "run").G 57 (bd (PP (hb (bc,bu,bq,ps.map aF)) (AA bu rI)) "run") 3 ([("plots",sh (.list (ps.map aF))),("rows",sh (.list (rs.map av))),("inputs",sh (.list (aq bY))),("steps",D (.int n)),("store",.own (.tree Hu (aE bc bu bq DG)))]:En) (λo=>o=hb (.ret (x8 rI (fM ps rs bY n 0 sP)))):=by have:=agz bc bq ps (anx bc bq bu rI gN eV) hr bY n hn;unfold cC at this;rw[apX]at this;exact this
end
end
variable{h:Iv}{x:HP}
theorem nT.up(g:bA h h')(a:nT Y w h x d):nT Y w h' x d:=
 Exists.imp (λv h=>h.imp λas h=>⟨h.1.up g,h.2.1.grow g,h.2.2⟩) a
theorem lD.up(g:bA h h')(D:lD h x sc Ag yF):lD h' x sc Ag yF:=
 let⟨a,n,d⟩:=D
 ⟨a,n.up g,d.up g⟩
abbrev PN(V O:Hv):JP:=PP Hu (AA V O)
abbrev PS(C V O p:Hv)(ps:aP):JP:=PP (hb (C,V,p,ps.map aF)) (AA V O)
structure rR(w:Ja)(U:Iv)(C V O:Hv):Prop where
 R:fh pw [] U U
 T:x3 (PN V O) w U
 G:bt U "Store" (.ref C)
 KC:∃mC,jX aG U C mC
 E:∀y q,o7 pw "Store" y=hb q->MethAt U C y q.2.2 q.1 q.2.1
theorem rR.some{C V O:Hv}(S:rR w U C V O){aO:Iv}(g:bA U aO){p:Hv}{ps:aP}(h:qH pw w aO p (ps.map aF)):x3 (PS C V O p ps) w aO where
 B:=S.T.B.up g
 all:=S.T.all.up g
 abs:=S.T.abs.up g
 max:=S.T.max.up g
 sorted:=S.T.sorted.up g
 enumerate:=S.T.enumerate.up g
 zip:=S.T.zip.up g
 K:=λx d e=>(S.T.K x d e).up g
 D:=λf q e=>(S.T.D f q e).up g
 S:=λs e=>by
  obtain rfl:=si e;refine dA S.KC λmC KC=>xg (S.T.A "Value" (V,valNames) (by kernel_rfl)) λo1 o2 o3=>?_;obtain⟨mV,KV⟩:=o2;exact⟨⟨mC,KC.up g⟩,⟨mV,KV.up g⟩,h⟩
 E:=λs e y q hq=>by
  obtain rfl:=si e;exact(S.E y q (fJ hq).2).up g
 A:=λf s e=>by
  refine xg (S.T.A f s e) λh1 o1 h3=>?_;obtain⟨mC,h2⟩:=o1;exact lW (h1.up g) ⟨mC,h2.up g⟩ (λq hq=>Dx (h3 q hq) λmC f fo fd r k1 k2 k3 k4 k5 k6 k7=>Fo mC f fo fd r (k1.up g) k2 (g _ _ k3) k4 k5 k6 (k7.up g))
def y7(s:IM):Ig:=(au s).k==5&&(au s).ts.length==1&&((aa (jF s)).k==20&&(aa (jF s)).x=="plots"&&nm (aa (jF s)).a==hb "self")&&nm (dp s)==hb "plots"
inductive SiI:IM->Prop
 |mk (p1 p2 p3 p4:J3):SiI (.Assign [.Attribute (.Name (HA "self") p1) (HA "plots") p2] (.Name (HA "plots") p3) p4)
theorem siE{s:IM}(h:y7 s=Hq):SiI s:=by
 obtain⟨h,h4⟩:=aj h;obtain⟨h,h3⟩:=aj h;obtain⟨h1,h2⟩:=aj h;obtain⟨h3,h6⟩:=aj h3;obtain⟨h3,h5⟩:=aj h3;obtain e:s=.Assign (au s).ts (au s).e (au s).p:=zL (aw h1);obtain e1:jF s=.Attribute (aa (jF s)).a (aa (jF s)).x (aa (jF s)).p:=dw (aw h3);obtain e2:=s9 (aw h6);obtain e3:=s9 (aw h4);refine e.symm▸(nF h2).symm▸(show hd (au s).ts=jF s from rfl).symm▸e1.symm▸(aw h5).symm▸?_;revert e2 e3;generalize(aa (jF s)).a=a;show _->Eg _ (au s).e->_;generalize(au s).e=b;intro e2 e3;induction e2 with|mk p=>?_
 induction e3 with|mk q=>exact⟨p,_,q,_⟩
noncomputable def yP:Hn (HP×Ho):=[("told",.list []),("opened",.int 0),("given",.list []),("standing",.dict []),("held",.dict [])]
def Bg(P:JP)(f:HP):Hn IM:=match o7 P.p f "__init__"with|some q=>q.2.1|none=>[]
def Ff(P:JP)(f:HP):IH:=match o7 P.p f "__init__"with|some q=>q.2.2|none=>default
theorem ama(V O C p a:Hv):(BN (PN V O) {Bd (PN V O)with I:=hb (C,aG)} HH (Ff (PN V O) "Store")).G 60 (Bg (PN V O) "Store") 1 ([("self",.own (.tree (hb a) (ec C [("plots",p)] [])))]:En) (λo=>∃L,o=hb (.next L)/\L "self"=hb (.own (.tree (hb a) (newD C p)))):=
 X.vgK rfl (λL=>L "self"=hb (.own (.tree (hb a) (newD C p)))) (λ_ h=>⟨_,rfl,h⟩) (X.fX 0 (n9 C [("plots",p)] (yP.take 0) "told" (.list []))<|X.fX 1 (n9 C [("plots",p)] (yP.take 1) "opened" (.int 0))<|X.fX 0 (n9 C [("plots",p)] (yP.take 2) "given" (.list []))<|X.fX 0 (n9 C [("plots",p)] (yP.take 3) "standing" (.dict []))<|X.fX 0 (n9 C [("plots",p)] (yP.take 4) "held" (.dict []))<|.q _ (Mg (hb (VV.own (.tree (hb a) (newD C p))))))
variable{O:Hv}
theorem rR.init{V:Hv}(S:rR w U C V O):aaZ pw w U 0 C:=by
 obtain hq:o7 pw "Store" "__init__"=hb ((["self","plots"]:Hn HP),Bg (PN V O) "Store",Ff (PN V O) "Store"):=by kernel_rfl
 refine Dx (S.E "__init__" _ hq) λmC f fo fd r aU h1 h2 h3 h4 h5 D=>?_;obtain hi:=siE (s:=nP (Bg (PN V O) "Store") 0) (by kernel_rfl);have G9:Bg (PN V O) "Store"=nP (Bg (PN V O) "Store") 0::(Bg (PN V O) "Store").drop 1:=qi (i:=0) (by kernel_rfl);have D:ju U f (Ff (PN V O) "Store") ["self","plots"] (Bg (PN V O) "Store"):=D;rw[G9]at D;revert D hi;generalize nP (Bg (PN V O) "Store") 0=s;intro hi D;induction hi with|mk p1 p2 p3 p4=>?_
 refine⟨mC,f,fo,_,p1,p2,p3,p4,_,_,aU,h1,h2,h3,D,by kernel_rfl,(sy (M:=BN (PN V O) {Bd (PN V O)with I:=hb (C,aG)} HH (Ff (PN V O) "Store")) ⟨(qt S.T).init (s:=(C,aG)) S.KC,wg ((qt S.T).init (s:=(C,aG)) S.KC) 40,D.kind⟩ 60 ((Bg (PN V O) "Store").drop 1)),λa p L hρ=>?_⟩;refine aQ (ama V O C p a L) λft e1 e2=>i12 ft ?_ e2;rw[<-adx (l:=[("self",.own (.tree (hb a) (ec C [("plots",p)] [])))]) (L:=L) (HL (λx=>[x]) hρ)]at e1;exact e1
section
def aqo(sc:IH)(s:IM):Ig:=(au s).k==5&&(au s).ts.length==1&&nm (jF s)==hb "store"&&aA sc "store"&&((aa (dp s)).k==16&&(aa (dp s)).ks.isEmpty&&cT (aa (dp s)).es&&(aa (dp s)).es.length==1&&nm (aa (dp s)).a==hb "Store"&&aY sc "Store")
variable{V:Hv}
theorem St.apM{n:HG}(H:tC pw w U n M)(S:rR w U C V O)(hn:2<=n)(z:Ho){s:IM}{rest:Hn IM}(h:aqo M.sc s=Hq):St pw w U n M.sc (s::rest) (Bl pw w U n M.sc rest C V "store" z (M.eM (hd (aa (dp s)).es))):=by
 obtain⟨h,g⟩:=aj h;obtain⟨h,h4⟩:=aj h;obtain⟨h,h3⟩:=aj h;obtain⟨h1,h2⟩:=aj h;obtain⟨g,g6⟩:=aj g;obtain⟨g,g5⟩:=aj g;obtain⟨g,g4⟩:=aj g;obtain⟨g,g3⟩:=aj g;obtain⟨g1,g2⟩:=aj g;obtain e:s=.Assign (au s).ts (dp s) (au s).p:=zL (aw h1);obtain e1:dp s=.Call (aa (dp s)).a (aa (dp s)).es (aa (dp s)).ks (aa (dp s)).p:=dw (aw g1);rw[IC.mp g2,nF g4]at e1;obtain hs:cT [hd (aa (dp s)).es]=Hq:=by exact(nF g4)▸g3
 obtain e2:=s9 (aw h3);obtain e3:=s9 (aw g5);obtain hE:=(H.h (hd (aa (dp s)).es) M.sc).1;refine e.symm▸?_;(refine(nF h2).symm▸(show hd (au s).ts=jF s from rfl).symm▸e1.symm▸?_);revert e2 e3 hs hE;generalize jF s=a;generalize(aa (dp s)).a=b;generalize hd (aa (dp s)).es=x;intro hs e2 e3 hE;induction e2 with|mk p=>?_
 induction e3 with|mk q=>?_
 exact St.af3 z S.R S.init S.G hE hn h4 g6 (jv hs) λK _=>rfl
abbrev rA(ps:aP)(rs:Hn Row)(bY:Hn HI)(n:HG):Hn Ho:=[.list (ps.map aF),.list (rs.map av),.list (aq bY),.int n]
open Classical in
def rF(O:Hv)(ps:aP)(rs:Hn Row)(bY:Hn HI)(n:HG)(B:Hn Ho):Hp Ho:=if B=rA ps rs bY n then hb (x8 O (fM ps rs bY n 0 sP))else Hu
abbrev A4(ps:aP)(rs:Hn Row)(bY:Hn HI)(n:HG):En:=[("plots",sh (.list (ps.map aF))),("rows",sh (.list (rs.map av))),("inputs",sh (.list (aq bY))),("steps",D (.int n))]
theorem afT(S:rR w U C V O)(hp:aZ ps)(hr:fF ps rs)(bY:Hn HI)(n:HG)(hn:n<=3000):q0 pw w U 6 "run" (rF O ps rs bY n):=by
 obtain hq:mY pw "run"=hb (psf (PN V O) "run",bd (PN V O) "run",Gl (PN V O) "run"):=by kernel_rfl
 have Dn:=S.T.D "run" _ hq;have H:tC pw w U 5 (Mf (PN V O) (X Hu (AA V O) 5) "run"):=⟨uF S.T 5,wg (uF S.T 5) 40,Dn.kind⟩;obtain G9:bd (PN V O) "run"=nP (bd (PN V O) "run") 0::nP (bd (PN V O) "run") 1::nP (bd (PN V O) "run") 2::(bd (PN V O) "run").drop 3:=by(refine(qi (ss:=bd (PN V O) "run") (i:=2) (by kernel_rfl))▸(qi (ss:=bd (PN V O) "run") (i:=1) (by kernel_rfl))▸?_);exact qi (i:=0) (by kernel_rfl)
 obtain hrb:=sy H 60;obtain fq:=St.cons (zq H hrb (nP (bd (PN V O) "run") 0)) (St.cons (zq H hrb (nP (bd (PN V O) "run") 1)) (St.apM (rest:=(bd (PN V O) "run").drop 3) H S (by decide) (x8 O (fM ps rs bY n 0 sP)) (s:=nP (bd (PN V O) "run") 2) (by kernel_rfl)));change St pw w U 5 (Gl (PN V O) "run") _ _ at fq;rw[<-G9]at fq;refine q0.of Dn fq (rF O ps rs bY n) λB y e=>?_;unfold rF at e;split at e
 ·rename_i hx;obtain rfl:=si e;subst hx;refine iT (by kernel_rfl) ?_;rw[jZ];obtain k0:jS (Mf (PN V O) (X Hu (AA V O) 5) "run") (jB (Mf (PN V O) (X Hu (AA V O) 5) "run") 60) (nP (bd (PN V O) "run") 0) (d6 (A4 ps rs bY n) λ_=>Hu)=hb (.next (d6 (A4 ps rs bY n) λ_=>Hu)):=by refine(show _=((mQ (((X Hu (AA V O) 5).F "need" [.list (ps.map aF),.list (rs.map av)]).map λy=>(⟨y,.d⟩:Mine.V)) (gd Hq (((X Hu (AA V O) 5).N "need" [.list (ps.map aF),.list (rs.map av)]).map λy=>⟨y,.d⟩))).bind λv=>gd (xY v.x) (hb (.next (d6 (A4 ps rs bY n) λ_=>Hu))))from by kernel_rfl).trans ?_;rw[amn Hu (AA V O) 1 hp hr];rfl
  obtain k1:jS (Mf (PN V O) (X Hu (AA V O) 5) "run") (jB (Mf (PN V O) (X Hu (AA V O) 5) "run") 60) (nP (bd (PN V O) "run") 1) (d6 (A4 ps rs bY n) λ_=>Hu)=hb (.next (d6 (A4 ps rs bY n) λ_=>Hu)):=by refine(show _=((mQ (((X Hu (AA V O) 5).F "need_run" [.list (aq bY),.int n]).map λy=>(⟨y,.d⟩:Mine.V)) (gd Hq (((X Hu (AA V O) 5).N "need_run" [.list (aq bY),.int n]).map λy=>⟨y,.d⟩))).bind λv=>gd (xY v.x) (hb (.next (d6 (A4 ps rs bY n) λ_=>Hu))))from by kernel_rfl).trans ?_;refine(acD Hu (AA V O) 3 bY (H3 n) (I4.mpr (Hs hn (by decide)))).symm▸?_;rfl
  show((jS _ _ _ (d6 (A4 ps rs bY n) λ_=>Hu)).bind _).bind sU=_;rw[k0];show((jS _ _ _ (d6 (A4 ps rs bY n) λ_=>Hu)).bind _).bind sU=_;rw[k1];obtain R:Bl pw w U 5 (Mf (PN V O) (X Hu (AA V O) 5) "run").sc ((bd (PN V O) "run").drop 3) C V "store" (x8 O (fM ps rs bY n 0 sP)) ((Mf (PN V O) (X Hu (AA V O) 5) "run").eM (hd (aa (dp (nP (bd (PN V O) "run") 2))).es)) (d6 (A4 ps rs bY n) λ_=>Hu)=hb (.ret (x8 O (fM ps rs bY n 0 sP))):=by refine afU (ps:=ps.map aF) (fl:=.d) ((show _=uD [⟨.list (ps.map aF),.s⟩]from by kernel_rfl).trans (l5 (fA cZ ps))) (λq=>nomatch q) (fA cZ ps) λaO p g b vr=>?_;obtain G:=uF (S.some g vr) 5;refine i12 _ (sy (M:=Mf (PS C V O p ps) (kR C p V O ps 5) "run") ⟨G,wg G 40,Dn.kind⟩ 57 _) ?_;have:=akR C p V O hp 1 hr bY n hn λ_=>Hu;rw[qL];exact this
  exact HL (λo:Hp Out=>o.bind sU) R
 ·exact no e
theorem ak1:aZ []:=⟨I9,(λA fq n q e=>by cases A with|nil=>cases e|cons a A=>cases e),JS _,(λ_ h=>nomatch h)⟩
theorem acK(l:Hn HI):0<(d9 l).length:=by
 dsimp only[d9,mD];rw[Hr,Iy];cases cJ l 0/4%8==1 with
 |true=>exact NU.mpr (LU (IJ (H9 _ (by decide)) (by decide)))
 |false=>exact NU.mpr (wG (a:=1) (b:=4) _ (by decide) (by decide) (by decide)).1
theorem aeZ(l:Hn HI):0<(iC l).toNat:=by
 unfold iC;cases cJ l 2/5%16==3 with
 |true=>dsimp only[Ku];decide
 |false=>dsimp only[Kg];exact NU.mpr (wG (a:=1) (b:=5) _ (by decide) (by decide) (by decide)).1
theorem acv(l:Hn HI)(h:0<ps.length):0<(jM l ps).length:=by
 have:=aeZ l;unfold jM;cases cJ l 2/5%4==1 with
 |true=>(dsimp only[Ku];rw[J9,Hr]);exact Rv.mpr ⟨this,h⟩
 |false=>(dsimp only[Kg];rw[Hr,Iy]);exact this
def cR(V O:Hv)(g:Hn Ho->Hp Ho):JC:={X Hu (AA V O) 6 with F:=λf=>bif f=="run"then g else(X Hu (AA V O) 6).F f}
theorem amS(S:rR w U C V O){g:Hn Ho->Hp Ho}(h:q0 pw w U 6 "run" g):vc pw w U 6 (cI (cR V O g) O):=by
 obtain G:=uF S.T 6;refine⟨G.B,G.all,G.abs,G.max,G.sorted,G.enumerate,G.zip,λf B y e=>?_,G.K,G.M,G.T,λ_ e=>no e,λ_ e=>no e,λ_ e=>no e,G.N,λq e=>?_⟩
 ·obtain hF:(cI (cR V O g) O).F f=bif f=="run"then g else(X Hu (AA V O) 6).F f:=rfl;rw[hF]at e⊢;revert e;cases hx:f=="run"with
  |true=>intro _;exact(aw hx).symm▸h
  |false=>intro e;exact G.F f B y e
 ·obtain rfl:=si e;exact(S.T.A "Outcome" (O,dJ) (by kernel_rfl)).2.1
theorem aiZ(S:rR w U C V O)(l:Hn HI):∃m,q0 pw w U 7 "law" m/\m [.list (l.map .int)]=hb (.bool Hq):=by
 obtain P:=agZ l;obtain hp:=acK l;obtain⟨y,hy,rs,rfl,hr⟩:=aeT (S0:=Hu) (A0:=AA V O) (b0:=Ln 1 5) (akF Hu (AA V O) 1) l P hp (acv l hp) (ahh l P);have xw:aZ (bif hG l then[]else d9 l):=by
  cases hG l with
  |true=>exact ak1
  |false=>exact P
 have ym:(gf l).toNat<=3000:=by have:=(qV l).2;exact JE.mpr (HY this (by decide))
 obtain A:Cg (cR V O (rF O (bif hG l then[]else d9 l) rs (iP (cJ l 4/60)) (gf l).toNat)) l rs:=
  ⟨(λl k h=>rX Hu (AA V O) 5 l k h),ah2 (b0:=Hq) (rX Hu (AA V O) 4) (qB Hu (AA V O) 4) l,ah7 (b0:=Hq) (rX Hu (AA V O) 4) (qB Hu (AA V O) 4) l _,hy,aaB (b0:=Hq) (rX Hu (AA V O) 4) l,af1 (b0:=Hq) _⟩
 obtain vr:ajY O (bif hG l then[]else d9 l) rs (iP (cJ l 4/60)) (gf l).toNat (cR V O (rF O (bif hG l then[]else d9 l) rs (iP (cJ l 4/60)) (gf l).toNat)):=
  ⟨H5 rfl,ams (b0:=Hq) (amq Hu (AA V O) 3) xw hr _ ym,λi=>aiU (S0:=Hu) (A0:=AA V O) (c:=X Hu (AA V O) 5) (b0:=Hq) i⟩
 obtain e:=anU (V:=V) (O:=O) (b0:=Hq) A hr vr;exact i12 _ ((af0 S.T (amS S (afT S xw hr (iP (cJ l 4/60)) (gf l).toNat ym)) Hq λ_=>by decide).F "law" _ _ e) e
end
section
open PySem.W PyProof.Rows
def WI(P:QB)(h:Iv)(v:HE):WData->Prop
 |.int i=>∃t,v=.int i t
 |.list B=>∃a vs,v=.ref a/\h.get? a=hb {cls:=.type "list",data:=.seq vs.toArray}/\WellAll P h vs B
 |_=>N9
variable{P:QB}
theorem ajB{d:WData}(h:Well P U fb d):WI P U fb d:=
 h.casesOn trivial (λ_=>trivial) (λ_ t=>⟨t,rfl⟩) (λ_ _=>trivial) (λ_ _=>trivial) (λ_ _=>trivial) (λ_=>trivial) (λh1 h2=>⟨_,_,rfl,h1,h2⟩) (λ_ _=>trivial) (λ_ _=>trivial) (λ_ _ _ _=>trivial) (λ_ _ _ _=>trivial) (λ_ _ _ _=>trivial)
variable{l:Hn HI}
theorem abu:∀{vs:Hn HE},WellAll P U vs (ofPys (l.map .int))->bH Y w Hz U vs (l.map .int) []:=by
 induction l with
 |nil=>intro vs h;cases h;exact .nil
 |cons i l ih=>
  intro vs h;cases h with
  |cons h1 h2=>exact dA (show∃t,_=Value.int i t from ajB h1) λt e=>e▸.cons (as:=[]) (.int i t) (ih h2)
theorem ahX{a:Hv}(h:Well P U (.ref a) (ofPy (.list (l.map .int)))):RD Y w Hz U (.ref a) (.list (l.map .int)) [a]:=by refine j8 (show∃a' vs,NT a=.ref a'/\U.get? a'=hb {cls:=.type "list",data:=.seq vs.toArray}/\WellAll P U vs (ofPys (l.map .int))from ajB h) λa' vs e h1 h2=>?_;cases e;exact .list (n:=0) h1 (abu h2)
variable{mg:HP->Hp HE}
theorem aja{zO:ExcName->Hp HE}{mb:HP->Hp HE}(T:Top nj loose zO mg mb rP)(hi:importsNone nj=Hq)(ht:Y.given.tree=Hu):fh Y [] rP rP:=by obtain sr:=T.seer hi;refine⟨λ_ q=>(nomatch q),T.nolimit,sr,ht,?_,bA.refl _⟩;refine aQ sr.mods λmm o1 o2=>?_;obtain⟨o,_,_,ho,_⟩:=o1;exact⟨o,ho⟩
theorem ahK{n:HG}{m:Hn Ho->Hp Ho}{mg:HP->Hp HE}{fa a:Hv}{P:QB}{E:HE->HM->Prop}(hD:q0 Y w rP.heap n "law" m)(R:m [.list (l.map .int)]=hb (.bool Hq))
  (b:fh Y [] rP.heap rP.heap)(G:rP.heap.Ns I3 mg)(Dh:mg (HA "law")=hb (.ref fa))(hw:Well P rP.heap (.ref a) (ofPy (.list (l.map .int))))(hl:l.length<=63)(hn:n<=100)(hQ:∀s',I8 rP s'->Q (.bool Hq) s'):
  wpAny (Iq Y w) callerA (call (.ref fa) [.ref a]) Q E rP:=by
 refine Ax hD λa' o fd g ho hd hf=>?_;obtain e:a'=fa:=by
  rcases g with⟨mg',G',e⟩|⟨mg',mb',G',e,_⟩
  ·have:=G.agree G' (HA "law");rw[Dh,e]at this;clear hn hD E hd ho fd o;cases this;rfl
  ·have:=G.agree G' (HA "law");rw[Dh,e]at this;clear hn Dh G hD E mg hd ho fd o;cases this
 subst e;obtain hA:Room callerA n:=by
  refine⟨rfl,?_,?_,⟨[],rfl⟩⟩
  ·have:(1+claimMargin)+100+100<Rf:=by decide
   exact HC (Im (Ij hn _) 100) this
  ·have:4+8*100+100<cLine:=by decide
   exact HC (Im (Ij (Kj 8 hn) _) 100) this
 obtain qb:fy [.list (l.map IL)]=Hq:=by simp only[fy,wf,QA,HU,Ik];refine⟨Hs (by simpa using hl) (by decide:63<=sizeLine),(cM _).mpr λx hx=>?_⟩;clear hn hl Dh G hD E mg hd ho g fd o;refine aQ (HX.mp hx) λi o1 o2=>?_;subst o2;rfl
 refine hf hA b (.cons (ahX hw) .nil) qb R λu as s' k r c fr=>?_;clear hn hl hw Dh G b R hD E P a mg qb hA fr c hf hd ho g fd o a';cases r.bool_inv;exact hQ s' k
end
section
open PySem.W PyProof.Rows
def qr(sc:IH)(a:Ov)(ps:Hn HP):Ig:=
 a.posonlyargs.isEmpty&&a.vararg.isNone&&a.kwonlyargs.isEmpty&&a.kw_defaults.isEmpty&&a.kwarg.isNone&&a.defaults.isEmpty&&decide (a.args.map (·.arg)=ps)&&decide (sc.kind=.function)&& !sc.isGenerator&& !sc.isCoroutine&&j4 sc&&decide ps.Nodup&&ps.all λx=>aA sc x
theorem aax{a:Ov}(h:qr sc a Ag=Hq):a=⟨[],a.args,Hu,[],[],Hu,[]⟩/\a.args.map (·.arg)=Ag/\sc.kind=.function/\sc.isGenerator=HH/\sc.isCoroutine=HH/\j4 sc=Hq/\Ag.Nodup/\∀x∈Ag,aA sc x=Hq:=by obtain⟨a1,a2,a3,a4,a5,a6,a7⟩:=a;simp only[qr,HU,IC,Jc,Ik,JI,JM]at h;obtain⟨⟨⟨⟨⟨⟨⟨⟨⟨⟨⟨⟨rfl,rfl⟩,rfl⟩,rfl⟩,rfl⟩,rfl⟩,h1⟩,h2⟩,h3⟩,h4⟩,h5⟩,h6⟩,h7⟩:=h;exact i08 rfl h1 h2 h3 h4 h5 h6 h7
noncomputable def ajO(p:IB)(loose:Hn HP)(x:HP):Ig:= !startupNames.contains x&& !loose.contains x&& !((recsOf p).map (·.name)).contains x&& !((litsOf p).map (·.1)).contains x&& !((clssOf p loose).map (·.name)).contains x&& !(x==("__name__":HP))
theorem nD{zO:ExcName->Hp HE}{mg mb:HP->Hp HE}(T:Top nj loose zO mg mb U)(hl:ajO nj loose x=Hq)(hv:bootBuiltins x=hb fb):bt U x fb:=by simp only[ajO,HU,JI,List.contains_eq_mem,Na,HO]at hl;exact .inr ⟨mg,mb,T.g,T.free _ hl.1.1.1.1.1 hl.1.1.1.1.2 hl.1.1.1.2 hl.1.1.2 hl.1.2,T.b,(T.builtins _ hl.2).trans hv⟩
def wH(ns:Hn HP)(U:Iv)(C:Hv)(y:HP)(sc:IH)(ps:Hn HP)(body:Hn IM):Prop:=
 ∃mC f fo fd r,jX ns U C mC/\mC y=hb (.ref f)/\U.get? f=hb fo/\fo.cls=.type "function"/\fo.data=.func fd/\Kw (.type "object") y=pure r/\ju U f sc ps body
end
section
open PySem.W PyProof.Rows
abbrev Rc:=HP×Ov×Hn IM×IH
def Cv(rs:Hn Rc):Ig:=rs.all λr=>qr r.2.2.2 r.2.1 (r.2.1.args.map (·.arg))
theorem adj{rs:Hn Rc}(h:Cv rs=Hq){r:Rc}(hr:r∈rs):qr r.2.2.2 r.2.1 (r.2.1.args.map (·.arg))=Hq:=JM.mp h r hr
inductive FnI(f:HP)(q:Df)(b:Hn IM):Prop
 |mk (a:Ov) (h:(f,a,q.2.1,q.2.2)∈b.filterMap sT) (e:q.1=a.args.map (·.arg)):FnI f q b
theorem fnE{q:Df}(h:yF.findSome? (B9 jo)=hb q):FnI jo q yF:=by
 refine aQ (List.exists_of_findSome?_eq_some h) λst R h=>?_;obtain⟨r,h1,h2⟩:=ao h;obtain⟨x,a,c,s⟩:=r;rcases fD h2 with⟨hx,h2⟩|⟨_,h2⟩
 ·clear h;obtain rfl:=si h2;exact(aw hx)▸⟨a,Mq.mpr ⟨st,R,h1⟩,rfl⟩
 ·exact no h2
variable{p:IB}{loose:Hn HP}{mg:HP->Hp HE}
theorem aiN{P:IB}{zO:ExcName->Hp HE}{mb:HP->Hp HE}(T:Top p loose zO mg mb U)(e:(recsOf p).map (λd=>((d.name,d.params,d.body,d.scope):Rc))=P.main.body.filterMap sT)(hl:Cv (P.main.body.filterMap sT)=Hq){q:Df}(h:mY P jo=hb q):lD U jo q.2.2 q.1 q.2.1:=by obtain⟨a,R,hq⟩:=fnE h;refine e08 (aax (adj hl R)) λhA qa hk C1 GI GX rN hv=>?_;rw[<-e]at R;refine aQ (HX.mp R) λd hd R=>e54 (T.fn d hd) λb o pm code doc h1 h2 h3 h4=>?_;injection R with e1 R;injection R with e2 R;injection R with e3 e4;rw[e1]at h1;exact hq.symm▸⟨b,.inl ⟨mg,T.g,h1⟩,⟨o,_,_,h2,h3,(show d.params=_ from by exact e2.symm▸hA),rfl,(by refine e3▸?_;rfl),e4,rfl,rfl,rfl,rfl,h4⟩,hk,C1,GI,GX,rN,hv⟩
theorem ah1(y:HP):∃r,Kw (.type "object") y=pure r:=⟨(fastLookup "object" y).getD Hu,by rw[Rd,PO];kernel_rfl⟩
def E5(p:IB)(x:HP):Hn IM:=(p.main.body.findSome? (aoc x)).getD []
theorem rf{P:IB}(TE:TopE p loose mg U)(g:U.Ns I3 mg)(ns:Hn HP)(i:HG)(hN:(Rw p loose)[i]?.map (λc=>(c.name,c.meths.map λm=>((m.name,m.params,m.body,m.scope):Rc)))=hb (x,(E5 P x).filterMap sT))(hS:((Rw p loose)[i]?.map λc=>ns.all λy=>c.statics.contains y)=hb Hq)
  (aqb:∀y∈ns,Kw (.type "object") y=pure Hu)(hl:Cv ((E5 P x).filterMap sT)=Hq):
  ∃C,bt U x (.ref C)/\(∃mC,jX ns U C mC)/\∀(y:HP)(q:Df),o7 P x y=hb q->wH ns U C y q.2.2 q.1 q.2.1:=by
 cases hc:(Rw p loose)[i]?with
 |none=>rw[hc]at hN;cases hN
 |some c=>
  rw[hc]at hN hS;refine uR (TE c (Il hc)) λC N mN h1 PA=>?_;obtain hN:=H4 hN;injection hN with n1 n2;rw[n1]at h1;obtain qv:∀y∈ns,mN y=Hu:=λy hy=>PA.quiet y (Hx _ (HF _ (List.contains_iff_mem.mp (JM.mp (H4 hS) y hy))));have aU:jX ns U C mN:=⟨⟨N,PA.cls⟩,PA.quiet _ (HF _ (.tail _ (.head _))),PA.quiet _ (HF _ (.tail _ (.tail _ (.head _)))),PA.quiet _ (HF _ (.head _)),qv,aqb⟩;refine rL C (.inl ⟨mg,g,h1⟩) ⟨mN,aU⟩ (λy q hq=>?_);obtain⟨b,Bv,hb2⟩:=ao hq;obtain⟨a,R,hq⟩:=fnE hb2;have G4:E5 P x=b:=by unfold E5;refine Bv.symm▸?_;rfl
  rw[G4]at hl n2;refine e08 (aax (adj hl R)) λhA qa hk C1 GI GX rN hv=>?_;rw[<-n2]at R;refine aQ (HX.mp R) λm R e=>e55 (PA.meths m R) λf o pm cd doc g1 g2 g3 g4 g5=>?_;injection e with e1 e;injection e with e2 e;injection e with e3 e4;rw[e1]at g1;exact dA (ah1 y) λr hr=>hq.symm▸⟨mN,f,o,_,r,aU,g1,g2,g3,g4,hr,⟨o,_,a.args,g2,g4,(show m.params=_ from by exact e2.symm▸hA),rfl,(by refine e3▸?_;rfl),e4,rfl,rfl,rfl,rfl,g5⟩,hk,C1,GI,GX,rN,hv⟩
theorem oC(h:(l.all λy=>(fastLookup "object" y)==hb Hu)=Hq):∀y∈l,Kw (.type "object") y=pure Hu:=λy hy=>by
 rw[Rd,PO,aw (JM.mp h y hy)]
noncomputable def yY(tb:I2->Hp Builtin)(p:IB)(w:Ja)(uX:HG)(ann:Hp HE):HG->QM->Thread->Hp QM
 |0,_,_=>Hu
 |n+1,s,t=>match through t with
  |true=>hb s
  |false=>match stepOk uX ann t with
   |false=>Hu
   |true=>match Rx (denote tb) p w s t with
    |some (s',t')=>yY tb p w uX ann n s' t'
    |none=>Hu
theorem aiD{tb:I2->Hp Builtin}{uX:HG}{ann:Hp HE}{n:HG}:∀{s s':QM}{t:Thread},yY tb p w uX ann n s t=hb s'->topRun tb p w uX ann n s.abs t=hb s'.abs:=by
 induction n with
 |zero=>intro s s' t h;exact no h
 |succ n bX=>
  intro s s' t h;replace h:(match through t with|true=>hb s|false=>match stepOk uX ann t with|false=>Hu|true=>match Rx (denote tb) p w s t with|some (s',t')=>yY tb p w uX ann n s' t'|none=>Hu)=hb s':=h;dsimp only[topRun];revert h;cases through t with
  |true=>intro h;exact(si h).symm▸rfl
  |false=>
   cases stepOk uX ann t with
   |false=>intro h;exact no h
   |true=>
    intro h;cases e:Rx (denote tb) p w s t with
    |none=>rw[e]at h;exact no h
    |some q=>obtain⟨aM,CR⟩:=q;rw[e]at h;exact(stepT_spec e).symm▸bX h
noncomputable def ahR(l:Hn PR):BT:=(l.foldl (λq o=>(q.1.ins q.2 o,q.2+1)) (BT.nil,0)).1
noncomputable abbrev ajX(p q:IB)(loose:Hn HP)(Xt:HM->Ig)(Yf:HM->α)(H:Iv)(s:QM):=
 (staticsOk (LN p.main.body) H s.abs.heap&&namesBound p s.abs.heap&&gensDone s.abs&&laidKept H s.abs.heap,P9 q loose (LN p.main.body) Xt Hq s.abs,Yf s.abs)
theorem aeX{Xt:HM->Ig}{Yf:HM->α}{Ya:Ja->α}{d:Drawn}{n:HG}{ann:Hp HE}{t:BT}{life:Life}(hO:(fencedOpening MI p w N).map (λs=>(s.heap,s.gens,s.drawn,s.toks))=hb (H,NB [],d,k))(hT:absHeap t n life=H)(h1:H.isNs I3=Hq)(h2:H.nsMap I3 "__annotations__"=ann)
  (hR:∀os,(yY MI p w n ann N ⟨t,n,life,NB [],d,k,os⟩ (topStub p)).map (ajX p He loose Xt Yf H)=hb (Hq,OW He loose,Ya w)):(Qa MI p w N).map (λs=>(P9 He loose (LN p.main.body) Xt Hq s,Yf s))=hb (OW He loose,Ya w):=by
 refine aQ (H6.mp hO) λo1 e e'=>?_;obtain⟨h,gs,d',k',os⟩:=o1;injection e' with e1 e';injection e' with e2 e';injection e' with e3 e4;clear hO;obtain rfl:h=H:=e1;obtain rfl:gs=NB []:=e2;obtain rfl:d'=d:=e3;obtain rfl:k'=k:=e4;refine aQ (H6.mp (hR os)) λay r l=>?_;injection l with l1 l;injection l with l2 l3;obtain r:=aiD r;obtain hn:h.objs.size=n:=by exact hT▸absHeap_size t n life
 obtain r:topRun MI p w n ann N ⟨h,NB [],d',k',os⟩ (topStub p)=hb ay.abs:=by exact hT▸r
 unfold Qa;rw[e];dsimp only[HT];unfold topFrom;refine h1.symm▸hn.symm▸h2.symm▸r.symm▸?_;show Jo _ (match staticsOk (LN p.main.body) h ay.abs.heap&&namesBound p ay.abs.heap&&gensDone ay.abs&&laidKept h ay.abs.heap with|true=>hb ay.abs|false=>Hu)=_;exact l1.symm▸l2.symm▸l3.symm▸rfl
end
section
open PySem.W PyProof.Rows
noncomputable def yX:Hn HE->Hp (Hn HP)
 |[]=>hb []
 |.str x _::r=>(yX r).map (x::·)
 |_::_=>Hu
noncomputable def refOf(v:HE):Hp Hv:=match v with
 |.ref t=>hb t
 |_=>Hu
theorem adg(h:refOf fb=hb t):fb=.ref t:=by
 cases fb with
 |ref a=>exact HL _ (si h)
 |_=>exact no h
noncomputable def akd(d:Data):Hp (Hn HE×HG):=match d with
 |.seq vs n=>hb (vs.toList,n)
 |_=>Hu
theorem ade{d:Data}{q:Hn HE×HG}(h:akd d=hb q):∃vs,d=.seq vs q.2/\vs.toList=q.1:=by
 cases d with
 |seq vs n=>exact si h▸⟨vs,rfl,rfl⟩
 |_=>exact no h
def y8(h:Iv)(v:HE):Hp (Hn HP):=(refOf v).bind λt=>(h.get? t).bind λo=>if decide (o.cls=.type "tuple")&&o.dict.isNone&&(o.slots.size==0)then(akd o.data).bind λq=>yX q.1 else Hu
theorem afo:∀{l:Hn HP},yX vs=hb l->bH pw w [] h vs (l.map .str) []:=by
 induction vs with
 |nil=>intro l e;obtain rfl:=si e;exact .nil
 |cons v vs bX=>
  intro l e;cases v with
  |str x t=>obtain⟨r,h1⟩:=dI e;exact .cons (as:=[]) (bs:=[]) (.str x t) (bX h1)
  |_=>exact no e
theorem ahg(e:y8 h fb=hb l):RD pw w [] h fb (.tuple (l.map .str)) []:=by obtain⟨t,e1,e⟩:=ao e;obtain⟨o,ho,e⟩:=ao e;revert e;refine jl λhc e=>?_;obtain⟨hc,h3⟩:=aj hc;obtain⟨h1,h2⟩:=aj hc;obtain⟨q,e2,e5⟩:=ao e;refine aQ (ade e2) λvs e3 e4=>?_;rw[adg e1];obtain⟨oc,od,dt,sl⟩:=o;have g1:=IW h1;have g2:=Jc.mp h2;have g3:=NW (aw h3);clear e e2 hc e1 h1 h2 h3;dsimp only at e3 g1 g2 g3;subst e3 g1 g2 g3;exact .tuple (vs:=vs.toList) (n:=q.2) ho (λq=>nomatch q) (afo (e4▸e5))
noncomputable def l8(h:Iv):Hn DictEntry->Hp (Hn (HI×HP×Hn HP))
 |[]=>hb []
 |e::r=>match e.key with
  |.str k _=>(y8 h e.val).bind λl=>(l8 h r).map λt=>(e.hash,k,l)::t
  |_=>Hu
def dictAt(h:Iv)(name:HP):Hp (Hn (HI×HP×Hn HP)):=match h.nsMap I3 name with
 |some (.ref a)=>(h.get? a).bind λo=>if decide (o.cls=.type "dict")&&o.dict.isNone&&(o.slots.size==0)&& !(a==Kd)then(match o.data with|.dict es _=>l8 h es.toList|_=>Hu)else Hu
 |_=>Hu
set_option tactic.hygienic true in
theorem acM{es:Hn DictEntry}:∀{vr:Hn (HI×HP×Hn HP)},l8 h es=hb vr->(∀p∈vr,p.1=hashStr w p.2.1)->
  ∃aW:Hn (HP×HE),Pairs (strKind pw w) es aW/\(∀e∈es,∃k,(strKind pw w).is k e.key=Hq/\e.hash=(strKind pw w).hash k)/\aW.map (·.1)=vr.map (·.2.1)/\bH pw w [] h (aW.map (·.2)) (vr.map λp=>.tuple (p.2.2.map .str)) []:=by
 induction es with
 |nil=>intro vr e _;obtain rfl:=si e;exact Dv ([]) .nil (λ_ q=>nomatch q) rfl .nil
 |cons e r bX=>
  intro vr he hh;replace he:(match e.key with|.str k _=>(y8 h e.val).bind λl=>(l8 h r).map λt=>(e.hash,k,l)::t|_=>Hu)=hb vr:=he;revert he;cases hk:e.key with
  |str k t=>
   intro he;obtain⟨l,h1,he⟩:=ao he;obtain⟨T,h2,rfl⟩:=H6.mp he;obtain⟨aW,q1,q2,q3,q4⟩:=bX h2 λp hp=>hh p (.tail _ hp);obtain is:(strKind pw w).is k e.key=Hq:=by exact hk.symm▸strKind_is pw w k t
   refine Dv ((k,e.val)::aW) (.cons is rfl q1) (λx hx=>?_) (by(refine HS.trans ?_;(dsimp only[HS];rw[q3];rfl))) (.cons (as:=[]) (bs:=[]) (ahg h1) q4);rcases Hw.mp hx with rfl|hx
   ·exact i12 k is (hh _ (.head _))
   ·exact q2 x hx
  |_=>exactλhe=>no he
set_option tactic.hygienic true in
theorem aei{vr:Hn (HI×HP×Hn HP)}(e:dictAt h name=hb vr)(hh:∀p∈vr,p.1=hashStr w p.2.1)(hn:(vr.map (·.2.1)).Nodup):
  ∃a,h.nsMap I3 name=hb (.ref a)/\RD pw w [] h (.ref a) (dictOf (vr.map λp=>(p.2.1,.tuple (p.2.2.map .str)))) [a]:=by
 unfold dictAt at e;revert e;cases ha:h.nsMap I3 name with
 |none=>exactλe=>no e
 |some v=>cases v with
 |ref a=>
  intro e;obtain⟨o,ho,e⟩:=ao e;revert e;refine jl λhc e=>?_;obtain⟨hc,h4⟩:=aj hc;obtain⟨hc,h3⟩:=aj hc;obtain⟨h1,h2⟩:=aj hc;revert e;cases hd:o.data with
  |dict es ep=>intro e;obtain⟨aW,q1,q2,q3,q4⟩:=acM (w:=w) e hh;refine i12 a rfl (.dict (aW:=aW) (as:=[]) ⟨o,es,ep,ho,⟨IW h1,Jc.mp h2,NW (aw h3)⟩,hd,λx hx=>q2 x (Array.mem_toList_iff.mpr hx),q1,by exact q3.symm▸hn⟩ (cE h4) (by(refine q3.trans ?_;refine Ii.symm▸?_);rfl) (by exact Ii.symm▸q4))
  |_=>exactλe=>no e
 |_=>exactλe=>no e
noncomputable def constAt(h:Iv)(name:HP):Hp Ho:=match h.nsMap I3 name with
 |some (.int i _)=>hb (.int i)
 |some (.str x _)=>hb (.str x)
 |_=>Hu
set_option tactic.hygienic true in
theorem acF(hg:h.isNs I3=Hq)(e:constAt h name=hb d)(hw:wf d=Hq):nT pw w h name d:=by
 unfold constAt at e;revert e;cases hv:h.nsMap I3 name with
 |none=>exactλe=>no e
 |some v=>cases v with
  |int j t=>exactλe=>si e▸mz _ [] (.inl ⟨_,.of_isNs hg,hv⟩) (.int _ t) rfl
  |str j t=>intro e;obtain rfl:=si e;exact mz _ [] (.inl ⟨_,.of_isNs hg,hv⟩) (.str _ t) hw
  |_=>exactλe=>no e
noncomputable def shL:Hn (HP×Hn HP):=[("open",["plot"]),("lay",["name","plot","number"]),("copy",["name","name","plot"]),("same",["name","name"]),("add",["name","name"]),("tell",["name"]),("give",["plot"]),("fork",["place"]),("go",["place"]),("end",[])]
noncomputable def vO:Hn HP:=["LETTERS","MOST_LETTERS","MOST_PLOTS","MOST_ROWS","MOST_NUMBER","MOST_STEPS"]
abbrev ajr:Type:=Ig×Hp (Hn (HI×HP×Hn HP))×Hn (Hp Ho)
def sW(s:HM):ajr:=(s.heap.isNs I3,dictAt s.heap "SHAPES",vO.map (constAt s.heap))
def sI(w:Ja):ajr:=(Hq,hb (shL.map λp=>(hashStr w p.1,p.1,p.2)),vO.map K0)
def qZ(w:Ja)(h:Iv):Prop:=∀x d,K0 x=hb d->nT pw w h x d
theorem ais(w:Ja)(s:HM)(e:sW s=sI w):qZ w s.heap:=by
 obtain e1:=HL ND e;obtain e2:=HL (λx=>x.2.1) e;have one:∀x∈vO,∀d,K0 x=hb d->wf d=Hq->nT pw w s.heap x d:=λx hx d hd hw=>acF e1 ((List.map_inj_left.mp (HL (λx=>x.2.2) e) x hx).trans hd) hw;intro x d h;have h0:=h;refine cq h (λhx e=>?_) λh=>cq h (λhx e=>?_) λh=>cq h (λhx e=>?_) λh=>cq h (λhx e=>?_) λh=>cq h (λhx e=>?_) λh=>cq h (λhx e=>?_) λh=>cq h (λhx e=>?_) λh=>no h
 ·exact one x (by rw[aw hx];exact .head _) d h0 (by refine e▸?_;kernel_rfl)
 ·exact one x (by rw[aw hx];exact .tail _ (.head _)) d h0 (by refine e▸?_;kernel_rfl)
 ·exact one x (by rw[aw hx];exact .tail _ (.tail _ (.head _))) d h0 (by refine e▸?_;kernel_rfl)
 ·exact one x (by rw[aw hx];exact .tail _ (.tail _ (.tail _ (.head _)))) d h0 (by refine e▸?_;kernel_rfl)
 ·exact one x (by rw[aw hx];exact .tail _ (.tail _ (.tail _ (.tail _ (.head _))))) d h0 (by refine e▸?_;kernel_rfl)
 ·exact one x (by rw[aw hx];exact .tail _ (.tail _ (.tail _ (.tail _ (.tail _ (.head _)))))) d h0 (by refine e▸?_;kernel_rfl)
 ·obtain⟨a,ha,hr⟩:=aei (w:=w) e2 (λp hp=>by obtain⟨q,_,rfl⟩:=HX.mp hp;rfl) (by rw[Ii];show(shL.map λp=>p.1).Nodup;decide +kernel);refine(aw hx).symm▸e▸?_;exact mz (.ref a) ([a]) (.inl ⟨_,.of_isNs e1,ha⟩) hr (by kernel_rfl)
theorem acU(w:Ja)(h h':Iv)(x:qZ w h)(g:∀b o,h.get? b=hb o->h'.get? b=hb o):qZ w h':=λy d e=>(x y d e).up g
theorem apK{V:Hv}(aH:fh pw [] U U)(fq:BF U)(all:bt U "all" (.builtin "all"))(abs:bt U "abs" (.builtin "abs"))(max:bt U "max" (.builtin "max"))(sorted:bt U "sorted" (.builtin "sorted"))(enumerate:bt U "enumerate" (.type "enumerate"))(zip:bt U "zip" (.type "zip"))(kR:qZ w U)(D:∀f q,mY pw f=hb q->lD U f q.2.2 q.1 q.2.1)
  (gS:bt U "Store" (.ref C))(KC:∃mC,jX aG U C mC)(E:∀y q,o7 pw "Store" y=hb q->wH aG U C y q.2.2 q.1 q.2.1)
  (gV:bt U "Value" (.ref V))(KV:∃mC,jX valNames U V mC)(EV:∀y q,o7 pw "Value" y=hb q->wH valNames U V y q.2.2 q.1 q.2.1)
  (gO:bt U "Outcome" (.ref O))(KO:∃mC,jX dJ U O mC)(EO:∀y q,o7 pw "Outcome" y=hb q->wH dJ U O y q.2.2 q.1 q.2.1):rR w U C V O:=
 ⟨aH,⟨fq,all,abs,max,sorted,enumerate,zip,kR,D,λ_ e=>no e,λ_ e=>no e,λf s e=>by
  obtain e:AA V O f=hb s:=e;unfold AA at e;refine cq e (λhx e=>?_) λh=>cq h (λhx e=>?_) λh=>no h
  ·clear D kR zip enumerate sorted max abs all fq aH;subst e;exact(aw hx).symm▸lW gV KV (EV "__init__")
  ·clear EV KV gV D kR zip enumerate sorted max abs all fq aH h;subst e;exact(aw hx).symm▸⟨gO,KO,EO "__init__"⟩⟩,gS,KC,E⟩
end
section
open PySem.W PyProof.Rows
theorem wsd:PySem.Challenge.rw_uf010022_10.wellSaid=Hq:=by decide +kernel
noncomputable def vw:IB:=view pw [13,14,15,16,17,18,19,20,21,23,24,26,27,29,30,31,32,33,34,35,36,37,38,39,40,41,42,43,44,45,46,47,48,49,50,51,52,53]
noncomputable def uJ:Hn HP:=["PlotError","BadPlots","BadRows","BadRun","LETTERS","MOST_LETTERS","MOST_PLOTS","MOST_ROWS","MOST_NUMBER","MOST_STEPS","SHAPES"]
noncomputable def zv(s:HM):Ig:=xlAt vw [] s&&recOk (OpenRow.toRowW PySem.Challenge.rw_uf010022_10.row).records s
noncomputable def t10(P:QB):BT:=ahR (Nd P).objs.toList
theorem alO(P:QB):absHeap (t10 P) 11 (Nd P).life=Nd P:=by kernel_rfl
abbrev yR(b:Ig)(w:Ja)(os:OsState):Prop:=(yY MI pw (w.withFollow "special-get-raises" b) 11 ((Nd (w.withFollow "special-get-raises" b).params).nsMap I3 "__annotations__") 6254 ⟨t10 (w.withFollow "special-get-raises" b).params,11,(Nd (w.withFollow "special-get-raises" b).params).life,NB [],boot_drawn,boot_toks,os⟩ (topStub pw)).map (ajX pw vw uJ zv sW (Nd (w.withFollow "special-get-raises" b).params))=hb (Hq,OW vw uJ,sI (w.withFollow "special-get-raises" b))
theorem ank(w:Ja)(os:OsState):yR HH w os:=by unfold yR;kernel_rfl
theorem anL(w:Ja)(os:OsState):yR Hq w os:=by unfold yR;kernel_rfl
theorem akH(w:Ja):(fencedOpening MI pw w 6254).map (λs=>(s.heap,s.gens,s.drawn,s.toks))=hb (Nd w.params,NB [],boot_drawn,boot_toks):=boot_open (by kernel_rfl) (by kernel_rfl) (λs=>rfl) w
theorem amc:LeftO pw vw uJ zv sW sI 6254:=by have side:∀b w,(∀os,yR b w os)->(Qa MI pw (w.withFollow "special-get-raises" b) 6254).map (λs=>(P9 vw uJ (LN pw.main.body) zv Hq s,sW s))=hb (OW vw uJ,sI (w.withFollow "special-get-raises" b)):=λb w h=>aeX (akH _) (alO _) (by kernel_rfl) rfl h;exact byRow2 "special-get-raises" (P:=λw=>(Qa MI pw w 6254).map (λs=>(P9 vw uJ (LN pw.main.body) zv Hq s,sW s))=hb (OW vw uJ,sI w)) (λw=>side HH w (ank w)) (λw=>side Hq w (anL w))
end
end
end Mine
open PySem PySem.W PyProof.Rows Mine
set_option tactic.hygienic true in
set_option maxRecDepth 100000 in
set_option maxHeartbeats 8000000 in
theorem PySem.Challenge.cw_uf010022_10_holds : PySem.Challenge.rw_uf010022_10.Holds := by
 w_on;refine holds_law wsd λaqv=>?_
 refine holds_open (q:=vw) (loose:=uJ) (Xt:=zv) (XP:=XL vw []) (Yf:=sW) (Ya:=sI) (YP:=qZ) (N:=6254) amc ais acU (λs e=>xl_of s (IU.mp e).1) XL.keeps (by rfl) (by rfl) (by rfl) (λs e=>recFacts_of (IU.mp e).2) (by rfl) (by first|assumption|decide +kernel) (by decide +kernel) ⟨rfl,rfl,rfl,rfl,rfl,by decide +kernel⟩ ?hw ?hc
 case hw=>w_witness2
 intro w ae ay mg mb G kR fa o pm cd doc dV kV ho hd hcd hD hmg hg args vals as aqk aqe z8 G8 FF;refine Ground.open G ?_;intro T TB D TE TW;have aqm:mg (HA "law")=hb (.ref fa):=hmg;clear ho hd hcd hD hmg;have fq:BF ay.heap:=⟨nD T (by decide +kernel) (by decide +kernel),nD T (by decide +kernel) (by decide +kernel),nD T (by decide +kernel) (by decide +kernel),nD T (by decide +kernel) (by decide +kernel),nD T (by decide +kernel) (by decide +kernel),nD T (by decide +kernel) (by decide +kernel),nD T (by decide +kernel) (by decide +kernel),nD T (by decide +kernel) (by decide +kernel)⟩;have bs:fh pw [] ay.heap ay.heap:=aja T (by decide +kernel) rfl;obtain⟨V,hgV,KV,EV⟩:=rf (P:=pw) TE T.g valNames 0 (x:="Value") (by kernel_rfl) (by decide +kernel) (oC (by decide +kernel)) (by decide +kernel);obtain⟨C,hgS,KC,ES⟩:=rf (P:=pw) TE T.g aG 1 (x:="Store") (by kernel_rfl) (by decide +kernel) (oC (by decide +kernel)) (by decide +kernel);obtain⟨O,hgO,KO,EO⟩:=rf (P:=pw) TE T.g dJ 2 (x:="Outcome") (by kernel_rfl) (by decide +kernel) (oC (by decide +kernel)) (by decide +kernel);have S:rR w ay.heap C V O:=apK bs fq (nD T (by decide +kernel) (by decide +kernel)) (nD T (by decide +kernel) (by decide +kernel)) (nD T (by decide +kernel) (by decide +kernel)) (nD T (by decide +kernel) (by decide +kernel)) (nD T (by decide +kernel) (by decide +kernel)) (nD T (by decide +kernel) (by decide +kernel)) kR (λf q h=>aiN (P:=pw) T (by kernel_rfl) (by decide +kernel) h) hgS KC ES hgV KV EV hgO KO EO
 wrow_args aqk aqe z8 G8 FF
 rename_i l _ _ _ _ _ _ _ _ _ _ _ _ apn _ _ _ a8 _;obtain⟨m,h1,h2⟩:=aiZ S l;refine ahK h1 h2 bs T.g aqm apn (by omega) (by decide) λs' k=>?_;obtain⟨h',tk,rfl,gr⟩:=k;exact GoodW.toG ⟨.inl ⟨.bool Hq,.bool Hq,[],rfl,λ_=>rfl,.bool Hq,by wrow_post,λ_=>⟨.nil,λ_ q=>nomatch q⟩⟩,gr,rfl,hg⟩
