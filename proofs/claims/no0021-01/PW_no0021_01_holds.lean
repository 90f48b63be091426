import PyProof.Rows.All
import Wide.All
import OpenK.AllK
import Wide.FinOn
import PyProof.AutoListH
import KE.KDictLaws
import PyProof.ReprLen
import Lean
import PySem.Challenge.RW_no0021_01
set_option linter.all false
set_option Elab.async false
set_option genSizeOf false
set_option genInjectivity false
set_option genCtorIdx false
set_option maxRecDepth 1000000
set_option exponentiation.threshold 2000
set_option tactic.hygienic false
set_option bootstrap.genMatcherCode false
set_option backward.match.sparseCases false
open PySem PySem.W PySem.Calls
noncomputable section
namespace Internal
open _root_.Option renaming some->A,none->M,bind_some->cJ,map_eq_some_iff->jn,isSome_iff_exists->kO,casesOn->AH,bind_congr->JW,ite_none_right_eq_some->JX
open _root_ renaming List->E,rfl->G,Nat->I,Int->O,Option->j,Bool->ah,congrArg->bj,absurd->bC,if_neg->bZ,if_pos->cd,decide_eq_true->cg,Array->ch,cond->cU,of_decide_eq_true->dE,False->dT,decide_eq_false->dU,String->eg,Unit->e0,if_false->g7,decide_eq_true_eq->j8,DecidableEq->ly,decide_eq_decide->lH,beq_eq_false_iff_ne->nx,beq_self_eq_true->ny,Decidable->oy,beq_iff_eq->oP,PUnit->sW,congrFun->wq,if_true->wx,ForInStep->zV,bne_self_eq_false->Ky,decide_false->KD
open _root_.Bool renaming true->J,false->d,and_eq_true->eB,and_eq_true_iff->e7,false_eq_true->j0,noConfusion->kG,false_ne_true->ml,or_false->ql,true_and->qm,or_eq_true->sy,and_true->vQ,and_false->HO,eq_iff_iff->HP,or_comm->HQ
open _root_.PySem renaming Addr->Q,Value->U,wpAny_bind->e,Shared->k,Str->am,Heap->aq,wpAny->av,wpAny_pure->aJ,Expr->a6,Around->bF,Env->b9,Obj->cn,sizeLine->cr,Stmt->cx,cLine->cy,Pos->dj,rawInt->dV,Sem->ef,call->eu,eval->eC,wpAny_field->eD,mainGlobals->eN,World->fa,wpAny_holding->fc,wpAny_mono->fd,IsPair->gf,compareOp->gh,Scope->g5,builtinsNs->g6,codeAny->hx,pyNext->hy,recursionLimit->hz,starEach->hA,OsState->hR,wpAny_call_entry->hS,wpAny_setField_rec->hT,backTo->ih,Params->iL,Result->iM,wpAny_newObj_type->iO,DictEntry->je,IsZip->jg,FuncData->j1,Tok->j5,assign->j6,code->kP,getItem->kQ,wpAny_callSpecial?_slot->kS,wpAny_standAt->kT,Arg->lx,IsPart->lB,NameKind->lD,model->lI,wpAny_of_eq->lJ,wpAny_rule->lK,binaryOp->mw,keeperOf->mx,pyIter->my,valueAt->mz,Meets->nr,argsOk->nw,wpAny_attempt->nB,wpAny_call->nC,wpAny_loadPart_at->nD,wpAny_seqItems->nE,wpAny_specialOf->nF,Flow->oz,Keeper->oC,bootBuiltins->oQ,compEnvC->oS,letOwnedTupleGo->oU,spliced->oW,storeName->oX,stored->oY,storedH->oZ,wpAny_load->o0,wpAny_setField->o1,Program->qI,callerA->qL,getMethod_builtin->qM,noteFrame->qN,nsPutIn->qO,setField->qP,setItem->qQ,subscripted->qS,sysModules->qT,treeTable->qU,typeLookup->qV,wpAny_Call_Name_kw->qW,wpAny_items_nil->qX,wpAt_of_wpAny->qY,GenState->sz,Model->sN,atKey->sZ,atKey_none_of_get->s0,attributeBase->s1,builtinLookup_eq_fast->s2,cStatics->s3,call_meetsIn->s4,cellsFrom->s5,getMethod->s6,interactive->s7,isSubtype_type->s8,mem_of_lookup->ta,merged->tb,newFunctionEnv->tc,typeLookup_type->td,wpAny_Name->te,wpAny_dictEntries->tf,wpAny_execs_nil->tg,wpAny_loadName_local->th,wpAny_pyIter_list->ti,wpAny_typeOf->tj,Drawn->vU,HeapKind->vY,backToKw->wi,behindInMarks->wj,callWith->wk,call_meets->wl,codeAny_builtin->wm,concat_meets->wo,entryFor->wr,eqIsQuiet->ws,evalEach->wt,excClassObj->wu,execs->wv,firstArgMember->ww,importedModules->wy,isSubtype->wA,isTrue->wB,keywordEach->wC,methodCallForm->wH,mroOf->wI,operate->wJ,plainId_quiet->wK,pushCells->wL,sizeLine_eq->wM,storedH_new->wN,table->wP,truthy->wQ,wpAny_dictEpoch->wR,wpAny_items_cons->wS,wpAny_letGo->wT,wpAny_mkInt->wU,wpAny_notOrdered_dict->wV,wpAny_pyIter_tuple->wW,wpAny_updateSeq->wX,ClassData->zQ,FuncBody->zW,assignEach->AW,bindArgs->AY,callEnv->A_,callType_new->Ba,codeAny_call_function->Bb,dictSet->Bc,dictSetDefault->Bd,entryFor_of_tree->Be,entryOfKey->Bf,hashInt->Bg,holding->Bh,isInstance->Bi,ks_wpAt_execs_cons->Bl,loadName->Bn,noFill_tuple_add->Bp,pyHash->Bq,raiseNew->Br,seqIndex?->Bt,seq_tuple_add->Bu,signature?_of->Bv,size_of_entries->Bw,slot_dict_getitem->Bx,standAt->By,swappedStores->Bz,swapsWith->BA,wpAny_isInstance->BB,wpAny_isOneOf_itemiter->BC,wpAny_isSubtype_exc->BD,wpAny_loadPart->BE,wpAny_mkText->BF,wpAny_point->BG,wpAny_pyIter_slot->BH,wpAny_pyIter_zip->BI,wpAny_sequenceKey->BJ,wpAny_throw->BK,wpAny_typeNameOfWhole_itemiter->BL,wpAny_typeNameOfWhole_keyiter->BM,wpAt_bind->BN,Comprehension->HZ,ExceptHandler->H3,IsRangeIter->IK,call->Kl,seqSlot_of->Km,arm_eval_Call->Ks,assignInOrder->Kt,atKey_of_get->Kw,beq_builtin_none->Kx,checkBoundCall->Kz,codeAny_func->KA,codeAny_of_tree->KC,foldedSetIterable->KG,getitemInPython_of_ne->KH,importBound->KI,ks_wpAt_Expr_any->KJ,letTemporaryGo->KL,list_getitem_lookup->KN,loadIfAlive->KP,lookup_relabel_local->KR,methodCallPos->KS,not_mem_keys_of_get->KU,opaqueClassAbove->KV,pastItsLine_dict->KW,plainObj_wpAny_Assign_Attribute->KX,refuseLoop_ref->KZ,ret->K0,slot_dict_setitem->K2,slot_list_setitem->K3,unpackItems->K4,unsupported->K5,wpAny_Assign_stores->K6,wpAny_Constant_int->K7,wpAny_Expr_any->K8,wpAny_Slice->K9,wpAny_Try_except->K_,wpAny_alloc->La,wpAny_assign_Name->Lb,wpAny_dictFind_heap->Lc,wpAny_execs_cons->Ld,wpAny_fieldsOf->Le,wpAny_forIn_list->Lf,wpAny_getItem_list_slice->Lg,wpAny_getItem_of->Lh,wpAny_handled->Li,wpAny_isOneOf_keyiter->Lj,wpAny_layCells->Lk,wpAny_letTemporaryGo->Ll,wpAny_list_append_plain->Lm,wpAny_loadName_free->Ln,wpAny_lookBehind->Lo,wpAny_newTuple->Lp,wpAny_onRaise->Lq,wpAny_operating->Lr,wpAny_pyNext_list_end->Ls,wpAny_pyNext_list_item->Lu,wpAny_updateDictKeys->Lv,wpAny_updateSeq_pair->Lw
open _root_.Nat renaming le_of_ble_eq_true->ap,le_trans->bG,le_of_eq->b3,lt_of_le_of_lt->c0,le_refl->c_,lt_of_lt_of_le->dz,le_add_right->d8,ne_of_lt->ee,le_of_lt->e_,le_succ->fo,ne_of_gt->fK,zero_le->fY,succ_pos->gg,lt_trans->gC,ne_of_beq_eq_false->g0,zero_add->g4,not_lt->hv,succ_le_succ->hw,pow_le_pow_right->hQ,lt_succ_self->jl,two_pow_pos->jm,add_assoc->kJ,add_comm->kK,lt_irrefl->kL,pow_succ->kM,le_of_not_lt->lE,mod_lt->lF,le_add_left->mr,lt_of_succ_lt->ms,le_of_lt_succ->nu,add_le_add_left->oK,pow_pos->oL,sub_le->oM,add_left_cancel->qz,gcd->qA,min_le_right->qB,mul_comm->qC,mul_le_mul_left->qD,mul_le_mul_right->qE,pos_of_ne_zero->qF,add_le_add->sO,add_lt_add_left->sP,gcd_comm->sQ,le_of_succ_le->sR,lt_or_ge->sS,lt_succ_of_lt->sT,not_le->sU,pow_lt_pow_right->sV,add_sub_cancel'->v9,le_of_succ_le_succ->v_,le_succ_of_le->wa,mul_le_mul->wb,add_le_add_right->Au,le_add_right_of_le->Av,lt_of_add_right_lt->Aw,lt_succ_of_le->Ax,min_eq_left->Ay,mul_assoc->Az,ne_add_one->AA,not_succ_le_zero->AB,pow_dvd_pow->AC,succ_mul->AD,succ_ne_zero->AE,add_lt_of_lt_sub->Jo,add_pos_right->Jp,ble->Jq,blt->Jr,casesOn->Js,eq_zero_or_pos->Jt,gcd_rec->Ju,gcd_zero_right->Jv,le_antisymm->Jw,le_mul_of_pos_left->Jx,log2_lt->Jy,lt_add_of_pos_right->Jz,lt_add_one->JA,lt_of_add_left_lt->JB,lt_of_le_of_ne->JC,min_eq_right->JD,min_le_left->JE,mod_eq_of_lt->JF,mul_dvd_mul_left->JG,mul_left_comm->JH,mul_two->JI,not_lt_zero->JJ,pow_add->JK,sub_add_cancel->JL,sub_add_eq->JM,sub_lt->JN,sub_pos_of_lt->JO,sub_self->JP,sub_zero->JQ,succ_add->JR,succ_le_of_lt->JS,succ_lt_succ->JT,zero_lt_of_lt->JU
open _root_.Option.some renaming inj->aG,injEq->wd
open _root_.PySem.Str renaming ofString->bi,empty->oN
open _root_.List renaming length_append->bJ,length_map->bO,mem_singleton->b2,prefix_refl->b_,mem_append->cE,all_eq_true->di,getElem?_eq_some_iff->d6,mem_of_getElem?->d7,map_append->el,mem_cons->em,getElem?_append_left->eK,size_toArray->eV,prefix_append->eZ,getElem?_eq_getElem->e8,range->e9,mem_map->fx,length_set->fJ,lookup_cons->fX,append_nil->gX,length_cons->gY,mem_cons_self->gZ,mem_range->ht,replicate->hu,lookup->jh,mem_append_left->ji,mem_append_right->jj,zip_cons_cons->jk,getElem?_map->j3,getElem?_concat_length->kI,mem_cons_of_mem->lC,append_assoc->mo,map_map->mq,foldl_cons->nm,getElem?_toArray->nn,rec->np,set->nq,getElem?_set_ne->oD,length_reverse->oE,map_inj_left->oF,mem_filterMap->oG,reverse_cons->oH,toArray->oI,getElem?_append_right->qr,getElem?_eq_none->qs,getElem_mem->qt,length_drop->qu,map_cons->qv,map_id->qw,range'->qx,all_cons->sF,find?_cons->sH,getElem?_eq_none_iff->sI,length_filter_le->sJ,mem_filter->sK,nodup_append->sL,nodup_cons->sM,any_eq_true->v2,getElem?_set_self->v3,length_singleton->v4,map_nil->v5,singleton_append->v6,take_length->v7,any_eq_false->z8,contains_iff_mem->z9,countP_cons->z_,drop->Aa,drop_append_of_le_length->Ab,drop_nil->Ac,drop_zero->Ad,forIn_cons->Ae,forall_mem_cons->Af,getElem?_cons_succ->Ag,getElem?_drop->Ah,getElem?_take_of_lt->Ai,length_eq_zero_iff->Aj,length_nil->Ak,length_pos_of_mem->Al,length_range->Am,length_replicate->An,map->Ao,map_congr_left->Ap,mem_flatMap->Aq,mem_replicate->Ar,not_mem_nil->As,replicate_succ->At,all_map->IL,any_cons->IM,append_ne_nil_of_right_ne_nil->IN,append_toArray->IP,casesOn->IQ,cons_append->IR,cons_eq_cons->IS,cons_ne_nil->IT,dropLast_concat->IU,dropWhile_cons->IV,drop_take->IW,filter_cons_of_neg->IX,filter_cons_of_pos->IY,find?_cons_of_neg->IZ,find?_cons_of_pos->I0,find?_eq_none->I1,forIn_nil->I2,getElem?_inj->I3,getElem?_range->I4,head?_drop->I5,length->I6,length_take->I7,length_take_le->I8,length_zip->I9,map_inj_right->I_,map_reverse->Ja,mem_iff_getElem->Jb,mem_iff_getElem?->Jc,nil_append->Jd,nodup_nil->Je,of_mem_zip->Jf,range_succ->Jg,reverse_append->Jh,reverse_reverse->Ji,set_comm->Jj,set_set->Jk,take_nil->Jl,take_of_length_le->Jm
open _root_.PySem.Heap renaming get?_push_of_some->bU,get?_push_size->dt,lt_size->du,SameBut->ek,get?_update_self->gV,size_push->jf,ExtBut->lz,get?_update_other->qo,IsTuple->zX,get?_push_at->zZ,get?->Io,get?_none_of_le->Ip,get?_update_ne->Iq
open _root_.PySem.W renaming Frag->dy,findIn->gD,emptyDict->ii,Look->iJ,Looks->iK,clsIn->j7,nsIn->j9,typeIn->kR,codeIn->nz,dictOf->nA,boot_heap->oR,keepIn->oT,mroIn->oV,looks_clsIn->s9,makesIn->s_,alongIn->wh,codeRec_of->wn,instObj->wz,lookIn->wD,look_both->wE,looks_findIn->wF,looseW->wG,behindTheImports->AX,boot_o_0->AZ,boot_o_1->A0,boot_o_10->A2,boot_o_4->A3,boot_o_5->A4,boot_o_6->A6,boot_o_7->A7,boot_o_8->A8,boot_o_9->A9,looks_mroIn->Bo,looks_opaque->KQ,pyHash_slot->KY
open _root_.Ne renaming symm->dA
open _root_.PySem.Value renaming ref->en,none->iN,type->oO
open _root_.Int renaming ofNat_lt->eU,ofNat_le->gW,le_trans->hs,natCast_nonneg->hP,natCast_pos->j2,ne_of_gt->kH,not_lt->lA,lt_trans->mm,natAbs_mul->mn,not_le->nl,gcd->oA,le_of_lt->oB,fdiv->qp,mul_pos->qq,fdiv_one->sA,mul_one->sB,one_mul->sC,toNat_natCast->sD,toNat_of_nonneg->sE,ofNat_sub->vZ,toNat->v0,toNat_le->v1,dvd_mul_of_dvd_left->z0,fdiv_eq_ediv_of_nonneg->z1,fmod->z2,gcd_one_right->z3,le_of_eq->z4,lt_of_lt_of_le->z5,mul_left_comm->z6,zero_add->z7,add_lt_add_right->Ir,ediv_one->It,eq_ofNat_of_zero_le->Iu,fmod_lt_of_pos->Iv,fmod_nonneg_of_pos->Iw,gcd_ne_zero_right->Ix,le_min->Iy,lt_asymm->Iz,min_eq_left->IA,mul_add->IB,mul_comm->IC,mul_ediv_cancel_left->ID,natAbs_pos->IE,neg_ofNat_le_natCast->IF,ofNat_dvd_right->IG,sub_add_cancel->IH,sub_le_sub->II,toNat_lt->IJ
open _root_.PyProof.Rows renaming len_list->fb,IsTup->iI,slot_tuple_getitem->qR,Subscript_->wg,subscriptTail->wO,isTrue_and->Bj,isTrue_or->Bk,reads_list_at->Bs,bi_ine->Kn,assignInOrder_cons->Ku,assignInOrder_nil->Kv,dictOfH_noDict->KE,slicePart_none->K1,add_int->adk,add_str->adl,and_int->adm,floordiv_int->adn,getItem_tuple->ado,lshift_int_small->adp,mod_int'->adq,mul_int->adr,ne_str->ads,or_int->adt,pow_int_small->adu,rshift_int->adv,sub_bool->adw,sub_int->adx,xor_int->ady
open _root_.Int.ofNat renaming inj->fn
open _root_.PySem.Heap.SameBut renaming update->hr,refl->zY,extBut->ac5,trans->ac6
open _root_.PySem.PyData renaming int->ig,strOk->j4,eqv->lG,depthAll->qJ,keyHash->sX,canLayAll0->AJ,weightAll->AK,depth->J0,hasDict->J1,hasDictAll->J2,leavesShortAll->J3,list->J4,showableAll->J5,shown->J6,str->J7
open _root_.Prod.mk renaming inj->jo,injEq->JZ
open _root_.PySem.Obj renaming mapFields->kN,mapSeq->mu,putName->mv,data_mapDictKeys->nv,data_mapFields->qG,isFreed_of_dict->qH,data_mapDict->wc,cls_mapFields->AF,isFreed_of_fields->AG,cls->JV
open _root_.PySem.Builtin renaming bitOr->nh,bitXor->vS,pylongFrames->vT,bitAnd->HW
open _root_.Eq renaming symm->ni
open _root_.False renaming elim->nj
open _root_.ForInStep renaming yield->nk
open _root_.Nat.Internal.Linear renaming Context->nt,Expr->adf,ExprCnstr->adg
open _root_.PySem.NameKind renaming cell->oJ,free->qy
open _root_.PySem.Builtin.SmallTypes renaming nextOf->qn,ownedTupleHandOut->acA,ownedTupleIsFree->acB
open _root_.PySem.SeqAt renaming shaped->qK,readOf->Ko
open _root_.PySem.AutoSeq1 renaming wpAny_loadPart'->sx,idx_int->zH,sub_tuple_tuple->zI
open _root_.List.cons renaming inj->sG
open _root_.PySem.F renaming plain_extend_loop->sY,slot_tuple_iterator_next->vV,slot_zip_next->vW,ks_slot_super_ga->zS,slot_dict_keyiterator_next->zT,slot_tuple_mul->zU,args_tuple_add_2->AL,entry_tuple_add->AM,plainAttrs_dict->AN,plainAttrs_list->AO,slot_dict_get->AP,slot_dict_itemiterator_next->AQ,slot_dict_setdefault->AR,slot_tuple_add->AS,args_object_init_3->H7,args_tuple_iterator_next_1->H8,args_zip_next_1->H9,called_zip->H_,entry_tuple_iterator_next->Ia,entry_zip_new->Ib,entry_zip_next->Ic,newCall_zip_2->Ie,slot_dict_iter->Ig,slot_int_rmul->Ih,slot_tuple_rmul->Ii,typeCall_zip_2->Ij,args_dict_get_3->J9,args_dict_setdefault_3->J_,entry_dict_get->Ka,entry_dict_setdefault->Kb,entry_extend_loop->Kc,slot_dict_items->Kd,slot_dict_items_iter->Ke,slot_list_count->Kf,slot_list_pop->Kg
open _root_.And renaming intro->vP
open _root_.PySem.Builtin.Tuple renaming tupleExact->vR,tupleHashOf->zP,tupleItemsOf->HU,tupleTooMany->HV
open _root_.PySem.Heap.IsTuple renaming push->vX
open _root_.PySem.Calls renaming Name_function_global->v8,loadGlobal_global->Bm,loadGlobal_builtin->KO,Constant_str->adz
open _root_.PySem.W.Fast renaming te14364793385576792824->we,te17119622794617984870->AT,te797321630700447069->AU,te8326940854005059898->AV,named_eq->Kh,te10792542408131684335->Ki,te13343964577679436407->Kj,te6984425678791042302->Kk,te10110043849684766642->adD,te10501279942588096481->adE,te11892475500146522536->adF,te14082659384304107361->adG,te14374325043358763698->adH,te15667345088766844465->adI,te16286561074155671207->adJ,te18344453789297297638->adK,te8179353310426384613->adL,te8377067652309620493->adM,te9558739934217749035->adN
open _root_.PySem.Shared renaming heap->wf
open _root_.PySem.Around renaming under_plainId->zE
open _root_.Array renaming getElem?_eq_none->zF,getElem?_eq_some_iff->zG,any_toList->HJ,forIn_toList->HK,getElem?_eq_getElem->HL,getElem?_toList->HM,toList_push->HN
open _root_.PySem.Builtin.Dict renaming showsAll->zJ,dictSlotNone->acp
open _root_.PySem.Builtin.List renaming listExtendWith->zK,listSameRef->HT,listItems->act,listSubscript?->acu,listUpdate->acv
open _root_.PySem.Builtin.Range renaming rangeSize->zL,small->zM,rangeFitsLong->acx
open _root_.PySem.Builtin.Slice renaming sliceAdjust->zN,slicePlaces->zO,sliceApplied->acy,slicePartIndex->acz
open _root_.PySem.Env renaming kindOf->zR,blockKind->H2
open _root_.Prod renaming ext->AI,fst->JY
open _root_.PySem.Builtin.Dict_items renaming ownedTupleFields->HR,ownedTupleIsFree->acq,ownsTuple->acr,pairFromOwner->acs
open _root_.PySem.Builtin.Int renaming intBits->HS
open _root_.PySem.Code renaming builtin->HX,quiet_builtin->HY
open _root_.PySem.Data.dict renaming inj->H0
open _root_.PySem.DictEntry renaming refKey->H1
open _root_.PySem.Expr.Attribute renaming elim->H4
open _root_.PySem.Expr.Call renaming elim->H5
open _root_.PySem.Expr.Tuple renaming elim->H6
open _root_.PySem.Heap.IsList renaming push->Ik
open _root_.PySem.Heap.IsSliceOf renaming new->Il
open _root_.PySem.Heap.Ns renaming new->Im
open _root_.PySem.W.Looks renaming ld->Jn
open _root_.PySem.Challenge renaming rw_no0021_01->J8,pw_no0021_01->adA
open _root_.PySem.Value.ref renaming inj->Kp,elim->ad2
open _root_.PySem.Value.type renaming inj->Kq
open _root_.PySem.Walks renaming list->Kr
open _root_.PySem.Builtin.ObjectAttr renaming storeInDict->acw
open _root_.Classical renaming byContradiction->acC,epsilon->acD,epsilon_spec->acE,propDecidable->acF
open _root_.PySem.Comprehension renaming casesOn->acG
open _root_.PySem.Const.str renaming elim->acH
open _root_.PySem.Data.cell renaming elim->acI
open _root_.PySem.Data.fields renaming elim->acJ
open _root_.PySem.Data.func renaming elim->acK
open _root_.PySem.Data.seq renaming elim->acL
open _root_.PySem.EntryCells renaming newEntry->acM
open _root_.PySem.ExceptHandler renaming casesOn->acN
open _root_.PySem.Expr.BinOp renaming elim->acO
open _root_.PySem.Expr.BoolOp renaming elim->acP
open _root_.PySem.Expr.Compare renaming elim->acQ
open _root_.PySem.Expr.Constant renaming elim->acR
open _root_.PySem.Expr.Dict renaming elim->acS
open _root_.PySem.Expr.FormattedValue renaming elim->acT
open _root_.PySem.Expr.IfExp renaming elim->acU
open _root_.PySem.Expr.JoinedStr renaming elim->acV
open _root_.PySem.Expr.List renaming elim->acW
open _root_.PySem.Expr.ListComp renaming elim->acX
open _root_.PySem.Expr.Name renaming elim->acY
open _root_.PySem.Expr.Slice renaming elim->acZ
open _root_.PySem.Expr.Subscript renaming elim->ac0
open _root_.PySem.Expr.UnaryOp renaming elim->ac1
open _root_.PySem.FuncBody.stmts renaming elim->ac2
open _root_.PySem.Heap.DictOfH renaming new->ac3
open _root_.PySem.Heap.Ns1 renaming of_empty->ac4
open _root_.PySem.IntMulOk renaming of_bits->ac7
open _root_.List.IsPrefix renaming length_le->ac8
open _root_.List.Nodup renaming length_le_of_subset->ac9
open _root_.List.Pairwise renaming nil->ac_
open _root_.PySem.Manifest renaming canonical->ada,owners->adb,sig_reversed->adc
open _root_.Nat.Coprime renaming dvd_of_dvd_mul_right->ade
open _root_.Nat.Internal.Linear.ExprCnstr renaming eq_false_of_isUnsat->adh
open _root_.Nat.ToInt renaming add_congr->adi
open _root_.Nat.succ renaming inj->adj
open _root_.PySem.IsL renaming update->adB
open _root_.PySem.MeetsSeq renaming list_pop_last->adC
open _root_.PySem.PylongRoom renaming of->adO
open _root_.PySem.ReadsAll renaming cons->adP
open _root_.PySem.Stmt.Assign renaming elim->adQ
open _root_.PySem.Stmt.ClassDef renaming elim->adR
open _root_.PySem.Stmt.Continue renaming elim->adS
open _root_.PySem.Stmt.Expr renaming elim->adT
open _root_.PySem.Stmt.For renaming elim->adU
open _root_.PySem.Stmt.FunctionDef renaming elim->adV
open _root_.PySem.Stmt.Raise renaming elim->adW
open _root_.PySem.Stmt.Return renaming elim->adX
open _root_.PySem.Stmt.Try renaming elim->adY
open _root_.PySem.Stmt.While renaming elim->adZ
open _root_.String.Pos.Raw renaming mk_le_mk->ad0
open _root_.PySem.Value.int renaming elim->ad1
open _root_.PySem.Value.str renaming elim->ad3
section
open PyProof.Rows
section
open PyProof
abbrev LE:=adf
noncomputable def aH(a b:LE):LE:=.add a b
noncomputable def ak(n:I):LE:=.num n
noncomputable def au(a:LE):LE:=.add a (.num 1)
noncomputable def er(n:I)(a:LE):LE:=.mulL n a
noncomputable def ag:LE:=.var 0
noncomputable def aw:LE:=.var 1
noncomputable def a8:LE:=.var 2
noncomputable def cY:LE:=.var 3
noncomputable def lb:LE:=.var 4
noncomputable def aea:LE:=.var 5
noncomputable def dO(a:I):nt:=.leaf a
noncomputable def cP(a b:I):nt:=.branch 1 (.leaf a) (.leaf b)
noncomputable def df(a b c:I):nt:=.branch 1 (.leaf a) (.branch 2 (.leaf b) (.leaf c))
noncomputable def hj(a b c e:I):nt:=.branch 2 (.branch 1 (.leaf a) (.leaf b)) (.branch 3 (.leaf c) (.leaf e))
noncomputable def rI(a b c e f:I):nt:=.branch 2 (.branch 1 (.leaf a) (.leaf b)) (.branch 3 (.leaf c) (.branch 4 (.leaf e) (.leaf f)))
noncomputable def zk:E (LE×LE)->LE->LE->adg
 |[],a,b=>⟨d,a,b⟩
 |e::c,a,b=>zk c (.add a e.1) (.add b e.2)
def xG(a:nt):E (LE×LE)->Prop
 |[]=>dT
 |b::c=>b.1.denote a<=b.2.denote a->xG a c
def Ot(c:nt)(e:E (LE×LE)):∀(a b:LE),a.denote c<=b.denote c->(zk e a b).toNormPoly.isUnsat=J->xG c e:=by
 induction e with
 |nil=>exactλa b f g=>Eq.mp (adh c ⟨d,a,b⟩ g) f
 |cons h e i=>exactλa b f g j=>i (.add a h.1) (.add b h.2) (sO f j) g
def aZ(b:nt)(a:E (LE×LE))(c:(zk a (.num 0) (.num 0)).toNormPoly.isUnsat=J):xG b a:=Ot b a (.num 0) (.num 0) (c_ 0) c
def bQ{a b:I}(c:b<=a->dT):a<b:=I.lt_of_not_le c
def cw{a b:I}(c:b<a->dT):a<=b:=lE c
def h5{n b a c:I}(e:a+n<=c)(f:b<n):a+b≠c:=ee (dz (sP f a) e)
variable{a b c e f g h i:I}
def EY(b:a+300<cy):a+64<cy:=bQ λc=>aZ (cP a cy) [(au (aH ag (ak 300)),aw),(aw,aH ag (ak 64))] rfl b c
def Wb(c:a+(b+1)+10<cy):a<cy:=bQ λe=>aZ (df a b cy) [(au (aH (aH ag (au aw)) (ak 10)),a8),(a8,ag)] rfl c e
def WJ(c:a+(b+1)+10<cy):a+1+b+10<cy:=bQ λe=>aZ (df a b cy) [(au (aH (aH ag (au aw)) (ak 10)),a8),(a8,aH (aH (au ag) aw) (ak 10))] rfl c e
def XB(b:a+200<cy):a+7+10<cy:=bQ λc=>aZ (cP a cy) [(au (aH ag (ak 200)),aw),(aw,aH (aH ag (ak 7)) (ak 10))] rfl b c
def XE(b:a+200<cy):a+100<cy:=bQ λc=>aZ (cP a cy) [(au (aH ag (ak 200)),aw),(aw,aH ag (ak 100))] rfl b c
def FU(c:a-b>0):1<=a-b:=I.one_le_of_lt c
def XJ(c:vT<=150)(e:a+5*b<=800)(f:hz=1000):a+vT<hz:=bQ λg=>aZ (hj vT a b hz) [(ag,ak 150),(aH aw (er 5 a8),ak 800),(ak 1000,cY),(cY,aH aw ag)] rfl c e (b3 f.symm) g
def FZ{a:O}{b:I}(e:0<=a/\a<=1000/\b<2^64):a<=1000000:=hs e.2.1 (by decide)
def EZ(f:a+b<1000000)(g:c=a)(h:e=b)(i:cr=2^24):c+e<=cr:=cw λj=>aZ (rI a b c e cr) [(au (aH ag aw),ak 1000000),(a8,ag),(cY,aw),(ak 16777216,lb),(au lb,aH a8 cY)] rfl f (b3 g) (b3 h) (b3 i.symm) j
def VV(c:a<100000)(e:b<100000)(f:cr=2^24):a+b<=cr:=cw λg=>aZ (df a b cr) [(au ag,ak 100000),(au aw,ak 100000),(ak 16777216,a8),(au a8,aH ag aw)] rfl c e (b3 f.symm) g
def Fe(e:a<b)(f:c=b):a<c:=I.lt_of_lt_of_eq e (id (ni f))
def V2(e:a=b)(f:c>=b):a<=c:=le_of_eq_of_le e f
def We{a:O}{b:I}(c:0<=a+(↑b:O))(e:¬0<=a):0<=a+(↑b:O)/\a+(↑b:O)<(↑b:O):=⟨c,z5 (Ir (nl.mp e) b) (z4 (z7 _))⟩
def Wh{a:O}{b:I}(c:0<=a+(↑b:O))(e:¬0<=a):(a+(↑b:O)).toNat<b:=(IJ c).mpr (z5 (Ir (nl.mp e) b) (z4 (z7 _)))
def Wm{a:O}{b:I}(c:0<=a+(↑b:O)):-(↑b:O)<=a:=O.add_nonneg_iff_neg_le.mp c
def Ws{a:O}{b:I}(e:0<=a+(↑b:O))(c:¬0<=a):a<(↑b:O):=z5 (nl.mp c) (hP b)
def Wx(c:a+200*b+2000<=cy):a+1+200<cy:=bQ λe=>aZ (df a b cy) [(aH (aH ag (er 200 aw)) (ak 2000),a8),(a8,aH (au ag) (ak 200))] rfl c e
def Fu{a:I}{b:O}(c:-(↑a:O)<=b)(e:a<1000000):-2^63<=b:=hs (hs (by decide) (O.neg_le_neg (gW.mpr (e_ e)))) c
def FG(c:a=b)(e:b<=cr):a<=cr:=cw λf=>aZ (df a b cr) [(ag,aw),(aw,a8),(au a8,ag)] rfl (b3 c) e f
def lf(c:a<1000000)(e:b=a)(f:cr=2^24):b<=cr:=cw λg=>aZ (df a b cr) [(au ag,ak 1000000),(aw,ag),(ak 16777216,a8),(au a8,aw)] rfl c (b3 e) (b3 f.symm) g
def W_(c:a+200*b+2000<=cy):a+2000<=cy:=cw λe=>aZ (df a b cy) [(aH (aH ag (er 200 aw)) (ak 2000),a8),(au a8,aH ag (ak 2000))] rfl c e
def Xf(b:a+2000<=cy):a+64<cy:=bQ λc=>aZ (cP a cy) [(aH ag (ak 2000),aw),(aw,aH ag (ak 64))] rfl b c
def FK(b:a+2000<=cy):a+300<cy:=bQ λc=>aZ (cP a cy) [(aH ag (ak 2000),aw),(aw,aH ag (ak 300))] rfl b c
def Xr(b:a<1000000):a<2^60:=bQ λc=>aZ (dO a) [(au ag,ak 1000000),(ak 1152921504606846976,ag)] rfl b c
def FL(c:(↑a:O)=(↑b:O))(e:b<1000000):(↑a:O)<2^63:=c▸mm (eU.mpr e) (by decide)
def Xx(c:a+2000<=cy)(e:b<=6):a+(b+1+1)<cy:=bQ λf=>aZ (df a cy b) [(aH ag (ak 2000),aw),(a8,ak 6),(aw,aH ag (au (au a8)))] rfl c e f
def FO(b:a<1000):a<1920:=bQ λc=>aZ (dO a) [(au ag,ak 1000),(ak 1920,ag)] rfl b c
def XA(c:a+200*b+2000<=cy):a+200<cy:=bQ λe=>aZ (df a b cy) [(aH (aH ag (er 200 aw)) (ak 2000),a8),(a8,aH ag (ak 200))] rfl c e
def FP(b:a<=1000)(e:cr=2^24):a<=cr:=bG b (e.symm▸(by decide:1000<=2^24))
def yE(b:a<100000)(e:cr=2^24):a<=cr:=cw λc=>aZ (cP a cr) [(au ag,ak 100000),(ak 16777216,aw),(au aw,ag)] rfl b (b3 e.symm) c
def XC:((↑a:O)+(↑b:O)*1).toNat=a+b:=bj (λc:O=>((a:O)+c).toNat) (sB (b:O))
def XD(c:a<1000000)(e:b=a):b<=1000000:=cw λf=>aZ (cP a b) [(au ag,ak 1000000),(aw,ag),(au (ak 1000000),aw)] rfl c (b3 e) f
def uX(e:a=b)(f:b<=c):a<=c:=V2 e f
def FQ:(↑(a+1):O)-1=(↑a:O):=O.sub_eq_iff_eq_add.mpr G
def uY:¬(↑a:O)<0:=O.not_ofNat_neg a
def FR(c:a+1<=b):a<=b:=sR c
def FS(b:a<1000000):a<=2000000:=cw λc=>aZ (dO a) [(au ag,ak 1000000),(au (ak 2000000),ag)] rfl b c
def FT(c:a<1000000)(e:b=a):a<=2000000:=bG (e_ c) (by decide)
def XF{a b:O}(c:a>b):a-b-1+1=(↑(a-b).toNat:O):=(IH (a-b) 1).trans (sE (O.sub_nonneg_of_le (oB c))).symm
def XG{a b:O}(c:¬a>b):0=(↑(a-b).toNat:O):=(bj O.ofNat (O.toNat_of_nonpos (O.sub_nonpos_of_le (lA.mp c)))).symm
def u_{a:O}(b:-1000<=a)(c:a<=2000000):-2^63<=a/\a<2^63:=⟨hs (by decide) b,O.lt_of_le_of_lt c (by decide)⟩
def XH{a b:O}(g:-1000<=a)(c:-1000<=b)(e:a<=1000000)(f:b<=1000000):((((-2^63<=a/\a<2^63)/\-2^63<=b/\b<2^63)/\-2^63<=-1/\-1<2^63)/\-2^63<=(↑(a-b).toNat:O)/\(↑(a-b).toNat:O)<2^63)/\((↑(a-b).toNat:O)=0\/-2^63<=b+(-1+1)/\b+(-1+1)<2^63):=⟨⟨⟨⟨u_ g (hs e (by decide)),u_ c (hs f (by decide))⟩,by decide⟩,u_ (hs (by decide) (hP _)) (gW.mpr (v1.mpr (hs (II e c) (by decide))))⟩,.inr ((O.add_zero b).symm▸u_ c (hs f (by decide)))⟩
def XI{a b:O}{c:I}(h:-1000<=a)(e:-1000<=b)(f:a<=1000000)(i:b<=1000000)(g:c=(a-b).toNat):c<=2000000:=g.symm▸v1.mpr (hs (II f e) (by decide))
def FV(c:a<1000000)(e:b=a):b<2^60:=bQ λf=>aZ (cP a b) [(au ag,ak 1000000),(aw,ag),(ak 1152921504606846976,aw)] rfl c (b3 e) f
def FW(e:a+(b+1)<=c):a<c:=Aw e
def yF(e:a+(b+1)<=c):a+1+b<=c:=cw λf=>aZ (df a b c) [(aH ag (au aw),a8),(au a8,aH (au ag) aw)] rfl e f
def uZ:a+(b+1)=a+1+b:=ni (I.succ_add_eq_add_succ a b)
def FX:0+a<=a:=b3 (g4 a)
def XK(e:a+(b+1)<=2000000)(f:c=a)(g:cr=2^24):c<=cr:=cw λh=>aZ (hj a b c cr) [(aH ag (au aw),ak 2000000),(a8,ag),(ak 16777216,cY),(au cY,a8)] rfl e (b3 f) (b3 g.symm) h
def FY:a+1+b=a+(b+1):=ni uZ
def XM:(↑(a+1):O)=(↑a:O)+1:=adi G rfl
def F0(e:a=b)(f:b=c):a=c:=e.trans f
def XN(e:a<500)(f:b=a)(g:c<=b+1):c<=16777216+1:=cw λh=>aZ (df a b c) [(au ag,ak 500),(aw,ag),(a8,au aw),(au (au (ak 16777216)),a8)] rfl e (b3 f) g h
def VG(c:a+200*b+2000<=cy):a+200*b+1900<=cy:=cw λe=>aZ (df a b cy) [(aH (aH ag (er 200 aw)) (ak 2000),a8),(au a8,aH (aH ag (er 200 aw)) (ak 1900))] rfl c e
def VH(c:a+5*b<=800):a+1+5*b<=803:=cw λe=>aZ (cP a b) [(aH ag (er 5 aw),ak 800),(au (ak 803),aH (au ag) (er 5 aw))] rfl c e
def VI(c:a+200*b+2000<=cy):a+1+200*b+1900<=cy:=cw λe=>aZ (df a b cy) [(aH (aH ag (er 200 aw)) (ak 2000),a8),(au a8,aH (aH (au ag) (er 200 aw)) (ak 1900))] rfl c e
def VJ(e:a=b):b<a+1:=bQ λc=>aZ (cP a b) [(aw,ag),(au ag,aw)] rfl (b3 e.symm) c
def VK(g:a+1<=b/\b<a+1+c/\b<e):a<=b/\b<a+(c+1)/\b<e:=⟨cw λf=>aZ (cP a b) [(au ag,aw),(au aw,ag)] rfl g.1 f,⟨bQ λf=>aZ (df b a c) [(au ag,aH (au aw) a8),(aH aw (au a8),ag)] rfl g.2.1 f,bQ λf=>aZ (cP b e) [(au ag,aw),(aw,ag)] rfl g.2.2 f⟩⟩
def VL(f:a<b):a<=a/\a<a+(c+1)/\a<b:=⟨cw λe=>aZ (dO a) [(au ag,ag)] rfl e,⟨bQ λe=>aZ (cP a c) [(aH ag (au aw),ag)] rfl e,bQ λe=>aZ (cP a b) [(au ag,aw),(aw,ag)] rfl f e⟩⟩
def VM(g:¬(a+1<=b/\b<a+1+c/\b<e))(h:¬b=a):¬(a<=b/\b<a+(c+1)/\b<e):=λf=>g ⟨JC f.1 (dA h),(JR a c).symm▸f.2.1,f.2.2⟩
def E0(g:a<b)(h:c=b)(i:c<=e)(j:f=e):a<e:=dz g (h▸i)
def VN(c:a+5*(b+1)<=803):a+1+5*b<=800:=cw λe=>aZ (cP a b) [(aH ag (er 5 (au aw)),ak 803),(au (ak 800),aH (au ag) (er 5 aw))] rfl c e
def VO(c:a+200*(b+1)+1900<=cy):a+3+200*b+2000<=cy:=cw λe=>aZ (df a b cy) [(aH (aH ag (er 200 (au aw))) (ak 1900),a8),(au a8,aH (aH (aH ag (ak 3)) (er 200 aw)) (ak 2000))] rfl c e
def E1(c:a+5*(b+1)<=803)(e:hz=1000):a<hz:=bQ λf=>aZ (df a b hz) [(aH ag (er 5 (au aw)),ak 803),(ak 1000,a8),(a8,ag)] rfl c (b3 e.symm) f
def VP(c:a+5*b<=800)(e:hz=1000):a+1<hz:=bQ λf=>aZ (df a b hz) [(aH ag (er 5 aw),ak 800),(ak 1000,a8),(a8,au ag)] rfl c (b3 e.symm) f
def E2:a<=a+1:=d8 a 1
def VQ(b:a<=12):a<1000000:=bQ λc=>aZ (dO a) [(ag,ak 12),(ak 1000000,ag)] rfl b c
def E3(c:a+17<=b):a+13<b:=bQ λe=>aZ (cP a b) [(aH ag (ak 17),aw),(aw,aH ag (ak 13))] rfl c e
def E4:a+13<=a+13:=c_ (a+13)
def E5(c:a+17<=b):a+14<b:=bQ λe=>aZ (cP a b) [(aH ag (ak 17),aw),(aw,aH ag (ak 14))] rfl c e
def E6:a+13<=a+14:=fo (a+13)
def E7(c:a+17<=b):a+15<b:=ms c
def uM:a+13<=a+15:=oK (by decide) a
def E8(c:a+17<=b):a+16<b:=Fe c G
def yo:a+13<=a+16:=cw λb=>aZ (dO a) [(au (aH ag (ak 16)),aH ag (ak 13))] rfl b
def VR:a+13<=a+17:=cw λb=>aZ (dO a) [(au (aH ag (ak 17)),aH ag (ak 13))] rfl b
def E9(g:a<=b+c)(h:b<=e+f):a<=e+(f+c):=cw λi=>aZ (rI a b c e f) [(ag,aH aw a8),(aw,aH cY lb),(au (aH cY (aH lb a8)),ag)] rfl g h i
def VS(c:a<b+1)(e:a>=b):a=b:=I.eq_of_le_of_lt_succ e c
def yp:1+a≠0:=dA (NeZero.ne' (1+a))
def yq(b:a<0):dT:=AB a b
def E_:a<a+1+b:=dz (jl a) (d8 _ b)
def rT(c:a+2<400)(e:b<=a+1):b+1<400:=bQ λf=>aZ (cP a b) [(au (aH ag (ak 2)),ak 400),(aw,au ag),(ak 400,au aw)] rfl c e f
def VT(c:a+3<400)(e:b<=a+2):b+1<400:=bQ λf=>aZ (cP a b) [(au (aH ag (ak 3)),ak 400),(aw,aH ag (ak 2)),(ak 400,au aw)] rfl c e f
def Fa(b:1<=a)(e:a<=4):¬(↑a:O)<1:=λc=>nl.mpr c (gW.mpr b)
def Fb(e:1<=a)(b:a<=4):¬(↑a:O)>4096:=λc=>nl.mpr c (gW.mpr (bG b (by decide)))
def Fc(c:a+1<400)(e:b=a+1):a<400:=ms c
def VU(b:min 4 a=4)(c:min 4 a=[0,0,0,0].length):4<=a:=b▸qB 4 a
def VW:(↑(a+3):O)≠1:=Kn.mp G
def VX:(↑(a+3):O)≠2:=Kn.mp G
def VY(c:(↑(a+(b+1)):O)=(↑a:O)):dT:=fK (Jz (gg b)) (fn c)
def uN(c:0<a)(b:a<=4):a<=8:=bG b (by decide)
def Fd(e:a+(b+1)=c):a<c:=bQ λf=>aZ (df a b c) [(aH ag (au aw),a8),(a8,ag)] rfl (b3 e) f
def yr(b:a<4):a<400:=bQ λc=>aZ (dO a) [(au ag,ak 4),(ak 400,ag)] rfl b c
def Ff(b:a<=4):a<=400:=bG b (by decide)
def Fg(b:a<=4):a<400:=c0 b (by decide)
def VZ(c:a<100)(e:b=a+1):b<400:=bQ λf=>aZ (cP a b) [(au ag,ak 100),(aw,au ag),(ak 400,aw)] rfl c (b3 e) f
def V0(c:a<100)(c:b=a+1):0<=-1+(↑(a+1):O):=by lia
def V1(c:a<100)(e:b=a+1):(-1+(↑(a+1):O)).toNat=a:=bj v0 (O.neg_add_cancel_left 1 (a:O)▸(bj (-1+·) (O.add_comm (a:O) 1)))
def uO(b:a<=4):a<=8:=bG b (by decide)
def V3(c:a<b)(e:b<=4):a<100:=bQ λf=>aZ (cP a b) [(au ag,aw),(aw,ak 4),(ak 100,ag)] rfl c e f
def V4(c:a<b)(e:b<=4):a<400:=bQ λf=>aZ (cP a b) [(au ag,aw),(aw,ak 4),(ak 400,ag)] rfl c e f
def V5(c:a<b)(e:b<=4):a+1<400:=bQ λf=>aZ (cP a b) [(au ag,aw),(aw,ak 4),(ak 400,au ag)] rfl c e f
def rU(c:0<a)(b:a<=4):a<400:=Fg b
def Fh(c:0<a)(b:a<=4):a<=400:=bG b (by decide)
def V6:a<a+(b+1):=bQ λc=>aZ (cP a b) [(aH ag (au aw),ag)] rfl c
def V7(e:a<b+1+c):a<b+(c+1):=bQ λf=>aZ (df a b c) [(au ag,aH (au aw) a8),(aH aw (au a8),ag)] rfl e f
def V8(c:a<0+b):a<b:=bQ λe=>aZ (cP a b) [(au ag,aH (ak 0) aw),(aw,ag)] rfl c e
def Fi(f:0<a)(c:a<=4)(e:b<a):b+a<=8:=sO (bG (e_ e) c) c
def V9(g:0<a)(c:a<=4)(e:b<a):b<=4:=cw λf=>aZ (cP a b) [(ag,ak 4),(au aw,ag),(au (ak 4),aw)] rfl c e f
def V_(e:a<b)(f:¬c<a):c+(b-1-a)+1=c-a+b:=((bj (c+·) ((bj (·+1) (I.sub_right_comm b 1 a)).trans (JL (JO e)))).trans (I.add_sub_assoc (e_ e) c).symm).trans (I.sub_add_comm (lE f))
def Wa(c:a<b)(e:b<=2^4):a+1<17:=bQ λf=>aZ (cP a b) [(au ag,aw),(aw,ak 16),(ak 17,au ag)] rfl c e f
def Wc(b:3<=a):a+a+2<=a*3:=by lia
def Wd(c:a+13<=b):a+8≠b:=λe=>aZ (cP a b) [(aH ag (ak 13),aw),(aw,aH ag (ak 8))] rfl c (b3 e.symm)
def Fj(c:a+17<=b):a+13≠b:=h5 c (by decide)
def Fk(c:a+17<=b):a+14≠b:=h5 c (by decide)
def uP(c:a+17<=b):a+15≠b:=h5 c (by decide)
def ys(c:a+17<=b):a+16≠b:=ee c
def fG(c:a+17<=b):a+13<=b:=bG (oK (by decide) a) c
def Fm{a:O}{b:I}(e:(↑a.toNat:O)=a)(c:a<(↑b:O)):a.toNat<b:=eU.mp (e.symm▸c)
def yt(b:a<3):0<1+a:=I.pos_of_neZero (1+a)
def yu(e:a<b)(f:b<=c):a≠c:=ee (dz e f)
def Fn(f:a<=b+c)(g:c<=e):a<=b+e:=bG f (oK g b)
def l4(b:a+4<400):a+1<400:=bQ λc=>aZ (dO a) [(au (aH ag (ak 4)),ak 400),(ak 400,au ag)] rfl b c
def Wf(c:4<=a)(e:a=1\/a=2):¬4<=b:=λg=>e.elim (λf=>bC (f▸c) (by decide)) λf=>bC (f▸c) (by decide)
def Wg(b:a=1\/a=2):a<5:=b.elim (λf=>f▸by decide) λf=>f▸by decide
def rV(b:a+4<400):a+2<400:=bQ λc=>aZ (dO a) [(au (aH ag (ak 4)),ak 400),(ak 400,aH ag (ak 2))] rfl b c
def Wi(c:a+4<400)(e:b<=a+1):b+2<400:=bQ λf=>aZ (cP a b) [(au (aH ag (ak 4)),ak 400),(aw,au ag),(ak 400,aH aw (ak 2))] rfl c e f
def Wj(c:a<b)(e:b<=4):a<=900:=cw λf=>aZ (cP a b) [(au ag,aw),(aw,ak 4),(au (ak 900),ag)] rfl c e f
def Wk(g:a<b+1)(e:b<c)(f:c<=4):b-a+1<=4:=bG (hw (oM b a)) (bG e f)
def uQ(c:0<a)(b:a<=4):a<=1000:=bG b (by decide)
def Fo(e:0<a)(b:a<3)(f:a<=4):a+a<=4:=cw λc=>aZ (dO a) [(au ag,ak 3),(au ag,ak 3),(au (ak 4),aH ag ag)] rfl b b c
def Wl(e:0<a)(f:a<3)(b:a<=4):a<=1000:=cw λc=>aZ (dO a) [(ag,ak 4),(au (ak 1000),ag)] rfl b c
def Fp(b:0<a)(c:a<3)(e:a<=4):0<a+a:=Jp a b
def Fq(f:0<a)(c:a<=4)(e:b<a):b+1<=1000:=bG e (bG c (by decide))
def Wn(e:0<a)(b:a<=4):a+1<400:=bQ λc=>aZ (dO a) [(ag,ak 4),(ak 400,au ag)] rfl b c
def Wo(f:a+13<=b/\b<c)(g:c<=e):b≠e:=λh=>aZ (df b c e) [(au ag,aw),(aw,a8),(a8,ag)] rfl f.2 g (b3 h.symm)
def Wp(e:a+13<=b)(f:c<13):b≠a+c:=λg=>aZ (df a b c) [(aH ag (ak 13),aw),(au a8,ak 13),(aw,aH ag a8)] rfl e f (b3 g)
def Wq(c:a+17<=b):b≠a+13:=λe=>aZ (cP a b) [(aH ag (ak 17),aw),(aw,aH ag (ak 13))] rfl c (b3 e)
def Wr(c:a+17<=b):b≠a+14:=λe=>aZ (cP a b) [(aH ag (ak 17),aw),(aw,aH ag (ak 14))] rfl c (b3 e)
def rW(c:a+17<=b):b≠a+15:=dA (h5 c (by decide))
def yv(c:a+17<=b):b≠a+16:=dA (ee c)
def Wt(c:a<10)(e:b<=30+4*a):b+4<400:=bQ λf=>aZ (cP a b) [(au ag,ak 10),(au ag,ak 10),(au ag,ak 10),(au ag,ak 10),(aw,aH (ak 30) (er 4 ag)),(ak 400,aH aw (ak 4))] rfl c c c c e f
def Fs(b:a<10):15+a<400:=bQ λc=>aZ (dO a) [(au ag,ak 10),(ak 400,aH (ak 15) ag)] rfl b c
def Wu(b:a<10):a<40:=bQ λc=>aZ (dO a) [(au ag,ak 10),(ak 40,ag)] rfl b c
def Wv(e:a<=20+4*b)(f:c<=a+4):c<=20+4*(b+1):=cw λg=>aZ (df a b c) [(ag,aH (ak 20) (er 4 aw)),(a8,aH ag (ak 4)),(au (aH (ak 20) (er 4 (au aw))),a8)] rfl e f g
def Ww(e:a<=30+4*b)(f:c<=a+4):c<=30+4*(b+1):=cw λg=>aZ (df a b c) [(ag,aH (ak 30) (er 4 aw)),(a8,aH ag (ak 4)),(au (aH (ak 30) (er 4 (au aw))),a8)] rfl e f g
def uR(b:a<=3):a<400:=bQ λc=>aZ (dO a) [(ag,ak 3),(ak 400,ag)] rfl b c
def uS(c:a<b):b≠a:=dA (ee c)
def Ft(e:a<b\/b+17<=a)(f:a≠c):a<b\/b+13<=a:=e.imp id (bG (oK (by decide) b))
def Wy(m:a<b\/b+17<=a)(j:a<c)(k:a≠e)(l:b<=f/\(f<b+17\/c<=f)):f≠a:=λg=>l.2.elim (λh=>m.elim (λi=>hv.mpr l.1 (g▸i)) λi=>sU.mpr h (g▸i)) λh=>sU.mpr j (g▸h)
def yw(e:a<b)(f:b<=c):a<c:=E0 e G f G
def pP(f:a+17<=b)(g:b<c)(h:c<=e):a+17<=e:=cw λi=>aZ (hj a b c e) [(aH ag (ak 17),aw),(au aw,a8),(a8,cY),(au cY,aH ag (ak 17))] rfl f g h i
def Wz(c:a<15)(e:b<=4+a):b+1<400:=bQ λf=>aZ (cP a b) [(au ag,ak 15),(aw,aH (ak 4) ag),(ak 400,au aw)] rfl c e f
def yx(b:a<15):a<400:=bQ λc=>aZ (dO a) [(au ag,ak 15),(ak 400,ag)] rfl b c
def WA(f:a=b+1)(g:c<=4+b)(h:e<=c+1):e<=4+a:=cw λi=>aZ (hj a b c e) [(au aw,ag),(a8,aH (ak 4) aw),(cY,au a8),(au (aH (ak 4) ag),cY)] rfl (b3 f.symm) g h i
def WB(f:a=b+1)(g:c<=5+b)(h:e<=c+1):e<=5+a:=cw λi=>aZ (hj a b c e) [(au aw,ag),(a8,aH (ak 5) aw),(cY,au a8),(au (aH (ak 5) ag),cY)] rfl (b3 f.symm) g h i
def Fv(e:a+17<=b)(f:c<a):b≠c:=fK (dz f (bG (d8 a 17) e))
def WC(g:a+17<=b)(h:b<c)(i:c<=e)(j:f<a):f<e:=bQ λk=>aZ (rI a b c e f) [(aH ag (ak 17),aw),(au aw,a8),(a8,cY),(au lb,ag),(cY,lb)] rfl g h i j k
def Fw(e:a+17<=b)(f:b<c):a<=c:=e_ (c0 (bG (d8 a 17) e) f)
def uT(c:a+17<=b):a<=b:=I.le_of_add_right_le c
def WD(b:a<15):a<20:=bQ λc=>aZ (dO a) [(au ag,ak 15),(ak 20,ag)] rfl b c
def WE(f:a+17<=b)(g:b<c)(h:c<=e):a+13<=e:=cw λi=>aZ (hj a b c e) [(aH ag (ak 17),aw),(au aw,a8),(a8,cY),(au cY,aH ag (ak 13))] rfl f g h i
def WF(f:a<3)(e:b<5)(g:c=3*b+a):c<15:=bQ λh=>aZ (df a b c) [(au ag,ak 3),(au aw,ak 5),(au aw,ak 5),(au aw,ak 5),(a8,aH (er 3 aw) ag),(ak 15,a8)] rfl f e e e (b3 g) h
def yy(b:a<=2):a<400:=bQ λc=>aZ (dO a) [(ag,ak 2),(ak 400,ag)] rfl b c
def uU(f:a=b/\c=b)(e:b<=3):b<400:=c0 e (by decide)
def Fx(c:a<=b):¬b<a:=hv.mpr c
def Fy(b:a<=3):a<=3:=ad0.mp b
def WG(e:a+17<=b)(f:b<c):a+17<=c:=cw λg=>aZ (df a b c) [(aH ag (ak 17),aw),(au aw,a8),(au a8,aH ag (ak 17))] rfl e f g
def WH(k:a<b)(j:b<=c)(h:c<e)(i:f=e):b<=f/\f≠c/\f≠a:=⟨cw λg=>aZ (hj b c e f) [(ag,aw),(au aw,a8),(a8,cY),(au cY,ag)] rfl j h (b3 i.symm) g,⟨λg=>aZ (df c e f) [(au ag,aw),(aw,a8),(a8,ag)] rfl h (b3 i.symm) (b3 g),λg=>aZ (rI a b c e f) [(au ag,aw),(aw,a8),(au a8,cY),(cY,lb),(lb,ag)] rfl k j h (b3 i.symm) (b3 g)⟩⟩
def WI(f:a<b)(g:b<=c)(h:c<=e):a<e:=bQ λi=>aZ (hj a b c e) [(au ag,aw),(aw,a8),(a8,cY),(cY,ag)] rfl f g h i
def WK(f:a<=b)(g:b<=c)(h:c<=e):a<=e:=cw λi=>aZ (hj a b c e) [(ag,aw),(aw,a8),(a8,cY),(au cY,ag)] rfl f g h i
def WL(i:a<b)(h:b<=c)(j:e<b)(k:f<b):c≠a/\c≠e/\c≠f:=⟨λg=>aZ (df a b c) [(au ag,aw),(aw,a8),(a8,ag)] rfl i h (b3 g),⟨λg=>aZ (df b c e) [(ag,aw),(au a8,ag),(aw,a8)] rfl h j (b3 g),λg=>aZ (df b c f) [(ag,aw),(au a8,ag),(aw,a8)] rfl h k (b3 g)⟩⟩
def Fz(e:a<4)(f:b=15+a)(g:c=b):c+1<400:=bQ λh=>aZ (df a b c) [(au ag,ak 4),(aw,aH (ak 15) ag),(a8,aw),(ak 400,au a8)] rfl e (b3 f) (b3 g) h
def yz(e:a<b)(f:b<=c):c≠a:=λg=>aZ (df a b c) [(au ag,aw),(aw,a8),(a8,ag)] rfl e f (b3 g)
def FA(e:a<4)(f:b=15+a)(h:c=b):b+1<400:=bQ λg=>aZ (cP a b) [(au ag,ak 4),(aw,aH (ak 15) ag),(ak 400,au aw)] rfl e (b3 f) g
def WM(e:a<=b+1)(f:b<=c):a<=c+1:=cw λg=>aZ (df a b c) [(ag,au aw),(aw,a8),(au (au a8),ag)] rfl e f g
def WN(c:a+(b+1)<=4):a+1+b<=4:=cw λe=>aZ (cP a b) [(aH ag (au aw),ak 4),(au (ak 4),aH (au ag) aw)] rfl c e
def FC(e:a+17<=b)(f:c=b+1):a+17<=c:=f.symm▸wa e
def FD(e:a<b)(f:c=b+1):c≠a:=λg=>aZ (df a b c) [(au ag,aw),(au aw,a8),(a8,ag)] rfl e (b3 f.symm) (b3 g)
def FE(e:a=b+1):a≠b:=λc=>fK (jl b) (e.symm.trans c)
def WO(c:a=15)(e:b<=5+a):b<=30:=cw λf=>aZ (cP a b) [(ag,ak 15),(aw,aH (ak 5) ag),(au (ak 30),aw)] rfl (b3 c) e f
def WP(f:a+17<=b)(g:c<a)(i:e=b+1):c<b+1:=bQ λh=>aZ (df a b c) [(aH ag (ak 17),aw),(au a8,ag),(au aw,a8)] rfl f g h
def WQ(f:a+17<=b)(g:c<a)(i:e=b+1):c<b:=bQ λh=>aZ (df a b c) [(aH ag (ak 17),aw),(au a8,ag),(aw,a8)] rfl f g h
def FF(b:a<900000):a<900001:=sT b
def WR:a+1<a+13:=bQ λb=>aZ (dO a) [(aH ag (ak 13),au ag)] rfl b
def WS:a+2<a+13:=bQ λb=>aZ (dO a) [(aH ag (ak 13),aH ag (ak 2))] rfl b
def WT:a+3<a+13:=bQ λb=>aZ (dO a) [(aH ag (ak 13),aH ag (ak 3))] rfl b
def WU:a+4<a+13:=bQ λb=>aZ (dO a) [(aH ag (ak 13),aH ag (ak 4))] rfl b
def WV:a+5<a+13:=bQ λb=>aZ (dO a) [(aH ag (ak 13),aH ag (ak 5))] rfl b
def WW:a+6<a+13:=bQ λb=>aZ (dO a) [(aH ag (ak 13),aH ag (ak 6))] rfl b
def WX:a+7<a+13:=bQ λb=>aZ (dO a) [(aH ag (ak 13),aH ag (ak 7))] rfl b
def WY:a+8<a+13:=bQ λb=>aZ (dO a) [(aH ag (ak 13),aH ag (ak 8))] rfl b
def WZ:a+9<a+13:=bQ λb=>aZ (dO a) [(aH ag (ak 13),aH ag (ak 9))] rfl b
def W0:a+10<a+13:=bQ λb=>aZ (dO a) [(aH ag (ak 13),aH ag (ak 10))] rfl b
def yA(e:a+13<=b)(h:a<=c)(f:c<a+13):c≠b:=λg=>aZ (df a b c) [(aH ag (ak 13),aw),(au a8,aH ag (ak 13)),(aw,a8)] rfl e f (b3 g.symm)
def yB(b:a<800000):a+1<900000:=bQ λc=>aZ (dO a) [(au ag,ak 800000),(ak 900000,au ag)] rfl b c
def uV(b:a<800000):a<900000:=bQ λc=>aZ (dO a) [(au ag,ak 800000),(ak 900000,ag)] rfl b c
def W1(c:a+(b+1)<900000):a+1+b<900000:=bQ λe=>aZ (cP a b) [(au (aH ag (au aw)),ak 900000),(ak 900000,aH (au ag) aw)] rfl c e
def W2(c:a<800000)(e:b<=3):a+1+b<900000:=bQ λf=>aZ (cP a b) [(au ag,ak 800000),(aw,ak 3),(ak 900000,aH (au ag) aw)] rfl c e f
def W3(b:4^1<=a):2+3*a<=a*4:=bG (Au (bG (by decide) b) (3*a)) (b3 ((kK a (3*a)).trans ((AD 3 a).symm.trans (qC 4 a))))
def uW(c:a+4*b+8<800000):a<800000:=bQ λe=>aZ (cP a b) [(au (aH (aH ag (er 4 aw)) (ak 8)),ak 800000),(ak 800000,ag)] rfl c e
def W4(g:a+1<=3)(h:b+4*c+7<800000)(f:e<c):b+a+4*e+8<800000:=bQ λi=>aZ (hj a b c e) [(au ag,ak 3),(au (aH (aH aw (er 4 a8)) (ak 7)),ak 800000),(au cY,a8),(au cY,a8),(au cY,a8),(au cY,a8),(ak 800000,aH (aH (aH aw ag) (er 4 cY)) (ak 8))] rfl g h f f f f i
def W5(g:a<=b)(h:b<=c)(i:e<=f):a+e<=f+c:=cw λj=>aZ (rI a b c e f) [(ag,aw),(aw,a8),(cY,lb),(au (aH lb a8),aH ag cY)] rfl g h i j
def W6(c:a+4*b+8<800000):a+1+4*b+7<800000:=bQ λe=>aZ (cP a b) [(au (aH (aH ag (er 4 aw)) (ak 8)),ak 800000),(ak 800000,aH (aH (au ag) (er 4 aw)) (ak 7))] rfl c e
def FH(f:2+3*a<=b)(g:c<=3*a)(h:e<=c):1+e+1<=b:=cw λi=>aZ (hj a b c e) [(aH (ak 2) (er 3 ag),aw),(a8,er 3 ag),(cY,a8),(au aw,au (aH (ak 1) cY))] rfl f g h i
def FI:1+a+1+b=a+(b+1)+1:=by lia
def W7(g:a+17<=b)(j:a<=c)(h:c<a+13)(k:e=b/\f=b+1):c<b:=bQ λi=>aZ (df a b c) [(aH ag (ak 17),aw),(au a8,aH ag (ak 13)),(aw,a8)] rfl g h i
def W8(f:a+17<=b)(g:c=b/\e=b+1):a+13<=c:=cw λh=>aZ (df a b c) [(aH ag (ak 17),aw),(aw,a8),(au a8,aH ag (ak 13))] rfl f (b3 g.1.symm) h
def W9(f:a+17<=b)(g:c=b/\e=b+1):a+13<=e:=cw λh=>aZ (df a b e) [(aH ag (ak 17),aw),(au aw,a8),(au a8,aH ag (ak 13))] rfl f (b3 g.2.symm) h
def Xa(g:a+17<=b)(h:c<e)(i:f=b/\c=b+1):a+13<=e:=cw λj=>aZ (hj a b c e) [(aH ag (ak 17),aw),(au a8,cY),(au aw,a8),(au cY,aH ag (ak 13))] rfl g h (b3 i.2.symm) j
def FJ(c:a<b):a≠b:=ee c
def Xb(c:a<400)(e:b<a):b+1<=400:=cw λf=>aZ (cP a b) [(au ag,ak 400),(au aw,ag),(au (ak 400),au aw)] rfl c e f
def Xc(f:a<b)(g:c=b/\e=b+1):a≠c:=λh=>aZ (df a b c) [(au ag,aw),(aw,a8),(a8,ag)] rfl f (b3 g.1.symm) (b3 h.symm)
def Xd(f:a<b)(g:c=b/\e=b+1):a≠e:=λh=>aZ (df a b e) [(au ag,aw),(au aw,a8),(a8,ag)] rfl f (b3 g.2.symm) (b3 h.symm)
def Xe(g:a<b)(h:c<e)(i:f=b/\c=b+1):a<e:=bQ λj=>aZ (hj a b c e) [(au ag,aw),(au a8,cY),(au aw,a8),(cY,ag)] rfl g h (b3 i.2.symm) j
def Xg(g:a<b)(h:c=e/\a=e+1):e<=b+f:=cw λi=>aZ (hj a b e f) [(au ag,aw),(au a8,ag),(au (aH aw cY),a8)] rfl g (b3 h.2.symm) i
def Xh(f:a+17<=b)(j:a<=c)(g:b<=e)(h:c<a+13):c<e:=bQ λi=>aZ (hj a b e c) [(aH ag (ak 17),aw),(aw,a8),(au cY,aH ag (ak 13)),(a8,cY)] rfl f g h i
def Xi(f:a+17<=b)(j:a<=c)(g:b<=e)(h:c<a+13):c≠e:=λi=>aZ (hj a b e c) [(aH ag (ak 17),aw),(aw,a8),(au cY,aH ag (ak 13)),(a8,cY)] rfl f g h (b3 i.symm)
def Xj(f:a+b<=c)(g:e<=a):e<=c:=cw λh=>aZ (hj a b c e) [(aH ag aw,a8),(cY,ag),(au a8,cY)] rfl f g h
def Xk(c:a+b<=2):a<400:=bQ λe=>aZ (cP a b) [(aH ag aw,ak 2),(ak 400,ag)] rfl c e
def Xl(c:a+(b+1)<=2):a+1+b<=2:=cw λe=>aZ (cP a b) [(aH ag (au aw),ak 2),(au (ak 2),aH (au ag) aw)] rfl c e
def Xm(b:a<3)(c:a=7):dT:=bC b (by rw[c];decide)
def Xn(b:4<=a)(c:a<4):dT:=hv.mpr b c
def Xo(b:a<=1):a+1<400:=bQ λc=>aZ (dO a) [(ag,ak 1),(ak 400,au ag)] rfl b c
def Xp(c:a<=400)(e:b<=400):a+1+(b+1+0)<=810:=cw λf=>aZ (cP a b) [(ag,ak 400),(aw,ak 400),(au (ak 810),aH (au ag) (aH (au aw) (ak 0)))] rfl c e f
def Xq(e:a<=4)(f:b<=400)(g:c<=400):a+1+(b+1+(c+1+0))<=810:=cw λh=>aZ (df a b c) [(ag,ak 4),(aw,ak 400),(a8,ak 400),(au (ak 810),aH (au ag) (aH (au aw) (aH (au a8) (ak 0))))] rfl e f g h
def Xs(e:0<a)(b:a<=4):a<=64:=cw λc=>aZ (dO a) [(ag,ak 4),(au (ak 64),ag)] rfl b c
def Xt(e:a<=810)(f:b<=811*c):a+1+b<=811*(c+1):=cw λg=>aZ (df a b c) [(ag,ak 810),(aw,er 811 a8),(au (er 811 (au a8)),aH (au ag) aw)] rfl e f g
def Xu(b:a<3):1+a<=4:=cw λc=>aZ (dO a) [(au ag,ak 3),(au (ak 4),aH (ak 1) ag)] rfl b c
def yC(c:3<=a)(b:a<=12):a<400:=c0 b (by decide)
def Xv(e:a+17<=b/\b≠c):a+13<=b:=cw λf=>aZ (cP a b) [(aH ag (ak 17),aw),(au aw,aH ag (ak 13))] rfl e.1 f
def FM(b:a<=10):0+a<=10:=(g4 a).symm▸b
def Xw(b:a<=10):a<400:=bQ λc=>aZ (dO a) [(ag,ak 10),(ak 400,ag)] rfl b c
def FN(c:a=15+b)(e:b<=10):a<400:=bQ λf=>aZ (cP a b) [(ag,aH (ak 15) aw),(aw,ak 10),(ak 400,ag)] rfl (b3 c) e f
def yD(f:a=15+b)(c:b<=10):b<=40:=cw λe=>aZ (dO b) [(ag,ak 10),(au (ak 40),ag)] rfl c e
def Xy(c:a=15+b)(e:b<=10):a<=30:=cw λf=>aZ (cP a b) [(ag,aH (ak 15) aw),(aw,ak 10),(au (ak 30),ag)] rfl (b3 c) e f
def Xz(h:a+1=15+b)(e:a+c=15+b)(f:b<=10):a<100:=bQ λg=>aZ (df a c b) [(aH ag aw,aH (ak 15) a8),(a8,ak 10),(ak 100,ag)] rfl (b3 e) f g
end
section
def as{a:Prop}(c:∀b:Prop,(a->b)->b):a:=c a id
def Lx(a b:Prop)(c:Prop):Prop:=a->b->c
def aA(F:Prop->Prop):Prop:=∀a,F a->a
def fy(a b:Prop):Prop:=aA (Lx a b)
def Ly(a b c:Prop)(e:Prop):Prop:=a->b->c->e
def e1(a b c:Prop):Prop:=aA (Ly a b c)
def Lz(a b c e:Prop)(f:Prop):Prop:=a->b->c->e->f
def fL(a b c e:Prop):Prop:=aA (Lz a b c e)
def j_(a b c e f:Prop)(g:Prop):Prop:=a->b->c->e->f->g
def LA(a b c e f g:Prop)(h:Prop):Prop:=a->b->c->e->f->g->h
def BO(a b c e f g h:Prop)(i:Prop):Prop:=a->b->c->e->f->g->h->i
def kW{a b:Type}(P:a->b->Prop)(c:Prop):Prop:=∀e:a,∀f:b,P e f->c
def gi{a b c:Type}(P:a->b->c->Prop)(e:Prop):Prop:=∀f:a,∀g:b,∀h:c,P f g h->e
def o4{a b c e:Type}(P:a->b->c->e->Prop)(f:Prop):Prop:=∀g:a,∀h:b,∀i:c,∀j:e,P g h i j->f
def tn{a b c e f:Type}(P:a->b->c->e->f->Prop)(g:Prop):Prop:=∀h:a,∀i:b,∀j:c,∀k:e,∀l:f,P h i j k l->g
def mB{a b c e f g:Type}(P:a->b->c->e->f->g->Prop)(h:Prop):Prop:=∀i:a,∀j:b,∀k:c,∀l:e,∀m:f,∀n:g,P i j k l m n->h
def q2{a b c e f g h:Type}(P:a->b->c->e->f->g->h->Prop)(i:Prop):Prop:=∀j:a,∀k:b,∀l:c,∀m:e,∀n:f,∀o:g,∀p:h,P j k l m n o p->i
def BR{a b c e f g h i:Type}(P:a->b->c->e->f->g->h->i->Prop)(j:Prop):Prop:=∀k:a,∀l:b,∀m:c,∀n:e,∀o:f,∀p:g,∀q:h,∀r:i,P k l m n o p q r->j
def LM{a b c e f g h i j k:Type}(P:a->b->c->e->f->g->h->i->j->k->Prop)(l:Prop):Prop:=∀m:a,∀n:b,∀o:c,∀p:e,∀q:f,∀r:g,∀s:h,∀t:i,∀u:j,∀v:k,P m n o p q r s t u v->l
def LN{a b c e f g h i j k l:Type}(P:a->b->c->e->f->g->h->i->j->k->l->Prop)(m:Prop):Prop:=∀n:a,∀o:b,∀p:c,∀q:e,∀r:f,∀s:g,∀t:h,∀u:i,∀v:j,∀w:k,∀x:l,P n o p q r s t u v w x->m
def LO{a b c e f g h i j k l m:Type}(P:a->b->c->e->f->g->h->i->j->k->l->m->Prop)(n:Prop):Prop:=∀o:a,∀p:b,∀q:c,∀r:e,∀s:f,∀t:g,∀u:h,∀v:i,∀w:j,∀x:k,∀y:l,∀z:m,P o p q r s t u v w x y z->n
inductive cz{a b:Type}(c:a->b->Prop):E a->E b->Prop
 |nil:cz c [] []
 |cons {e:a} {f:b} {g:E a} {h:E b} (i:c e f) (j:cz c g h):cz c (e::g) (f::h)
inductive gk{a b:Type}(c:a->b->Prop):j a->j b->Prop
 |afW:gk c none none
 |afR {e:a} {f:b} (g:c e f):gk c (some e) (some f)
section
variable{h i:Type}{a:h->i->Prop}{e:E h}{b:E i}{XV:j h}{f:j i}
def cz.imp(f:cz a e b)(h:∀g B,a g B->c g B):cz c e b:=by
 induction f with
 |nil=>exact .nil
 |cons i k j=>exact .cons (h _ _ i) j
def cz.len(c:cz a e b):b.length=e.length:=by
 induction c with
 |nil=>rfl
 |cons g g f=>exact bj (·+1) f
def cz.gA(g:cz a e b){c:h}{f:i}(j:a c f):cz a (e++[c]) (b++[f]):=by
 induction g with
 |nil=>exact .cons j .nil
 |cons k m l=>exact .cons k l
def cz.map(f:cz a e b)(h:∀g B,a g B->c (D g) (T B)):cz c (e.map D) (b.map T):=by
 induction f with
 |nil=>exact .nil
 |cons i k j=>exact .cons (h _ _ i) j
def cz.get(f:cz a e b):∀{g:I}{B:h},e[g]?=A B->∃D,b[g]?=A D/\a B D:=by
 induction f with
 |nil=>exact nofun
 |cons i k j=>
  intro g B c;cases g with
  |zero=>exact⟨_,G,aG c▸i⟩
  |succ g=>exact j c
def cz.mem(f:cz a e b):∀{g:i},g∈b->∃B,a B g:=by
 induction f with
 |nil=>exact nofun
 |cons h k j=>
  intro g c;cases c with
  |head=>exact⟨_,h⟩
  |tail k c=>exact j c
def cz.find{f:h->ah}{c:i->ah}(k:cz a e b)(l:∀B g,a B g->f B=c g):gk a (e.find? f) (b.find? c):=by
 induction k with
 |nil=>exact .afW
 |@cons B g _ _ j _ m=>
  rw[sH,sH,l B g j];cases c g with
  |true=>exact .afR j
  |false=>exact m
def gk.is(b:gk a XV f):f.isSome=XV.isSome:=by cases b<;>rfl
def gk.get(c:gk a XV f)(b:XV=A B):∃g,f=A g/\a B g:=by
 cases c with
 |afW=>exact nomatch b
 |afR e=>exact⟨_,G,aG b▸e⟩
def gk.no(b:gk a XV f)(c:XV=M):f=M:=by
 cases b with
 |afW=>rfl
 |afR e=>exact nomatch c
def gk.map(b:gk a XV f)(e:∀g B,a g B->c (D g) (T B)):gk c (XV.map D) (f.map T):=by
 cases b with
 |afW=>exact .afW
 |afR h=>exact .afR (e _ _ h)
def gk.getD(b:gk a XV f)(c:a g B):a (XV.getD g) (f.getD B):=by
 cases b with
 |afW=>exact c
 |afR e=>exact e
def cz.c7(c:cz a e b)(f:cz a g B):cz a (e++g) (b++B):=by
 induction c with
 |nil=>exact f
 |cons h j i=>exact .cons h i
def cz.set(c:cz a e b)(f:a B D):∀{g:I},cz a (e.set g B) (b.set g D):=by
 induction c with
 |nil=>exact .nil
 |cons h i j=>
  intro g;cases g with
  |zero=>exact .cons f i
  |succ g=>exact .cons h j
def cz.take(c:cz a e b):∀(n:I),cz a (e.take n) (b.take n):=by
 induction c with
 |nil=>exactλn=>by rw[Jl,Jl];exact .nil
 |cons f h g=>
  intro n;cases n with
  |zero=>exact .nil
  |succ n=>exact .cons f (g n)
def cz.drop(c:cz a e b):∀(n:I),cz a (e.drop n) (b.drop n):=by
 induction c with
 |nil=>exactλn=>by rw[Ac,Ac];exact .nil
 |cons f g h=>
  intro n;cases n with
  |zero=>exact .cons f g
  |succ n=>exact h n
def cz.lw(c:cz a e b):cz a e.reverse b.reverse:=by
 induction c with
 |nil=>exact .nil
 |cons f h g=>rw[oH,oH];exact g.gA f
end
set_option genInjectivity true in
set_option genCtorIdx true in
inductive L where
 |none
 |bool (a:ah)
 |int (b:O)
 |str (c:am)
 |ab (e:E L)
 |ref (f:Q)
 deriving Inhabited
set_option genCtorIdx true in
inductive aO where
 |list (b:E L)
 |afP (a:E (O×L))
 |afM (a:E (E L×L))
 |c8 (c:Q) (e:I)
 |afS (a:E (I×L))
 |afT
 |arg
 deriving Inhabited
abbrev N:=E aO
def Me(c:E Q)(e:aq)(f:E U->Prop)(g:U)(h:Prop):Prop:=∀a:Q,∀b:E U,g=.ref a->iI e a b.toArray->f b->a∉c->h
def Md(b:E Q)(c:I)(e:U)(f:Prop):Prop:=∀a:Q,b[c]?=A a->e=.ref a->f
def B1(P:U->Prop)(c:E U->Prop)(e:E U)(f:Prop):Prop:=∀a:U,∀b:E U,e=a::b->P a->c b->f
mutual
def aF(b:E Q)(f:aq):L->U->Prop
 |.none,a=>a=.none
 |.bool g,a=>a=.bool g
 |.int c,a=>∃e,a=.int c e
 |.str h,a=>∃e,a=.str h e
 |.ab i,a=>aA (Me b f (aC b f i) a)
 |.ref c,a=>aA (Md b c a)
def aC(b:E Q)(c:aq):E L->E U->Prop
 |[],a=>a=[]
 |e::f,a=>aA (B1 (aF b c e) (aC b c f) a)
end
def aC.gc:aC b g (B::D) T↔aA (B1 (aF b g B) (aC b g D) T):=by
 exact .rfl
def aC.eY:aC g B [] b↔b=[]:=.rfl
def aC.mk(a:aF b g T B)(c:aC b g ge D):aC b g (T::ge) (B::D):=
 aC.gc.mpr (λf e=>e B D G a c)
section
variable{c:E Q}{a:aq}{e f:E L}{b aB:E U}
def aC.mf:∀{b:E U},aC c a e b->cz (aF c a) e b:=by
 induction e with
 |nil=>intro b f;obtain rfl:=aC.eY.mp f;exact .nil
 |cons k e g=>
  intro b f;refine aC.gc.mp f _ λl m h i j=>?_;subst h;exact .cons i (g j)
def cz.iH(f:cz (aF c a) e b):aC c a e b:=by
 induction f with
 |nil=>exact aC.eY.mpr G
 |cons a h g=>exact .mk a g
def aC.length(f:aC c a e b):b.length=e.length:=f.mf.len
def aC.append(g:aC c a e b)(h:aC c a f aB):aC c a (e++f) (b++aB):=(g.mf.c7 h.mf).iH
def aC.get{f:I}{g:L}(h:aC c a e b)(i:e[f]?=A g):∃B,b[f]?=A B/\aF c a g B:=h.mf.get i
def aC.set(f:aC c a e b)(g:aF c a B D):aC c a (e.set T B) (b.set T D):=(f.mf.set g).iH
def aC.take(n:I)(f:aC c a e b):aC c a (e.take n) (b.take n):=(f.mf.take n).iH
def aC.drop(n:I)(f:aC c a e b):aC c a (e.drop n) (b.drop n):=(f.mf.drop n).iH
def aC.reverse(f:aC c a e b):aC c a e.reverse b.reverse:=f.mf.lw.iH
end
def b4(c:E Q)(e f:aq):Prop:=∀b a,b∉c->e.get? b=A a->a.cls=.type "tuple"->(∃g n,a.data=.seq g n)->f.get? b=A a
def bW(g:aq)(b c:E Q):Prop:=(∀(e:I)(a:Q),b[e]?=A a->c[e]?=A a)/\∀a∈c,a∈b\/∀f,g.get? a=A f->f.cls≠.type "tuple"
def bW.refl(b:E Q):bW g b b:=⟨λc c a=>a,λc a=>.inl a⟩
def bW.c7(e n:E Q)(f:∀g∈n,b.get? g=M):bW b e (e++n):=⟨λh g a=>by
 have b:h<e.length:=(d6.mp a).1;rw[eK b];exact a,λg a=>(cE.mp a).imp id λb i c=>by rw[f g b]at c;cases c⟩
def bW.gA{e:aq}{a:E Q}{b:Q}(c:e.get? b=M):bW e a (a++[b]):=bW.c7 a [b] (by simpa using c)
def bW.zw(c:∀g,b.get? D=A g->g.cls≠.type "tuple"):bW b B (B++[D]):=⟨λe f a=>by
 have b:e<B.length:=(d6.mp a).1;rw[eK b];exact a,λf a=>(cE.mp a).imp id λb=>by simp only[b2]at b;subst b;exact c⟩
def bW.nil(e:∀b∈g,B.get? b=M):bW B [] g:=⟨λf b a=>by simp at a,λb a=>.inr λh c=>by rw[e b a]at c;cases c⟩
def aq.kD(a:aq):a.get? a.objs.size=M:=by
 cases b:a.get? a.objs.size with
 |none=>rfl
 |some c=>exact bC (du b) (kL _)
def iI.bm(f:iI g b B)(h:b4 D g T)(i:b∉D):iI T b B:=by
 obtain⟨a,j,c,n,e⟩:=f;exact⟨a,h b a i j c ⟨_,_,e⟩,c,n,e⟩
def aF.bm(l:bW B D T)(o:b4 D B ge):∀{b:U},aF D B g b->aF T ge g b:=
 L.rec (motive_1:=λg=>∀{b},aF D B g b->aF T ge g b) (motive_2:=λi=>∀{c},aC D B i c->aC T ge i c) (λa=>a) (λC C a=>a) (λC C a=>a) (λC C a=>a) (λy p b a=>by
  refine a _ λh c e m j n=>λC f=>f h c e (iI.bm m o n) (p j) λq=>(l.2 h q).elim n λr=>?_;obtain⟨s,t,u,C⟩:=m;exact r s t u) (λz b a=>by
  exact a _ λh e k=>λC f=>f h (l.1 _ _ e) k) (λa=>a) (λg i v w c a=>by
  exact a _ λb k e x j=>λC f=>f b k e (v x) (w j)) g
def aC.bm(a:bW b g B)(c:b4 g b D)(e:aC g b T ge):aC B D T ge:=(e.mf.imp λh h f=>f.bm a c).iH
mutual
noncomputable def dC:L->L
 |.none=>.none
 |.bool a=>.int (if a then 1 else 0)
 |.int b=>.int b
 |.str c=>.str c
 |.ab e=>.ab (ci e)
 |.ref f=>.ref f
noncomputable def ci:E L->E L
 |[]=>[]
 |a::b=>dC a::ci b
end
mutual
noncomputable def L.fV:(b c:L)->oy (b=c)
 |.none,.none=>.isTrue rfl
 |.bool b,.bool c=>if a:b=c then .isTrue (a▸G)else .isFalse (λe=>a (L.bool.inj e))
 |.int b,.int c=>if a:b=c then .isTrue (a▸G)else .isFalse (λe=>a (L.int.inj e))
 |.str b,.str c=>if a:b=c then .isTrue (a▸G)else .isFalse (λe=>a (L.str.inj e))
 |.ref b,.ref c=>if a:b=c then .isTrue (a▸G)else .isFalse (λe=>a (L.ref.inj e))
 |.ab b,.ab c=>match L.Hy b c with
  |.isTrue a=>.isTrue (a▸G)
  |.isFalse a=>.isFalse (λe=>a (L.ab.inj e))
 |.none,.bool _=>.isFalse nofun|.none,.int _=>.isFalse nofun|.none,.str _=>.isFalse nofun|.none,.ab _=>.isFalse nofun|.none,.ref _=>.isFalse nofun
 |.bool _,.none=>.isFalse nofun|.bool _,.int _=>.isFalse nofun|.bool _,.str _=>.isFalse nofun|.bool _,.ab _=>.isFalse nofun|.bool _,.ref _=>.isFalse nofun
 |.int _,.none=>.isFalse nofun|.int _,.bool _=>.isFalse nofun|.int _,.str _=>.isFalse nofun|.int _,.ab _=>.isFalse nofun|.int _,.ref _=>.isFalse nofun
 |.str _,.none=>.isFalse nofun|.str _,.bool _=>.isFalse nofun|.str _,.int _=>.isFalse nofun|.str _,.ab _=>.isFalse nofun|.str _,.ref _=>.isFalse nofun
 |.ab _,.none=>.isFalse nofun|.ab _,.bool _=>.isFalse nofun|.ab _,.int _=>.isFalse nofun|.ab _,.str _=>.isFalse nofun|.ab _,.ref _=>.isFalse nofun
 |.ref _,.none=>.isFalse nofun|.ref _,.bool _=>.isFalse nofun|.ref _,.int _=>.isFalse nofun|.ref _,.str _=>.isFalse nofun|.ref _,.ab _=>.isFalse nofun
noncomputable def L.Hy:(a b:E L)->oy (a=b)
 |[],[]=>.isTrue rfl
 |a::g,b::h=>match L.fV a b,L.Hy g h with
  |.isTrue c,.isTrue e=>.isTrue (c▸e▸G)
  |.isFalse c,_=>.isFalse (λf=>c (sG f).1)
  |_,.isFalse e=>.isFalse (λf=>e (sG f).2)
 |[],_::_=>.isFalse nofun
 |_::_,[]=>.isFalse nofun
end
@[reducible] noncomputable def aec:ly L:=L.fV
end
section
set_option genSizeOf true
set_option genInjectivity true
set_option genCtorIdx true
mutual
noncomputable def dY:L->PyData
 |.none=>.none
 |.bool a=>.bool a
 |.int b=>.int b
 |.str c=>.str c
 |.ab e=>.tuple (dP e)
 |.ref _=>.none
noncomputable def dP:E L->E PyData
 |[]=>[]
 |a::b=>dY a::dP b
end
noncomputable def bk:I->L->ah
 |_,.none=>J
 |_,.bool _=>J
 |_,.int _=>J
 |_,.str a=>j4 a
 |n+1,.ab b=>b.all (bk n)
 |0,.ab _=>d
 |_,.ref _=>d
def t3{P:I->L->Prop}(c:∀n,P n .none)(e:∀n h,P n (.bool h))(f:∀n i,P n (.int i))(j:∀n g,j4 g=J->P n (.str g))(k:∀n l,(∀a∈l,bk n a=J)->(∀a∈l,P n a)->P (n+1) (.ab l))(n:I):∀a,bk n a=J->P n a:=by
 induction n with
 |zero=>
  intro a b;cases a with
  |none=>exact c _
  |bool h=>exact e _ h
  |int i=>exact f _ i
  |str g=>exact j _ g b
  |_=>exact kG b
 |succ n m=>
  intro a b;cases a with
  |none=>exact c _
  |bool h=>exact e _ h
  |int i=>exact f _ i
  |str g=>exact j _ g b
  |ab l=>exact k n l (di.mp b) λa o=>m a (di.mp b a o)
  |_=>exact kG b
def xI(n:I)(a:L)(b:bk n a=J):bk (n+1) a=J:=t3 (P:=λn a=>bk (n+1) a=J) (λe=>rfl) (λe e=>rfl) (λe e=>rfl) (λe e b=>b) (λe e e c=>di.mpr c) n a b
def ad6(a:bk n b=J)(c:n<=g):bk g b=J:=by
 induction c with
 |refl=>exact a
 |step f e=>exact xI _ _ e
section
variable{b:E Q}{e:aq}{n a:I}
def aC.HG:∀{g:E U},(∀B∈D,∀{ge},aF b e B ge->∃T,Reads e ge (dY B) T)->aC b e D g->∃T,ReadsAll e g (dP D) T:=by
 induction D with
 |nil=>intro g q c;obtain rfl:=aC.eY.mp c;exact⟨_,.nil⟩
 |cons B D f=>
  intro g a c;refine aC.gc.mp c _ λge o h i j=>?_;subst h;obtain⟨T,k⟩:=a B (.head _) i;obtain⟨p,l⟩:=f (λm n=>a m (.tail _ n)) j;exact⟨_,adP k l⟩
def aF.reads(a:bk n B=J)(c:aF b e B g):∃D,Reads e g (dY B) D:=
 t3 (P:=λn B=>∀{g},aF b e B g->∃D,Reads e g (dY B) D) (λx g c=>by obtain rfl:g=.none:=c;exact⟨_,.none⟩) (λx h g c=>by obtain rfl:g=.bool h:=c;exact⟨_,.bool h⟩) (λx i x c=>by obtain⟨f,rfl⟩:=c;exact⟨_,.int i f⟩) (λx j x x c=>by obtain⟨f,rfl⟩:=c;exact⟨_,.str j f⟩)
  (λx t x k x c=>by
   refine c _ λu v l m o x=>?_;clear c;subst l;obtain⟨w,p,q,b,r⟩:=m;obtain⟨D,s⟩:=o.HG k;exact⟨D,reads_tuple_at p q r s⟩) n B a c
def aC.reads(a:∀g∈B,bk n g=J):aC b e B D->∃T,ReadsAll e D (dP B) T:=aC.HG λg c f=>aF.reads (a g c)
def ln(n:I)(b:L)(a:bk n b=J):(dY b).canLay0=J/\(dY b).depth<=n:=
 t3 (P:=λn b=>(dY b).canLay0=J/\(dY b).depth<=n) (λk=>⟨G,fY _⟩) (λk k=>⟨G,fY _⟩) (λk k=>⟨G,fY _⟩) (λk k e=>⟨e,fY _⟩) (λn c a h=>by
  have i:AJ (dP c)=J/\qJ (dP c)<=n:=by
   induction c with
   |nil=>exact⟨G,fY _⟩
   |cons b c j=>
    have l:=h b (.head _);have m:=j (λf g=>a f (.tail _ g)) λf g=>h f (.tail _ g);exact⟨e7.mpr ⟨l.1,m.1⟩,I.max_le.mpr ⟨l.2,m.2⟩⟩
  exact⟨i.1,hw i.2⟩) n b a
def si(n:I)(b:E L)(a:∀g∈b,bk n g=J):AJ (dP b)=J/\qJ (dP b)<=n:=
 have e:=ln (n+1) (.ab b) (di.mpr a)
 ⟨e.1,v_ e.2⟩
def od(e:g=d)(a:¬P):g=J↔P:=⟨λb=>kG (e.symm.trans b),λb=>(a b).elim⟩
def vc(e:g=(h==i)):g=J↔L.int h=L.int i:=e▸oP.trans ⟨bj L.int,L.int.inj⟩
def rq(a:bk n (.ref g)=J):dT:=by cases n<;>exact kG a
def OV(a:bk n (.ab g)=J):∃n,∀h∈g,bk n h=J:=by
 cases n with
 |zero=>exact kG a
 |succ n=>exact⟨n,di.mp a⟩
def Pk:∀(g:E L),(∀i∈l,∀b h,bk b h=J->(lG (dY i) (dY h)=J↔dC i=dC h))->(∀i∈g,bk a i=J)->(PyData.eqvAll (dP l) (dP g)=J↔ci l=ci g):=by
 induction l with
 |nil=>intro g p p;cases g with
  |nil=>exact⟨λp=>rfl,λp=>rfl⟩
  |cons h g=>exact od G λe=>nomatch(show[]=dC h::ci g from e)
 |cons i l n=>intro g j k;cases g with
  |nil=>exact od G λe=>nomatch(show dC i::ci l=[]from e)
  |cons h g=>
   have m:=j i (.head _) a h (k h (.head _));have o:=n g (λc f=>j c (.tail _ f)) λc f=>k c (.tail _ f);exact e7.trans ⟨λe=>(congr (bj _ (m.mp e.1)) (o.mp e.2):dC i::ci l=dC h::ci g),λe=>⟨m.mpr (sG (show dC i::ci l=dC h::ci g from e)).1,o.mpr (sG (show dC i::ci l=dC h::ci g from e)).2⟩⟩
def xM(n b:I)(g c:L)(a:bk n g=J)(e:bk b c=J):lG (dY g) (dY c)=J↔dC g=dC c:=
 t3 (P:=λn g=>∀b c,bk b c=J->(lG (dY g) (dY c)=J↔dC g=dC c)) (λq b c e=>by
  cases c with
  |none=>exact⟨λq=>rfl,λq=>rfl⟩
  |ref=>exact(rq e).elim
  |_=>exact od G λf=>L.noConfusion f) (λq i b c e=>by
  cases c with
  |bool h=>exact vc (by cases i<;>cases h<;>rfl)
  |int j=>exact vc G
  |ref=>exact(rq e).elim
  |_=>exact od G λf=>L.noConfusion f) (λq l b c e=>by
  cases c with
  |bool h=>exact vc G
  |int j=>exact vc G
  |ref=>exact(rq e).elim
  |_=>exact od G λf=>L.noConfusion f) (λq m q b c e=>by
  cases c with
  |str o=>exact oP.trans ⟨bj L.str,L.str.inj⟩
  |ref=>exact(rq e).elim
  |_=>exact od G λf=>L.noConfusion f) (λq p q k b c e=>by
  cases c with
  |ab a=>exact(OV e).elim λq e=>(Pk a k e).trans ⟨bj L.ab,L.ab.inj⟩
  |ref=>exact(rq e).elim
  |_=>exact od G λf=>L.noConfusion f) n g a b c e
end
noncomputable def a_(a b:L):ah:=@decide (dC a=dC b) (L.fV _ _)
def py(f:bk n a=J)(g:bk h b=J):lG (dY a) (dY b)=a_ a b:=by
 have e:=xM n h a b f g;unfold a_;by_cases c:dC a=dC b
 .rw[e.mpr c];exact(@cg _ (L.fV _ _) c).symm
 .rw[@dU _ (L.fV _ _) c];exact ah.eq_false_iff.mpr λi=>c (e.mp i)
section
variable{e:qI}{f:fa}{b:bF}{g:U->k->Prop}{c:E Q}{a:k}
def Pg(h:bk 8 i=J)(j:bk 8 l=J)(k:b.units+300<cy)(n:aF c a.heap i o)(p:aF c a.heap l q)(r:s (.bool (a_ i l)) a):
 av (lI e f) b (gh .Eq o q) s g a:=by
 obtain⟨v,t⟩:=aF.reads h n;obtain⟨w,u⟩:=aF.reads j p;have m:=ln 8 i h;have aM:=ln 8 l j;refine eq_dataH t u ?_ ?_ (EY k) (by rw[py h j];exact r)
 .unfold qK;rw[m.1,qm];exact cg (bG m.2 (ap G))
 .unfold qK;rw[aM.1,qm];exact cg (bG aM.2 (ap G))
def Uk(h:bk 8 i=J)(j:bk 8 l=J)(k:b.units+300<cy)(n:aF c a.heap i o)(p:aF c a.heap l q)(r:s (.bool (!a_ i l)) a):
 av (lI e f) b (gh .NotEq o q) s g a:=by
 obtain⟨v,t⟩:=aF.reads h n;obtain⟨w,u⟩:=aF.reads j p;have m:=ln 8 i h;have aM:=ln 8 l j;refine ne_dataH t u ?_ ?_ (EY k) (by rw[py h j];exact r)
 .unfold qK;rw[m.1,qm];exact cg (bG m.2 (ap G))
 .unfold qK;rw[aM.1,qm];exact cg (bG aM.2 (ap G))
def Pe(j:bk 8 h=J)(k:bk 8 i=J)(w:b.units+100<cy)(n:aF c a.heap h l)(p:aF c a.heap i m)(q:o (a_ h i) a):
 av (lI e f) b (eqBool l m) o g a:=by
 obtain⟨r,s⟩:=aF.reads j n;obtain⟨t,u⟩:=aF.reads k p;have v:=ln 8 h j;have aM:=ln 8 i k;have:=JE (dY h).depth (dY i).depth;exact SeqAt.eqBoolOverData e f b g a l m _ _ r t o s u v.1 aM.1 (by omega) (by rw[py j k];exact q)
end
mutual
noncomputable def i2(a:fa):L->O
 |.none=>0
 |.bool b=>Bg (if b then 1 else 0)
 |.int c=>Bg c
 |.str e=>hashStr a e
 |.ab f=>reduceHash (zP (m1 a f))
 |.ref _=>0
noncomputable def m1(a:fa):E L->E O
 |[]=>[]
 |b::c=>i2 a b::m1 a c
end
mutual
noncomputable def iY:L->I
 |.ab a=>mS a+1
 |_=>1
noncomputable def mS:E L->I
 |[]=>0
 |a::b=>iY a+mS b
end
def Sv(b:fa)(a:L):i2 b (dC a)=i2 b a/\iY (dC a)=iY a:=
 L.rec (motive_1:=λa=>i2 b (dC a)=i2 b a/\iY (dC a)=iY a) (motive_2:=λc=>m1 b (ci c)=m1 b c/\mS (ci c)=mS c) ⟨G,G⟩ (λh=>⟨by cases h<;>rfl,G⟩) (λj=>⟨G,G⟩) (λj=>⟨G,G⟩)
  (λj e=>⟨bj (λi=>reduceHash (zP i)) e.1,bj (·+1) e.2⟩) (λj=>⟨G,G⟩) ⟨G,G⟩ (λa c f g=>⟨show i2 b (dC a)::m1 b (ci c)=_ from congr (bj E.cons f.1) g.1,show iY (dC a)+mS (ci c)=_ from congr (bj (·+·) f.2) g.2⟩) a
noncomputable def fD:I->L->ah
 |_,.bool _=>J
 |_,.int _=>J
 |_,.str a=>j4 a
 |n+1,.ab b=>b.all (fD n)
 |_,_=>d
def rH{P:I->L->Prop}(c:∀n h,P n (.bool h))(e:∀n i,P n (.int i))(f:∀n g,j4 g=J->P n (.str g))(j:∀n l,(∀a∈l,fD n a=J)->(∀a∈l,P n a)->P (n+1) (.ab l))(n:I):∀a,fD n a=J->P n a:=by
 induction n with
 |zero=>
  intro a b;cases a with
  |bool h=>exact c _ h
  |int i=>exact e _ i
  |str g=>exact f _ g b
  |_=>exact kG b
 |succ n k=>
  intro a b;cases a with
  |bool h=>exact c _ h
  |int i=>exact e _ i
  |str g=>exact f _ g b
  |ab l=>exact j n l (di.mp b) λa m=>k a (di.mp b a m)
  |_=>exact kG b
def Ti(n:I)(a:L)(b:fD n a=J):bk n a=J:=rH (P:=λn a=>bk n a=J) (λn f=>by cases n<;>rfl) (λn f=>by cases n<;>rfl) (λn f b=>by cases n<;>exact b) (λn e f c=>di.mpr c) n a b
def Tj(b:fD n a=J):fD (n+1) a=J:=rH (P:=λn a=>fD (n+1) a=J) (λe e=>rfl) (λe e=>rfl) (λe e b=>b) (λe e e c=>di.mpr c) n a b
def Sr(a:fa)(b:E L)(c:L):m1 a (b++[c])=m1 a b++[i2 a c]:=by
 induction b with
 |nil=>rfl
 |cons e f g=>exact bj (i2 a e::·) g
def OW(a:E L)(b:L):mS (a++[b])=mS a+iY b:=by
 induction a with
 |nil=>exact(g4 _).symm
 |cons c f e=>exact(bj (iY c+·) e).trans (kJ ..).symm
section
variable{f:qI}{a:fa}{b:bF}{g:U->k->Prop}{c:E Q}
def Su(c:l (Bg (if i then 1 else 0)) {h with toks:=h.toks+1}):av (lI f a) b (Bq (.bool i)) l g h:=by
 refine KY (T:="bool") (typeIs_bool' h i) F.slot_bool_hash F.entry_int_hash (F.args_int_hash_1 _) (Kx _) (.inl rfl) ?_;cases i
 .refine(?_:av _ _ (do K0 (<-mkInt (rawHash 0))) _ _ h);exact e (wU (aJ ⟨_,_,G,c⟩))
 .refine(?_:av _ _ (do K0 (<-mkInt (rawHash 1))) _ _ h);exact e (wU (aJ ⟨_,_,G,c⟩))
def aC.imp:∀{B:E U},(∀D∈T,∀{ge},aF gt kw D ge->aF le mp D ge)->aC gt kw T B->aC le mp T B:=by
 induction T with
 |nil=>intro B k a;exact a
 |cons D T e=>
  intro B c a;exact a _ λge f b g h=>λk i=>i ge f b (c D (.head _) g) (e (λb j=>c b (.tail _ j)) h)
def aC.qb(a:aC B D (T::ge) (gt::kw)):aF B D T gt/\aC B D ge kw:=by
 refine aC.gc.mp a _ λf g b c e=>?_;obtain⟨rfl,rfl⟩:=sG b;exact⟨c,e⟩
theorem aC.acb:∀{B:E L},aC D T B []->B=[]
 |[],_=>rfl
 |_::_,a=>by refine aC.gc.mp a _ λc c b c c=>?_;exact nomatch b
inductive w9(a:fa)(c:E Q)(b:k)(e:E L)(f:E U)(g:ch O):k->Prop
 |mk (done left:E L) (h:I) (i:e=done++left) (j:aC c b.heap left f) (l:g.toList=m1 a done) (m:h=b.toks+mS done):w9 a c b e f g {b with toks:=h}
def Ss(n:I){h:k}{i:L}{j:U}{m:O->k->Prop}(x:fD n i=J)(t:b.units+n+10<cy)(l:aF c h.heap i j)(o:m (i2 a i) {h with toks:=h.toks+iY i}):av (lI f a) b (Bq j) m g h:=by
 refine rH (P:=λn i=>∀{b:bF}{h:k}{j:U}{m:O->k->Prop},b.units+n+10<cy->aF c h.heap i j->m (i2 a i) {h with toks:=h.toks+iY i}->av (lI f a) b (Bq j) m g h)
  (λn q b h j m W l o=>?_) (λn R b h j m W l o=>?_) (λn y W b h j m W l o=>?_) (λn w W z b h j m t l o=>?_) n i x t l o
 .obtain rfl:j=.bool q:=l;exact Su o
 .obtain⟨r,rfl⟩:=l;exact wpAny_pyHash_int o
 .obtain⟨r,rfl⟩:=l;exact wpAny_pyHash_str o
 .refine as λW B=>l _ λC S D p H W=>?_;clear l;subst D;refine B (KY p.typeIs F.slot_tuple_hash F.entry_tuple_hash (F.args_tuple_hash_1 _) (Kx _) (.inr (Wb t)) ?_);obtain⟨T,K,W,V,N⟩:=p;refine(?_:av _ _ (HU (.ref C)>>=_) _ _ h);refine e (wpAny_tupleItemsOf K N (e ?_));rw[<-HK];refine Lf _ (w9 a c h w) _ ?_ ?_ _ _ ⟨[],w,h.toks,G,H,G,G⟩
  .rintro y P q W ⟨done,left,r,u,s,v,p⟩;cases left with
   |nil=>exact nomatch aC.eY.mp s
   |cons i left=>
    have Q:w9 a c h w P (q.push (i2 a i)) {h with toks:=r+iY i}:=⟨done++[i],left,_,u.trans (E.append_cons ..),s.qb.2,by rw[HN,v,Sr],by rw[OW,p,kJ]⟩;exact e (@z i (u▸jj _ (.head _)) b.in1 {h with toks:=r} _ _ (WJ t) s.qb.1 (aJ Q))
  .rintro q W ⟨done,left,r,u,s,v,p⟩;obtain rfl:=s.acb;rw[<-(u.trans (gX _))]at v p;refine(?_:av _ _ (retInt (zP q.toList)) _ _ _);refine e (wU (aJ ⟨_,_,G,?_⟩));exact v.symm▸p.symm▸o
def yR(c:carriedByValue h=J)(e:i J l):av (lI f a) b (ws n h) i g l:=(eqIsQuiet_byValue n c).symm▸aJ e
def Yp(n:I){h:k}{l:L}{i:U}{o:ah->k->Prop}(r:fD n l=J)(m:aF c h.heap l i)(j:o J h):av (lI f a) b (ws n i) o g h:=by
 refine rH (P:=λn l=>∀{i:U}{o:ah->k->Prop},aF c h.heap l i->o J h->av (lI f a) b (ws n i) o g h)
  (λn x i o m j=>?_) (λn S i o m j=>?_) (λn T Y i o m j=>?_) (λn s r y i o m j=>?_) n l r m j
 .obtain rfl:i=.bool x:=m;exact yR G j
 .obtain⟨z,rfl⟩:=m;exact yR G j
 .obtain⟨z,rfl⟩:=m;exact yR G j
 .refine as λY B=>m _ λt C D p E Y=>?_;clear m;subst D;refine B ?_;unfold ws;refine e (nF p.typeIs F.slot_tuple_eq.lookup (((e (BB p.typeIs isSubtype_tuple_tuple ?_)):av _ _ (Bi (.ref t) (.type "tuple")>>=_) _ _ h)));obtain⟨V,H,Y,W,K⟩:=p;refine(?_:av _ _ (seqItems? (.ref t)>>=_) _ _ h);refine e (nE H K (e ?_));refine(?_:av _ _ (forIn C.toArray _ _) _ _ h);rw[<-HK];refine Lf _ (λu v N=>v.1=M/\N=h/\∃left,aC c h.heap left u/\∀l∈left,l∈s) _ ?_ ?_ _ _ ⟨G,G,s,E,λY j=>j⟩
  .rintro i u v Y ⟨Y,rfl,left,q,w⟩;cases left with
   |nil=>exact nomatch aC.eY.mp q
   |cons l left=>exact e (y l (w l (.head _)) q.qb.1 (aJ ⟨G,G,left,q.qb.2,λO P=>w O (.tail _ P)⟩))
  .rintro⟨Q,X⟩ Y ⟨R,rfl,_⟩;obtain rfl:Q=M:=R;exact aJ j
end
def gG(b:E Q)(c:aq)(a:E L)(e:Q):Prop:=(∀f∈a,fD 6 f=J)/\aF b c (.ab a) (.ref e)
def gG.dok(b:gG B D g T):Internal.bk 7 (.ab g)=J:=di.mpr λa c=>Ti 6 a (b.1 a c)
def gG.inj(a:gG B D b T)(e:gG B D g T):ci b=ci g:=
 (aF.reads a.dok a.2).elim λh f=>(aF.reads e.dok e.2).elim λh c=>L.ab.inj ((xM 7 7 (.ab b) (.ab g) a.dok e.dok).mp ((f.unique _ _ c).1▸(xM 7 7 (.ab b) (.ab b) a.dok a.dok).mpr rfl))
def ot(f:g.get? h=A i)(j:i.data=.dict o p)(l:ek h g m):b4 q g m:=by
 rintro c k s a s ⟨r,n,b⟩;by_cases e:c=h
 .subst e;replace a:=f▸a;obtain rfl:=aG a;replace b:=j▸b;exact nomatch b
 .rw[l.2 c e];exact a
def gG.bm(c:bW b g B)(e:b4 g b D)(a:gG g b T ge):gG B D T ge:=⟨a.1,a.2.bm c e⟩
def aF.acd(c:fD n b=J)(e:aF D B b g):aF [] B b g:=
 rH (P:=λn b=>∀{g},aF D B b g->aF [] B b g) (λp p p a=>a) (λp p p a=>a) (λp p p p a=>a) (λp o p f p a=>by
  exact a _ λh i j k l p=>λp m=>m h i j k (aC.imp f l) nofun) n b c e
def gG.bare(a:gG D b g B):gG [] b g B:=⟨a.1,a.2.acd (n:=7) (di.mpr a.1)⟩
instance:ly L:=L.fV
noncomputable def OK(q:qI)(g:fa):vY q g (E L)where
 is c b f:=∃a,gG [] c a f/\ci a=b
 hash b:=i2 g (.ab b)
 draws b:=iY (.ab b)
 room h:=h.units+200<cy
 inj:=by rintro c f r s ⟨a,e,rfl⟩ ⟨b,i,rfl⟩;exact e.inj i
 keeps:=by rintro c v b f m w x y ⟨a,e,rfl⟩ t j u;exact⟨a,e.bm (bW.refl _) (ot t j u),G⟩
 pyHash:=by
  rintro h n o b f p k ⟨a,e,rfl⟩ c;refine Ss 7 (i:=.ab a) (di.mpr e.1) (XB k) e.2 ?_;have l:=Sv g (.ab a);exact(l.1:i2 g (.ab (ci a))=_)▸(l.2:iY (.ab (ci a))=_)▸c
 eqBool:=by
  rintro h n o r s f z p k ⟨a,e,rfl⟩ ⟨b,i,rfl⟩ c;refine Pe (h:=.ab a) (i:=.ab b) (xI 7 _ e.dok) (xI 7 _ i.dok) (XE k) e.2 i.2 ?_;have l:a_ (.ab a) (.ab b)=decide (ci a=ci b):=(@lH _ _ (L.fV _ _) _).mpr ⟨L.ab.inj,bj L.ab⟩;exact l.symm▸c
 quiet:=by
  rintro h n o b f p ⟨a,e,rfl⟩ c;exact Yp 8 (l:=.ab a) (di.mpr λm j=>Tj (e.1 m j)) e.2 c
end
section
inductive L6(a:Type)where
 |add|sub|mul|fdiv|mod|shl|shr|band|bor|bxor|pow
abbrev ra:=L6 e0
inductive o3(a:Type)where
 |eq|af1|lt|le|gt|ge|agf|agh|agd
abbrev gE:=o3 e0
inductive BQ(a:Type)where
 |len|abs|min|max|tuple|list|all|any|agm|str
abbrev kV:=BQ e0
noncomputable def BQ.plain:kV->ah
 |.len=>J
 |.abs=>J
 |.str=>J
 |_=>d
inductive LG(a:Type)where
 |append|pop|count|get|af5
abbrev ka:=LG e0
inductive dw where
 |aa (a:I)
 |afQ (b:E I)
noncomputable def dw.plain:dw->ah
 |.aa _=>J
 |.afQ _=>d
inductive B7(a:Type)where
 |val|range|lw|zip|ie
abbrev jA:=B7 e0
inductive X where
 |lit (f:L)
 |aga (f:L)
 |var (g:I)
 |af6 (h:ra) (b c:X)
 |af0 (b:X) (h:gE) (c:X)
 |age (b:X) (l:E gE) (a:E X)
 |neg (b:X)
 |not (b:X)
 |and (a:E X)
 |or (a:E X)
 |ite (m b c:X)
 |ab (a:E X)
 |list (a:E X)
 |af7 (n:ah)
 |pick (i:X) (o:E am) (a:E X)
 |agj (e:X)
 |agi (b g:X)
 |slice (b p q:X)
 |br (b:X) (r:I)
 |call (j:I) (a:E X)
 |agg (k:I) (e:X) (j:I) (a:E X)
 |afZ (c:kV) (a:E X)
 |af_ (e:X) (c:ka) (a:E X)
 |new (k:I) (a:E X)
 |comp (s:X) (t:dw) (i:jA) (a:E X) (cU:X)
 |af3 (a:E X)
inductive c where
 |agb (g:dw) (a:X)
 |af9 (e k a:X)
 |afY (e:X) (l:I) (a:X)
 |expr (a:X)
 |agl (f:I) (e:X) (h:I) (i:E X)
 |ret (a:X)
 |ite (j:X) (m b:E c)
 |while(j:X) (b:E c)
 |for(g:dw) (n:jA) (i:E X) (b:E c)
 |cont
 |raise (f:I) (o:X)
 |try(b:E c) (f:I) (p:E c)
 |agk (h:I)
set_option genCtorIdx true in
inductive da where
 |next|cont|ret (a:L)|afU (b:I)
set_option genInjectivity true in
set_option genCtorIdx true in
inductive dW where
 |ret (a:L)|afU (b:I)
abbrev aK:=E (j L)
section
noncomputable def i9(a:O):ah:=a.natAbs.log2<1000
noncomputable def bV(n:I):ah:=n<1000000
noncomputable def ma(a:am):ah:=a.length<100000
noncomputable def l8(a:O)(n:I):j I:=
 if 0<=a then(if a<n then A a.toNat else M)else(if 0<=a+n then A (a+n).toNat else M)
noncomputable def jQ(a:O)(n:I):I:=(if a<0 then max (a+n) 0 else min a n).toNat
def Gk(a n:I):jQ a n=min a n:=by
 have c:¬(a:O)<0:=lA.mpr (hP a);refine(bj v0 (bZ c)).trans ?_;rcases I.le_total a n with b|b
 .rw[IA (gW.mpr b),Ay b];rfl
 .rw[O.min_eq_right (gW.mpr b),JD b];rfl
noncomputable def fh(c e:j O)(a:E L):E L:=
 (a.take (match e with|some b=>jQ b a.length|none=>a.length)).drop (match c with|some b=>jQ b a.length|none=>0)
noncomputable def ga(a:O):I->E L
 |0=>[]
 |n+1=>.int a::ga (a+1) n
noncomputable def u7(a:O):I->E L
 |0=>[]
 |n+1=>.int a::u7 (a-1) n
noncomputable def hM(n:I)(a:E L):E L:=match n with|0=>[]|n+1=>a++hM n a
section
variable{a c b:Type}
@[irreducible] noncomputable def a3 (f:j (a×c)) (g:a->c->j b):j b:=match f with
 |none=>M
 |some e=>g e.1 e.2
noncomputable def a4(a:ah)(c:j b):j b:=match a with
 |true=>c
 |false=>M
def no{a:b}{P:Prop}(c:M=A a):P:=nomatch c
def LH(g:j (a×c))(h:a->c->j b)(i:b)(k:Prop):Prop:=∀e:a,∀f:c,g=A (e,f)->h e f=A i->k
def b0(a:a3 g h=A i):aA (LH g h i):=by
 unfold a3 at a;cases g with
 |none=>exact no a
 |some b=>exactλe c=>c b.1 b.2 G a
def fe:a3 (A (g,h)) i=i g h:=by unfold a3;rfl
def LI(e:j a)(f:a->j b)(g:b)(h:Prop):Prop:=∀c:a,e=A c->f c=A g->h
def bh(a:g.bind h=A i):aA (LI g h i):=by
 cases g with
 |none=>exact no a
 |some b=>exactλe c=>c b G a
def cf(a:a4 g h=A i):g=J/\h=A i:=by
 cases g with
 |true=>exact⟨G,a⟩
 |false=>exact no a
def LC(c:j a)(e:a->ah)(f:Prop):Prop:=∀b:a,c=A b->e b=J->f
def k5(a:g.any h=J):aA (LC g h):=by
 cases g with
 |none=>exact nomatch a
 |some b=>exactλe c=>c b G a
def gv{b e:a}{f g:c}(h:A (b,f)=A (e,g)):b=e/\f=g:=jo (aG h)
noncomputable def gN(c:E a)(e:a->j b):j b:=match c with
 |[f]=>e f
 |_=>M
noncomputable def p4(c:E a)(e:a->a->j b):j b:=match c with
 |[f,g]=>e f g
 |_=>M
def og(a:gN g i=A l):∃h,g=[h]/\i h=A l:=by
 cases g with
 |nil=>exact no a
 |cons h g=>cases g with
  |nil=>exact⟨h,G,a⟩
  |cons b b=>exact no a
def sk(a:p4 g l=A m):∃h i,g=[h,i]/\l h i=A m:=by
 cases g with
 |nil=>exact no a
 |cons h g=>cases g with
  |nil=>exact no a
  |cons i g=>cases g with
   |nil=>exact⟨h,i,G,a⟩
   |cons b b=>exact no a
end
noncomputable def L.fk:L->j O
 |.int a=>A a
 |_=>.none
noncomputable def L.Hw:L->j ah
 |.bool a=>A a
 |_=>.none
noncomputable def L.ng:L->j am
 |.str a=>A a
 |_=>.none
noncomputable def L.qj:L->j (E L)
 |.ab a=>A a
 |_=>.none
noncomputable def L.eT:L->j Q
 |.ref a=>A a
 |_=>.none
def pH{a:L}{b:O}(c:a.fk=A b):a=.int b:=by
 cases a with
 |int=>exact bj L.int (aG c)
 |_=>exact no c
def NB{a:L}{b:ah}(c:a.Hw=A b):a=.bool b:=by
 cases a with
 |bool=>exact bj L.bool (aG c)
 |_=>exact no c
def za{a:L}{b:am}(c:a.ng=A b):a=.str b:=by
 cases a with
 |str=>exact bj L.str (aG c)
 |_=>exact no c
def vx{a:L}{b:E L}(c:a.qj=A b):a=.ab b:=by
 cases a with
 |ab=>exact bj L.ab (aG c)
 |_=>exact no c
def kA{a:L}{b:Q}(c:a.eT=A b):a=.ref b:=by
 cases a with
 |ref=>exact bj L.ref (aG c)
 |_=>exact no c
noncomputable def aO.qd:aO->j (E L)
 |.list a=>A a
 |_=>M
noncomputable def aO.sn:aO->j (E (O×L))
 |.afP a=>A a
 |_=>M
noncomputable def aO.so:aO->j (E (E L×L))
 |.afM a=>A a
 |_=>M
noncomputable def aO.ss:aO->j (Q×I)
 |.c8 a b=>A (a,b)
 |_=>M
noncomputable def aO.sq:aO->j (E (I×L))
 |.afS a=>A a
 |_=>M
noncomputable def ds(a:N)(b:I):j (E L):=a[b]?.bind aO.qd
noncomputable def jE(a:N)(b:I):j (E (O×L)):=a[b]?.bind aO.sn
noncomputable def fB(a:N)(b:I):j (E (E L×L)):=a[b]?.bind aO.so
noncomputable def hK(a:N)(b:I):j (Q×I):=a[b]?.bind aO.ss
noncomputable def m0(a:N)(b:I):j (E (I×L)):=a[b]?.bind aO.sq
def l0(a:ds g h=A b):g[h]?=A (.list b):=by
 refine bh a _ λc e a=>e.trans ?_;clear e;cases c with
 |list=>exact bj (λb=>A (aO.list b)) (aG a)
 |_=>exact no a
def xH(a:jE g h=A b):g[h]?=A (.afP b):=by
 refine bh a _ λc e a=>e.trans ?_;clear e;cases c with
 |afP=>exact bj (λb=>A (aO.afP b)) (aG a)
 |_=>exact no a
def mT(a:fB g h=A b):g[h]?=A (.afM b):=by
 refine bh a _ λc e a=>e.trans ?_;clear e;cases c with
 |afM=>exact bj (λb=>A (aO.afM b)) (aG a)
 |_=>exact no a
def x2(a:hK g h=A (i,l)):g[h]?=A (.c8 i l):=by
 refine bh a _ λc b a=>b.trans ?_;clear b;cases c with
 |c8=>exact bj (λe=>A (aO.c8 e.1 e.2)) (aG a)
 |_=>exact no a
def xR(a:m0 g h=A b):g[h]?=A (.afS b):=by
 refine bh a _ λc e a=>e.trans ?_;clear e;cases c with
 |afS=>exact bj (λb=>A (aO.afS b)) (aG a)
 |_=>exact no a
noncomputable def ul:ra->O->O->j O
 |.add,b,a=>A (b+a)
 |.sub,b,a=>A (b-a)
 |.mul,b,a=>a4 (i9 b&&i9 a) (A (b*a))
 |.fdiv,b,a=>a4 (decide (a≠0)) (A (b.fdiv a))
 |.mod,b,a=>a4 (decide (a≠0)) (A (b.fmod a))
 |.shl,b,a=>a4 (decide (0<=a/\a<=1000/\b.natAbs<2^64)) (A (b*2^a.toNat))
 |.shr,b,a=>a4 (decide (0<=a)) (A (b.fdiv (2^a.toNat)))
 |.band,b,a=>A (HW b a)
 |.bor,b,a=>A (nh b a)
 |.bxor,b,a=>A (vS b a)
 |.pow,b,a=>a4 (decide (0<=a/\a<=1000/\b.natAbs<2^64)) (A (b^a.toNat))
noncomputable def u1(c:ra)(f e:L):j L:=match f with
 |.int b=>e.fk.bind λa=>(ul c b a).map .int
 |.ab b=>match c with
  |.add=>e.qj.bind λa=>a4 (bV (b.length+a.length)) (A (.ab (b++a)))
  |.mul=>e.fk.bind λa=>a4 (decide (0<=a/\a<=1000/\b.length=1)) (A (.ab (hM a.toNat b)))
  |_=>M
 |.str b=>match c with
  |.add=>e.ng.bind λa=>a4 (ma b&&ma a) (A (.str (b++a)))
  |_=>M
 |.bool b=>match c with
  |.sub=>e.Hw.bind λa=>A (.int ((if b then 1 else 0)-(if a then 1 else 0)))
  |_=>M
 |_=>M
noncomputable def dH(a:E L):ah:=a.all (fD 6)
noncomputable def c2(a:N)(c:ra)(b e:L):j (L×N):=match b with
 |.ref h=>match c with
  |.add=>e.eT.bind λi=>(ds a h).bind λf=>(ds a i).bind λg=>a4 (bV (f.length+g.length)) (A (.ref a.length,a++[.list (f++g)]))
  |_=>M
 |b=>(u1 c b e).map λk=>(k,a)
noncomputable def dx(a:O)(b:E (O×L)):j L:=b.lookup a
noncomputable def c4(a:E L)(b:E (E L×L)):j L:=(b.find? λe=>decide (ci e.1=ci a)).map (·.2)
noncomputable def h8(a:O)(c:L)(b:E (O×L)):E (O×L):=
 if(dx a b).isSome then b.map λe=>if e.1=a then(e.1,c)else e else b++[(a,c)]
noncomputable def i7(a:E L)(c:L)(b:E (E L×L)):E (E L×L):=
 if(c4 a b).isSome then b.map λe=>if ci e.1=ci a then(e.1,c)else e else b++[(a,c)]
noncomputable def i5(e:N)(b:L):L->j ah
 |.ab f=>a4 (bk 8 b&&f.all (bk 8)) (A (f.any λh=>a_ b h))
 |.ref g=>match b with
  |.int a=>(jE e g).bind λc=>A (dx a c).isSome
  |.ab a=>(fB e g).bind λc=>a4 (dH a) (A (c4 a c).isSome)
  |_=>M
 |_=>M
noncomputable def Dx(c:N)(a b:L):j ah:=match a with
 |.ref g=>b.eT.bind λh=>(ds c g).bind λe=>(ds c h).bind λf=>a4 (e.all (bk 7)&&f.all (bk 7)) (A (a_ (.ab e) (.ab f)))
 |a=>a4 (bk 8 a&&bk 8 b) (A (a_ a b))
noncomputable def EA(a b:L):j ah:=match a with
 |.str c=>b.ng.bind λe=>A (c !=e)
 |a=>a4 (bk 8 a&&bk 8 b) (A (!a_ a b))
noncomputable def EK:L->j ah
 |.none=>A J
 |.bool _=>A d
 |.int _=>A d
 |_=>M
noncomputable def rZ(a b:L)(c:O->O->ah):j ah:=a.fk.bind λe=>b.fk.bind λf=>A (c e f)
noncomputable def bY(f:N)(g:gE)(a b:L):j ah:=match g with
 |.eq=>Dx f a b
 |.af1=>EA a b
 |.lt=>rZ a b λc e=>decide (c<e)
 |.le=>rZ a b λc e=>decide (c<=e)
 |.gt=>rZ a b λc e=>decide (c>e)
 |.ge=>rZ a b λc e=>decide (c>=e)
 |.agf=>i5 f a b
 |.agh=>(i5 f a b).map not
 |.agd=>EK a
noncomputable def cN:L->j ah
 |.bool a=>A a
 |.int b=>A (b !=0)
 |.none=>A d
 |_=>M
noncomputable def pi(a:E L):ah:=a.all λb=>(cN b).isSome
noncomputable def xo(a:E L):j ah:=a4 (pi a) (A (a.any λb=>(cN b).getD d))
noncomputable def xk(a:E L):j ah:=a4 (pi a) (A (a.all λb=>(cN b).getD d))
noncomputable def r6(a:E L):j am:=
 a4 (a.all (bk 6)&&PyData.showable (.list (dP a))&&decide ((J6 (.list (dP a))).length<=cr)) (A (J6 (.list (dP a))))
noncomputable def la(a:N):L->j (E L)
 |.ab b=>A b
 |.ref c=>ds a c
 |_=>M
noncomputable def u9(a:N)(b:E L)(c:E L->j (L×N)):j (L×N):=gN b λe=>e.eT.bind λf=>(ds a f).bind c
noncomputable def eW(b:N)(f:kV)(a:E L):j (L×N):=match f with
 |.len=>gN a λe=>(la b e).bind λa=>a4 (bV a.length) (A (.int a.length,b))
 |.abs=>gN a λe=>e.fk.bind λc=>A (.int (if c<0 then-c else c),b)
 |.min=>p4 a λe g=>e.fk.bind λc=>g.fk.bind λf=>A (.int (if f<c then f else c),b)
 |.max=>p4 a λe g=>e.fk.bind λc=>g.fk.bind λf=>A (.int (if f>c then f else c),b)
 |.tuple=>gN a λe=>(la b e).bind λa=>a4 (bV a.length) (A (.ab a,b))
 |.list=>gN a λe=>(la b e).bind λa=>a4 (bV a.length) (A (.ref b.length,b++[.list a]))
 |.all=>u9 b a λa=>(xk a).map λf=>(.bool f,b)
 |.any=>u9 b a λa=>(xo a).map λf=>(.bool f,b)
 |.agm=>u9 b a λa=>(r6 a).map λe=>(.str e,b)
 |.str=>gN a λe=>e.fk.bind λc=>a4 (i9 c) (A (.str (toString c),b))
noncomputable def bd(a:N)(b:I)(c:aO):N:=a.set b c
noncomputable def DQ(b:N)(e:I)(a f:L):j (L×N):=match a with
 |.int a=>(jE b e).bind λc=>A ((dx a c).getD f,b)
 |.ab a=>(fB b e).bind λc=>a4 (dH a) (A ((c4 a c).getD f,b))
 |_=>M
noncomputable def h6(a:j L)(b:N)(c:L)(e:N):j (L×N):=match a with
 |some f=>A (f,b)
 |none=>A (c,e)
noncomputable def OL(c:N)(e:I)(a f:L):j (L×N):=match a with
 |.int a=>(jE c e).bind λb=>a4 (bV b.length) (h6 (dx a b) c f (bd c e (.afP (h8 a f b))))
 |.ab a=>(fB c e).bind λb=>a4 (dH a&&bV b.length) (h6 (c4 a b) c f (bd c e (.afM (i7 a f b))))
 |_=>M
noncomputable def hJ(b:N)(h:L)(i:ka)(a:E L):j (L×N):=h.eT.bind λc=>match i with
 |.append=>gN a λe=>(ds b c).bind λa=>a4 (bV a.length) (A (.none,bd b c (.list (a++[e]))))
 |.pop=>a4 a.isEmpty ((ds b c).bind λa=>a4 (bV a.length) (a.getLast?.bind λe=>A (e,bd b c (.list a.dropLast))))
 |.count=>gN a λe=>(ds b c).bind λa=>a4 (bk 8 e&&a.all (bk 8)&&bV a.length) (A (.int (a.countP λk=>a_ k e),b))
 |.get=>p4 a λf g=>DQ b c f g
 |.af5=>p4 a λf g=>OL b c f g
noncomputable def GX:L->j am
 |.str b=>A b
 |.int a=>a4 (i9 a) (A (bi (toString a)))
 |_=>M
noncomputable def lZ(a:am):E L->j am
 |[]=>A a
 |c::e=>(GX c).bind λb=>a4 (ma (a++b)) (lZ (a++b) e)
noncomputable def ka.nf:ka->ah
 |.get=>d
 |.af5=>d
 |_=>J
noncomputable def kz(b:N)(e:L)(f:ka):ah:=e.eT.any λc=>b[c]?.any λa=>cU f.nf a.qd.isSome (a.sn.isSome||a.so.isSome)
noncomputable def l_(a:E L)(b:O):j L:=a4 (bV a.length) ((l8 b a.length).bind λc=>a[c]?)
noncomputable def ck(e:N)(i f:L):j L:=match i with
 |.ab b=>f.fk.bind λa=>l_ b a
 |.ref g=>match f with
  |.int a=>e[g]?.bind λk=>match k with
   |.list b=>l_ b a
   |.afP c=>dx a c
   |_=>M
  |.ab h=>(fB e g).bind λc=>a4 (dH h) (c4 h c)
  |_=>M
 |_=>M
noncomputable def m8(a:N)(i k c:L):j N:=i.eT.bind λb=>match k with
 |.int f=>a[b]?.bind λl=>match l with
  |.list g=>a4 (decide (0<=f/\f<g.length)&&bV g.length) (A (bd a b (.list (g.set f.toNat c))))
  |.afP e=>a4 (bV e.length) (A (bd a b (.afP (h8 f c e))))
  |_=>M
 |.ab h=>(fB a b).bind λe=>a4 (dH h&&bV e.length) (A (bd a b (.afM (i7 h c e))))
 |_=>M
noncomputable def m9(b:N)(f:L)(c e:j O):j (L×N):=match f with
 |.ab a=>a4 (bV a.length) (A (.ab (fh c e a),b))
 |.ref g=>(ds b g).bind λa=>a4 (bV a.length) (A (.ref b.length,b++[.list (fh c e a)]))
 |_=>M
abbrev dp:=j (I×aO)
abbrev rf:=E L×E dp×N
noncomputable def gz(b c:E L):E L:=(b.zip c).map λa=>.ab [a.1,a.2]
noncomputable def eb(b:N)(g:jA)(h:E L):j rf:=match g with
 |.val=>gN h λf=>match f with
  |.ab a=>a4 (bV a.length) (A (a,[],b))
  |.ref c=>(ds b c).bind λa=>a4 (bV a.length) (A (a,[A (c,.list a)],b))
  |_=>M
 |.range=>match h with
  |[e]=>e.fk.bind λn=>a4 (decide (-1000000<=n/\n<=1000000)) (A (ga 0 n.toNat,[],b))
  |[e,i,l]=>e.fk.bind λe=>i.fk.bind λi=>l.fk.bind λl=>a4 (decide (l=-1/\-1000<=e/\e<=1000000/\-1000<=i/\i<=1000000)) (A (u7 e (e-i).toNat,[],b))
  |_=>M
 |.lw=>gN h λf=>f.qj.bind λa=>a4 (bV a.length) (A (a.reverse,[],b))
 |.zip=>p4 h λf o=>o.qj.bind λg=>match f with
  |.ab a=>a4 (bV a.length&&bV g.length) (A (gz a g,[A (b.length,.afT)],b++[.afT]))
  |.ref c=>(ds b c).bind λa=>a4 (bV a.length&&bV g.length) (A (gz a g,[A (c,.list a),A (b.length,.afT)],b++[.afT]))
  |_=>M
 |.ie=>gN h λf=>f.eT.bind λc=>(fB b c).bind λm=>a4 (bV m.length) (A (m.map λp=>.ab p.1,[A (c,.afM m)],b))
def ad5(a:N):dp->Prop
 |none=>True
 |some (b,c)=>a[b]?=A c
end
abbrev eE:=j (da×aK×N)
noncomputable def da.mg:da->ah
 |.next=>J
 |_=>d
noncomputable def da.jX:da->ah
 |.next=>J
 |.cont=>J
 |_=>d
noncomputable def r4(b:eE)(c:aK->N->eE):eE:=b.bind λa=>cU a.1.mg (c a.2.1 a.2.2) (A a)
noncomputable def ko(b:eE)(c:aK->N->eE):eE:=b.bind λa=>cU a.1.jX (c a.2.1 a.2.2) (A a)
def y5(a:r4 i l=A h):(∃b g,i=A (.next,b,g)/\l b g=A h)\/(h.1.mg=d/\i=A h):=by
 refine bh a _ λe c a=>?_;obtain⟨f,b,g⟩:=e;cases f
 .exact .inl ⟨b,g,c,a⟩
 all_goals obtain rfl:=aG a;exact .inr ⟨G,c⟩
def rB(a:ko l m=A i):(aA (gi (λb g h=>e1 (l=A (b,g,h)) (b.jX=J) (m g h=A i))))\/(i.1.jX=d/\l=A i):=by
 refine bh a _ λj f a=>?_;obtain⟨b,g,h⟩:=j;cases c:b.jX with
 |true=>exact .inl (λk e=>e b g h (λk e=>e f c (by simpa[c]using a)))
 |false=>
  simp only[c,cond_false]at a;obtain rfl:=aG a;exact .inr ⟨c,f⟩
noncomputable def iE(b:aK->N->j (ah×N))(c:aK->N->eE):I->aK->N->eE
 |0,_,_=>M
 |n+1,a,f=>a3 (b a f) λg e=>cU g (ko (c a e) (iE b c n)) (A (.next,a,e))
@[irreducible] noncomputable def n8:I:=2^1000
noncomputable def sm(a:aK->N->j (ah×N))(b:aK->N->eE):aK->N->eE:=iE a b n8
instance:ly L:=L.fV
instance:ly aO:=λa a=>acF _
noncomputable def CX(b:N)(e:dp):ah:=e.all λa=>decide (b[a.1]?=A a.2)
noncomputable def d_(a:N)(b:E dp):ah:=b.all (CX a)
noncomputable def nY(a:aK)(b:E I)(e:E L):j aK:=a4 (decide (b.length=e.length)) (A ((b.zip e).foldl (λa f=>a.set f.1 (A f.2)) a))
noncomputable def it(a:aK)(c:dw)(b:L):j aK:=match c with
 |.aa e=>A (a.set e (A b))
 |.afQ f=>b.qj.bind λg=>nY a f g
noncomputable def k6(c:N)(a:aK)(e:dw)(b:L):j aK:=match e with
 |.aa f=>A (a.set f (A b))
 |.afQ g=>(la c b).bind λh=>nY a g h
noncomputable def eP(b:E dp)(e:dw)(f:aK->N->eE):E L->aK->N->eE
 |[],c,a=>a4 (d_ a b) (A (.next,c,a))
 |g::h,c,a=>a4 (d_ a b) ((it c e g).bind λi=>ko (f i a) (eP b e f h))
noncomputable def e2(b:E dp)(c:dw)(e:aK)(g:aK->N->j (ah×N))(h:aK->N->j (L×N)):E L->N->j (E L×N)
 |[],a=>a4 (d_ a b) (A ([],a))
 |m::i,a=>a4 (d_ a b) ((it e c m).bind λk=>a3 (g k a) λn l=>cU n (a3 (h k l) λo p=>a3 (e2 b c e g h i p) λf q=>A (o::f,q)) (e2 b c e g h i l))
abbrev cb:=I->E L->N->j (dW×N)
abbrev ce:=I->E L->N->j (L×N)
noncomputable def l7:L->j (j O)
 |.none=>A M
 |.int a=>A (A a)
 |_=>M
noncomputable def t2:ah->aO
 |true=>.afM []
 |false=>.afP []
noncomputable def kp(a:N)(b:I):ah:=(m0 a b).isSome
noncomputable def dW.sw:dW->j L
 |.ret a=>A a
 |.afU _=>M
noncomputable def dW.vJ:dW->da
 |.ret _=>.next
 |.afU a=>.afU a
noncomputable def bB(a:j (dW×N)):j (L×N):=a3 a λb c=>b.sw.bind λe=>A (e,c)
def pV(a:bB b=A (g,h)):b=A (.ret g,h):=by
 refine b0 a _ λc f e a=>?_;cases c<;>cases a;exact e
noncomputable def dQ(a:j (L×N)):j (ah×N):=a3 a λb c=>(cN b).bind λe=>A (e,c)
def mc(a:dQ h=A (g,i)):∃b,h=A (b,i)/\cN b=A g:=by
 refine b0 a _ λb f c a=>bh a _ λg e a=>?_;cases a;exact⟨b,c,e⟩
def jc(a:b=A (g,h))(c:cN g=A i):dQ b=A (i,h):=by
 subst a;unfold dQ;rw[fe,c];rfl
mutual
noncomputable def aR(c:ah)(e:ah->cb)(g:ce)(h:aK):X->N->j (L×N)
 |.lit p,a=>A (p,a)
 |.aga p,a=>A (p,a)
 |.var o,a=>(h[o]?.bind id).bind λp=>A (p,a)
 |.af6 x n q,a=>a3 (aR c e g h n a) λi b=>a3 (aR c e g h q b) λr l=>c2 l x i r
 |.af0 n x q,a=>a3 (aR c e g h n a) λi b=>a3 (aR c e g h q b) λr l=>(bY l x i r).bind λs=>A (.bool s,l)
 |.age n F k,a=>a3 (aR c e g h n a) λi b=>lY c e g h k i F b
 |.neg n,a=>a3 (aR c e g h n a) λi b=>i.fk.bind λo=>A (.int (-o),b)
 |.not n,a=>a3 (aR c e g h n a) λi b=>(cN i).bind λs=>A (.bool (!s),b)
 |.and k,a=>n2 c e g h k a
 |.or k,a=>n3 c e g h k a
 |.ite u n q,a=>a3 (dQ (aR c e g h u a)) λs b=>cU s (aR c e g h n b) (aR c e g h q b)
 |.ab k,a=>a3 (dv c e g h k a) λm b=>A (.ab m,b)
 |.list k,a=>a3 (dv c e g h k a) λm b=>A (.ref b.length,b++[.list m])
 |.af7 s,a=>A (.ref a.length,a++[t2 s])
 |.pick y H k,a=>a3 (dv c e g h k a) λm b=>a3 (aR c e g h y b) λi l=>i.ng.bind λI=>((H.zip m).lookup I).bind λp=>A (p,l)
 |.agj t,a=>a3 (aR c e g h t a) λi b=>i.eT.bind λo=>(fB b o).bind λv=>a4 (bV v.length) (A (.ref b.length,b++[.list (v.map λw=>.ab [.ab w.1,w.2])]))
 |.agi n o,a=>a3 (aR c e g h n a) λi b=>a3 (aR c e g h o b) λr l=>(ck l i r).bind λp=>A (p,l)
 |.slice n K O,a=>a3 (aR c e g h n a) λi b=>a3 (aR c e g h K b) λr l=>a3 (aR c e g h O l) λz P=>(l7 r).bind λr=>(l7 z).bind λz=>m9 P i r z
 |.br t Q,a=>a3 (aR c e g h t a) λi b=>i.eT.bind λo=>a3 (hK b o) λT B=>(m0 b B).bind λv=>(v.lookup Q).bind λp=>A (p,b)
 |.call C k,a=>a3 (dv c e g h k a) λm b=>bB (e c C m b)
 |.agg u t C k,a=>a3 (aR c e g h t a) λi b=>i.eT.bind λo=>a3 (hK b o) λR B=>a4 (decide (R=u)&&kp b B) (a3 (dv c e g h k b) λm l=>bB (e c C (.ref o::m) l))
 |.afZ q k,a=>a3 (dv c e g h k a) λm b=>a4 (c||q.plain) (eW b q m)
 |.af_ t q k,a=>a3 (aR c e g h t a) λi b=>a4 (kz b i q) (a3 (dv c e g h k b) λm l=>hJ l i q m)
 |.new u k,a=>a3 (dv c e g h k a) λm b=>a4 c (g u m b)
 |.comp w S y k cU,a=>a3 (dv c e g h k a) λm b=>a4 c ((eb b y m).bind λD=>a3 (e2 D.2.1 S h (λE l=>dQ (aR c e g E cU l)) (λE l=>aR c e g E w l) D.1 D.2.2) λf l=>A (.ref l.length,l++[.list f]))
 |.af3 k,a=>a3 (dv c e g h k a) λm b=>(lZ oN m).bind λi=>A (.str i,b)
noncomputable def dv(b:ah)(c:ah->cb)(e:ce)(g:aK):E X->N->j (E L×N)
 |[],a=>A ([],a)
 |h::f,a=>a3 (aR b c e g h a) λi k=>a3 (dv b c e g f k) λl m=>A (i::l,m)
noncomputable def lY(c:ah)(e:ah->cb)(f:ce)(g:aK):E X->L->E gE->N->j (L×N)
 |[],_,_,_=>M
 |l::h,m,a,n=>match a with
  |[]=>M
  |o::a=>a3 (aR c e f g l n) λi b=>(bY b o m i).bind λk=>cU (k&&!(h.isEmpty&&a.isEmpty)) (lY c e f g h i a b) (A (.bool k,b))
noncomputable def n2(a:ah)(b:ah->cb)(c:ce)(e:aK):E X->N->j (L×N)
 |[],_=>M
 |g::f,h=>match f.isEmpty with
  |true=>aR a b c e g h
  |false=>a3 (aR a b c e g h) λi k=>(cN i).bind λl=>cU l (n2 a b c e f k) (A (i,k))
noncomputable def n3(a:ah)(b:ah->cb)(c:ce)(e:aK):E X->N->j (L×N)
 |[],_=>M
 |g::f,h=>match f.isEmpty with
  |true=>aR a b c e g h
  |false=>a3 (aR a b c e g h) λi k=>(cN i).bind λl=>cU l (A (i,k)) (n3 a b c e f k)
end
noncomputable def eO(a:ah)(b:ah->cb)(c:ce)(e:X)(f:aK)(g:N):j (ah×N):=dQ (aR a b c f e g)
noncomputable def ll(a:I)(b:L):E (I×L)->E (I×L)
 |[]=>[(a,b)]
 |e::c=>if e.1=a then(e.1,b)::c else e::ll a b c
noncomputable def tO(a:da)(b:I)(c:ah):ah:=match a with
 |.afU a=>decide (a=b)&&c
 |_=>d
noncomputable def da.fw:da->ah
 |.afU _=>J
 |_=>d
mutual
noncomputable def f(e:ah)(h:ah->cb)(i:ce):c->aK->N->eE
 |.agb t k,a,b=>a3 (aR e h i a k b) λn g=>a4 (e||t.plain) ((k6 g a t n).bind λB=>A (.next,B,g))
 |.af9 s m k,a,b=>a3 (aR e h i a k b) λn g=>a3 (aR e h i a s g) λo p=>a3 (aR e h i a m p) λC u=>(m8 u o C n).bind λD=>A (.next,a,D)
 |.afY s y k,a,b=>a3 (aR e h i a k b) λn g=>a3 (aR e h i a s g) λo p=>o.eT.bind λm=>a3 (hK p m) λO r=>(m0 p r).bind λz=>a4 (decide (z.length<500)&&decide (y<17)) (A (.next,a,bd p r (.afS (ll y n z))))
 |.expr k,a,b=>a3 (aR e h i a k b) λO g=>A (.next,a,g)
 |.agl j s v w,a,b=>a3 (aR e h i a s b) λo g=>o.eT.bind λm=>a3 (hK g m) λE r=>a4 (decide (E=j)&&kp g r) (a3 (dv e h i a w g) λx p=>a3 (h e v (.ref m::x) p) λl u=>A (l.vJ,a,u))
 |.ret k,a,b=>a3 (aR e h i a k b) λn g=>A (.ret n,a,g)
 |.ite j F q,a,b=>a3 (eO e h i j a b) λH g=>cU H (bt e h i F a g) (bt e h i q a g)
 |.while j q,a,b=>sm (eO e h i j) (λa b=>bt e h i q a b) a b
 |.for t I w q,a,b=>a3 (dv e h i a w b) λx g=>a4 e ((eb g I x).bind λl=>eP l.2.1 t (λa b=>bt e h i q a b) l.1 a l.2.2)
 |.cont,a,b=>A (.cont,a,b)
 |.raise j K,a,b=>a3 (aR e h i a K b) λO g=>a4 e (A (.afU j,a,g))
 |.try q j L,a,b=>(bt e h i q a b).bind λl=>cU l.1.fw (a4 (tO l.1 j e) (bt d h i L l.2.1 l.2.2)) (A l)
 |.agk v,a,b=>(a[0]?.bind id).bind λo=>o.eT.bind λm=>a3 (hK b m) λj r=>a4 (decide (j=0)&&kp b r) (a3 (bB (h e v [.ref m] b)) λO g=>A (.next,a,g))
noncomputable def bt(e:ah)(g:ah->cb)(h:ce):E c->aK->N->eE
 |[],a,b=>A (.next,a,b)
 |i::j,a,b=>r4 (f e g h i a b) λa b=>bt e g h j a b
end
structure bb where
 params:I
 slots:I
 body:E c
noncomputable def e3(n:I)(a:E L):aK:=a.map A++hu (n-a.length) M
noncomputable def rP(c:cb)(e:I->I):ce:=λb f a=>
 a3 (bB (c (e b) (.ref (a.length+1)::f) (a++[.afS [],.c8 b a.length]))) λg h=>match g with
 |.none=>A (.ref (a.length+1),h)
 |_=>M
noncomputable def da.end:da->j dW
 |.next=>A (.ret .none)
 |.ret a=>A (.ret a)
 |.afU b=>A (.afU b)
 |.cont=>M
noncomputable def kl(b:eE):j (dW×N):=b.bind λa=>a.1.end.bind λc=>A (c,a.2.2)
noncomputable def h9(F:I->j bb)(a:I->I):I->ah->cb
 |0,_,_,_,_=>M
 |n+1,c,f,e,g=>(F f).bind λb=>a4 (decide (e.length=b.params)) (kl (bt c (h9 F a n) (rP (h9 F a n J) a) b.body (e3 b.slots e) g))
end
section
def dF{a b:Type}{c:a->b->Prop}{e f:a}{g h:b}(i:A (e,g)=A (f,h))(j:c e g):c f h:=by cases i;exact j
def i1{a:da->aK->N->Prop}{b c:da}{e f:aK}{g h:N}(i:A (b,e,g)=A (c,f,h))(j:a b e g):a c f h:=by cases i;exact j
def pU{a:j (L×N)}{b:L}{c:Q}{e:N}(f:a=A (b,e))(g:b.eT=A c):a=A (.ref c,e):=by rw[f,kA g]
def ZL{a:j (L×N)}{b:L}{c:am}{e:N}(f:a=A (b,e))(g:b.ng=A c):a=A (.str c,e):=by rw[f,za g]
def SI{a:j (L×N)}{b:L}{c:O}{e:N}(f:a=A (b,e))(g:b.fk=A c):a=A (.int c,e):=by rw[f,pH g]
section
variable{a:ah}{e:ah->cb}{g:ce}{b s:aK}{h j:N}{k:L}{q p n l w B C r i:X}{m:E X}{y x:I}{P:Prop}{o:L->N->Prop}{t:da}
def PL{l:I}(c:aR a e g b (.var l) h=A (k,j))(f:∀u,b[l]?=A (A u)->o u h):o k j:=by
 refine bh c _ λu i c=>bh i _ λp m n=>?_;obtain rfl:=n;exact dF c (f u m)
def Ps(c:aR a e g b (.af6 D q p) h=A (k,j))(f:∀i u v z,aR a e g b q h=A (i,u)->aR a e g b p u=A (v,z)->c2 z D i v=A (k,j)->P):P:=by
 exact b0 c _ λi u l c=>b0 c _ λv z m c=>f i u v z l m c
def Px(c:aR a e g b (.af0 q T p) h=A (k,j))(f:∀i u v z D,aR a e g b q h=A (i,u)->aR a e g b p u=A (v,z)->bY z T i v=A D->o (.bool D) z):o k j:=by
 exact b0 c _ λi u l c=>b0 c _ λv z m c=>bh c _ λD n c=>dF c (f i u v _ D l m n)
def Pw(c:aR a e g b (.age q v m) h=A (k,j))(f:∀i u,aR a e g b q h=A (i,u)->lY a e g b m i v u=A (k,j)->P):P:=by
 exact b0 c _ λi u l c=>f i u l c
def PF(c:aR a e g b (.neg q) h=A (k,j))(f:∀l u,aR a e g b q h=A (.int l,u)->o (.int (-l)) u):o k j:=by
 exact b0 c _ λi u m c=>bh c _ λl n c=>dF c (f l _ (SI m n))
def PH(c:aR a e g b (.not q) h=A (k,j))(f:∀i v u,aR a e g b q h=A (i,v)->cN i=A u->o (.bool (!u)) v):o k j:=by
 exact b0 c _ λi v l c=>bh c _ λu m c=>dF c (f i _ u l m)
def PB(c:aR a e g b (.ite n q p) h=A (k,j))(i:∀u,eO a e g n b h=A (J,u)->aR a e g b q u=A (k,j)->P)(l:∀u,eO a e g n b h=A (d,u)->aR a e g b p u=A (k,j)->P):P:=by
 refine b0 c _ λm u f c=>?_;cases m
 .exact l u f c
 .exact i u f c
def PK(c:aR a e g b (.ab m) h=A (k,j))(f:∀u v,dv a e g b m h=A (u,v)->o (.ab u) v):o k j:=by
 exact b0 c _ λu v i c=>dF c (f u _ i)
def PD(c:aR a e g b (.list m) h=A (k,j))(f:∀u v,dv a e g b m h=A (u,v)->o (.ref v.length) (v++[.list u])):o k j:=by
 exact b0 c _ λu v i c=>dF c (f u _ i)
def PI(c:aR a e g b (.pick w ge m) h=A (k,j))(f:∀u v z D T,dv a e g b m h=A (u,v)->aR a e g b w v=A (.str z,D)->(ge.zip u).lookup z=A T->o T D):o k j:=by
 exact b0 c _ λu v l c=>b0 c _ λi D n c=>bh c _ λz p c=>bh c _ λT q c=>dF c (f u v z D T l (ZL n p) q)
def PC(f:aR a e g b (.agj r) h=A (k,j))(c:∀l u v,aR a e g b r h=A (.ref l,u)->u[l]?=A (.afM v)->v.length<1000000->o (.ref u.length) (u++[.list (v.map λf=>.ab [.ab f.1,f.2])])):o k j:=by
 refine b0 f _ λi u m f=>bh f _ λl n f=>bh f _ λv p f=>?_;obtain⟨q,f⟩:=cf f;exact dF f (c l u v (pU m n) (mT p) (dE q))
def PA(c:aR a e g b (.agi q l) h=A (k,j))(f:∀i v z u D,aR a e g b q h=A (i,v)->aR a e g b l v=A (z,u)->ck u i z=A D->o D u):o k j:=by
 exact b0 c _ λi v m c=>b0 c _ λz u n c=>bh c _ λD p c=>dF c (f i v z u D m n p)
def PJ(c:aR a e g b (.slice q B C) h=A (k,j))(f:∀i u v z D T ge go,aR a e g b q h=A (i,u)->aR a e g b B u=A (v,z)->aR a e g b C z=A (D,T)->l7 v=A ge->l7 D=A go->m9 T i ge go=A (k,j)->P):P:=by
 exact b0 c _ λi u l c=>b0 c _ λv z m c=>b0 c _ λD T n c=>bh c _ λge o c=>bh c _ λgo p c=>f i u v z D T ge go l m n o p c
def Py(c:aR a e g b (.br r y) h=A (k,j))(f:∀l n v z u D,aR a e g b r h=A (.ref l,u)->u[l]?=A (.c8 n v)->u[v]?=A (.afS z)->z.lookup y=A D->o D u):o k j:=by
 exact b0 c _ λi u m c=>bh c _ λl p c=>b0 c _ λn v q c=>bh c _ λz s c=>bh c _ λD t c=>dF c (f l n v z u D (pU m p) (x2 q) (xR s) t)
def Pu(c:aR a e g b (.call x m) h=A (k,j))(f:∀u v,dv a e g b m h=A (u,v)->e a x u v=A (.ret k,j)->P):P:=by
 exact b0 c _ λu v i c=>f u v i (pV c)
def RN(b:kp h v=J):∃u,h[v]?=A (.afS u):=by
 obtain⟨u,a⟩:=kO.mp b;exact⟨u,xR a⟩
def yU{b:N}{n l f:I}{c:Q}(g:hK b l=A (f,c))(e:(decide (f=n)&&kp b c)=J)(h:∀u,b[l]?=A (.c8 n c)->b[c]?=A (.afS u)->P):P:=by
 rw[eB,j8]at e;obtain⟨u,a⟩:=RN e.2;exact h u (e.1▸x2 g) a
def PE{n:I}(c:aR a e g b (.agg n r x m) h=A (k,j))(f:∀l u v T z D,aR a e g b r h=A (.ref l,u)->u[l]?=A (.c8 n v)->u[v]?=A (.afS T)->dv a e g b m u=A (z,D)->e a x (.ref l::z) D=A (.ret k,j)->P):P:=by
 refine b0 c _ λi u o c=>bh c _ λl p c=>b0 c _ λB v q c=>?_;obtain⟨s,c⟩:=cf c;exact b0 c _ λz D t c=>yU q s λT w y=>f l u v T z D (pU o p) w y t (pV c)
def Pr{p:kV}(c:aR a e g b (.afZ p m) h=A (k,j))(f:∀u v,dv a e g b m h=A (u,v)->(a||p.plain)=J->eW v p u=A (k,j)->P):P:=by
 refine b0 c _ λu v i c=>?_;obtain⟨l,c⟩:=cf c;exact f u v i l c
def Pt{p:ka}(c:aR a e g b (.af_ r p m) h=A (k,j))(f:∀i u v z,aR a e g b r h=A (i,u)->kz u i p=J->dv a e g b m u=A (v,z)->hJ z i p v=A (k,j)->P):P:=by
 refine b0 c _ λi u l c=>?_;obtain⟨n,c⟩:=cf c;exact b0 c _ λv z o c=>f i u v z l n o c
def PG{n:I}(c:aR a e g b (.new n m) h=A (k,j))(f:∀u v,dv a e g b m h=A (u,v)->a=J->g n u v=A (k,j)->P):P:=by
 refine b0 c _ λu v i c=>?_;obtain⟨l,c⟩:=cf c;exact f u v i l c
def DF{i:dw}{w:jA}(c:aR a e g b (.comp q i w m n) h=A (k,j))(l:∀v z D T ge f u,dv a e g b m h=A (v,z)->a=J->eb z w v=A (D,T,ge)->e2 T i b (λgo u=>eO a e g n go u) (λgo u=>aR a e g go q u) D ge=A (f,u)->o (.ref u.length) (u++[.list f])):o k j:=by
 refine b0 c _ λv z p c=>?_;obtain⟨r,c⟩:=cf c;refine bh c _ λs t c=>?_;obtain⟨D,T,ge⟩:=s;exact b0 c _ λf u x c=>dF c (l v z D T ge f _ p r t x)
def Pz(c:aR a e g b (.af3 m) h=A (k,j))(f:∀u v i,dv a e g b m h=A (u,v)->lZ oN u=A i->o (.str i) v):o k j:=by
 exact b0 c _ λu v l c=>bh c _ λi n c=>dF c (f u _ i l n)
def DC{f:E L}{o:E L->N->Prop}(c:dv a e g b (i::m) h=A (f,j))(k:∀u v z D,aR a e g b i h=A (u,v)->dv a e g b m v=A (z,D)->o (u::z) D):o f j:=by
 exact b0 c _ λu v l c=>b0 c _ λz D n c=>dF c (k u v z _ l n)
def DB(c:aR a e g b (.and (i::z::m)) h=A (k,j))(o:∀v u,aR a e g b i h=A (v,u)->cN v=A J->aR a e g b (.and (z::m)) u=A (k,j)->P)(p:∀u,aR a e g b i h=A (k,u)->cN k=A d->j=u->P):P:=by
 refine b0 (g:=aR a e g b i h) (h:=λk u=>(cN k).bind λf=>cU f (n2 a e g b (z::m) u) (A (k,u))) c _ λv u l c=>bh c _ λf n c=>?_;cases f
 .cases c;exact p _ l n G
 .exact o v u l n c
def DE(c:aR a e g b (.or (i::z::m)) h=A (k,j))(o:∀v u,aR a e g b i h=A (v,u)->cN v=A d->aR a e g b (.or (z::m)) u=A (k,j)->P)(p:∀u,aR a e g b i h=A (k,u)->cN k=A J->j=u->P):P:=by
 refine b0 (g:=aR a e g b i h) (h:=λk u=>(cN k).bind λf=>cU f (A (k,u)) (n3 a e g b (z::m) u)) c _ λv u l c=>bh c _ λf n c=>?_;cases f
 .exact o v u l n c
 .cases c;exact p _ l n G
def Po(c:eO a e g (.not q) b h=A (v,j))(f:∀u,eO a e g q b h=A (u,j)->v=!u->P):P:=by
 obtain⟨k,c,l⟩:=mc c;refine b0 c _ λi o m c=>bh c _ λu n c=>?_;cases c;exact f u (jc m n) (aG l).symm
def Pn(c:eO a e g (.af0 q z p) b h=A (D,j))(f:∀i u v,aR a e g b q h=A (i,u)->aR a e g b p u=A (v,j)->bY j z i v=A D->P):P:=by
 obtain⟨k,c,l⟩:=mc c;refine b0 c _ λi u m c=>b0 c _ λv r n c=>bh c _ λs o c=>?_;cases c;exact f i u v m n (o.trans l)
def N6{n:dp}{m:E dp}(a:d_ h (n::m)=J):CX h n=J/\d_ h m=J:=by
 unfold d_ at a;rw[sF,eB]at a;exact a
def tR{b:I}{r:aO}{m:E dp}(c:d_ h m=J)(a:A (b,r)∈m):h[b]?=A r:=dE (di.mp c _ a)
def tQ{a:I}{r:aO}{m:E dp}(b:d_ h (A (a,r)::m)=J):h[a]?=A r:=dE (N6 b).1
variable{v:da×aK×N}{u:da->aK->N->Prop}{D:c}{F:E c}{z:dw}
def vE(c:f a e g (.agb z i) b h=A (t,s,j))(k:∀T ge go,aR a e g b i h=A (T,ge)->(a||z.plain)=J->k6 ge b z T=A go->u .next go ge):u t s j:=by
 refine b0 c _ λT ge l c=>?_;obtain⟨m,c⟩:=cf c;exact bh c _ λgo n c=>i1 c (k T _ _ l m n)
def Hh(c:f a e g (.af9 r l i) b h=A (t,s,j))(k:∀T ge go gt kw le mp,aR a e g b i h=A (T,ge)->aR a e g b r ge=A (go,gt)->aR a e g b l gt=A (kw,le)->m8 le go kw T=A mp->u .next b mp):u t s j:=by
 exact b0 c _ λT ge m c=>b0 c _ λgo gt n c=>b0 c _ λkw le o c=>bh c _ λmp p c=>i1 c (k T ge go gt kw le _ m n o p)
def Hg(c:f a e g (.afY r y i) b h=A (t,s,j))(k:∀gt kw l T n ge go,aR a e g b i h=A (gt,kw)->aR a e g b r kw=A (.ref l,T)->T[l]?=A (.c8 n ge)->T[ge]?=A (.afS go)->go.length<500->y<17->u .next b (bd T ge (.afS (ll y gt go)))):u t s j:=by
 refine b0 c _ λgt kw o c=>b0 c _ λx T p c=>bh c _ λl q c=>b0 c _ λn ge v c=>bh c _ λgo w c=>?_;obtain⟨m,c⟩:=cf c;rw[eB]at m;exact i1 c (k gt kw l T n ge go o (pU p q) (x2 v) (xR w) (dE m.1) (dE m.2))
def Hi(c:f a e g (.expr i) b h=A (t,s,j))(k:∀T ge,aR a e g b i h=A (T,ge)->u .next b ge):u t s j:=by
 exact b0 c _ λT ge l c=>i1 c (k T _ l)
def abN{n:I}(c:f a e g (.agl n r x m) b h=A (t,s,j))(i:∀l T ge kw go gt v le,aR a e g b r h=A (.ref l,T)->T[l]?=A (.c8 n ge)->T[ge]?=A (.afS kw)->dv a e g b m T=A (go,gt)->e a x (.ref l::go) gt=A (v,le)->u v.vJ b le):u t s j:=by
 refine b0 c _ λC T k c=>bh c _ λl o c=>b0 c _ λD ge p c=>?_;obtain⟨q,c⟩:=cf c;exact b0 c _ λgo gt w c=>b0 c _ λv le y c=>yU p q λkw z B=>i1 c (i l T ge kw go gt v _ (pU k o) z B w y)
def Hm(c:f a e g (.ret i) b h=A (t,s,j))(k:∀T ge,aR a e g b i h=A (T,ge)->u (.ret T) b ge):u t s j:=by
 exact b0 c _ λT ge l c=>i1 c (k T _ l)
def Hk{q p:E c}(i:f a e g (.ite n q p) b h=A v)(k:∀T,eO a e g n b h=A (J,T)->bt a e g q b T=A v->P)(l:∀T,eO a e g n b h=A (d,T)->bt a e g p b T=A v->P):P:=by
 refine b0 i _ λm T j i=>?_;cases m
 .exact l T j i
 .exact k T j i
def Hj{w:jA}{p:E c}(i:f a e g (.for z w m p) b h=A v)(j:∀T ge go gt kw,dv a e g b m h=A (T,ge)->a=J->eb ge w T=A (go,gt,kw)->eP gt z (λb h=>bt a e g p b h) go b kw=A v->P):P:=by
 refine b0 i _ λT ge k i=>?_;obtain⟨l,i⟩:=cf i;refine bh i _ λn o i=>?_;obtain⟨go,gt,kw⟩:=n;exact j T ge go gt kw k l o i
def Hl{n:I}(c:f a e g (.raise n i) b h=A (t,s,j))(k:∀T ge,aR a e g b i h=A (T,ge)->a=J->u (.afU n) b ge):u t s j:=by
 refine b0 c _ λT ge l c=>?_;obtain⟨m,c⟩:=cf c;exact i1 c (k T _ l m)
def abM{n:I}{p k:E c}(i:f a e g (.try p n k) b h=A v)(o:∀T ge,bt a e g p b h=A (.afU n,T,ge)->a=J->bt d e g k T ge=A v->P)(q:v.1.fw=d->bt a e g p b h=A v->P):P:=by
 refine bh i _ λr m i=>?_;obtain⟨j,T,ge⟩:=r;cases j with
 |afU j=>
  obtain⟨l,i⟩:=cf i;have l:(decide (j=n)&&a)=J:=l;rw[eB,j8]at l;exact o T ge (l.1▸m) l.2 i
 |_=>obtain rfl:=aG i;exact q G m
def zv(c:f a e g (.agk x) b h=A (t,s,j))(m:∀l T ge go gt,b[0]?=A (A (.ref l))->h[l]?=A (.c8 0 T)->h[T]?=A (.afS ge)->e a x [.ref l] h=A (.ret go,gt)->u .next b gt):u t s j:=by
 refine bh c _ λv i c=>bh i _ λw n k=>?_;obtain rfl:=k;refine bh c _ λl o c=>b0 c _ λy T p c=>?_;obtain⟨q,c⟩:=cf c;exact b0 c _ λgo gt r c=>yU p q λge i k=>i1 c (m l T ge go _ (by rw[n,kA o]) i k (pV r))
end
end
noncomputable abbrev fq:qI:=adA
noncomputable abbrev ej:OpenLaw:=J8
noncomputable def d2:qI:=view fq ((e9 81).filter λa=>!(a==1||a==6||a==14||a==39||a==50))
noncomputable def ff:b9:={scope:=fq.main.scope,locals:=mainNs,globals:=mainNs,cells:=[],code:=.ref 13,frame:=A 14}
noncomputable def nO:dj:=⟨0,0,0,0⟩
noncomputable def iQ:E Frame:=[topFrame nO]
noncomputable def nZ:Code:=.body (AX fq) ff
noncomputable def ES:cn:={cls:=.type "tuple",data:=.seq #[]}
noncomputable def ET:cn:={cls:=.none,data:=.fields #[]}
noncomputable def EU:cn:={cls:=.type "code",data:=.fields #[.str "<module>" 182,.str "<module>" 183,.str "/claim/cut.py" 184,.int 1 0,.int 0 0,.int 0 0,.int 0 0,.int 0 0,.ref 11,.bool d,.int 181 0,.ref 12,.none,.none,.none,.none,.int 185 0,.int 1 0,.str "/claim/cut.py" 186]}
noncomputable def EV:cn:={cls:=.type "frame",slots:=#[A (.ref 13),A (.ref 3),A (.ref 3),M,A (.str "__main__" 164),M,A (.ref 0)]}
noncomputable def BV(P:iL):aq:=⟨#[AZ P,A0 P,boot_o_2 P,boot_o_3 P,A3 P,A4 P,A6 P,A7 P,A8 P,A9 P,A2 P,ES,ET,EU,EV],{}⟩
noncomputable def Mm(P:iL):BT:=
 .node (AZ P)
  (.node (A0 P)
   (.node (boot_o_3 P) (.node (A7 P) .nil .nil) (.node ES .nil .nil))
   (.node (A4 P) (.node (A9 P) .nil .nil) (.node EU .nil .nil)))
  (.node (boot_o_2 P)
   (.node (A3 P) (.node (A8 P) .nil .nil) (.node ET .nil .nil))
   (.node (A6 P) (.node (A2 P) .nil .nil) (.node EV .nil .nil)))
noncomputable def re(a:fa)(os:hR):SharedT:={tree:=Mm a.params,n:=15,life:={},gens:=#[],drawn:={},toks:=187,os:=os}
def Yf(a:fa):(λos:hR=>topGo qU fq a 11 (A (.ref 6)) 12 ⟨oR a.params,#[],boot_drawn,boot_toks,os⟩ (topStub fq))=
 λos=>A (⟨BV a.params,#[],{},187,os⟩,(⟨denote qU nZ,nZ,nO,iQ⟩:Thread)):=by
 rw[adI,we,adF]
 kernel_rfl
def Nx(a:fa):(λos:hR=>segRun qU fq a 11 (A (.ref 6)) 1 1 ⟨BV a.params,#[],{},187,os⟩ (blockOf (AX fq) ff nZ nO iQ))=
 λos=>A (.next,(re a os).abs,nZ,nO):=by
 rw[adH,we]
 kernel_rfl
def Zv(a:fa):((oR a.params).isNs eN&&(#[]:ch sz).size==0,(oR a.params).objs.size,(oR a.params).nsMap eN "__annotations__")=(J,11,A (.ref 6)):=by
 kernel_rfl
def XP:opening fq=plainProg fq.main.scope.names:=by kernel_rfl
def RI(a:k):fenceModules? fq a=A a:=by kernel_rfl
noncomputable def bq(a:I):cx:=(fq.main.body[a]?).getD (.Pass nO)
noncomputable def u0{a:Type}(b:cx)(c:a)(e:am->Arguments->E cx->g5->dj->a):a:=if f:b.ctorIdx=0 then adV (motive_2:=λk=>a) b f λn g h k k k i k k j=>e n g h i j else c
noncomputable def F1{a:Type}(b:cx)(c:a)(e:am->E cx->dj->a):a:=if f:b.ctorIdx=2 then adR (motive_2:=λi=>a) b f λn i i g i i i i i i h=>e n g h else c
noncomputable def Om(a:cx):E cx:=F1 a [] λc b c=>b
noncomputable def aeb(a b:I):cx:=((Om (bq a))[b]?).getD (.Pass nO)
noncomputable abbrev b6(a:I):U:=.ref a
noncomputable abbrev eA(a:O):U:=.int a 0
noncomputable abbrev ou(a:O)(b:I):U:=.int a b
noncomputable abbrev gS(a:am)(b:I):U:=.str a b
noncomputable abbrev d9(a:eg):U:=.type a
noncomputable abbrev nG(a:eg):U:=.builtin a
noncomputable def ja(a:E U):cn:={cls:=d9 "tuple",data:=.seq a.toArray}
noncomputable def mY(a:U)(b:E U):cn:={cls:=a,data:=.fields b.toArray}
noncomputable def dG(P:iL)(a:am)(b:I)(c:U):je:=⟨sX P a,.str a b,c⟩
noncomputable def tZ(a:U)(b:E je)(n:I):cn:={cls:=a,data:=.dict b.toArray n}
noncomputable def CR(n e:am)(a:I)(b f g:O)(h:I)(i:ah)(j c:I)(k:E U):cn:=
 mY (d9 "code") ([gS n a,gS e (a+1),gS "/claim/cut.py" (a+2),eA b,eA f,eA 0,eA 0,eA g,b6 h,.bool i,eA 181,b6 j,.none]++k++[eA c,eA b,gS "/claim/cut.py" (c+1)])
noncomputable def CQ(n:am)(c:O)(a b:I):cn:=CR n n a c 0 0 b d (b+1) (a+3) [.none,.none,.none]
noncomputable def ax(a:cx)(b:am)(c:I)(e:E (am×Q))(f kP g:U):j1:=u0 a default λn h i j k=>{name:=n,qualname:=b++n,params:=h,body:=.stmts i,scope:=j,globals:=c,closure:=e,defaults:=.none,kwdefaults:=.none,pyModule:=f,code:=kP,closureTuple:=g}
noncomputable def F6(a ns:I)(b:U):cn:={cls:=d9 "frame",slots:=#[A (b6 a),A (b6 3),A (b6 ns),M,A b,M,A (b6 0)]}
noncomputable def m5(a:lD)(b:g5):E am:=(b.names.filter λe=>e.2==a).map (·.1)
noncomputable def aB:E am->I->E U:=λb=>b.rec (λe=>[]) λn e c a=>gS n a::c (a+1)
noncomputable def n4(j:U)(f:am)(h:I)(c:ah)(g:cx)(a e:I):E cn:=u0 g [] λn m o i cu=>
 (λb l k=>[ja (aB b (e+3)),mY .none []]++(if c then[ja (aB l (e+3+b.length)),ja []]else[])++
  [{cls:=.none,data:=.func (ax g f 0 [] .none .none .none)},
   CR n (f++n) e cu.line m.args.length 3 a J (a+1) (e+3+b.length+l.length) (if c then[b6 (a+2),b6 (a+3),b6 (a+4)]else[.none,.none,b6 (a+2)]),
   {cls:=d9 "function",data:=.func (ax g f 3 (b.map (·,h)) j (b6 k) (if b.isEmpty then .none else b6 (h+5)))}])
  (m5 .free i) (if c then m5 .local i else[]) (if c then a+5 else a+3)
noncomputable def n6(P:iL)(a:ah)(e:cx)(b f:I):E je:=u0 e [] λn g g c g=>[dG P n (f+5+(m5 .free c).length+(if a then(m5 .local c).length else 0)) (b6 (if a then b+6 else b+4))]
noncomputable def n5(b:O)(c:ah)(e:cx)(a _:I):E U:=u0 e [] λf f f f cu=>[eA cu.line,eA b,b6 (if c then a+5 else a+3)]
noncomputable def fR{c:Type}(e:ah->cx->I->I->E c)(f:E cx):I->E I->E c:=f.rec (λj j=>[]) λg j h a i=>i.rec [] λb cM j=>e (b%2==0) g a (b/2)++h (if b%2==0 then a+7 else a+5) cM
noncomputable def cM(a:I):E cx:=fq.main.body.drop a
noncomputable def Sm(n:eg)(a b:I)(c:E U):cn:=mY (d9 "getset_descriptor") ([gS n b,b6 a]++c)
noncomputable def co(P:iL)(k:U)(r b c a:I)(i l2 s:E U)(t:eg)(aR:E (eg×E U))(sd:E am)(g:I)(h:E I):E cn:=F1 (bq r) [] λn l cu=>
 (λm j=>(λo p q e=>
  [ja i,mY (d9 "builtin_function_or_method") [nG "type.__prepare__",d9 "type"],
   tZ (d9 "dict") (o::dG P "__qualname__" (c+7) (gS n (c+6))::p::q++(if a=1 then[dG P "__classcell__" (g+1) (b6 (b+3))]else[])) (h.length+4+a)]++
  (if a=1 then[{cls:=d9 "cell",data:=.cell (A (b6 e))}]else[])++
  [ja [],mY .none (fR (n5 4) l m h),CQ n cu.line c (b+3+a),F6 (b+5+a) (b+2) k]++
  (if a=1 then[ja [b6 (b+3)]]else[])++fR (n4 k (n++".") (b+3)) l m h++
  [ja (aB sd (g-sd.length)),tZ (d9 "dict") (o::p::q++aR.zipIdx.map (λf=>dG P f.1.1 (g+a+2+2*f.2) (b6 (j+3+f.2)))++[dG P "__doc__" (g+a+1+2*aR.length) .none]) (2+a+aR.length),
   {cls:=d9 "type",data:=.cls {name:=n,bases:=if i.isEmpty then[d9 "object"]else i,mro:=b6 e::l2,ns:=j+1,qualname:=n,subclasses:=s},slots:=#[if i.isEmpty then M else A (b6 b),M,A (gS n (c-2)),A (gS n (c+6)),A (nG t),A (.bool J)]}]++
  aR.zipIdx.map (λf=>Sm f.1.1 e (g+a+1+2*f.2) f.1.2)++
  [mY (d9 "super") [b6 e,b6 e,b6 e],mY (d9 "builtin_function_or_method") [nG "object.__init_subclass__",b6 e]])
  (dG P "__module__" (c+5) k) (dG P "__firstlineno__" (c+9) (ou cu.line (c+8))) (fR (n6 P) l m h++[dG P "__static_attributes__" g (b6 j)]) (j+2))
  (b+7+2*a) (b+7+2*a+7*h.length)
noncomputable def rz:E I:=[374]
noncomputable def g1:E I:=[610,626,644,660,676,692,712]
noncomputable def g2:E I:=[730,744,760,778,796,812,832,852,872,890,908,926,942,964]
noncomputable def g3:E I:=[2414]
noncomputable def dM:E I:=[2632,2658,2678,2702,2719,2730,2749]
noncomputable def eX:E I:=[2796,2814,2834,2852,2879,2890,2908,2922,2943,2954,2972,2992,3008,3024,3042,3058,3078,3109,3121,3133,3144,3185,3197,3208,3243,3254,3279,3291]
noncomputable abbrev ux:U:=gS "minismt.errors" 194
noncomputable abbrev TS:U:=gS "minismt.ratios" 303
noncomputable abbrev m4:U:=gS "minismt.terms" 363
noncomputable abbrev ya:U:=gS "minismt.models" 1202
noncomputable abbrev TR:U:=gS "law_no0021_01" 1380
noncomputable def zr:eg×E U:=("__weakref__",[nG "ExceptionGroup.__weakref__",.none])
noncomputable def Dk:eg×E U:=("__dict__",[nG "function.__dict__",nG "function.__dict__#set"])
noncomputable def Cy:E am:=["bvand","bvor","bvxor","bvadd","bvsub","bvmul","bvshl","bvlshr","bvudiv","bvurem"]
noncomputable def Cw:E am:=["bvult","bvule","bvslt","bvsle"]
noncomputable def UH(P:iL):E cn:=
 [AZ P,A0 P,tZ .none [dG P "type.__subclasses__.Exception.0" 230 (eA 47),dG P "type.__subclasses__.Exception.n" 231 (eA 1)] 2,
  tZ (d9 "dict") ([dG P "__name__" 165 (gS "law_no0021_01" 1380),dG P "__doc__" 166 .none,dG P "__package__" 167 .none,dG P "__loader__" 168 (nG "__main__.__loader__#opaque"),dG P "__spec__" 169 .none,dG P "__annotations__" 170 (b6 6),dG P "__builtins__" 171 (b6 4),dG P "__file__" 173 (gS "/claim/cut.py" 172),dG P "__cached__" 174 .none]++fR (n6 P) (cM 0) 15 rz++[dG P "SmtError" 233 (b6 47),dG P "SortFault" 256 (b6 67),dG P "LimitFault" 279 (b6 86),dG P "ModelFault" 302 (b6 105)]++fR (n6 P) (cM 7) 108 g1++fR (n6 P) (cM 15) 157 g2++[dG P "BOOL" 492 (ou 0 491),dG P "INT" 494 (ou 1 493),dG P "REAL" 496 (ou 2 495),dG P "WIDEST" 498 (ou 4096 497),dG P "BV_SAME" 509 (b6 255),dG P "BV_ASK" 514 (b6 256),dG P "Bank" 799 (b6 469),dG P "BoolBank" 932 (b6 574),dG P "NumberBank" 1046 (b6 663),dG P "TermBank" 1201 (b6 782),dG P "NOUGHT" 1206 (b6 785)]++fR (n6 P) (cM 41) 786 g3++[dG P "Model" 1315 (b6 865)]++fR (n6 P) (cM 43) 870 dM++[dG P "_law_same" 1392 (b6 915),dG P "_law_ask" 1397 (b6 916)]++fR (n6 P) (cM 53) 917 eX) 85,
  A3 P,A4 P,A6 P,A7 P,A8 P,A9 P,A2 P,ja [],mY .none (fR (n5 0) (cM 0) 15 rz++[eA 5,eA 0,b6 28,eA 13,eA 0,b6 56,eA 17,eA 0,b6 75,eA 21,eA 0,b6 94]++fR (n5 0) (cM 7) 108 g1++fR (n5 0) (cM 15) 157 g2++[eA 121,eA 0,b6 262,eA 252,eA 0,b6 479,eA 321,eA 0,b6 582,eA 383,eA 0,b6 672]++fR (n5 0) (cM 41) 786 g3++[eA 479,eA 0,b6 798]++fR (n5 0) (cM 43) 870 dM++fR (n5 0) (cM 53) 917 eX),CQ "<module>" 1 182 11,F6 13 3 (gS "__main__" 164)]++
 fR (n4 (gS "__main__" 164) "" 0) (cM 0) 15 rz++co P ux 2 22 198 1 [d9 "Exception"] [d9 "Exception",d9 "BaseException",d9 "object"] [b6 67,b6 86,b6 105] "Exception.__new__" [zr] ["what"] 225 [416,434]++co P ux 3 51 236 0 [b6 47] [b6 47,d9 "Exception",d9 "BaseException",d9 "object"] [] "Exception.__new__" [] [] 253 [492]++co P ux 4 70 259 0 [b6 47] [b6 47,d9 "Exception",d9 "BaseException",d9 "object"] [] "Exception.__new__" [] [] 276 [538]++co P ux 5 89 282 0 [b6 47] [b6 47,d9 "Exception",d9 "BaseException",d9 "object"] [] "Exception.__new__" [] [] 299 [584]++fR (n4 TS "" 0) (cM 7) 108 g1++fR (n4 m4 "" 0) (cM 15) 157 g2++[ja (aB Cy 499),ja (aB Cw 510)]++co P m4 35 257 517 0 [] [d9 "object"] [b6 574] "object.__new__" [Dk,zr] ["false_number","fresh_count","fun_args","fun_names","fun_results","numbers","sort_names","sort_widths","term_args","term_datas","term_ops","term_sorts","true_number"] 792 [1054,1068,1084,1100,1116,1132,1148,1168,1188,1206,1222,1238,1254,1268,1284,1300,1316,1332,1348,1362,1388,1410,1426,1446,1468,1482,1496,1512,1528]++co P m4 36 474 802 0 [b6 469] [b6 469,d9 "object"] [b6 663] "object.__new__" [] [] 929 [1624,1640,1656,1672,1690,1708,1726,1744,1760,1780,1804,1822,1840]++co P m4 37 577 935 0 [b6 574] [b6 574,b6 469,d9 "object"] [b6 782] "object.__new__" [] [] 1043 [1890,1908,1926,1942,1962,1980,1998,2014,2032,2050,2068]++co P m4 38 666 1049 1 [b6 663] [b6 663,b6 574,b6 469,d9 "object"] [] "object.__new__" [] ["bv_numbers"] 1197 [2118,2134,2150,2166,2184,2202,2220,2240,2258,2278,2296,2314,2334,2352,2372]++[ja [ou 0 1204,ou 1 1205]]++fR (n4 ya "" 0) (cM 41) 786 g3++co P ya 42 793 1217 0 [] [d9 "object"] [] "object.__new__" [Dk,zr] ["bank","others","tables"] 1308 [2454,2470,2492,2510,2526,2544,2560,2578,2594]++fR (n4 ya "" 0) (cM 43) 870 dM++[ja (aB Cy 1382),ja (aB Cw 1393)]++fR (n4 TR "" 0) (cM 53) 917 eX
noncomputable def DT:E cn->I->BT->BT
 |[],_,a=>a
 |b::c,n,a=>DT c (n+1) (a.ins n b)
noncomputable def xd(P:iL):BT:=DT (UH P) 0 .nil
noncomputable def ai(a:fa)(os:hR):SharedT:={tree:=xd a.params,n:=1093,life:={},gens:=#[],drawn:={},toks:=1651,os:=os}
noncomputable def kf(P:iL):aq:=absHeap (xd P) 1093 {}
noncomputable def BZ:dj:=⟨835,0,853,73⟩
def TU(a:fa):(λos=>segRunT qU fq a 11 (A (.ref 6)) 1 8000 (re a os) (piecesOf (AX fq) ff nZ nO iQ))=λos=>A (.next,ai a os,nZ,BZ):=by
 rw[adD,we]
 kernel_rfl
noncomputable def xg(a:k):ah:=xlAt d2 [] a&&recOk ej.row.toRowW.records a
noncomputable def eG(a:fa)(os:hR):k:=⟨kf a.params,#[],{},1651,os⟩
def TN(a:fa)(os:hR):(staticsOk (wy fq.main.body) (oR a.params) (eG a os).heap&&namesBound fq (eG a os).heap&&gensDone (eG a os)&&laidKept (oR a.params) (eG a os).heap)=J:=by
 kernel_rfl
def Y7(a:fa)(os:hR):(seen ((recsOf d2).map (·.name)) (ownsOf d2) [] {eG a os with gens:=#[]},(eG a os).heap.bltView,
 (eG a os).heap.keysOk (wG d2 []) ((recsOf d2).map (·.name)) ((litsOf d2).map (·.1)) ((clssOf d2 (wG d2 [])).map (·.name))&&(eG a os).heap.accountedOkI (wy fq.main.body)&&(eG a os).heap.isNs eN&&(eG a os).heap.isNs g6&&tablesOk d2 (eG a os).heap&&xg (eG a os)&&(if J then(eG a os).gens.size==0 else !leftWithCleanup (eG a os).gens))=(expectedOf d2,bltViewBooted,J):=by
 kernel_rfl
def Y9(a:fa)(os:hR):(tabsOk d2 (eG a os),pinSeenD d2 (drecsOf d2) (eG a os),plainSeenE d2 (wG d2 []) (eG a os))=(J,pinGoodD (drecsOf d2),plainGoodE d2 (wG d2 [])):=by
 kernel_rfl
def Y_(a:fa)(os:hR):(plainSeenD d2 [] (eG a os),wideSeen d2 (eG a os),clsSeenW d2 [] (eG a os))=(plainGoodD d2 [],wideGood d2,clsGoodW d2 []):=by
 kernel_rfl
def Y8(a:fa)(os:hR):openSeen d2 [] (wy fq.main.body) xg J (eG a os)=openGood d2 []:=by
 have b:=Y7 a os;have e:=Y9 a os;have f:=Y_ a os;unfold openSeen openGood;rw[JZ,JZ]at b e f;rw[b.1,b.2.1,b.2.2,e.1,e.2.1,e.2.2,f.1,f.2.1,f.2.2]
def RJ(a:fa):(λos=>topRun qU fq a 11 (A (.ref 6)) 2 (ai a os).abs (⟨doneF .next,nZ,BZ,iQ⟩:Thread))=λos=>A (⟨kf a.params,#[],{},1651,os⟩:k):=by
 rw[adG,we]
 kernel_rfl
def aaf(a:fa)(os:hR):topRun qU fq a 11 (A (.ref 6)) (12+(1+(8000+2))) ⟨oR a.params,#[],boot_drawn,boot_toks,os⟩ (topStub fq)=A ⟨kf a.params,#[],{},1651,os⟩:=by
 refine go_top (wq (Yf a) os) ?_;refine piece_block (wq (Nx a) os) ?_;have b:=piece_app (rest:=[]) (segRun_of (wq (TU a) os)) (piece_nil (env:=ff) (wq (RJ a) os));rw[gX]at b;exact b
noncomputable def k_(a n:I):E I:=(e9 n).flatMap λb=>[a+7*b+2,a+7*b+5,a+7*b+6]
noncomputable def dN:E I:=[0,1,2,3,4,17,20,21,22,24,25,30,31,33,36,37,40,43,44,45,46,47,51,53,60,63,64,66,67,70,72,79,82,83,85,86,89,91,98,101,102,104,105]++k_ 108 21++[255,256,259]++k_ 264 29++[467,468,469,474,476]++k_ 481 13++[573,574,577,579]++k_ 584 11++[662,663,666,668,669,674,675,677,680,681]++k_ 682 14++[780,781,782,785,788,791,792,795]++k_ 800 9++[863,864,865]++k_ 870 4++[901,902,905,908,909,913,914,915,916]++k_ 917 4++[948,949]++k_ 950 3++[974,975]++k_ 976 8++[1035,1036,1040,1041,1045,1046,1049,1052,1053,1057,1058,1062,1063,1066,1069,1070,1074,1075,1078,1081,1082,1086,1087,1091,1092]
noncomputable def g_(P:iL):dy:=dN.map λa=>(a,((xd P).get a).getD default)
def D8(P:iL):dN=(g_ P).map (·.1):=by
 unfold g_;rw[mq];exact(qw _).symm
noncomputable def mE:Hook:=kHook g_ dN D8
def TO(a:fa)(os:hR):mE.obs (eG a os)=mE.val a:=by
 kernel_rfl
def left:LeftO fq d2 [] xg mE.obs mE.val 16100:=
 LeftO.of_pieces (H₁:=kf) (gs₁:=#[]) (d₁:={}) (k₁:=1651) (boot_open XP (by decide) RI) Zv aaf (by decide) λa=>by
  funext os
  exact AI (TN a os) (AI (Y8 a os) (TO a os))
def Y0:noRoadLSs {strict:=!(wy ej.row.prog.main.body).all cThrough.contains,foot:=M,bare:=(["vars","dir","locals"]:E am).filter (readsOut ej.row.prog ej.row.prog.main.body)} ej.row.prog.main.body=J:=by
 rw[AV,Kj];kernel_rfl
def Y1:namesResolve ej.row.prog=J:=by rw[adM];kernel_rfl
def Y2:(namesMeet ej.row.prog ej.row.prog.main.body λa n=>attrL n)=J:=by rw[AT];kernel_rfl
def Y3:noRoadLSs {strict:=J,foot:=A ej.bound',writes:=ej.writes,may:=ej.may} ej.footing=J:=by
 rw[AV,AU];kernel_rfl
def Y4:(ej.bound'.all λn=>!builtinNamed n||ej.about==[n]||!ej.reads n)=J:=by
 rw[Kh,AU,Kk];kernel_rfl
def Y5:(namesMeet ej.prog ej.above λa n=>!ej.own.contains n)=J:=by
 rw[AT,Ki];kernel_rfl
set_option maxHeartbeats 0 in
def YZ:ej.wellSaid=J:=by
 unfold OpenLaw.wellSaid OpenRow.wellSaid OpenRow.partSaid looksOpen
 repeat' with_reducible refine wE ?_ ?_
 all_goals first|with_reducible exact Y0|with_reducible exact Y1|with_reducible exact Y2|with_reducible exact Y3|with_reducible exact Y4|with_reducible exact Y5|skip
 all_goals((try rw[AV]);(try rw[AT]);(try rw[Kh]);(try rw[adK]);(try rw[Kj]);(try rw[Kk]);(try rw[AU]);(try rw[Ki]);(try rw[adL]);(try rw[adN]);(try rw[adJ]);(try rw[adE]);kernel_rfl)
def abC:fq.tablesWhole=J:=by
 kernel_rfl
def VF:(chainsOk d2&&opensWell ej.row.prog&&(frees ej.row.toRowW&&ej.row.within.isEmpty))=J:=by kernel_rfl
noncomputable def m2:DefRec:=((defOf d2 ej.row.name).getD (⟨ej.row.name,default,[],default,default⟩,[])).1
def Tl:defOf d2 ej.row.name=A (m2,[]):=by kernel_rfl
def Tk:ej.row.prog.theDef ej.row.name=A (m2.params,m2.body,m2.scope):=by kernel_rfl
def Tn:kwWritten? m2.params.kwonlyargs m2.params.kw_defaults=A []:=by kernel_rfl
abbrev BX:Prop:=WalkO d2 [] (XL d2 []) mE.says ej.row.toRowW m2 [] λa b=>Kl a b
def head(walk:BX):ej.Holds:=
 holds_law YZ λa=>holds_open left mE.of mE.keeps (λa b=>xl_of a (e7.mp b).1) XL.keeps Tl Tk Tn
  (λa b=>recFacts_of (e7.mp b).2) (by rfl) a VF ⟨G,G,G,G,G,abC⟩ ⟨[.list []],by decide+kernel,by decide+kernel⟩ walk
structure wZ where
 ls:I
 w:fa
 cB:am->j U
 jY:am->j U
def tp(b:wZ):Prop:=WalkO d2 [] (λc a=>XL d2 [] c a/\c=b.cB/\∀e,a.Ns g6 e->e=b.jY) (λf a=>mE.says f a/\f=b.w/\b.ls=a.objs.size) ej.row.toRowW m2 [] λg h=>Kl g h
noncomputable def pn:wZ:=@acD wZ ⟨⟨0,⟨λb b=>0,{strHash:=λb=>0,shareClass:=λb=>0,mergeTok:=id,idOf:=λb=>0,idOfShared:=λb b=>0,followText:=λb=>d,idOfImm:=λb=>0}⟩,λb=>M,λb=>M⟩⟩ λa=>¬tp a
noncomputable def bw.ls:I:=pn.ls
noncomputable def bw.w:fa:=pn.w
noncomputable def bw.cB:am->j U:=pn.cB
noncomputable def bw.jY:am->j U:=pn.jY
def UC{a:aq}{b:Q}{c e:am->j U}(f:a.Ns b c)(g:a.Ns b e):e=c:=by
 obtain⟨p,q,r,h,i,v,k⟩:=f;obtain⟨s,t,u,l,m,v,o⟩:=g;obtain rfl:=aG (h.symm.trans l);obtain⟨rfl,_⟩:=H0 (i.symm.trans m);exact funext λn=>(o n).symm.trans (k n)
def UI(g:tp pn):BX:=λb h e c f a i=>acC λn=>acE (p:=λj=>¬tp j) ⟨⟨e.heap.objs.size,b,c,f⟩,λk=>n (k b h e c f ⟨a.T,a.B,a.D,a.TE,a.TD,a.W,⟨a.X,G,λl=>UC a.T.b⟩,a.cls,a.has,a.apart,a.once,a.K⟩ ⟨i,G,G⟩)⟩ g
section
noncomputable def f0:qI:=J8.row.prog
noncomputable abbrev aI:sN:=lI f0 bw.w
noncomputable abbrev k0:=intKind f0 bw.w
noncomputable abbrev jp:=OK f0 bw.w
noncomputable abbrev tz:=strKind f0 bw.w
def rg(a:Q)(b:cn):Prop:=b.cls≠.type "frame"\/a<bw.ls
def ke(a:Q)(b:cn):Prop:=b.cls=.type "frame"/\bw.ls<=a
def rg.no(a:rg g B)(b:ke g B):dT:=a.elim (λa=>a b.1) (hv.mpr b.2)
noncomputable def cL:I->am
 |0=>"bv_numbers"
 |1=>"bank"
 |2=>"tables"
 |3=>"others"
 |4=>"sort_names"
 |5=>"sort_widths"
 |6=>"fun_names"
 |7=>"fun_args"
 |8=>"fun_results"
 |9=>"fresh_count"
 |10=>"term_ops"
 |11=>"term_args"
 |12=>"term_sorts"
 |13=>"term_datas"
 |14=>"numbers"
 |15=>"true_number"
 |16=>"false_number"
 |_=>""
noncomputable def cX:I->Q
 |0=>782
 |_=>865
abbrev L_(c:E Q)(e:aq)(a:I×L)(b:je):Prop:=a.1<17/\(∃f,b.key=.str (cL a.1) f)/\aF c e a.2 b.val
abbrev pa(c:E Q)(e:aq)(a:O×L)(b:O×U):Prop:=b.1=a.1/\aF c e a.2 b.2
abbrev nP(c:E Q)(e:aq)(a:E L×L)(b:E L×Q×U):Prop:=b.1=ci a.1/\gG c e a.1 b.2.1/\aF c e a.2 b.2.2
abbrev lP(a:E Q)(b:aq):E (I×L)->E je->Prop:=cz (L_ a b)
def LQ(e:aq)(c:Q)(f:Prop):Prop:=∀a:cn,∀b:ch je,e.get? c=A a->a.data=.dict b b.size->f
def jq(a:aq)(b:Q):Prop:=aA (LQ a b)
def jq.of(a:B.get? D=A b)(c:b.data=.dict g n)(e:n=g.size):jq B D:=λh f=>f b g a (e▸c)
section
def Mc(c:E Q)(a:aq)(e:Q)(f:E L)(g:Prop):Prop:=∀b:E U,a.PlainList e b.toArray->aC c a f b->g
def L8(c:E Q)(a:aq)(e:Q)(f:E (O×L))(g:Prop):Prop:=∀b:E (O×U),a.DictOf k0 e b->cz (pa c a) f b->g
def L9(c:E Q)(a:aq)(b:Q)(e:E (E L×L))(g:Prop):Prop:=∀f:E (E L×Q×U),a.DictOfH jp b f->jq a b->cz (nP c a) e f->g
def L7(b:aq)(c:Q)(e:Prop):Prop:=∀a:cn,∀f:ch U,∀n:I,b.get? c=A a->a.data=.seq f n->e
def Mb(b:E Q)(e:aq)(c f:Q)(g:I)(h:Prop):Prop:=∀a:Q,b[g]?=A a->e.get? c=A (wz (cX f) a)->h
def Ma(c:E Q)(a:aq)(e:Q)(f:E (I×L))(g:Prop):Prop:=∀b:E je,∀n:I,a.get? e=A (nA b n)->lP c a f b->g
def f3(c:E Q)(a:aq)(b:Q):aO->Prop
 |.list f=>aA (Mc c a b f)
 |.afP e=>aA (L8 c a b e)
 |.afM e=>aA (L9 c a b e)
 |.afT=>∃g h,a.get? b=A {cls:=.type "tuple",data:=.seq #[g,h]}
 |.arg=>aA (L7 a b)
 |.c8 i j=>aA (Mb c a b i j)
 |.afS e=>aA (Ma c a b e)
structure al(f:aq)(e:E Q)(i:N)(h:k):Prop where
 z:∀b a,f.get? b=A a->rg b a->h.heap.get? b=A a
 data:∀b a,f.get? b=A a->∃m,h.heap.get? b=A {a with slots:=m}
 len:e.length=i.length
 aeA:e.Nodup
 fresh:∀g∈e,f.get? g=M
 obj:∀(l:I)(g:Q)(a:aO),e[l]?=A g->i[l]?=A a->f3 e h.heap g a
end
def al.bu(a:al B T ge D):∀g b,B.get? g=A b->b.cls≠.type "frame"->D.heap.get? g=A b:=λg b c e=>a.z g b c (.inl e)
structure ay(F:E Q)(c g:E Q)(e f:k):Prop where
 ext:∃n,g=c++n/\∀h∈n,e.heap.get? h=M
 z:∀a b,e.heap.get? a=A b->rg a b->a∉c->a∉F->f.heap.get? a=A b
 data:∀a b,e.heap.get? a=A b->a∉c->a∉F->∃i,f.heap.get? a=A {b with slots:=i}
 cm:∀a b,e.heap.get? a=A b->∃l,f.heap.get? a=A l
 gens:f.gens=e.gens
 drawn:f.drawn=e.drawn
 os:f.os=e.os
def ay.bu(a:ay F B ge D T):∀b g,D.heap.get? b=A g->g.cls≠.type "frame"->b∉B->b∉F->T.heap.get? b=A g:=λb g c e=>a.z b g c (.inl e)
def ay.of(ext:∃n,ge=T++n/\∀gt∈n,B.heap.get? gt=M)(h6:∀b g,B.heap.get? b=A g->b∉T->b∉F->D.heap.get? b=A g)(f:∀b g,B.heap.get? b=A g->∃kw,D.heap.get? b=A kw)
 (h:D.gens=B.gens) (i:D.drawn=B.drawn) (os:D.os=B.os):ay F T ge B D:=⟨ext,λb g a j c e=>h6 b g a c e,λb g a c e=>⟨g.slots,h6 b g a c e⟩,f,h,i,os⟩
def ay.refl(F b:E Q)(c:k):ay F b b c c:=.of ⟨[],by simp,by simp⟩ (λf f a f f=>a) (λf e a=>⟨e,a⟩) G rfl rfl
def ay.jW(e:ay F D T g B)(c:B.heap.get? b=M):g.heap.get? b=M:=by
 cases f:g.heap.get? b with
 |none=>rfl
 |some h=>obtain⟨i,a⟩:=e.cm b h f;rw[c]at a;cases a
def ay.trans(h:ay F D gt T kw)(i:ay ge gt le kw mp)(p:∀B∈ge,B∈F\/T.heap.get? B=M):ay F D le T mp:=by
 obtain⟨n,k,f1⟩:=h.ext;obtain⟨q,l,f2⟩:=i.ext;subst k;subst l;have j:∀a b,T.heap.get? a=A b->a∉D->a∉F->a∉D++n/\a∉ge:=λa b c f g=>by
  refine⟨λm=>?_,λm=>?_⟩
  .rcases cE.mp m with e|e
   .exact f e
   .have:=f1 a e;rw[c]at this;cases this
  .rcases p a m with e|e
   .exact g e
   .rw[c]at e;cases e
 refine⟨⟨n++q,by simp,λB r=>?_⟩,λa b c o f g=>?_,λa b c f g=>?_,λa b c=>?_,i.gens.trans h.gens,i.drawn.trans h.drawn,i.os.trans h.os⟩
 .rcases cE.mp r with e|e
  .exact f1 B e
  .exact h.jW (f2 B e)
 .exact i.z a b (h.z a b c o f g) o (j a b c f g).1 (j a b c f g).2
 .obtain⟨v,k⟩:=h.data a b c f g;obtain⟨s,l⟩:=i.data a _ k (j a b c f g).1 (j a b c f g).2;exact⟨s,l⟩
 .obtain⟨t,u⟩:=h.cm a b c;exact i.cm a t u
def ay.then(a:ay F b g B D)(c:ay [] g T D ge):ay F b T B ge:=a.trans c (by simp)
def ay.eJ(a:ay F b g B D)(c:ay F g T D ge):ay F b T B ge:=a.trans c λf e=>.inl e
def ay.gB(a:ay [] g B D T):ay F g B D T:=⟨a.ext,λb c e h f i=>a.z b c e h f (by simp),λb c e f i=>a.data b c e f (by simp),a.cm,a.gens,a.drawn,a.os⟩
def ay.sv(a:ay F b g B D):bW B.heap b g:=by obtain⟨n,c,e⟩:=a.ext;rw[c];exact bW.c7 _ _ e
def ay.toks(b:k)(c:I):ay F g g b {b with toks:=c}:=.of ⟨[],by simp,by simp⟩ (λf f a f f=>a) (λf e a=>⟨e,a⟩) G rfl rfl
def ay.push(e:E Q)(a:k)(b:cn)(f:I):ay [] e e a {a with heap:=a.heap.push b,toks:=f}:=
 .of ⟨[],by simp,by simp⟩ (λh h c h h=>bU b c) (λh g c=>⟨g,bU b c⟩) G rfl rfl
def ay.bm(e:E Q)(a:k)(h:I)(f:∀g b,a.heap.get? g=A b->B.get? g=A b):ay [] e e a {a with heap:=B,toks:=h}:=
 .of ⟨[],by simp,by simp⟩ (λg b c i i=>f g b c) (λg b c=>⟨b,f g b c⟩) G rfl rfl
section
variable{e:aq}{a i:E Q}{g:N}{b h:k}
def LB(a:E Q)(c:aq)(e:I)(f:aO)(g:Prop):Prop:=∀b:Q,a[e]?=A b->f3 a c b f->g
def al.d0(f:al e a g b)(c:g[B]?=A D):aA (LB a b.heap B D):=by
 have h:B<a.length:=by rw[f.len];exact(d6.mp c).1
 exactλj i=>i a[B] (e8 h) (f.obj B _ D (e8 h) c)
def ay.ab(f:ay F a i b h)(g:∀D∈F,∀B,b.heap.get? D=A B->∀T n,B.data≠.seq T n):b4 a b.heap h.heap:=λD B j c k⟨T,n,l⟩=>
 f.bu D B c (by rw[k];simp) j λe=>g D e B c T n l
def al.ab(c:al e a g b)(f:ay [] a i b h):b4 a b.heap h.heap:=f.ab (by simp)
def al.fW(l:al e a g b)(f:ay [] a i b h){c:L}{j:U}(m:aF a b.heap c j):aF i h.heap c j:=m.bm f.sv (l.ab f)
def al.iH(l:al e a g b)(f:ay [] a i b h)(c:aC a b.heap B D):aC i h.heap B D:=aC.bm f.sv (l.ab f) c
def f3.bm(g:f3 a D T B)(h:bW D a i)(j:b4 a D ge)(dN:ge.get? T=D.get? T):f3 i ge T B:=by
 cases B with
 |list k=>refine g _ λl t b=>?_;obtain⟨n,c⟩:=t;exactλU e=>e l ⟨n,dN.trans c⟩ (b.bm h j)
 |afP k=>refine g _ λl u b=>?_;obtain⟨B,m,o,c,p⟩:=u;exactλU e=>e l ⟨B,m,o,dN.trans c,p⟩ (b.imp λU U b=>⟨b.1,b.2.bm h j⟩)
 |afM k=>
  refine as λU v=>g _ λf w x b=>?_;obtain⟨B,m,o,c,p,y,z,Q,C⟩:=w;refine x _ λE F H I=>v ?_;have s:cz (nP i ge) k f:=b.imp λU U b=>⟨b.1,b.2.1.bm h j,b.2.2.bm h j⟩;exactλU e=>e f ⟨B,m,o,dN.trans c,p,y,z,λg K=>(s.mem K).elim λU b=>⟨_,b.2.1.bare,b.1.symm⟩,C⟩ (λU e=>e E F (dN.trans H) I) s
 |afT=>obtain⟨q,r,c⟩:=g;exact⟨q,r,dN.trans c⟩
 |arg=>refine g _ λq r n c L=>?_;exactλU e=>e q r n (dN.trans c) L
 |c8 R S=>refine g _ λN O c=>?_;exactλU e=>e N (h.1 _ _ O) (dN.trans c)
 |afS k=>refine g _ λP n c b=>?_;exactλU e=>e P n (dN.trans c) (b.imp λU U b=>⟨b.1,b.2.1,b.2.2.bm h j⟩)
def f3.cm(b:f3 a B D T):∃ge,B.get? D=A ge:=by
 cases T with
 |list c=>refine b _ λj e j=>?_;obtain⟨j,B⟩:=e;exact⟨_,B⟩
 |afP c=>refine b _ λj f j=>?_;obtain⟨j,j,j,B,j⟩:=f;exact⟨_,B⟩
 |afM c=>refine b _ λj g j j=>?_;obtain⟨j,j,j,B,j⟩:=g;exact⟨_,B⟩
 |afT=>obtain⟨j,j,B⟩:=b;exact⟨_,B⟩
 |arg=>refine b _ λj j j B j=>?_;exact⟨_,B⟩
 |c8 h i=>refine b _ λj j B=>?_;exact⟨_,B⟩
 |afS c=>refine b _ λj j B j=>?_;exact⟨_,B⟩
def al.cm(f:al e a g b)(i:B∈a):∃D,b.heap.get? B=A D:=by
 obtain⟨c,h⟩:=Jc.mp i;exact(f.obj c B _ h (e8 ((by rw[<-f.len];exact(d6.mp h).1):c<g.length))).cm
def al.lv(f:al e a g b)(c:e.get? B=A D):B∉a:=λh=>by
 have:=f.fresh B h;rw[c]at this;exact nomatch this
theorem al.quiet(f:al e a g b)(l:ay F a a b h)(m:∀B∈F,e.get? B=M)(p:b4 a b.heap h.heap)(q:∀B∈a,h.heap.get? B=b.heap.get? B):al e a g h where
 z c j i n:=l.z c j (f.z c j i n) n (f.lv i) (λk=>by have:=m c k;rw[i]at this;exact nomatch this)
 data c j i:=by
  obtain⟨w,r⟩:=f.data c j i;obtain⟨s,t⟩:=l.data c _ r (f.lv i) (λk=>by have:=m c k;rw[i]at this;exact nomatch this);exact⟨s,t⟩
 len:=f.len
 aeA:=f.aeA
 fresh:=f.fresh
 obj u B j o v:=(f.obj u B j o v).bm (bW.refl _) p (q B (d7 o))
def al.bm(h:al e a g b)(i:I)(c:∀D B,b.heap.get? D=A B->T.get? D=A B):al e a g {b with heap:=T,toks:=i}:=
 h.quiet (ay.bm a b i c) (by simp) (λD B l f l l=>c D B f) λj k=>by
  obtain⟨B,f⟩:=h.cm k;exact(c j B f).trans f.symm
def al.lt(f:al e a g b)(c:B∈a):B<b.heap.objs.size:=by
 obtain⟨i,h⟩:=f.cm c;exact du h
def al.ns(f:al e a g b)(n:e.Ns B D):b.heap.Ns B D:=by
 refine as λp c=>?_;obtain⟨h,i,j,k,l⟩:=n;obtain⟨o,m⟩:=f.data B h k;exact c (⟨_,i,j,m,l⟩)
def al.push(h:al e a g b)(c:cn)(f:I):al e a g {b with heap:=b.heap.push c,toks:=f}:=
 h.bm f λj j i=>bU c i
def al.toks(f:al e a g b)(c:I):al e a g {b with toks:=c}:=f.bm c λi i h=>h
def al.nc(f:al e a g b)(h:b.heap.get? B=M):B∉a:=λi=>by obtain⟨j,c⟩:=f.cm i;rw[h]at c;cases c
def al.su(f:al e a g b):b.heap.objs.size∉a:=f.nc (aq.kD _)
def al.qe(i:al e a g b)(q:I)(c:aO)(o:b.heap.get? D=M)(l:∀B c,b.heap.get? B=A c->T.get? B=A c)(t:f3 (a++[D]) T D c):
 al e (a++[D]) (g++[c]) {b with heap:=T,toks:=q}/\ay [] a (a++[D]) b {b with heap:=T,toks:=q}:=by
 have r:=i.bm q l;have u:D∉a:=λf=>by obtain⟨c,h⟩:=i.cm f;rw[o]at h;exact nomatch h
 refine⟨⟨r.z,r.data,by simp[i.len],?_,?_,?_⟩,.of ⟨[D],G,by simpa using o⟩ (λB c h y y=>l B c h) (λB c h=>⟨c,l B c h⟩) G rfl rfl⟩
 .rw[sL];refine⟨i.aeA,by simp,λB e x p=>?_⟩;simp only[b2]at p;subst p;exactλh=>u (h▸e)
 .intro B p;rcases cE.mp p with f|f
  .exact i.fresh B f
  .simp only[b2]at f;subst f;cases m:e.get? B with
   |none=>rfl
   |some c=>obtain⟨y,f⟩:=i.data B c m;rw[o]at f;exact nomatch f
 .intro n B s j k;rcases sS n a.length with f|f
  .replace j:=(eK f)▸j;replace k:=(eK (by rw[<-i.len];exact f))▸k;exact((i.obj n B s j k).bm (bW.gA o) (λB c y h y y=>l B c h) (by obtain⟨v,h⟩:=(i.obj n B s j k).cm;exact(l B v h).trans h.symm))
  .replace j:=(qr f)▸j;replace k:=i.len.symm▸(qr (by rw[<-i.len];exact f))▸k;have w:n-a.length=0:=by
    rcases Jt (n-a.length)with m|m
    .exact m
    .rw[qs (by simp;exact FU m)]at j;exact nomatch j
   rw[w]at j k;simp only[E.getElem?_cons_zero,wd]at j k;subst j;subst k;exact t
def al.qf(h:al e a g b)(c:cn)(f:aO)(i:f3 (a++[b.heap.objs.size]) (b.heap.push c) b.heap.objs.size f):
 al e (a++[b.heap.objs.size]) (g++[f]) {b with heap:=b.heap.push c}/\ay [] a (a++[b.heap.objs.size]) b {b with heap:=b.heap.push c}:=
 h.qe b.toks f (aq.kD _) (λk k j=>bU c j) i
def al.set(i:al e a g b)(k:I)(m:a[T]?=A B)(o:ek B b.heap D)(q:f3 a D B XV):
 al e a (bd g T XV) {b with heap:=D,toks:=k}/\ay [] a a b {b with heap:=D,toks:=k}:=by
 have c:ay [] a a b {b with heap:=D,toks:=k}:=by
  refine .of ⟨[],by simp,by simp⟩ (λf XV h t y=>(o.2 f (λn=>t (n▸(d7 m:B∈a)))).trans h) (λf XV h=>?_) G rfl rfl;by_cases r:f=B
  .subst r;exact q.cm
  .exact⟨XV,(o.2 f r).trans h⟩
 refine⟨⟨λf XV h s=>c.z f XV (i.z f XV h s) s (i.lv h) (by simp),λf XV h=>let⟨_,u⟩:=i.data f XV h;let⟨v,w⟩:=c.data f _ u (i.lv h) (by simp);⟨v,w⟩,by simp[bd,i.len],i.aeA,i.fresh,?_⟩,c⟩;intro p f x l j;by_cases h:p=T
 .subst h;replace l:=m▸l;obtain rfl:=aG l;unfold bd at j;replace j:=(v3 ((by rw[<-i.len];exact(d6.mp m).1):p<g.length))▸j;obtain rfl:=aG j;exact q
 .unfold bd at j;replace j:=(oD (dA h))▸j;refine(i.obj p f x l j).bm (bW.refl _) (i.ab c) (o.2 f λn=>h ?_);subst n;exact(I3 (d6.mp l).1 i.aeA).mp (l.trans m.symm)
end
end
section
def Ut:fillsNumberSlot (.type "tuple") "mul"=pure d:=
 PySem.fillsNumberSlot_seq (id:="tuple.__mul__") (r:=A (.builtin "tuple.__rmul__")) zU.lookup (by decide+kernel) Ii.lookup (by decide+kernel)
def YB:seqRepeat? (.type "tuple")=pure (A (.builtin "tuple.__mul__")):=by
 unfold seqRepeat?;refine(Km (T:="tuple") (name:="__mul__") (id:="tuple.__mul__") zU.lookup (by decide+kernel)).symm▸(Km (T:="tuple") (name:="__rmul__") (id:="tuple.__rmul__") Ii.lookup (by decide+kernel)).symm▸?_;rfl
section
variable{a:j Q}{b:ch (j U)}
def SJ(f:O)(i:j5)(e:Q)(j:ch U)(n:I):
 nr (Builtin.«int.__rmul__» ⟨[.int f i,.ref e],[]⟩) (λt h g=>g.heap.get? e=A {cls:=.type "tuple",dict:=a,data:=.seq j n,slots:=b}/\h (.ok (.ret U.notImplemented)) g):=
 .of_wp λk l m h g c=>by obtain⟨o,p,q,r,os⟩:=g;obtain⟨s,c⟩:=c;wp_walk;exact⟨_,G,c⟩
def Ug(c:Q)(f:ch U)(n:I)(i:j5):
 nr (Builtin.«tuple.__mul__» ⟨[.ref c,.int 1 i],[]⟩) (λs h g=>g.heap.get? c=A {cls:=.type "tuple",dict:=a,data:=.seq f n,slots:=b}/\h (.ok (.ret (.ref c))) g):=
 .of_wp λk l m h g e=>by obtain⟨o,p,q,r,os⟩:=g;obtain⟨j,e⟩:=e;have f1:=zH;have f2:=zI;wp_walk using sx j;(try(simp;done));exact⟨_,G,e⟩
def Ue(h:Q)(e:ch U)(n:I)(k:j5)(c:O)(l:¬(decide (c< -(2^63))||decide (c>=2^63))=J)(m:¬(e.isEmpty||c==1)=J)(o:(decide (c<=0)||e.isEmpty)=J):
 nr (Builtin.«tuple.__mul__» ⟨[.ref h,.int c k],[]⟩) (λw i g=>g.heap.get? h=A {cls:=.type "tuple",dict:=a,data:=.seq e n,slots:=b}/\i (.ok (.ret (.ref g.heap.objs.size))) {g with heap:=g.heap.push {cls:=.type "tuple",data:=.seq #[]}}):=
 .of_wp λp q r i g f=>by obtain⟨s,t,u,v,os⟩:=g;obtain⟨j,f⟩:=f;have f1:=zH;have f2:=zI;wp_walk using sx j;rw[bZ l];wp_walk using sx j;exact⟨_,G,f⟩
def Ud(j:Q)(f:ch U)(n:I)(m:j5)(e:O)(o:¬(decide (e< -(2^63))||decide (e>=2^63))=J)(q:¬(f.isEmpty||e==1)=J)(r:¬(decide (e<=0)||f.isEmpty)=J)
 (p:¬((f.size:O)*e>(2^63-1)/8)) (s:¬HV (f.size*e)=J) (t:((hu e.toNat f).foldl (λh i=>h++i) #[]).size<=cr):
 nr (Builtin.«tuple.__mul__» ⟨[.ref j,.int e m],[]⟩) (λC l g=>g.heap.get? j=A {cls:=.type "tuple",dict:=a,data:=.seq f n,slots:=b}/\l (.ok (.ret (.ref g.heap.objs.size))) {g with heap:=g.heap.push {cls:=.type "tuple",data:=.seq ((hu e.toNat f).foldl (λh i=>h++i) #[])}}):=
 .of_wp λu v w l g c=>by obtain⟨x,y,z,B,os⟩:=g;obtain⟨k,c⟩:=c;have f1:=zH;have f2:=zI;wp_walk using sx k;rw[bZ o];wp_walk using sx k;rw[bZ p];wp_walk;exact⟨_,G,c⟩
end
section
variable{b:bF}{e:U->k->Prop}{a:k}{f:j Q}{g:ch (j U)}
def zm{j:Q}{m:ch U}{n:I}{h:O}{i:j5}{c:PySem.Spec}{o:U->k->Prop}(l:a.heap.get? j=A {cls:=.type "tuple",dict:=f,data:=.seq m n,slots:=g})
 (p:nr (Builtin.«tuple.__mul__» ⟨[.ref j,.int h i],[]⟩) c) (q:c b (wants o e) a):av aI b (mw .Mult (.ref j) (.int h i)) o e a:=
 wpAny_binaryOp_repeat_ref (T:="tuple") (U:="int") G ⟨_,l,G⟩ (λr=>typeIs_int r h i) Ut F.fills_int_mul Ih YB F.slot_int_index.lookup
  (wl Ih (typeIs_int a h i) F.entry_int_rmul (F.args_int_rmul_2 _ _) (SJ h i j m n)
   ⟨l,G,⟨_,l,G⟩,wl zU ⟨_,l,G⟩ F.entry_tuple_mul (F.args_tuple_mul_2 _ _) p q⟩)
end
end
section
section
variable{e:aq}{b c:E Q}{h:N}{a i:k}{g:bF}
def cs(e:aq)(g:bF)(b:E Q)(a:k)(j:ef U)(l:L)(m:N):Prop:=
 ∀(f:U->k->Prop)(n:U->k->Prop),(∀c i h,ay [] b c a i->al e c m i->aF c i.heap l h->f h i)->av aI g j f n a
def fC(c:al e b h a)(f:aF b a.heap p o)
 (i:∀(l:U->k->Prop)(m:U->k->Prop),l o a->av aI g q l m a):cs e g b a q p h:=
 λl m j=>i l m (j b a o (ay.refl [] b a) c f)
def pE(f:al e b h a)
 (c:∀(l:U->k->Prop)(o:U->k->Prop),(∀p m,l (.int q p) {a with toks:=m})->av aI g r l o a):cs e g b a r (.int q) h:=
 λl o i=>c l o λp m=>i b _ _ (ay.toks a m) (f.toks m) ⟨p,G⟩
def xY(f:al e b h a)
 (c:∀(l:U->k->Prop)(o:U->k->Prop),(∀p m,l (.str q p) {a with toks:=m})->av aI g r l o a):cs e g b a r (.str q) h:=
 λl o i=>c l o λp m=>i b _ _ (ay.toks a m) (f.toks m) ⟨p,G⟩
def xZ(f:al e b h a)(c:aC b a.heap q p)
 (i:∀(m:U->k->Prop)(o:U->k->Prop),(∀n l,m (.ref a.heap.objs.size) {a with heap:=a.heap.push {cls:=.type "tuple",data:=.seq p.toArray n},toks:=l})->av aI g r m o a):
 cs e g b a r (.ab q) h:=
 λm o j=>i m o λn l=>j b _ _ (ay.push b a _ l) (f.push _ l) (λt s=>s _ p G ⟨_,dt _ G,G,n,G⟩ (f.iH (ay.push b a _ l) c) f.su)
def So(i:al e b h a)(j:aC b a.heap q o)
 (r:∀(l:U->k->Prop)(p:U->k->Prop),(∀n m,l (.ref a.heap.objs.size) {a with heap:=a.heap.push {cls:=.type "list",data:=.seq o.toArray n},toks:=m})->av aI g s l p a):
 cs e g b a s (.ref h.length) (h++[.list q]):=by
 intro l p t;refine r l p λn m=>?_;have f:=i.qf {cls:=.type "list",data:=.seq o.toArray n} (.list q) (λu c=>c o ⟨n,dt _ G⟩ (aC.bm (bW.gA (aq.kD _)) (λu u u f u u=>bU _ f) j));refine t _ _ _ (f.2.then (ay.toks (g:=b++[a.heap.objs.size]) (F:=[]) _ m)) (f.1.toks m) (λu c=>c a.heap.objs.size ?_ G);rw[<-i.len];simp
def L3(e:aq)(g:bF)(h:j Q)(i:Prop):Prop:=∀ff:b9,∀c:E b9,g.frames=A (ff::c)->ff.scope.isGenerator=d->ff.scope.isCoroutine=d->ff.builtins=g6->ff.globals=eN->ff.frame=h->(ff.scope.kind=.function)->(∀f∈c,f.scope.kind=.function/\∃a b,f.frame=A a/\e.get? a=A b/\ke a b/\∃k n,b.data=.dict k n)->i
structure cC(e:aq)(a:ah)(n:I)(g:bF)(b:b9):Prop where
 depth:g.depth+5*n<=800
 units:g.units+200*n+2000<=cy
 cq:aA (L3 e g b.frame)
 guards:g.guards=A []
 hand:a=J->g.handled=M
 quiet:g.handled=M\/∃(l:Q)(m:cn)(o:ch U),g.handled=A (.ref l)/\e.get? l=A m/\m.data=.fields o/\o[2]?=A .none
structure fZ(e:aq):Prop where
 lu:∃l:aq,(∀o m,l.get? o=A m->e.get? o=A m/\m.cls≠.type "frame")/\l.NoLimit/\l.NoSeer
 tree:f0.given.tree=M
def al.HF(m:al e b h a)(i:fZ e)(l:cC e D n g B):PylongRoom aI g a:=by
 refine as λv o=>l.cq _ λB u f1 f2 p q r v v v=>?_;obtain⟨s,sub,t,ns⟩:=i.lu;refine o ?_;have j:∀c f,s.get? c=A f->a.heap.get? c=A f:=λc f k=>m.bu c f (sub c f k).1 (sub c f k).2;refine adO (t.keeps j) ?_ (SeerAt.of (ns.keeps j) i.tree f1 f2 p q r);have:=l.depth;exact XJ ((ap G):vT<=150) this (G:hz=1000)
def yI(a:i9 l=J):l.natAbs.log2<1000:=dE a
def CK(a:i9 l=J):HS l<=2^20:=by
 have:=yI a;unfold HS
 split<;>omega
def Ua(a:i9 l=J)(e:i9 m=J):IntMulOk l m:=ac7 (CK a) (CK e)
noncomputable def pR:ra->Operator
 |.add=>.Add|.sub=>.Sub|.mul=>.Mult|.fdiv=>.FloorDiv|.mod=>.Mod|.shl=>.LShift|.shr=>.RShift|.band=>.BitAnd|.bor=>.BitOr|.bxor=>.BitXor|.pow=>.Pow
def Yy(f:E U):∀(n:I)(l:ch U),((hu n f.toArray).foldl (λm o=>m++o) l).toList=l.toList++(hu n f).flatten:=by
 intro a
 induction a with
 |zero=>
  intro l;simp
 |succ n b=>
  intro l;rw[At,nm,b];simp[At]
def YA(a:aC b l m o):∀n:I,aC b l (hM n m) (hu n o).flatten:=by
 intro c
 induction c with
 |zero=>
  simp[hM,aC]
 |succ n e=>
  exact At.symm▸E.flatten_cons.symm▸(a.append (e))
def kB(e:l.fk=A m)(c:aF b a.heap l o):∃p,o=.int m p:=by
 replace c:=(pH e)▸c;exact c
def pB(c:al e b h a)(f:A m=A o)(i:∀(l:U->k->Prop)(p:U->k->Prop),(∀q r,l (.int m q) {a with toks:=r})->av aI g s l p a):cs e g b a s (.int o) h:=by
 obtain rfl:=aG f;exact pE c i
def pC(f:al e b h a)(c:a4 m (A o)=A p)(i:m=J->∀(l:U->k->Prop)(q:U->k->Prop),(∀r s,l (.int o r) {a with toks:=s})->av aI g t l q a):cs e g b a t (.int p) h:=
 pB f (cf c).2 (i (cf c).1)
def SM(i:al e b h a)(p:fZ e)(q:cC e u n g v)(j:ul o r s=A t):cs e g b a (mw (pR o) (.int r w) (.int s x)) (.int t) h:=by
 cases o with
 |add=>exact pB i j λk l c=>adk (c _ _)
 |sub=>exact pB i j λk l c=>adx (c _ _)
 |mul=>exact pC i j λf k l c=>adr (c _ _) (have f:=e7.mp f;Ua f.1 f.2)
 |fdiv=>exact pC i j λf k l c=>adn (dE f) (c _ _) (Or.inr (i.HF p q))
 |mod=>exact pC i j λf k l c=>adq (dE f) (c _ _)
 |shl=>exact pC i j λf k l c=>have m:=dE f;adp m.1 (FZ m) m.2.2 (c _ _)
 |shr=>exact pC i j λf k l c=>adv (dE f) (c _ _)
 |band=>exact pB i j λk l c=>adm (c _ _)
 |bor=>exact pB i j λk l c=>adt (c _ _)
 |bxor=>exact pB i j λk l c=>ady (c _ _)
 |pow=>exact pC i j λf k l c=>have m:=dE f;adu m.1 (FZ m) m.2.2 (c _ _)
def zl{a:aq}{b:Q}{f:ch U}(c:iI a b f):∃l n m,a.get? b=A {cls:=.type "tuple",dict:=l,data:=.seq f n,slots:=m}:=by
 refine as λh e=>?_;obtain⟨⟨cls,l,data,m⟩,g,rfl,n,rfl⟩:=c;exact e (⟨l,n,m,g⟩)
def aaj(m:al e b h a)(L:x.length+y.length<1000000)(z:aF b a.heap (.ab x) T)(B:aF b a.heap (.ab y) ge):cs e g b a (mw .Add T ge) (.ab (x++y)) h:=by
 refine as λU N=>z _ λi l O C o P=>?_;clear z;subst O;refine B _ λj aB Q D p R=>?_;clear B;subst Q;have H:=o.length;have K:=p.length;obtain⟨q,n,r,c⟩:=zl C;obtain⟨s,t,u,f⟩:=zl D;refine N ?_;by_cases v:l=[]
 .subst v;exact(Aj.mp H.symm).symm▸(fC m (o:=.ref j) (λU w=>w j aB G D p R) λE F k=>wo ⟨_,c,G⟩ ⟨_,f,G⟩ Bp Bu AS AM (AL _ _)
   (tuple_addW0 i j [].toArray aB.toArray n t q s r u G) ⟨c,f,k⟩)
 .by_cases I:aB=[]
  .subst I;rw[Aj.mp K.symm,gX];exact fC m (o:=.ref i) (λU w=>w i l G C o P) λE F k=>wo ⟨_,c,G⟩ ⟨_,f,G⟩ Bp Bu AS AM (AL _ _)
    (tuple_addW1 i j l.toArray [].toArray n t q s r u (by simpa using v) G) ⟨c,f,k⟩
  .refine xZ m (o.append p) λE F k=>wo ⟨_,c,G⟩ ⟨_,f,G⟩ Bp Bu AS AM (AL _ _)
    (tuple_addW2 i j l.toArray aB.toArray n t q s r u (by simpa using v) (by simpa using I) (by have S:cr=2^24:=G;rw[eV,eV];exact EZ L H K S)) ⟨c,f,?_⟩
   rw[IP];exact k 0 a.toks
def aak(o:al e b h a)(f:0<=l/\l<=1000/\m.length=1)(r:aF b a.heap (.ab m) B):cs e g b a (mw .Mult B (.int l p)) (.ab (hM l.toNat m)) h:=by
 refine r _ λk L C s q D=>?_;clear r;subst C;obtain⟨c,rfl⟩:=E.length_eq_one_iff.mp (q.length.trans f.2.2);obtain⟨N,n,P,j⟩:=zl s;by_cases t:l=1
 .subst t;exact fC o (o:=.ref k) (λQ F=>F k [c] rfl s ((show hM (1:O).toNat m=m from gX m).symm▸q) D) λu v i=>zm j (Ug k _ n p) ⟨j,i⟩
 .have w:¬(decide (l< -(2^63))||decide (l>=2^63))=J:=by
   rw[sy,j8,j8];exact(λi=>i.elim (λc=>nl.mpr c (hs (by decide) f.1)) λc=>lA.mpr (hs c f.2.1) (by decide))
  have x:¬(([c].toArray).isEmpty||l==1)=J:=by simp[t]
  by_cases y:l<=0
  .obtain rfl:l=0:=(O.le_antisymm y f.1);exact xZ (q:=[]) (p:=[]) o (aC.eY.mpr G) λu v i=>zm j (Ue k _ n p 0 w x G) ⟨j,i 0 a.toks⟩
  .have H:¬(decide (l<=0)||([c].toArray).isEmpty)=J:=by simp[y]
   have z:((hu l.toNat [c].toArray).foldl (λK c=>K++c) #[])=(hu l.toNat [c]).flatten.toArray:=ch.toList_inj.mp ((Yy [c] l.toNat #[]).trans (G));refine xZ o (YA q l.toNat) λu v i=>zm j (Ud k _ n p l w x H (by simp;exact(hs f.2.1 (by decide))) (by
    simp[HV,cr];exact(hs f.2.1 (by decide))) (by
    rw[z,eV,((by simp):(hu l.toNat [c]).flatten.length=l.toNat)];exact(v1.mpr (hs f.2.1 ((G:cr=2^24).symm▸(by decide:(1000:O)<=((2^24:I):O))))))) ⟨j,?_⟩
   exact z.symm▸(i 0 a.toks)
def ZK(c:al e b h a)(f:(ma l&&ma m)=J)(i:aF b a.heap (.str l) o)(j:aF b a.heap (.str m) p):cs e g b a (mw .Add o p) (.str (l++m)) h:=by
 rw[eB]at f;obtain⟨t,rfl⟩:=i;obtain⟨t,rfl⟩:=j;exact xY c λr s k=>adl (λn q=>k n q) (VV (dE f.1:l.length<100000) (dE f.2:m.length<100000) (G:cr=2^24))
def XO(j:al e b h a)(r:fZ e)(s:cC e B n g D)(c:u1 m q t=A u)(k:aF b a.heap q v)(i:aF b a.heap t w):
 cs e g b a (mw (pR m) v w) u h:=by
 cases q with
 |int p=>
  refine bh c _ λo f c=>?_;obtain⟨C,x,rfl⟩:=jn.mp c;obtain⟨E,rfl⟩:=k;obtain⟨y,rfl⟩:=kB f i;exact SM j r s x
 |ab p=>
  cases m with
  |add=>
   refine bh c _ λo f c=>?_;obtain⟨l,c⟩:=cf c;exact aG c▸aaj j (dE l) k (vx f▸i)
  |mul=>
   refine bh c _ λo f c=>?_;obtain⟨l,c⟩:=cf c;obtain⟨y,rfl⟩:=kB f i;exact aG c▸aak j (dE l) k
  |_=>exact no c
 |str p=>
  cases m with
  |add=>
   refine bh c _ λo f c=>?_;obtain⟨l,c⟩:=cf c;exact aG c▸ZK j l k (za f▸i)
  |_=>exact no c
 |bool p=>
  cases m with
  |sub=>
   refine bh c _ λo f c=>?_;obtain rfl:=aG c;obtain rfl:=k;replace i:=(NB f)▸i;obtain rfl:=i;exact pE j λF H z=>adw (z _ _)
  |_=>exact no c
 |_=>exact no c
end
end
section
section
variable{c:aq}{a h:E Q}{e:N}{b i:k}{f:bF}{g:ah}{n:I}
def al.vL(g:al c a e b)(h:ds e T=A ge):aA (kW (λB D=>e1 (a[T]?=A B) (b.heap.PlainList B (oI D)) (aC a b.heap ge D))):=by
 exact as λn i=>g.d0 (l0 h) _ λB j k=>k _ λD l m=>i (λn f=>f B D (λn f=>f j l m))
def aF.mj{c:I}{e:Q}{f:U}{h:aq}(g:aF a h (.ref c) f)(i:a[c]?=A e):f=.ref e:=by
 refine g _ λk b j=>?_;clear g;subst j;replace b:=i▸b;obtain rfl:=aG b;rfl
def TG(g:al c a e b)(q:ds e r=A l)(s:ds e t=A m)(u:l.length+m.length<1000000)(v:aF a b.heap (.ref r) w)(x:aF a b.heap (.ref t) y):
 cs c f a b (mw .Add w y) (.ref e.length) (e++[.list (l++m)]):=by
 refine as λP z=>g.vL q _ λB C h=>h _ λD E i=>?_;clear h;obtain⟨n,j⟩:=E;refine g.vL s _ λF aB k=>k _ λH I o=>?_;clear k;obtain⟨K,p⟩:=I;refine z ((v.mj D).symm▸(x.mj H).symm▸(So g (i.append o) λN O L=>wo ⟨_,j,G⟩ ⟨_,p,G⟩ noFill_list_add seq_list_add PySem.F.slot_list_add PySem.F.entry_list_add (PySem.F.args_list_add_2 _ _)
  (list_addW B F C.toArray aB.toArray n K M M _ _ (by rw[eV,eV];exact EZ u i.length o.length (G:cr=2^24))) ⟨j,p,?_⟩))
 rw[IP];exact L 0 b.toks
def Ni(r:al c a e b)(v:fZ c)(w:cC c g n f D)(h:c2 e o l s=A (m,p))(i:aF a b.heap l q)(t:aF a b.heap s u):
 cs c f a b (mw (pR o) q u) m p:=by
 have aT:∀{l},aF a b.heap l q->((u1 o l s).map λm=>(m,e))=A (m,p)->cs c f a b (mw (pR o) q u) m p:=λi h=>by
  refine as λK j=>?_;obtain⟨C,k,x⟩:=jn.mp h;exact j (dF (bj A x) (XO r v w k i t))
 cases l with
 |ref E=>
  cases o with
  |add=>
   refine as λK j=>bh h _ λF k h=>bh h _ λH y h=>bh h _ λI z h=>?_;obtain⟨B,h⟩:=cf h;exact j (dF h (TG r y z (dE B) i (kA k▸t)))
  |_=>exact no h
 |_=>exact aT i h
def mb(c:cN l=A m)(e:aF a p l o)(h:ah->k->Prop)(i:U->k->Prop)(g:h m b):av aI f (wQ o) h i b:=by
 cases l with
 |bool j=>obtain rfl:=e;exact wpAny_truthy_bool (aG c▸g)
 |int n=>obtain⟨q,rfl⟩:=e;exact P.truthy_int (aG c▸g)
 |none=>obtain rfl:=e;exact truthy_none (aG c▸g)
 |_=>exact no c
def Un(g:al c a e b)(h:aF a b.heap (.int l) m):cs c f a b (unaryOp .USub m) (.int (-l)) e:=by
 obtain⟨n,rfl⟩:=h;exact pE g λj k i=>P.neg_int (i _ _)
def Uy(g:al c a e b)(h:cN m=A l)(i:aF a b.heap m o):cs c f a b (unaryOp .Not o) (.bool (!l)) e:=
 fC (o:=.bool (!l)) g G λk n j=>not_of (mb h i _ _ j)
end
end
section
def Ek{c f:Type}[ly c](a:c)(b:E (c×f)):b.lookup a=(b.find? λg=>decide (g.1=a)).map (·.2):=by
 induction b with
 |nil=>rfl
 |cons g b h=>
  obtain⟨e,j⟩:=g;have i:(a==e)=decide (e=a):=lH.mpr ⟨ni,ni⟩;rw[fX,sH,h,i];cases decide (e=a)<;>rfl
section
variable{l:aq}{a p:E Q}{m:N}{o q:k}{r:bF}{i:ah}{n:I}
def al.nd(b:al l a m o)(e:fZ l)(c:g∈a):(g==qT)=d:=by
 refine as λn f=>?_;obtain⟨j,sub,n,ns⟩:=e.lu;obtain⟨k,⟨h,n,n,i,n⟩,n⟩:=ns.mods;exact f (nx.mpr (by rintro rfl;exact b.lv ((sub _ h i).1) c))
def hl(i:bV b=J):b<1000000:=dE i
section
variable{b:aq}{e:E (O×L)}{g:E (O×U)}{h:E (E L×L)}{f:E (E L×Q×U)}{c:L}{k:U}
def D1{e f:Type}{c:e->f->Prop}{a:Prop}[oy a]{g h:e}{j k:f}(i:c g j)(l:c h k):c (if a then g else h) (if a then j else k):=by
 by_cases b:a
 .rw[cd b,cd b];exact i
 .rw[bZ b,bZ b];exact l
def pf(h:cz (pa a b) e g)(c:O):gk (aF a b) (dx c e) (mz g c):=by
 show gk _ (e.lookup c) _;rw[Ek];exact(h.find λi i f=>f.1▸G).map λi i f=>f.2
def pg(i:cz (nP a b) h f)(g:E L):gk (λc s=>aF a b c s.2) (c4 g h) (sZ f (ci g)):=(i.find λj j e=>e.1▸G).map λj j e=>e.2.2
def MJ(h:cz (pa a b) e g)(l:aF a b c k)(f:O):cz (pa a b) (h8 f c e) (oY g f k):=by
 have i:g.any (λp=>decide (p.1=f))=(dx f e).isSome:=(E.isSome_find?.symm.trans j.isSome_map.symm).trans (pf h f).is;delta h8 oY;rw[i];cases(dx f e).isSome with
 |false=>exact h.gA ⟨G,l⟩
 |true=>exact h.map λi m o=>by obtain⟨n,m⟩:=m;obtain rfl:n=i.1:=o.1;exact D1 (c:=pa a b) ⟨G,l⟩ o
def MK(e:cz (nP a b) h f)(i:aF a b c k)(l:gG a b s t):cz (nP a b) (i7 s c h) (oZ f (ci s) t k):=by
 delta i7 oZ;rw[(pg e s).is];cases(c4 s h).isSome with
 |false=>exact e.gA ⟨G,l,i⟩
 |true=>exact e.map λm j g=>by obtain⟨n,j⟩:=j;obtain rfl:n=ci m.1:=g.1;exact D1 (c:=nP a b) ⟨G,g.2.1,i⟩ g
end
end
end
section
section
variable{c:aq}{b o:E Q}{j:N}{a m:k}{i:bF}{g:ah}{n:I}
def Gv(a:l8 h n=A l):Bt h n=A l/\l<n/\-(n:O)<=h/\h<n/\l=(if 0<=h then h.toNat else(h+n).toNat):=by
 unfold l8 at a;unfold Bt;by_cases g:0<=h
 .rw[cd g]at a;obtain⟨b,a⟩:=JX.mp a;obtain rfl:=aG a;rw[bZ (lA.mpr g),cd (by simp;exact(And.symm ⟨b,g⟩)),cd g];exact⟨G,((IJ g).mpr b),(hs (O.neg_nonpos_of_nonneg (hP _)) g),b,G⟩
 .rw[bZ g]at a;obtain⟨b,a⟩:=JX.mp a;obtain rfl:=aG a;rw[cd (nl.mp g),cd (by simp;exact We b g),bZ g];exact⟨G,Wh b g,Wm b,Ws b g,G⟩
def LF(b:E Q)(g:aq)(c:I)(e:aO)(f:U)(h:Prop):Prop:=∀a:Q,f=.ref a->b[c]?=A a->f3 b g a e->h
def al.at(i:al c b j a){e:I}{f:aO}{g:U}(k:j[e]?=A f)(l:aF b a.heap (.ref e) g):aA (LF b a.heap e f g):=by
 exact i.d0 k _ λm h n=>λp o=>o m (l.mj h) h n
def cC.room(a:cC c g n i B):jp.room i.in1:=by
 have:=a.units;exact Wx this
def rG(c:dH l=J)(a:aF b p (.ab l) q):∃h,q=.ref h/\gG b p l h:=by
 refine id a _ λh g e i i i=>?_;subst e;exact⟨h,G,((by simpa[dH]using c):∀f∈l,fD 6 f=J),a⟩
def gG.is(a:gG b D B T):jp.is D (ci B) T:=⟨B,a.bare,G⟩
def Sy(k:al c b j a)(e:l_ l p=A q)(g:aF b a.heap (.ab l) r):cs c i b a (kQ r (.int p B)) q j:=by
 refine as λL m=>?_;obtain⟨f,e⟩:=cf e;refine bh e _ λn o e=>?_;have f:=hl f;obtain⟨s,C,t,u,L⟩:=Gv o;refine g _ λD E v w h F=>?_;clear g;subst v;obtain⟨H,x,y⟩:=h.get e;exact m (fC k y λI K z=>getItem_tuple w (Fu t f) (mm u (mm (eU.mpr f) (by decide))) (j:=n) (by rw[eV,h.length];exact s) (by simpa using x) z)
def Sw(l:al c b j a){n:I}{o:E L}{k:O}{p:L}{q:U}{w:j5}(x:j[n]?=A (.list o))(e:l_ o k=A p)(y:aF b a.heap (.ref n) q):cs c i b a (kQ q (.int k w)) p j:=by
 refine as λX z=>?_;obtain⟨g,e⟩:=cf e;refine bh e _ λP B e=>?_;have g:=hl g;obtain⟨Q,R,r,C,D⟩:=Gv B;refine l.at x y _ λS F T H=>?_;subst F;refine H _ λV s t=>?_;have u:=t.length;obtain⟨W,f,v⟩:=t.get e;refine z ?_;rw[D]at f;by_cases h:0<=k
 .rw[cd h]at f;exact fC l v λK N m=>wpAny_getItem_list s.isList h (mm C (mm (eU.mpr g) (by decide))) (by simpa using f) m
 .rw[bZ h]at f;exact fC l v λK N m=>wpAny_getItem_list_neg s.isList (O.lt_of_not_ge h) (by rw[eV,u];exact(O.le_def.mpr r)) (Fu r g) (by rw[eV,u];simpa using f) m
def pI:k0.is h (.int h l)=J:=by simp[intKind,U.isInt]
def Sx(h:al c b j a)(y:cC c g n i T)(e:ck j t u=A z)(l:aF b a.heap t B)(m:aF b a.heap u D):
 cs c i b a (kQ B D) z j:=by
 cases t with
 |ab C=>
  refine bh e _ λo k e=>?_;obtain⟨E,rfl⟩:=kB k m;exact Sy h e l
 |ref U=>
  cases u with
  |int o=>
   refine bh e _ λF v e=>?_;obtain⟨E,rfl⟩:=m;cases F with
   |list C=>exact Sw h v e l
   |afP H=>
    refine h.at v l _ λI K L w=>?_;subst K;refine w _ λV p q=>?_;clear w;obtain⟨W,k,r⟩:=(pf q o).get e;exactλN O s=>Lh (knd:=k0) (k:=o) pI p.mapOf k (s b _ _ (ay.toks a _) (h.toks _) r)
   |_=>exact no e
  |ab P=>
   refine bh e _ λH Q e=>?_;obtain⟨ok,e⟩:=cf e;refine h.at (mT Q) l _ λI R L x=>?_;subst R;refine x _ λf p Z q=>?_;clear x;obtain⟨X,k,r⟩:=(pg q P).get e;obtain⟨Y,rfl,S⟩:=rG ok m;exactλN O s=>wpAny_getItem_heap (knd:=jp) y.room S.is p k (s b _ _ (ay.toks a _) (h.toks _) r)
  |_=>exact no e
 |_=>exact no e
def Ze{c:Q}{b:ch U}{f:O}{n:j5}{h:U}{u:U->k->Prop}{o:e0->k->Prop}(p:a.heap.PlainList c b)
 (q:0<=f) (r:f<2^63) (v:f<b.size)
 (s:∀l,l.PlainList c (b.setIfInBounds f.toNat h)->ek c a.heap l->o () {a with heap:=l}):
 av aI i (qQ (.ref c) (.int f n) h) o u a:=by
 obtain⟨y,j⟩:=id p;have m:=p.isList.typeIs;unfold qQ
 try with_reducible refine fc ?_
 first|refine e (aJ ?_)|skip
 refine e (BJ m G (e (kS (name:=bi "__setitem__") m K3
  (hS K3 m entry_list_setitem ?_ (args_list_setitem _ _ _)))))
 show av _ _ (acu (.int f n)>>=_) _ _ a;refine e (wpAny_listSubscript_int (fitsIndex_of q r) ?_);clear r;obtain⟨g,rfl⟩:=Iu q;have w:g<b.size:=(eU.mp v);have x:b[g]?=A b[g]:=HL w;refine e (e (wpAny_seqItemAt j G (aJ (x.symm▸?_))));have t:(a.heap.update c (mu (·.setIfInBounds g h))).PlainList c (b.setIfInBounds g h):=
  ⟨_,gV _ j G⟩
 refine e (wpAny_setSeqItemAt j G ?_)
 first
  |exact e (aJ (aJ ⟨.none,rfl,aJ (s _ t (hr ..))⟩))
  |exact aJ ⟨.none,rfl,aJ (s _ t (hr ..))⟩
def BU(c:aq)(i:bF)(b:E Q)(a:k)(f:ef e0)(g:N):Prop:=
 ∀(e:e0->k->Prop)(h:U->k->Prop),(∀m,ay [] b b a m->al c b g m->e () m)->av aI i f e h a
section
variable{l:Type}[ly l]{h:vY f0 bw.w l}{n:U->k->Prop}
def OP{m p:Q}{f:E (l×Q×U)}{j:l}{o:U}{B:e0->k->Prop}(C:h.room i)(v:h.is a.heap j p)(N:a.heap.DictOfH h m f)(D:jq a.heap m)
 (F:∀s,s.DictOfH h m (oZ f j p o)->jq s m->ek m a.heap s->B () {a with heap:=s,toks:=a.toks+h.draws j}) (O:f.length<=cr):
 av aI i (Bc m (.ref p) o) B n a:=by
 refine as λgo P=>?_;obtain⟨W,R,X,g,H,b,t,w,q⟩:=N;refine D _ λY Z S T=>?_;clear D;obtain rfl:=aG (g.symm.trans S);obtain⟨rfl,rfl⟩:=H0 (b.symm.trans T);refine P ?_;unfold Bc
 try with_reducible refine fc ?_
 refine e (h.pyHash C v ?_);unfold dictSetHashed
 try with_reducible refine fc ?_
 refine e (Lc (s:={a with toks:=a.toks+h.draws j}) C v g b t w q ?_ ?_)
 .intro I;have x:=wN (a:=p) (v:=o) (s0 I);have V:j∉f.map (·.1):=KU I;refine e (lK (Lv (hz:=by have r:=Bw t;exact FG r O) (s:={a with toks:=a.toks+h.draws j}) g b (F _ ⟨_,_,_,gV _ g (qH (nv b _)),
   H.mapDictKeys _,nv b _,?_,?_,?_⟩ (.of (gV _ g (qH (nv b _))) (nv b _) (by simp)) (hr ..))))
  .rw[x];simp[t,Bf]
  .rw[x];intro y c;rcases cE.mp c with c|c
   .exact h.keeps (w y c) g b (hr ..)
   .simp only[b2]at c;subst c;exact h.keeps v g b (hr ..)
  .rw[x,el,sL];refine⟨q,by simp,?_⟩;intro y c K u;simp only[qv,v5,b2]at u;subst u;exactλr=>V (r▸c)
 .intro ad dl L;have z:=storedH_old (a:=p) (v:=o) (Kw q L);refine e (lK (e (wpAny_updateDict (s:={a with toks:=a.toks+h.draws j}) g b (BG (F _ ⟨_,_,_,gV _ g (qH (wc b _)),
   H.mapDict _,wc b _,?_,?_,?_⟩ (.of (gV _ g (qH (wc b _))) (wc b _) (by simp)) (hr ..))))))
  .rw[z];have:=modify_map_putAt (Bf h) (λr:je=>{r with val:=o}) j o (λgo go=>rfl) q L;replace this:=t.symm▸this;obtain⟨ge⟩:=R;simpa using this
  .rw[z];intro y c;obtain⟨K,u,rfl⟩:=fx.mp c;unfold putAt
   split<;>exact h.keeps (w K u) g b (hr ..)
  .rw[z,keys_map_putAt];exact q
def Zd{b c:Q}{f:E (l×Q×U)}{j:l}{m:U}{o:e0->k->Prop}(q:h.room i.in1)(r:h.is a.heap j c)(g:a.heap.DictOfH h b f)(s:jq a.heap b)
 (t:∀p,p.DictOfH h b (oZ f j c m)->jq p b->ek b a.heap p->o () {a with heap:=p,toks:=a.toks+h.draws j}) (u:f.length<=cr):
 av aI i (qQ (.ref b) (.ref c) m) o n a:=by
 unfold qQ
 try with_reducible refine fc ?_
 refine e (BJ g.typeIs G (e (kS (name:=bi "__setitem__") g.typeIs K2
  (hS K2 g.typeIs entry_dict_setitem ?_ (args_dict_setitem _ _ _)))))
 refine e (wV g.typeIs ?_);show av _ _ (Bc b (.ref c) m>>=_) _ _ a;exact e (OP q r g s (λp v w x=>aJ ⟨.none,G,aJ (t p v w x)⟩) u)
end
def vy{a:Q}{j:ch U}{g e:aq}(k:g.PlainList a j)(l:ek a g e):b4 b g e:=by
 obtain⟨n,m⟩:=k;rintro f o p c h p;by_cases i:f=a
 .rw[i,m]at c;rw[<-aG c]at h;exact bC (show oO "list"=oO "tuple" from h) nofun
 .rw[l.2 f i];exact c
def G5{a:Type}[ly a]{f:KeyKind f0 bw.w a}{c:Q}{h:E (a×U)}{g e:aq}(i:g.DictOf f c h)(j:ek c g e):b4 b g e:=by
 refine as λr k=>?_;obtain⟨n,o,p,l,q,m,r⟩:=i;exact k (ot l m j)
def G6{a:Type}[ly a]{f:vY f0 bw.w a}{c:Q}{h:E (a×Q×U)}{g e:aq}(i:g.DictOfH f c h)(j:ek c g e):b4 b g e:=by
 refine as λr k=>?_;obtain⟨n,o,p,l,q,m,r⟩:=i;exact k (ot l m j)
def kq{g a:aq}{c:L}{e:U}(f:aF b g c e)(h:b4 b g a):aF b a c e:=f.bm (bW.refl _) h
def pK{g a:aq}{c:E L}{e:E U}(f:aC b g c e)(h:b4 b g a):aC b a c e:=f.bm (bW.refl _) h
def Dg{h:E (O×L)}{c:E (O×U)}{a:Q}{e:O}{i:L}{j:U}{g f:aq}(m:g.DictOf k0 a c)(n:f.DictOf k0 a (oY c e j))(o:ek a g f)(p:cz (pa b g) h c)(bB:aF b g i j):f3 b f a (.afP (h8 e i h)):=
 have k:=G5 m o
 λr q=>q _ n (MJ (p.imp λr r l=>⟨l.1,kq l.2 k⟩) (kq bB k) e)
def Dl{j:E (E L×L)}{f:E (E L×Q×U)}{a k:Q}{h:E L}{l:L}{m:U}{g e:aq}(n:g.DictOfH jp a f)(o:e.DictOfH jp a (oZ f (ci h) k m))(p:jq e a)(q:ek a g e)(r:gG b g h k)(s:cz (nP b g) j f)(bB:aF b g l m):f3 b e a (.afM (i7 h l j)):=
 have c:=G6 n q
 λu t=>t _ o p (MK (s.imp λu u i=>⟨i.1,i.2.1.bm (bW.refl _) c,kq i.2.2 c⟩) (kq bB c) (r.bm (bW.refl _) c))
def Zi(l:al c b j a){g:I}{f:E L}{e:O}{s:j5}{h:L}{m k:U}(t:j[g]?=A (.list f))(u:0<=e)(n:e<f.length)(v:f.length<1000000)(w:aF b a.heap (.ref g) m)(bB:aF b a.heap h k):
 BU c i b a (qQ m (.int e s) k) (bd j g (.list (f.set e.toNat h))):=by
 refine as λS x=>l.at t w _ λN y z B=>?_;subst y;refine B _ λC o p=>x ?_;have D:=p.length;refineλP Q F=>Ze o u (mm n (mm (eU.mpr v) (by decide))) (by rw[eV,D];exact n) λR H q=>?_;have r:=vy (b:=b) o q;have bq:=l.set (XV:=.list (f.set e.toNat h)) a.toks z q (λS K=>K (C.set e.toNat k) (by simpa using H) ((pK p r).set (kq bB r)));exact F _ bq.2 bq.1
def Zk(l:al c b j a)(K:cC c g n i le)(e:m8 j T v q=A ge)(k:aF b a.heap T go)(w:aF b a.heap v gt)(bB:aF b a.heap q kw):
 BU c i b a (qQ go gt kw) ge:=by
 have x:cr=2^24:=G;refine bh e _ λV E e=>?_;replace k:=(kA E)▸k;cases v with
 |int y=>
  refine bh e _ λF z e=>?_;obtain⟨W,rfl⟩:=w;cases F with
  |list X=>
   obtain⟨h,e⟩:=cf e;rw[eB,j8]at h;exact aG e▸Zi l z h.1.1 h.1.2 (hl h.2) k bB
  |afP r=>
   obtain⟨h,e⟩:=cf e;refine l.at z k _ λI L s B=>?_;subst L;refine B _ λY m o=>?_;clear B;exact(aG e)▸(λN O t=>wpAny_setItem_pairs (knd:=k0) (k:=y) (hsz:=lf (hl h) o.len x) pI m λP u p=>have bq:=l.set (XV:=.afP (h8 y q r)) (a.toks+1) s p (Dg m u p o bB);t _ bq.2 bq.1)
  |_=>exact no e
 |ab C=>
  refine bh e _ λr Q e=>?_;obtain⟨ok,e⟩:=cf e;rw[eB]at ok;refine l.at (mT Q) k _ λI R s D=>?_;subst R;refine D _ λf m S o=>?_;clear D;obtain⟨Z,rfl,H⟩:=rG ok.1 w;exact(aG e)▸(λN O t=>Zd (h:=jp) (u:=lf (hl ok.2) o.len x) K.room H.is m S λP u U p=>have bq:=l.set (XV:=.afM (i7 C q r)) (a.toks+jp.draws (ci C)) s p (Dl m u U p H o bB);t _ bq.2 bq.1)
 |_=>exact no e
end
end
section
section
variable{c:aq}{b i:E Q}{e:N}{a j:k}{g:bF}{h:ah}{n:I}
noncomputable def o3.some:gE->ah
 |.agd=>d
 |_=>J
def o3.HH{a:gE}(h:a.some=J):a≠.agd:=λb=>nomatch(b▸h:o3.some .agd=J)
noncomputable def he:gE->CmpOp
 |.eq=>.Eq|.af1=>.NotEq|.lt=>.Lt|.le=>.LtE|.gt=>.Gt|.ge=>.GtE|.agf=>.In|.agh=>.NotIn|.agd=>.Is
def Pf(b c:L):a_ b c=a_ c b:=by
 unfold a_;by_cases a:dC b=dC c
 .exact(@cg _ (L.fV _ _) a).symm▸(@cg _ (L.fV _ _) a.symm).symm▸G
 .exact(@dU _ (L.fV _ _) a).symm▸(@dU _ (L.fV _ _) (λe=>a e.symm)).symm▸G
def Ci(b:bk n o=J):∀{m:E L},(∀l∈m,bk q l=J)->((dP m).any λp=>lG p (dY o))=m.any λl=>a_ o l:=by
 intro c
 induction c with
 |nil=>
  intro h;exact G
 |cons l m e=>
  intro a;rw[dP,IM,IM,e λf g=>a f (.tail _ g),py (a l (.head _)) b,Pf]
def cC.qg(a:cC c h n g B):g.units+2000<=cy:=by have:=a.units;exact W_ this
def DZ(x:cC c h n g D)(f:bk 8 m=J)(e:l.all (bk 8)=J)(y:aF b a.heap m q)(z:aF b a.heap (.ab l) r)(i:U->k->Prop)(s:U->k->Prop):
 (i (.bool (l.any λo=>a_ m o)) a->av aI g (gh .In q r) i s a)/\(i (.bool (!l.any λo=>a_ m o)) a->av aI g (gh .NotIn q r) i s a):=by
 rw[di]at e;have B:bk 9 (.ab l)=J:=by simpa[bk]using e
 obtain⟨C,t⟩:=aF.reads f y;obtain⟨E,j⟩:=aF.reads B z;rw[dY]at j;have u:=ln 8 m f;have v:=si 8 l e;have F:=x.qg;have:=qB (qJ (dP l)) (dY m).depth;have w:g.units+1+min (qJ (dP l)) (dY m).depth<cy:=by omega
 exact⟨λp=>SeqAt.in_tuple_reads j t v.1 u.1 w (by rw[Ci f e];exact p),λp=>SeqAt.notIn_tuple_reads j t v.1 u.1 w (by rw[Ci f e];exact p)⟩
def io(c:aq)(g:bF)(b:E Q)(a:k)(f:ef U)(h:ah)(e:N):Prop:=cs c g b a f (.bool h) e
def SP(f:al c b e a)(k:fZ c)(n:jE e p=A m)(q:aF b a.heap (.ref p) o):
 io c g b a (gh .In (.int l r) o) (dx l m).isSome e/\io c g b a (gh .NotIn (.int l r) o) (!(dx l m).isSome) e:=by
 refine as λC s=>f.at (xH n) q _ λz t u v=>?_;subst t;refine v _ λB i w=>s ?_;have j:=f.nd k (d7 u);exact(pf w l).is▸(⟨λx y h=>wpAny_in_of (knd:=k0) (k:=l) pI j i.mapOf (h b _ _ (ay.toks a _) (f.toks _) G),λx y h=>wpAny_notIn_of (knd:=k0) (k:=l) pI j i.mapOf (h b _ _ (ay.toks a _) (f.toks _) G)⟩)
def SQ(i:al c b e a)(u:fZ c)(m:cC c h n g T)(v:fB e w=A o)(ok:dH l=J)(x:aF b a.heap (.ab l) p)(y:aF b a.heap (.ref w) q):
 io c g b a (gh .In p q) (c4 l o).isSome e/\io c g b a (gh .NotIn p q) (!(c4 l o).isSome) e:=by
 refine as λK z=>i.at (mT v) y _ λH B C k=>?_;subst B;refine k _ λf r K D=>?_;clear k;obtain⟨I,rfl,s⟩:=rG ok x;refine z ?_;have t:=i.nd u (d7 C);exact(pg D l).is▸(⟨λE F j=>wpAny_in_heap (knd:=jp) m.room s.is t r (j b _ _ (ay.toks a _) (i.toks _) G),λE F j=>wpAny_notIn_heap (knd:=jp) m.room s.is t r (j b _ _ (ay.toks a _) (i.toks _) G)⟩)
def DY(j:al c b e a)(s:fZ c)(m:cC c h n g B)(f:i5 e t u=A v)(k:aF b a.heap t w)(l:aF b a.heap u x):
 io c g b a (gh .In w x) v e/\io c g b a (gh .NotIn w x) (!v) e:=by
 cases u with
 |ab C=>
  obtain⟨i,f⟩:=cf f;rw[eB]at i;exact(aG f)▸(⟨fC j G λo p q=>(DZ m i.1 i.2 k l o p).1 q,fC j G λo p q=>(DZ m i.1 i.2 k l o p).2 q⟩)
 |ref D=>
  cases t with
  |int y=>
   refine bh f _ λz r f=>?_;obtain⟨E,rfl⟩:=k;exact(aG f)▸(SP j s r l)
  |ab y=>
   refine bh f _ λz r f=>?_;obtain⟨ok,f⟩:=cf f;exact(aG f)▸(SQ j s m r ok k l)
  |_=>exact no f
 |_=>exact no f
def GA(a:AJ (dP l)=J/\qJ (dP l)<=7):qK (.list (dP l))=J:=by
 unfold qK;simp only[PyData.canLay0,J0,a.1,qm];exact cg (by have:=a.2;omega)
def TH(i:al c b e a)(o:cC c h n g T)(k:ds e p=A l)(q:ds e r=A m)(f:(l.all (bk 7)&&m.all (bk 7))=J)(s:aF b a.heap (.ref p) t)(u:aF b a.heap (.ref r) v):
 io c g b a (gh .Eq t v) (a_ (.ab l) (.ab m)) e:=by
 rw[eB,di,di]at f;refine as λkw w=>i.at (l0 k) s _ λR x S j=>?_;subst x;refine j _ λU y z=>?_;clear j;obtain⟨V,B,C,W,D⟩:=y.isList;refine i.at (l0 q) u _ λX E Y F=>?_;subst E;refine F _ λaB H I=>?_;obtain⟨Z,K,L,ad,N⟩:=H.isList;obtain⟨dl,O⟩:=aC.reads f.1 z;obtain⟨ge,P⟩:=aC.reads f.2 I;refine w (fC i G λgo gt Q=>eq_dataH (A:=g) (Bs B C D (by simpa using O)) (Bs K L N (by simpa using P)) (GA (si 7 l f.1)) (GA (si 7 m f.2)) (Xf o.qg) ?_);rw[show lG (.list (dP l)) (.list (dP m))=lG (dY (.ab l)) (dY (.ab m)) by simp[dY,lG],py (n:=8) (h:=8) (by simpa[bk]using f.1) (by simpa[bk]using f.2)];exact Q
def Pj(q:al c b e a)(r:cC c h n g y)(f:Dx e l m=A o)(j:aF b a.heap l p)(s:aF b a.heap m t):io c g b a (gh .Eq p t) o e:=by
 have aT:∀{l},aF b a.heap l p->a4 (bk 8 l&&bk 8 m) (A (a_ l m))=A o->io c g b a (gh .Eq p t) o e:=λj f=>by
  refine as λH k=>?_;obtain⟨i,f⟩:=cf f;refine k ?_;rw[eB]at i;exact fC q G λz B u=>Pg (b:=g) i.1 i.2 (FK r.qg) j s (aG f▸u)
 cases l with
 |ref C=>
  refine as λH k=>bh f _ λD v f=>bh f _ λE w f=>bh f _ λF x f=>?_;obtain⟨i,f⟩:=cf f;exact k (aG f▸TH q r w x i j (kA v▸s))
 |_=>exact aT j f
def Ul(r:al c b e a)(t:cC c h n g x)(f:EA l m=A o)(i:aF b a.heap l p)(j:aF b a.heap m s):io c g b a (gh .NotEq p s) o e:=by
 have aT:∀{l},aF b a.heap l p->a4 (bk 8 l&&bk 8 m) (A (!a_ l m))=A o->io c g b a (gh .NotEq p s) o e:=λi f=>by
  obtain⟨q,f⟩:=cf f;rw[eB]at q;exact fC r G λu v k=>Uk (b:=g) q.1 q.2 (FK t.qg) i j (aG f▸k)
 cases l with
 |str y=>
  refine bh f _ λz w f=>?_;rw[za w]at j;obtain⟨B,rfl⟩:=i;obtain⟨B,rfl⟩:=j;exact fC r G λu v k=>ads (aG f▸k)
 |_=>exact aT i f
def Uv(i:al c b e a)(h:EK l=A o)(j:aF b a.heap l p):io c g b a (gh .Is p .none) o e:=by
 cases l with
 |none=>obtain rfl:=j;exact fC i G λk m f=>is_none_none (aG h▸f)
 |bool n=>obtain rfl:=j;exact fC i G λk m f=>is_bool_none (aG h▸f)
 |int n=>obtain⟨n,rfl⟩:=j;exact fC i G λk m f=>is_int_none (aG h▸f)
 |_=>exact no h
def u2(h:al c b e a)(f:rZ s t u=A v)(i:aF b a.heap s w)(j:aF b a.heap t x)
 (aT:∀{l m:O}{p q:j5}{o:U->k->Prop}{r:U->k->Prop},o (.bool (u l m)) a->av aI g (gh y (.int l p) (.int m q)) o r a):io c g b a (gh y w x) v e:=by
 refine as λD n=>bh f _ λl z f=>bh f _ λm B f=>?_;obtain⟨p,rfl⟩:=kB z i;obtain⟨q,rfl⟩:=kB B j;exact n (fC h G λo r C=>aT (aG f▸C))
def xE(i:al c b e a)(o:fZ c)(l:cC c h n g w)(j:bY e m q p=A r)(k:aF b a.heap q s)(f:aF b a.heap p t)(u:m=.agd->p=.none):
 io c g b a (gh (he m) s t) r e:=by
 cases m with
 |eq=>exact Pj i l j k f
 |af1=>exact Ul i l j k f
 |lt=>exact u2 i j k f P.lt_int
 |le=>exact u2 i j k f P.le_int
 |gt=>exact u2 i j k f P.gt_int
 |ge=>exact u2 i j k f P.ge_int
 |agf=>exact(DY i o l j k f).1
 |agh=>
  obtain⟨x,v,rfl⟩:=jn.mp j;exact(DY i o l v k f).2
 |agd=>
  replace f:=(u G)▸f;obtain rfl:=f;exact Uv i j k
end
end
section
section
variable{c:aq}{b i:E Q}{e:N}{a h:k}{f:bF}{g:ah}{n:I}
noncomputable def tK:kV->U
 |.len=>.builtin "len"|.abs=>.builtin "abs"|.min=>.builtin "min"|.max=>.builtin "max"|.tuple=>.type "tuple"|.list=>.type "list"|.all=>.builtin "all"|.any=>.builtin "any"|.agm=>.builtin "repr"|.str=>.type "str"
def pF(i:al c b e a)
 (g:∀(l:U->k->Prop)(o:U->k->Prop),(∀p m q,(∀r s,a.heap.get? r=A s->p.get? r=A s)->aF b p t q->l q {a with heap:=p,toks:=m})->av aI f u l o a):
 cs c f b a u t e:=
 λl o j=>g l o λv m v h n=>j b _ _ (ay.bm b a m h) (i.bm m h) n
def Sp(t:al c b e a)(w:aC b a.heap u v)
 (g:∀(m:U->k->Prop)(r:U->k->Prop),(∀o l s,a.heap.get? l=M->(∀p q,a.heap.get? p=A q->o.get? p=A q)->o.PlainList l v.toArray->m (.ref l) {a with heap:=o,toks:=s})->av aI f x m r a):
 cs c f b a x (.ref e.length) (e++[.list u]):=by
 intro m r y;refine g m r λo l s j n z=>?_;have h:=t.qe s (.list u) j n (λB i=>i v z (w.bm (bW.gA j) λp q B h B B=>n p q h));exact y _ _ _ h.2 h.1 (λB i=>i l (by rw[<-t.len];simp) G)
def G3(s:l.all (λe=>(cN e).isSome)=J)(p:aC b a.heap l t)(g:I)(e:U)(q:t[g]?=A e)(h:k)(m:ah->k->Prop)(r:U->k->Prop)(i:m ((l[g]?.map λe=>(cN e).getD d).getD d) h):
 av aI f (wQ e) m r h:=by
 have n:g<l.length:=by rw[<-p.length];exact(d6.mp q).1
 obtain⟨u,o,bB⟩:=p.get (e8 n);replace o:=q▸o;obtain rfl:=aG o;replace i:=(e8 n)▸i;obtain⟨v,c⟩:=kO.mp (di.mp s l[g] (qt n));simp only[j.map_some,j.getD_some,c]at i;exact mb c bB m r i
def MM{b:Type}(c:b->ah):∀(l:E b),(e9 l.length).all (λm=>(l[m]?.map c).getD d)=l.all c:=by
 intro l;rw[HP,di,di];constructor
 .intro g f e;obtain⟨m,a,rfl⟩:=Jb.mp e;simpa[a]using g m (ht.mpr a)
 .intro g m a;have a:=ht.mp a;simpa[a]using g _ (qt a)
def MU{b:Type}(c:b->ah):∀(l:E b),(e9 l.length).any (λm=>(l[m]?.map c).getD d)=l.any c:=by
 intro l;rw[HP,v2,v2];constructor
 .rintro⟨m,a,g⟩;have a:=ht.mp a;exact⟨_,qt a,by simpa[a]using g⟩
 .rintro⟨h,e,g⟩;refine as λi f=>?_;obtain⟨m,a,rfl⟩:=Jb.mp e;exact f (⟨m,ht.mpr a,by simpa[a]using g⟩)
def un{f:L}{g:E L}{h:U}{P:Prop}(o:al c b e a)(i:la e f=A g)(m:aF b a.heap f h)
 (k:∀l aB,h=.ref l->iI a.heap l aB.toArray->aC b a.heap g aB->l∉b->P) (n:∀l aB,h=.ref l->a.heap.PlainList l (oI aB)->aC b a.heap g aB->P):P:=by
 cases f with
 |ab v=>
  obtain rfl:=aG i;exact m _ λl aB p q j r=>k l aB p q j r
 |ref w=>
  exact o.vL i _ λl aB s=>s _ λt u j=>n l aB (m.mj t) u j
 |_=>exact no i
def Tz{k:L}{g:E L}{l:U}(i:al c b e a)(o:la e k=A g)(j:g.length<1000000)(p:aF b a.heap k l):cs c f b a (eu (.builtin "len") [l]) (.int g.length) e:=by
 have aT:∀{aB:E U},aC b a.heap g aB->(aB.toArray.size:O)=g.length/\aB.toArray.size<2^60:=λh=>by rw[eV,h.length];exact⟨G,Xr j⟩
 refine un i o p (λq aB m r h t=>?_) λq aB m s h=>?_
 all_goals
  subst m;obtain⟨g1,g2⟩:=aT h;intro u v n
 .exact len_tuple r (FL g1 j) (g1.symm▸(n b _ _ (ay.toks a _) (i.toks _) ⟨_,G⟩))
 .exact fb s.isList (FL g1 j) (g1.symm▸(n b _ _ (ay.toks a _) (i.toks _) ⟨_,G⟩))
def aam{p:L}{o:E L}{q:U}(l:al c b e a)(g:la e p=A o)(v:o.length<1000000)(w:aF b a.heap p q):cs c f b a (eu (.type "tuple") [q]) (.ab o) e:=by
 refine un l g w (λr aB j s m x=>?_) λr aB j y m=>?_
 .subst j;exact fC l (λF k=>k r aB G s m x) λz B n=>call_tuple_same s n
 .subst j;refine pF l λz B n=>call_tuple_list y.isList (λC t=>?_) (by rw[eV];exact lf v m.length (G:cr=2^24));have u:∀i h,a.heap.get? i=A h->(C.push {cls:=.type "tuple",data:=.seq aB.toArray}).get? i=A h:=λi h g=>bU _ (t i h g);exact n _ _ _ u (λF k=>k _ aB G ⟨_,dt _ G,G,_,G⟩ (m.bm (bW.refl _) λi h F g F F=>u i h g) λD=>by obtain⟨h,g⟩:=l.cm D;exact kL _ (du (t _ _ g)))
def TJ(q:al c b e a)(r:la e s=A o)(t:o.length<1000000)(u:aF b a.heap s v):cs c f b a (eu (.type "list") [v]) (.ref e.length) (e++[.list o]):=by
 have aT:∀{n:eg}{g:Q}{aB:E U}{h:cn}{i:I},n="list"\/n="tuple"->a.heap.get? g=A h->h.cls=.type n->h.data=.seq aB.toArray i->aC b a.heap o aB->cs c f b a (eu (.type "list") [.ref g]) (.ref e.length) (e++[.list o]):=λ{n g aB h i} w j k m l=>by
  exact Sp q l λC D x=>call_list_seq g w j k m (λy F i z=>x y _ _ (aq.kD _) i ⟨_,z⟩) (by rw[eV];exact lf t l.length (G:cr=2^24))
 exact un q r u (λg aB p⟨h,j,k,i,m⟩ l H=>p▸aT (.inr rfl) j k m l) λg aB p B l=>p▸(let⟨h,j,k,i,m⟩:=B.isList;aT (.inl rfl) j k m l)
def yV(o:al c b e a)(f:u9 e p q=A (r,s))(j:aC b a.heap p t):aA (gi (λl m aB=>fL (t=[.ref l]) (a.heap.PlainList l (oI aB)) (aC b a.heap m aB) (q m=A (r,s)))):=by
 refine as λE g=>?_;obtain⟨k,rfl,f⟩:=og f;refine bh f _ λC n f=>bh f _ λm u f=>aC.gc.mp j _ λk D v h w=>?_;subst v;refine g ((aC.eY.mp w).symm▸?_);replace h:=(kA n)▸h;exact as λE g=>o.vL u _ λl aB x=>x _ λy z B=>g ((h.mj y).symm▸(λE i=>i l m aB (λE i=>i G z B f)))
def ML{m:E L}{j:ah}{k:Q}{aB:E U}(r:al c b e a)(s:f.handled=M)(o:a.heap.PlainList k aB.toArray)(q:aC b a.heap m aB)(g:xk m=A j):cs c f b a (eu (.builtin "all") [.ref k]) (.bool j) e:=by
 obtain⟨t,g⟩:=cf g;refine(aG g)▸(pF r λC D u=>call_all_walk (ti o.isList ⟨_,_,_,_,_,_,λn=>(m[n]?.map λi=>(cN i).getD d).getD d,G,Kr (A:=f.in1) s _ k ((by obtain⟨l,p,I⟩:=o.isList;exact ee (du p)):k≠a.heap.objs.size) aB.toArray,
  ⟨⟨_,dt _ G,G,G⟩,(by obtain⟨l,p,v⟩:=o.isList;exact⟨l,bU _ p,v⟩)⟩,λn i h w x y z=>G3 t q n i (by simpa using y) h w x z,λF H B=>?_⟩))
 rw[eV,q.length,MM λi=>(cN i).getD d];exact u _ _ _ (λj l g=>B j l (by simpa using ee (du g)) (bU _ g)) G
def MT{m:E L}{j:ah}{k:Q}{aB:E U}(r:al c b e a)(s:f.handled=M)(o:a.heap.PlainList k aB.toArray)(q:aC b a.heap m aB)(g:xo m=A j):cs c f b a (eu (.builtin "any") [.ref k]) (.bool j) e:=by
 obtain⟨t,g⟩:=cf g;refine(aG g)▸(pF r λC D u=>call_any_walk (ti o.isList ⟨_,_,_,_,_,_,λn=>(m[n]?.map λi=>(cN i).getD d).getD d,G,Kr (A:=f.in1) s _ k ((by obtain⟨l,p,I⟩:=o.isList;exact ee (du p)):k≠a.heap.objs.size) aB.toArray,
  ⟨⟨_,dt _ G,G,G⟩,(by obtain⟨l,p,v⟩:=o.isList;exact⟨l,bU _ p,v⟩)⟩,λn i h w x y z=>G3 t q n i (by simpa using y) h w x z,λF H B=>?_⟩))
 rw[eV,q.length,MU λi=>(cN i).getD d];exact u _ _ _ (λj l g=>B j l (by simpa using ee (du g)) (bU _ g)) G
mutual
theorem Us:∀l:L,J1 (dY l)=d
 |.none=>rfl|.bool _=>rfl|.int _=>rfl|.str _=>rfl|.ref _=>rfl
 |.ab a=>yh a
theorem yh:∀l:E L,J2 (dP l)=d
 |[]=>rfl
 |a::b=>by rw[dP];simp only[J2,Us a,yh b,ah.or_self]
end
def YC{h:E L}{k:am}{l:Q}{aB:E U}(q:al c b e a)(m:cC c g n f T)(r:a.heap.PlainList l aB.toArray)(s:aC b a.heap h aB)(i:r6 h=A k):cs c f b a (eu (.builtin "repr") [.ref l]) (.str k) e:=by
 refine as λN j=>?_;obtain⟨o,i⟩:=cf i;refine j ((aG i)▸?_);rw[eB,eB,di]at o;refine as λN j=>?_;obtain⟨⟨f1,f2⟩,t⟩:=o;obtain⟨F,u,v,p,w⟩:=r.isList;obtain⟨H,x⟩:=aC.reads f1 s;refine j ?_;have y:J1 (.list (dP h))=d:=yh h;exact pF q λI K z=>repr_of_reads' (Bs u v w (by simpa using x)) f2 (by rw[y];exact nofun) m.guards (by simp only[J0];exact Xx m.qg ((si 6 h f1).2)) (λN N i=>i) (λB C D p=>z B D _ p ⟨C,G⟩) (dE t)
def l6(c:aC b a.heap [l] o):∃m,o=[m]/\aF b a.heap l m:=by
 refine aC.gc.mp c _ λl h e f g=>?_;subst e;exact⟨l,by rw[aC.eY.mp g],f⟩
def p5(e:aC b a.heap [l,m] q):aA (kW (λo p=>e1 (q=[o,p]) (aF b a.heap l o) (aF b a.heap m p))):=by
 refine aC.gc.mp e _ λl j f g h=>?_;subst f;obtain⟨m,rfl,i⟩:=l6 h;exactλk c=>c l m (λk c=>c G g i)
def x3{f:E L}{h:E U}{g:E L->L×N}{i:L}{j:N}{P:L->N->Prop}(c:(gN f λm=>(la e m).bind λf=>a4 (bV f.length) (A (g f)))=A (i,j))(k:aC b a.heap f h)(n:∀m o l,h=[o]->la e m=A l->l.length<1000000->aF b a.heap m o->P (g l).1 (g l).2):P i j:=by
 refine as λt p=>?_;obtain⟨m,rfl,c⟩:=og c;refine bh c _ λl q c=>?_;obtain⟨r,c⟩:=cf c;obtain⟨o,rfl,s⟩:=l6 k;exact p (dF (c:=P) (e:=(g l).1) (g:=(g l).2) c (n m o l G q (hl r) s))
def uh(a:(g||d)=J):g=J:=by simpa using a
def CC(j:al c b e a)(s:cC c g n f kw)(h:eW e t T=A (ge,go))(x:(g||t.plain)=J)(l:aC b a.heap T gt):
 cs c f b a (eu (tK t) gt) ge go:=by
 cases t with
 |len=>exact x3 h l λo r m i u p k=>i▸Tz j u p k
 |tuple=>exact x3 h l λo r m i u p k=>i▸aam j u p k
 |list=>exact x3 h l λo r m i u p k=>i▸TJ j u p k
 |abs=>
  obtain⟨o,rfl,h⟩:=og h;refine bh h _ λy i h=>?_;obtain⟨r,rfl,k⟩:=l6 l;obtain⟨z,rfl⟩:=kB i k;exact dF h (pE j λB C q=>call_abs_int q)
 |min=>
  obtain⟨o,R,rfl,h⟩:=sk h;refine bh h _ λy i h=>bh h _ λS D h=>p5 l _ λr U I=>I _ λV k E=>?_;clear I;subst V;obtain⟨z,rfl⟩:=kB i k;obtain⟨W,rfl⟩:=kB D E;exact dF h (pF j λB C q=>min_two_ints (s.hand (uh x)) λF H m=>q F H _ m (by split<;>exact⟨_,G⟩))
 |max=>
  obtain⟨o,R,rfl,h⟩:=sk h;refine bh h _ λy i h=>bh h _ λS D h=>p5 l _ λr U K=>K _ λX k E=>?_;clear K;subst X;obtain⟨z,rfl⟩:=kB i k;obtain⟨W,rfl⟩:=kB D E;exact dF h (pF j λB C q=>max_two_ints (s.hand (uh x)) λF H m=>q F H _ m (by split<;>exact⟨_,G⟩))
 |all=>
  refine yV j h l _ λL m aB N=>N _ λY v w h=>?_;clear N;subst Y;obtain⟨t,i,h⟩:=jn.mp h;exact dF (bj A h) (ML j (s.hand (uh x)) v w i)
 |any=>
  refine yV j h l _ λL m aB O=>O _ λZ v w h=>?_;clear O;subst Z;obtain⟨t,i,h⟩:=jn.mp h;exact dF (bj A h) (MT j (s.hand (uh x)) v w i)
 |agm=>
  refine yV j h l _ λL m aB Q=>Q _ λad v w h=>?_;clear Q;subst ad;obtain⟨o,i,h⟩:=jn.mp h;exact dF (bj A h) (YC j s v w i)
 |str=>
  obtain⟨o,rfl,h⟩:=og h;refine bh h _ λy i h=>?_;obtain⟨p,h⟩:=cf h;obtain⟨r,rfl,k⟩:=l6 l;obtain⟨z,rfl⟩:=kB i k;have:=yI p;exact dF h (xY j λB C q=>P.str_of_int (FO this) (q _ _))
end
end
section
section
variable{g:aq}{b o:E Q}{h:N}{a p:k}{i:bF}{m:ah}{n:I}
noncomputable def xA:ka->am
 |.append=>"append"|.pop=>"pop"|.count=>"count"|.get=>"get"|.af5=>"setdefault"
noncomputable def Eg:ka->eg
 |.append=>"list.append"|.pop=>"list.pop"|.count=>"list.count"|.get=>"dict.get"|.af5=>"dict.setdefault"
def Yu(w:al g b h a)(c:kz h x q=J)(r:aF b a.heap x u)(y:ef ah)(v:U×E U->k->Prop)(z:U->k->Prop)(m:v (.builtin (Eg q),[u]) a):
 av aI i (s6 u (xA q) y) v z a:=by
 refine k5 c _ λH B c=>k5 c _ λe j c=>?_;replace r:=(kA B)▸r;refine w.at j r _ λs C I n=>?_;subst C;cases g:q.nf with
 |true=>
  replace c:=g▸c;obtain⟨K,c⟩:=kO.mp (show e.qd.isSome=J from c);cases e<;>cases c;refine n _ λL D n=>?_;clear n;obtain⟨N,j⟩:=D;have t:∀l:Q,en s=.ref l->∃e,a.heap.get? l=A e/\e.dict=M:=λl c=>Kp c▸⟨_,j,G⟩;cases q with
  |append=>exact qM (T:="list") ⟨_,j,G⟩ AO PySem.slot_list_append PySem.type_list_append t m
  |pop=>exact qM (T:="list") ⟨_,j,G⟩ AO Kg PySem.F.type_list_pop t m
  |count=>exact qM (T:="list") ⟨_,j,G⟩ AO Kf PySem.F.type_list_count t m
  |_=>cases g
 |false=>
  replace c:=g▸c;have p:a.TypeIs (.ref s) "dict"/\∀l:Q,en s=.ref l->∃e,a.heap.get? l=A e/\e.dict=M:=by
   cases e with
   |afP F=>refine n _ λO o P=>?_;exact⟨o.mapOf.typeIs,o.mapOf.noDict⟩
   |afM F=>refine n _ λf o P P=>?_;exact⟨o.typeIs,KE o⟩
   |_=>cases c
  cases q with
  |get=>exact qM p.1 AN AP PySem.F.type_dict_get p.2 m
  |af5=>exact qM p.1 AN AR PySem.F.type_dict_setdefault p.2 m
  |_=>cases g
def cC.aed(a:cC g m n i B):jp.room i:=by
 have:=a.units;exact XA this
section
variable{c:Type}[ly c]{l:vY f0 bw.w c}{j:U->k->Prop}
def OO{n s:Q}{f:E (c×Q×U)}{b:c}{t:U}{u:U->k->Prop}(B:l.room i)(v:l.is a.heap b s)(I:a.heap.DictOfH l n f)(C:jq a.heap n)
 (L:∀q,sZ f b=A q->u q.2 {a with toks:=a.toks+l.draws b})
 (N:sZ f b=M->∀r,r.DictOfH l n (oZ f b s t)->jq r n->ek n a.heap r->u t {a with heap:=r,toks:=a.toks+l.draws b})
 (O:f.length<=cr):
 av aI i (Bd n (.ref s) t) u j a:=by
 refine as λdl P=>?_;obtain⟨V,W,X,h,R,g,p,D,w⟩:=I;refine C _ λY Z x y=>?_;clear C;refine P ?_;replace x:=h▸x;obtain rfl:=aG x;replace y:=g▸y;cases y;unfold Bd
 try with_reducible refine fc ?_
 refine e (l.pyHash B v (e (Lc (s:={a with toks:=a.toks+l.draws b}) B v h g p D w ?_ ?_)))
 .intro o;have S:b∉f.map (·.1):=KU o;refine e (lK (e (Lv (hz:=by have z:=Bw p;exact FG z O) (s:={a with toks:=a.toks+l.draws b}) h g (aJ (N (s0 o) _ ⟨_,_,_,gV _ h (qH (nv g _)),
   R.mapDictKeys _,nv g _,?_,?_,?_⟩ (.of (gV _ h (qH (nv g _))) (nv g _) (by simp)) (hr ..))))))
  .rw[wN (s0 o)];simp[p,Bf]
  .rw[wN (s0 o)];intro F m;rcases cE.mp m with m|m
   .exact l.keeps (D F m) h g (hr ..)
   .simp only[b2]at m;subst m;exact l.keeps v h g (hr ..)
  .rw[wN (s0 o),el,sL];refine⟨w,by simp,?_⟩;intro F m ad H;simp only[qv,v5,b2]at H;subst H;exactλz=>S (z▸m)
 .intro T q K;exact e (tf (s:={a with toks:=a.toks+l.draws b}) h g ((entry_at p T).symm▸K.symm▸(e (lK (aJ (L q (Kw w K)))))))
def T3(b h:Q)(n:(b==qT)=d)(g:U):
 MeetsIn f0 bw.w (Builtin.«dict.setdefault» ⟨[.ref b,.ref h,g],[]⟩) (λi t a=>aA (kW λ(q:c)(f:E (c×Q×U))=>aA (BO (l.room i.in1) (l.is a.heap q h) (a.heap.DictOfH l b f) (jq a.heap b) (f.length<=cr)
  (∀s,sZ f q=A s->t (.ok (.ret s.2)) {a with toks:=a.toks+l.draws q})
  (sZ f q=M->∀r,r.DictOfH l b (oZ f q h g)->jq r b->ek b a.heap r->t (.ok (.ret g)) {a with heap:=r,toks:=a.toks+l.draws q})))):=
 .of_wp λi t a m=>by
  refine m _ λq f k=>?_;clear m;refine k _ λp u o j v w x=>?_;clear k;refine e (e (wV o.typeIs (aJ ?_)));show av _ _ (if(b==qT)=J then _ else(Bd b (.ref h) g>>=_)) _ _ a;rw[bZ (by rw[n];exact ml)];refine e (OO (l:=l) (b:=q) (f:=f) p u o j (λs j=>aJ ⟨s.2,G,w s j⟩) (λy r z B C=>aJ ⟨g,G,x y r z B C⟩) v)
end
def gk.ab7{b f e:Type}{c:b->e->Prop}{g:f->e}{h:j b}{i:j f}(l:gk (λa B=>c a (g B)) h i){a:b}{k:e}(m:c a k):c (h.getD a) ((i.map g).getD k):=by
 cases l with
 |afW=>exact m
 |afR n=>exact n
def OI:∀{l:E L}{q:E U},l.all (bk 8)=J->bk 8 r=J->aC b s l q->
 q.countP (λt=>lG (Ko s t) (dY r))=l.countP λu=>a_ u r:=by
 intro f
 induction f with
 |nil=>
  intro q v v c;rw[aC.eY.mp c];rfl
 |cons g l h=>
  intro q a e c;rw[sF,eB]at a;refine aC.gc.mp c _ λn o i j k=>?_;subst i;obtain⟨p,m⟩:=aF.reads a.1 j;rw[z_,z_,h a.2 e k,(SeqAt.readOf_eq (ln 8 g a.1).1 m),py a.1 e]
def ug(e:al g b h a)(c:b[w]?=A u)
 (m:∀(q:U->k->Prop)(s:U->k->Prop),(∀l t r,ek u a.heap l->f3 b l u v->aF b l x r->q r {a with heap:=l,toks:=t})->av aI i y q s a):
 cs g i b a y x (bd h w v):=
 λq s f=>m q s λl t r j n bB=>by
  have bq:=e.set (XV:=v) t c j n;exact f b _ r bq.2 bq.1 bB
def MY(e:al g b h a)(m:ds h l=A q)(n:q.length<1000000)(o:aF b a.heap (.ref l) s)(p:aF b a.heap t r):cs g i b a (eu (.builtin "list.append") [s,r]) .none (bd h l (.list (q++[t]))):=by
 refine as λH u=>e.at (l0 m) o _ λD v w x=>?_;subst v;refine x _ λaB c f=>u (ug e w λE F y=>Lm c (λz B j=>?_) (by rw[eV];exact lf n f.length (G:cr=2^24)));have k:=vy (b:=b) c j;exact y z a.toks _ j (λH C=>C (aB++[r]) (by simpa using B) ((pK f k).append (aC.mk (kq p k) (aC.eY.mpr G)))) G
def Yc(p:al g b h a)(z:ds h q=A l)(B:l.length<1000000)(C:l.getLast?=A D)(F:aF b a.heap (.ref q) T):cs g i b a (eu (.builtin "list.pop") [T]) D (bd h q (.list l.dropLast)):=by
 refine as λS k=>p.at (l0 z) F _ λj H I r=>?_;subst H;refine r _ λaB s t=>?_;clear r;obtain⟨l,rfl⟩:=E.getLast?_eq_some_iff.mp C;refine k (IU.symm▸?_);have m:=t.reverse;replace m:=Jh▸m;refine as λS k=>aC.gc.mp m _ λc e K L N=>?_;obtain rfl:aB=e.reverse++[c]:=by rw[<-Ji aB,K];simp
 obtain⟨u,n⟩:=id s;refine k ?_;have v:(e.reverse++[c]).toArray.size-1=e.reverse.length:=by rw[eV,bJ];rfl
 refine ug p I λQ R O=>wl Kg ⟨_,n,G⟩ PySem.F.entry_list_pop (PySem.F.args_list_pop_1 _) (adC j _ u c (by rw[v];simp) (by rw[eV];exact lf B t.length (G:cr=2^24))) ⟨n,?_⟩;have w:ek j a.heap (a.heap.update j (mu λf=>f.eraseIdxIfInBounds ((e.reverse++[c]).toArray.size-1))):=hr ..;have x:=vy (b:=b) s w;have o:=adB (show IsL a.heap j _ u from n) λf=>f.eraseIdxIfInBounds ((e.reverse++[c]).toArray.size-1);replace o:=(show(e.reverse++[c]).toArray.eraseIdxIfInBounds ((e.reverse++[c]).toArray.size-1)=e.reverse.toArray by rw[v,kl_erase,gX])▸o;have y:=(pK (c:=l.reverse) N x).reverse;rw[Ji]at y;exact O _ a.toks _ w (λS P=>P e.reverse ⟨_,o⟩ y) (kq L x)
def OH(e:al g b h a)(s:cC g m n i T)(t:ds h u=A l)(f:(bk 8 q&&l.all (bk 8)&&bV l.length)=J)(v:aF b a.heap (.ref u) w)(x:aF b a.heap q r):cs g i b a (eu (.builtin "list.count") [w,r]) (.int (l.countP λy=>a_ y q)) h:=by
 have L:=s.qg;refine as λU c=>e.at (l0 t) v _ λz B N j=>?_;subst B;refine j _ λaB C k=>?_;clear j;obtain⟨D,o⟩:=C;refine c ?_;rw[eB,eB]at f;refine as λU c=>?_;obtain⟨⟨f1,f2⟩,O⟩:=f;have p:=di.mp f2;obtain⟨P,E⟩:=aC.reads p k;obtain⟨Q,F⟩:=aF.reads f1 x;refine c ?_;have H:=ln 8 q f1;have:=qB (qJ (dP l)) (dY q).depth;exact pE e λR S I=>wl Kf ⟨_,o,G⟩ PySem.F.entry_list_count (PySem.F.args_list_count_2 _ _) (SeqAt.list_countAt z aB.toArray D M #[] r (λK=>lG (Ko a.heap K) (dY q))) ⟨o,SeqAt.items_eqAt (by simpa using E) F (si 8 l p).1 H.1 (by omega),((show aB.toArray.toList=aB from G).symm▸(OI f2 f1 k).symm▸(I _ _))⟩
def Sj(e:al g b h a)(u:fZ g)(H:cC g m n i ge){v:I}{j w x:L}{y:N}{z B k:U}(c:DQ h v j w=A (x,y))(C:aF b a.heap (.ref v) z)(gP:aF b a.heap j B)(D:aF b a.heap w k):cs g i b a (eu (.builtin "dict.get") [z,B,k]) x y:=by
 cases j with
 |int j=>
  refine as λY o=>bh c _ λF p c=>?_;obtain⟨V,rfl⟩:=gP;refine e.at (xH p) C _ λq K r E=>?_;subst K;refine E _ λW l s=>?_;clear E;exact o (dF c λO P t=>s4 AP l.typeIs Ka (J9 _ _ _) (meets_dict_get_default k0 q (k:=j) pI (e.nd u (d7 r)) k) ⟨_,l.mapOf,t b _ _ (ay.toks a _) (e.toks _) ((pf s _).getD D)⟩)
 |ab j=>
  refine as λY o=>bh c _ λF p c=>?_;obtain⟨ok,c⟩:=cf c;obtain⟨Q,rfl,R⟩:=rG ok gP;refine e.at (mT p) C _ λq S r T=>?_;subst S;exact T _ λf l X s=>o (dF c λO P t=>s4 AP l.typeIs Ka (J9 _ _ _) (meetsH_dict_get_default jp q Q (e.nd u (d7 r)) k) ⟨H.room,_,f,R.is,l,t b _ _ (ay.toks a _) (e.toks _) ((pg s _).ab7 D)⟩)
 |_=>exact no c
def D9{a:j L}{c e:L}{f g h:N}{b:L->N->Prop}(i:Internal.h6 a f c g=A (e,h))(k:∀l,a=A l->b l f)(m:a=M->b c g):b e h:=by
 cases a with
 |none=>exact dF i (m G)
 |some l=>exact dF i (k l G)
def OM(l:al g b h a)(F:fZ g){k:I}{c:O}{n x:L}{y:N}{s:j5}{m:E (O×L)}{z j:U}(H:jE h k=A m)(K:m.length<1000000)(P:Internal.h6 (dx c m) h n (bd h k (.afP (h8 c n m)))=A (x,y))(Q:aF b a.heap (.ref k) z)(B:aF b a.heap n j):cs g i b a (eu (.builtin "dict.setdefault") [z,.int c s,j]) x y:=by
 refine as λgt t=>l.at (xH H) Q _ λC R D S=>?_;subst R;refine S _ λT o p=>t ?_;have aT:∀{e f},_->_->av aI i (eu (.builtin "dict.setdefault") [.ref C,.int c s,j]) e f a:=λ{e f} V W=>s4 (Q:=e) (E:=f) AR o.typeIs Kb (J_ _ _ _) (kt_meets_setdefault k0 C (pI (l:=s)) (l.nd F (d7 D)) j) ⟨T,o,lf K p.len (G:cr=2^24),V,W⟩;refine D9 P (λge X=>?_) λq=>?_
 .refine as λgt t=>?_;obtain⟨go,r,Y⟩:=(pf p c).get X;exact t (λe f u=>aT (λZ v=>aG (r.symm.trans v)▸u b _ _ (ay.toks a _) (l.toks _) Y) λq=>no (q.symm.trans r))
 .have r:=(pf p c).no q;exact ug l D λe f u=>aT (λZ v=>no (r.symm.trans v)) λq ad dl w=>u ad (a.toks+1) _ w (Dg o dl w p B) (kq B (G5 o w))
def ON(l:al g b h a)(R:fZ g)(S:cC g m n i wp){t:I}{c:E L}{u B:L}{C:N}{o:E (E L×L)}{D F k:U}(T:fB h t=A o)(ok:dH c=J)(V:o.length<1000000)(W:Internal.h6 (c4 c o) h u (bd h t (.afM (i7 c u o)))=A (B,C))(X:aF b a.heap (.ref t) D)(gP:aF b a.heap (.ab c) F)(H:aF b a.heap u k):cs g i b a (eu (.builtin "dict.setdefault") [D,F,k]) B C:=by
 have Y:cr=2^24:=G;refine as λB0 v=>?_;obtain⟨K,rfl,Q⟩:=rG ok gP;refine l.at (mT T) X _ λO Z P ad=>?_;subst Z;refine ad _ λf p dl q=>v ?_;have ge:=l.nd R (d7 P);have go:=q.len;have aT:∀{e j},_->_->av aI i (eu (.builtin "dict.setdefault") [.ref O,.ref K,k]) e j a:=λ{e j} gt kw=>s4 (Q:=e) (E:=j) AR p.typeIs Kb (J_ _ _ _) (T3 O K ge k) (λB0 w=>w _ f (λB0 w=>w S.room Q.is p dl (lf V go Y) gt kw));refine D9 W (λA1 ld=>?_) λr=>?_
 .refine as λB0 v=>?_;obtain⟨A5,s,le⟩:=(pg q c).get ld;exact v (λe j x=>aT (λlo y=>aG (s.symm.trans y)▸x b _ _ (ay.toks a _) (l.toks _) le) λr=>no (r.symm.trans s))
 .have s:=(pg q c).no r;exact ug l P λe j x=>aT (λlo y=>no (s.symm.trans y)) λr mp of st z=>x mp (a.toks+_) _ z (Dl p of st z Q q H) (kq H (G6 p z))
def Ny(k:al g b h a)(r:fZ g)(s:cC g m n i go)(c:hJ h z v q=A (B,D))(f:aF b a.heap z T)(j:aC b a.heap q ge):
 cs g i b a (eu (.builtin (Eg v)) (T::ge)) B D:=by
 refine bh c _ λR C c=>?_;replace f:=(kA C)▸f;cases v with
 |append=>
  obtain⟨w,rfl,c⟩:=og c;refine bh c _ λq l c=>?_;obtain⟨e,c⟩:=cf c;obtain⟨F,rfl,t⟩:=l6 j;exact dF c (MY k l (hl e) f t)
 |pop=>
  obtain⟨H,c⟩:=cf c;refine bh c _ λq l c=>?_;obtain⟨e,c⟩:=cf c;refine bh c _ λw I c=>?_;replace j:=(E.isEmpty_iff.mp H)▸j;exact(aC.eY.mp j).symm▸(dF c (Yc k l (hl e) I f))
 |count=>
  obtain⟨w,rfl,c⟩:=og c;refine bh c _ λq l c=>?_;obtain⟨e,c⟩:=cf c;obtain⟨F,rfl,t⟩:=l6 j;exact dF c (OH k s l e f t)
 |get=>
  obtain⟨o,K,rfl,c⟩:=sk c;refine p5 j _ λL N x=>x _ λO gP p=>?_;clear x;subst O;exact Sj k r s c f gP p
 |af5=>
  obtain⟨o,K,rfl,c⟩:=sk c;refine p5 j _ λL N y=>y _ λP gP p=>?_;clear y;subst P;cases o with
  |int o=>
   refine bh c _ λQ u c=>?_;obtain⟨e,c⟩:=cf c;obtain⟨S,rfl⟩:=gP;exact OM k r u (hl e) c f p
  |ab o=>
   refine bh c _ λQ u c=>?_;obtain⟨e,c⟩:=cf c;rw[eB]at e;exact ON k r s u e.1 (hl e.2) c f gP p
  |_=>exact no c
end
end
section
def Yh(a1:am)(b:O)(c e:U)(a:cn):(mv a1 b c e a).cls=a.cls:=by
 obtain⟨g,h,f,i⟩:=a;cases f<;>first|rfl|(unfold mv;dsimp only;split<;>rfl)
def UA(r:a.heap.Ns b s)
 (e:∀i,i.Ns b (λl=>if l=a1 then A g else s l)->ek b a.heap i->(∀h,a.heap.get? b=A h->∃t,i.get? b=A t/\t.cls=h.cls)->w () {a with heap:=i,toks:=a.toks+1}):av aI T (nsSet b a1 g) w ge a:=by
 obtain⟨h,x,H,c,u,y,I⟩:=id r;intro j f K;obtain⟨m,v⟩:∃m:O,∀(o:e0->dj->k->Prop)(p:U->dj->k->Prop),ef.wp aI j (nsSet b a1 g) o p f a↔o () f {a with heap:=a.heap.update b (mv a1 m (.str a1 a.toks) g),toks:=a.toks+1}:=by
  refine⟨sX bw.w.params a1,λo p=>?_⟩;simp only[nsSet,strHash,ef.wp_bind',ef.wp_cmd_ask,ef.wp_pure',ef.wp_cmd_mkText];rw[ef.wp_loadPart_of aI j p f {a with toks:=a.toks+1} (o:=h) _ c];have z:x.any (·.refKey)=d:=by
   rw[ch.any_eq_false'];intro B C;obtain⟨n,L,e⟩:=y B C;simp[H1,e]
  simp only[u,aRefKeyMayBeTheName_eq,aRefKeyMayBeTheNameByArray,z,HO,j0,g7,ef.wp_cmd_updatePart];exact⟨λe=>e.2,λe=>⟨by rw[c];rfl,e⟩⟩
 refine(v _ _).mpr (e _ ((v (λV V D=>D.heap.Ns b (λl=>if l=a1 then A g else s l)) (λV V V=>dT)).mp (ef.wp_nsSet aI j _ f a r a1 g _ λi E V=>E)) (hr ..) λN q=>?_);have F:(mv a1 m (.str a1 a.toks) g h).isFreed=d:=by
  obtain⟨P,Q,R,S⟩:=h;subst u;unfold mv;dsimp only
  split<;>rfl
 replace q:=c▸q;obtain rfl:=aG q;exact⟨_,gV _ c F,Yh ..⟩
def ZH(c:a.kindOf a1=A .local)(e:b.heap.Ns a.locals m)
 (f:∀g,g.Ns a.locals (λh=>if h=a1 then A o else m h)->ek a.locals b.heap g->(∀i,b.heap.get? a.locals=A i->∃l,g.get? a.locals=A l/\l.cls=i.cls)->p () {b with heap:=g,toks:=b.toks+1})
 (j:(a.scope.kind==.class||(a.scope.kind==.module&&a.locals !=a.globals))=d):av aI q (oX a a1 o) p r b:=by
 rw[storeName_local c j];exact UA e f
structure bL where
 names:E (am×lD)
 i:E (j am)
structure cV(a:b9)(b:bL):Prop where
 kind:a.scope.kind=.function
 globals:a.globals=eN
 builtins:a.builtins=g6
 names:a.scope.names=b.names
def cV.kindOf(b:cV g B)(a:am):g.kindOf a=B.names.lookup a:=by unfold zR;rw[b.names]
def cV.lr(a:cV b g):(b.scope.kind==.class||(b.scope.kind==.module&&b.locals !=b.globals))=d:=by rw[a.kind];rfl
inductive nR(c:E Q)(f:aq)(e:b9)(l:am->j U)(a:am)(h:j L):Prop
 |inl (m:e.kindOf a=some .local) (n:∀b,h=some b->∃g,l a=some g/\aF c f b g)
 |inr (m:e.kindOf a=some .cell\/e.kindOf a=some .free) (i:Q) (k:j U) (o:e.cells.lookup a=some i) (p:f.IsCell i k) (n:∀b,h=some b->∃g,k=some g/\aF c f b g)
def L5(h:E Q)(a:aq)(b:b9)(i:E (j am))(k:aK)(l:Prop):Prop:=∀c:am->j U,a.Ns b.locals c->(∀(e:I)(f:am)(g:j L),i[e]?=A (A f)->k[e]?=A g->nR h a b c f g)->l
def q5(e:b9)(c:E Q)(f:aq)(g:Prop):Prop:=∀a:Q,∀b:cn,e.frame=A a->a∈c->f.get? a=A b->ke a b->(∃h n,b.data=.dict h n)->g
structure bK(p:aq)(k:E Q)(f:aq)(a:b9)(e:E (j am))(o:aK)(c:E Q):Prop where
 ns:aA (L5 k f a e o)
 t:∀l∈c,l∉k/\p.get? l=M/\∃q,f.get? l=A q
 own:a.locals∈c
 cq:aA (q5 a c f)
 cells:∀(g:I)(b:am)(h:Q),e[g]?=A (A b)->a.kindOf b≠A .local->a.cells.lookup b=A h->h∈c/\h≠a.locals
 inj:∀(g i:I)(b m:am)(h:Q),e[g]?=A (A b)->e[i]?=A (A m)->a.kindOf b≠A .local->a.kindOf m≠A .local->a.cells.lookup b=A h->a.cells.lookup m=A h->g=i
 aeJ:∀(g i:I)(b:am),e[g]?=A (A b)->e[i]?=A (A b)->g=i
 len:e.length=o.length
section
variable{f:aq}{a l:E Q}{m:N}{b g:k}{p:bF}{e:b9}{q:E (j am)}{i:aK}{h o:E Q}
def aF.kE(b:bW B a l)(c:b4 a B D)(e:aF a B T ge):aF l D T ge:=e.bm b c
def nR.bm(j:bW ge a l)(k:b4 a ge gt)(n:∀B D,e.kindOf T≠A .local->e.cells.lookup T=A B->ge.IsCell B D->gt.IsCell B D)(o:nR a ge e kw T le):
 nR l gt e kw T le:=by
 rcases o with⟨b,p⟩|⟨b,B,D,m,q,r⟩
 .exact .inl b (λc f=>let⟨g,h,i⟩:=p c f;⟨g,h,i.bm j k⟩)
 .have s:e.kindOf T≠A .local:=by rcases b with b|b<;>rw[b]<;>simp
  exact .inr b B D m (n B D s m q) (λc f=>let⟨g,h,i⟩:=r c f;⟨g,h,i.bm j k⟩)
def bK.bm(m:bK f a b.heap e q i h)(c:ay o a l b g)(E:∀B∈h,B∉o)(F:b4 a b.heap g.heap):bK f l g.heap e q i h:=by
 have t:∀B∈h,∀j,b.heap.get? B=A j->∃u,g.heap.get? B=A {j with slots:=u}:=λB r j k=>c.data B j k (m.t B r).1 (E B r);have b1:∀B∈h,B∉l/\f.get? B=M/\∃j,g.heap.get? B=A j:=λB r=>by
  refine as λle s=>?_;obtain⟨H,I,j,w⟩:=m.t B r;refine s (⟨λp=>as λle s=>?_,I,let⟨u,k⟩:=t B r j w;⟨_,k⟩⟩);obtain⟨n,k,K⟩:=c.ext;refine s ?_;rw[k]at p;rcases cE.mp p with p|p
  .exact H p
  .have:=K B p;rw[w]at this;exact nomatch this
 refine as λle s=>m.ns _ λL N O=>?_;obtain⟨j,P,Q,R,S⟩:=N;obtain⟨u,T⟩:=t _ m.own j R;refine m.cq _ λx U f1 f2 V W X=>?_;obtain⟨kw,Y⟩:=t x f2 U V;exact s (⟨λle v=>v L ⟨_,P,Q,T,S⟩ λy z Z C ad=>(O y z Z C ad).bm c.sv F λD ld dl ge⟨j,k,go⟩=>let⟨u,gt⟩:=t D (m.cells y z D C dl ge).1 j k;⟨_,gt,go⟩,b1,m.own,λle v=>v x _ f1 f2 Y W X,m.cells,m.inj,m.aeJ,m.len⟩)
def bK.quiet(o:bK f a b.heap e q i h)(p:al f a m b)(c:ay [] a l b g):bK f l g.heap e q i h:=
 o.bm c (by simp) (p.ab c)
def aai(b:r.Ns s u)(c:ek s r t):b4 a r t:=by
 obtain⟨g,h,i,e,f,j⟩:=b;exact ot e f c
def aah(g:r.IsCell s u)(h:ek s r t):b4 a r t:=by
 obtain⟨k,i,j⟩:=g;rintro c l o f o ⟨m,n,b⟩;by_cases e:c=s
 .subst e;replace f:=i▸f;obtain rfl:=aG f;replace b:=j▸b;exact nomatch b
 .rw[h.2 c e];exact f
def se(j:I)(k:r∈h)(l:s.get? r=A t)(g:ek r b.heap s):ay h a a b {b with heap:=s,toks:=j}:=
 .of ⟨[],by simp,by simp⟩ (λc i f n m=>(g.2 c (λe=>m (e▸k))).trans f) (λc i f=>by
  by_cases e:c=r
  .subst e;exact⟨t,l⟩
  .exact⟨i,(g.2 c e).trans f⟩) G rfl rfl
def x6{m:bL}(o:cV e m)(w:bK f a b.heap e m.i i h){n:I}{l:am}{c:L}(x:m.i[n]?=A (A l))(y:i[n]?=A (A c))(z:(l==("__classdict__":am))=d)
 (s:U->k->Prop) (B:U->k->Prop) (q:∀r,aF a b.heap c r->s r b):av aI p (Bn e l) s B b:=by
 refine w.ns _ λH C D=>?_;rcases D n l _ x y with⟨g,E⟩|⟨g|g,K,N,t,u,v⟩
 .obtain⟨r,F,j⟩:=E c G;exact th o.kind g C F (q r j)
 .obtain⟨r,rfl,j⟩:=v c G;exact wpAny_loadName_cell o.kind g t u (q r j)
 .obtain⟨r,rfl,j⟩:=v c G;exact Ln o.kind g t u (q r j) z
def Sb(g:aA (q5 e h u))(l:ek t u v)
 (k:∀r,u.get? t=A r->(∃s,v.get? t=A s/\s.cls=r.cls/\∃w n,s.data=.dict w n)):aA (q5 e h v):=by
 refine as λx b=>g _ λa r f1 f2 i f m=>?_;clear g;refine b ?_;by_cases j:a=t
 .subst j;refine as λx b=>?_;obtain⟨s,o,p,q⟩:=k r i;exact b (λx c=>c a s f1 f2 o ⟨p.trans f.1,f.2⟩ q)
 .exactλx c=>c a r f1 f2 ((l.2 a j).trans i) f m
def UB{e b:aq}{a:Q}{g:am->j U}(n:b.Ns a g)(h:∀s,e.get? a=A s->∃r,b.get? a=A r/\r.cls=s.cls):∀s,e.get? a=A s->(∃r,b.get? a=A r/\r.cls=s.cls/\∃t n,r.data=.dict t n):=λs i=>by
 refine as λq k=>?_;obtain⟨r,f,l⟩:=h s i;obtain⟨p,t,m,c,o,q⟩:=n;refine k ?_;replace c:=f▸c;obtain rfl:=aG c;exact⟨r,f,l,t,m,o⟩
def N2(f:aA (q5 e h r))(k:r.IsCell s w)(l:ek s r t):
 aA (q5 e h t):=by
 refine as λy a=>f _ λg m f1 f2 i o p=>?_;clear f;obtain⟨q,n,j⟩:=p;refine a (λy u=>u g m f1 f2 ((l.2 g λv=>?_).trans i) o ⟨q,⟨n,j⟩⟩);subst v;refine as λy a=>?_;obtain⟨x,b,c⟩:=k;refine a ?_;replace b:=i▸b;obtain rfl:=aG b;replace c:=j▸c;exact nomatch c
def Gx(a:(i.set s (A u))[r]?=A t):(r=s/\t=A u)\/(r≠s/\i[r]?=A t):=by
 by_cases b:r=s
 .subst b;by_cases c:r<i.length
  .rw[v3 c]at a;exact .inl ⟨G,(aG a).symm⟩
  .rw[qs (by simpa using c)]at a;exact nomatch a
 .rw[oD (dA b)]at a;exact .inr ⟨b,a⟩
def GK(go:cV e ge)(gt:al f a m b)(l:bK f a b.heap e ge.i i h)(w:ge.i[z]?=A (A t))(of:e.kindOf t≠A .free)(st:∀r∈o,r∈h)(wp:e.locals∈o)(A1:∀B,e.kindOf t≠A .local->e.cells.lookup t=A B->B∈o)(bB:aF a b.heap A5 T)
 (kw:e0->k->Prop) (B0:U->k->Prop) (ld:∀g,ay o a a b g->b4 a b.heap g.heap->al f a m g->bK f a g.heap e ge.i (i.set z (A A5)) h->(∀x,x∉h->g.heap.get? x=b.heap.get? x)->kw () g):av aI p (oX e t T) kw B0 b:=by
 refine l.ns _ λB2 Q P=>?_;have le:∀r∈o,f.get? r=M:=λr K=>(l.t r (st r K)).2.1;have B3:z<i.length:=by rw[<-l.len];exact(d6.mp w).1
 rcases P z t _ w (e8 B3)with⟨r,x⟩|⟨r|r,B,L,u,C,O⟩
 .refine ZH r Q (λH R q B8=>?_) go.lr;have v:=aai (a:=a) Q q;obtain⟨Ch,On,Os,S,Pv⟩:=id R;have c:ay o a a b {b with heap:=H,toks:=b.toks+1}:=se _ wp S q;have V:al f a m {b with heap:=H,toks:=b.toks+1}:=gt.quiet c le v λn D=>q.2 n λj=>(l.t _ l.own).1 (j▸D);refine ld _ c v V ⟨λPv W=>W _ R λI y X s E=>?_,λr K=>?_,l.own,Sb l.cq q (UB R B8),l.cells,l.inj,l.aeJ,by rw[fJ];exact l.len⟩ λx f=>q.2 x λj=>f (j▸l.own)
  .have Cl:∀n L,e.kindOf y≠A .local->e.cells.lookup y=A n->b.heap.IsCell n L->H.IsCell n L:=λn L Y D⟨F,j,Z⟩=>⟨F,(q.2 n (l.cells I y n s Y D).2).trans j,Z⟩;rcases Gx E with⟨rfl,rfl⟩|⟨ad,E⟩
   .replace s:=w▸s;cases s;exact .inl r (λdl N=>by obtain rfl:=aG N;exact⟨T,by simp,bB.bm (bW.refl _) v⟩)
   .have C9:y≠t:=λj=>ad (l.aeJ I z t (j▸s) w);rcases(P I y X s E).bm (bW.refl _) v Cl with⟨Da,D5⟩|⟨Fr,FB,GM,Id,IO,KB⟩
    .exact .inl Da (λdl N=>let⟨KF,KK,KM⟩:=D5 dl N;⟨KF,by simpa[C9]using KK,KM⟩)
    .exact .inr Fr FB GM Id IO KB
  .obtain⟨u,C,F,O⟩:=l.t r K;exact⟨u,C,c.cm r F O⟩
 .have ad:=(l.cells z t B w (by rw[r];simp) u).2;have lo:=(l.cells z t B w (by rw[r];simp) u).1;refine wpAny_storeName_cell go.kind r u C λH mp q=>?_;have v:=aah (a:=a) C q;obtain⟨Ch,S,Pi⟩:=id mp;have c:ay o a a b {b with heap:=H}:=se b.toks (A1 B (by rw[r];simp) u) S q;have V:al f a m {b with heap:=H}:=gt.quiet c le v λn D=>q.2 n λj=>(l.t _ lo).1 (j▸D);refine ld _ c v V ⟨λPv W=>W B2 (Q.sameBut q (dA ad)) λI y X s E=>?_,λr K=>?_,l.own,N2 l.cq C q,l.cells,l.inj,l.aeJ,by rw[fJ];exact l.len⟩ λx f=>q.2 x λj=>f (j▸lo)
  .rcases Gx E with⟨rfl,rfl⟩|⟨KT,E⟩
   .replace s:=w▸s;cases s;exact .inr (.inl r) B (A T) u mp (λdl N=>by obtain rfl:=aG N;exact⟨T,G,bB.bm (bW.refl _) v⟩)
   .refine(P I y X s E).bm (bW.refl _) v λn L Y D⟨F,j,Z⟩=>⟨F,(q.2 n λNs=>KT ?_).trans j,Z⟩;subst Ns;exact l.inj I z y t _ s w Y (by rw[r];simp) D u
  .obtain⟨u,C,F,O⟩:=l.t r K;exact⟨u,C,c.cm r F O⟩
 .exact bC r of
def GN(o:cV e r)(q:al f a m b)(l:bK f a b.heap e r.i i h)(j:r.i[u]?=A (A s))(v:e.kindOf s≠A .free)(bB:aF a b.heap w x)
 (c:e0->k->Prop) (n:U->k->Prop) (y:∀g,ay h a a b g->b4 a b.heap g.heap->al f a m g->bK f a g.heap e r.i (i.set u (A w)) h->(∀t,t∉h->g.heap.get? t=b.heap.get? t)->c () g):av aI p (oX e s x) c n b:=
 GK o q l j v (λE z=>z) l.own (λB C D=>(l.cells u s B j C D).1) bB c n y
def ZI(l:cV e r)(n:al f a m b)(o:bK f a b.heap e r.i i h)(q:r.i[t]?=A (A s))(u:e.kindOf s≠A .free)(bB:aF a b.heap v w)
 (c:e0->k->Prop) (j:U->k->Prop) (x:∀g,ay h a a b g->b4 a b.heap g.heap->al f a m g->bK f a g.heap e r.i (i.set t (A v)) h->c () g):av aI p (oX e s w) c j b:=
 GN l n o q u bB c j λg y z B C D=>x g y z B C
end
end
section
section
variable(a:aq)(n:I)(b:ah->cb)(c:ce)
structure b7(e:bL)(f:X)(j:a6):Prop where
 bf:∀{i:ah}{l:bF}{g:b9}{m:aK}{r h:E Q}{o p:N}{TI:k}{q:L},cV g e->bK a h TI.heap g e.i m r->al a h o TI->cC a i n l g->aR i b c m f o=A (q,p)->
  cs a l h TI (eC j g) q p
structure ip(e:bL)(j:X)(f:a6):Prop where
 bf:∀{l:ah}{m:bF}{g:b9}{o:aK}{u h:E Q}{p q:N}{TI:k}{r:ah},cV g e->bK a h TI.heap g e.i o u->al a h p TI->cC a l n m g->eO l b c j o p=A (r,q)->
  ∀(s:ah->k->Prop)(v:U->k->Prop),(∀t i,ay [] h t TI i->al a t q i->s r i)->av aI m (wB f g (eC f g)) s v TI
end
section
variable{a:aq}{n:I}{b:ah->cb}{c:ce}{e:bL}
def Vc(j:e.i[l]?=A (A g))(k:(g==("__debug__":am))=d)(m:(g==("__classdict__":am))=d):b7 a n b c e (.var l) (.Name g x):=
 ⟨λ{y z B C D f E F h H} o p q I r=>PL r λi s t u v=>te (x6 o p j s m t u λi w=>v f h i (ay.refl [] f h) q w) k⟩
def uJ(aT:∀{m:bF}{o:b9}{g:E Q}{h:N}{i:k},al a g h i->cs a m g i (eC l o) p h):b7 a n b c e (.lit p) l:=
 ⟨λ{j m o q r g h s i p} t t f t l=>dF l (aT f)⟩
def U7:b7 a n b c e (.lit .none) (.Constant .none h i):=uJ λf=>fC f G λj k g=>Constant_none g
def UR:b7 a n b c e (.lit (.bool g)) (.Constant (.bool g) i l):=uJ λf=>fC f G λj k h=>Constant_bool h
def U0:b7 a n b c e (.lit (.int g)) (.Constant (.int g) i l):=uJ λf=>pE f λj k h=>K7 (h _ _)
def EX:b7 a n b c e (.lit (.str g)) (.Constant (.str g) i l):=uJ λf=>xY f λj k h=>wpAny_Constant_str (h _ _)
def cs.then(b:cs a ge gt af kw le mp)(ai:ay [] wp gt A1 af)(c:∀D g B,ay [] wp D A1 g->al a D mp g->aF D g.heap le B->T B g):av aI ge kw T A5 af:=
 b T A5 λe bz B f h i=>c e bz B (ai.then f) h i
def UP(m:fZ a)(o:b7 a n b c e p q)(r:b7 a n b c e s t):b7 a n b c e (.af6 u p s) (.BinOp q (pR u) t D):=
 ⟨λ{C E F H I K L N O P} h i j f g=>Ps g λQ R S T v w g U V x=>wpAny_BinOp (o.bf h i j f v _ _ λW af X ai l y=>r.bf h (i.quiet j ai) l f w _ _ λY be Z k z B=>(Ni z m f g (l.fW k y) B).then (ai.then k) x)⟩
def C_{e:gE}{f:X}{h:ah}{i:aK}{j k:N}{g:L}(l:e=.agd->f=.lit .none)(a:aR h b c i f j=A (g,k))(m:e=.agd):g=.none:=by
 replace a:=(l m)▸a;exact(gv a).1.symm
def UT(r:fZ a)(s:b7 a n b c e t u)(v:b7 a n b c e i l)(w:wj (he g) l=d)(x:g=.agd->i=.lit .none):
 b7 a n b c e (.af0 t g i) (.Compare u [he g] [l] T):=
 ⟨λ{E F H I K L N O P Q} j m k f h=>Px h λR S U V W y o h X Y z=>wpAny_Compare1 (s.bf j m k f y _ _ λZ af ad ai p B=>v.bf j (m.quiet k ai) p f o _ _ λdl be ge q C D=>(xE C r f h (p.fW q B) D (C_ x o)).then (ai.then q) z) w⟩
def U5(f:b7 a n b c e g h):b7 a n b c e (.neg g) (.UnaryOp .USub h s):=
 ⟨λ{t u v w x y z B C D} i j k l m=>PF m λE F o H I p=>UnaryOp_ (f.bf i j k l o _ _ λK af L ai q r=>(Un q r).then ai p)⟩
def U8(f:b7 a n b c e g h):b7 a n b c e (.not g) (.UnaryOp .Not h t):=
 ⟨λ{u v w x y z B C D E} i j k l m=>PH m λF H I o p K L q=>UnaryOp_ (f.bf i j k l o _ _ λN af O ai r s=>(Uy r p s).then ai q)⟩
def U1(o:ip a n b c e p q)(r:b7 a n b c e s t)(u:b7 a n b c e v w):b7 a n b c e (.ite p s v) (.IfExp q t w D):=
 ⟨λ{C E F H I K L N O P} g h i j f=>PB f (λx k f y z l=>IfExp_ (o.bf g h i j k _ _ λB af ai m=>(r.bf g (h.quiet i ai) m j f).then ai l))
  λx k f y z l=>IfExp_ (o.bf g h i j k _ _ λB af ai m=>(u.bf g (h.quiet i ai) m j f).then ai l)⟩
def iP(a:aq)(n:I)(b:ah->cb)(c:ce)(e:bL):E X->E a6->Prop
 |[],[]=>True
 |g::f,h::i=>b7 a n b c e g h/\iP a n b c e f i
 |_,_=>dT
def iP.cons{h:X}{i:E X}{f:E a6}(l:iP a n b c e (h::i) f):∃g B,f=g::B/\b7 a n b c e h g/\iP a n b c e i B:=by
 cases f with
 |nil=>exact l.elim
 |cons g B=>exact⟨g,B,G,l⟩
def iP.nil(f:iP a n b c e [] g):g=[]:=by
 cases g with
 |nil=>rfl
 |cons h i=>exact f.elim
def UN{g:E X}{l:E a6}(w:iP a n b c e g l):b7 a n b c e (.and g) (.BoolOp .And l D):=by
 induction g generalizing l with
 |nil=>exact⟨λh i j k f=>no f⟩
 |cons F g z=>
  cases g with
  |nil=>
   obtain⟨m,H,rfl,p,q⟩:=w.cons;rw[q.nil];exact⟨λh i j k f s t o=>BoolOp_one (p.bf h i j k f s t o)⟩
  |cons I g=>
   obtain⟨m,l,rfl,p,q⟩:=w.cons;obtain⟨K,l,rfl,L⟩:=q.cons;exact⟨λ{N O P Q R S T U V W} h i j k f=>DB f (λY B m u f s t o=>BoolOp_and (p.bf h i j k m _ _ λx af y ai v r=>mb u r _ _ (((z q).bf h (i.quiet j ai) v k f).then ai o)))
    λB m u C s t o=>BoolOp_and (p.bf h i j k m _ _ λx af y ai v r=>mb u r _ _ (o x af y ai (C▸v) r))⟩
def U9{g:E X}{l:E a6}(w:iP a n b c e g l):b7 a n b c e (.or g) (.BoolOp .Or l D):=by
 induction g generalizing l with
 |nil=>exact⟨λh i j k f=>no f⟩
 |cons F g z=>
  cases g with
  |nil=>
   obtain⟨m,H,rfl,p,q⟩:=w.cons;rw[q.nil];exact⟨λh i j k f s t o=>BoolOp_one (p.bf h i j k f s t o)⟩
  |cons I g=>
   obtain⟨m,l,rfl,p,q⟩:=w.cons;obtain⟨K,l,rfl,L⟩:=q.cons;exact⟨λ{N O P Q R S T U V W} h i j k f=>DE f (λY B m u f s t o=>BoolOp_or (p.bf h i j k m _ _ λx af y ai v r=>mb u r _ _ (((z q).bf h (i.quiet j ai) v k f).then ai o)))
    λB m u C s t o=>BoolOp_or (p.bf h i j k m _ _ λx af y ai v r=>mb u r _ _ (o x af y ai (C▸v) r))⟩
def uL(f:b7 a n b c e l g)(j:∀h whole,wB g h whole=(do let i<-whole;By g.pos;Bh [i] (wQ i))):ip a n b c e l g:=
 ⟨λ{x y h z B C D E F H} k m o p q I K r=>let⟨i,s,t⟩:=mc q;isTrue_plain (f.bf k m o p s _ _ λu af L ai v w=>mb t w _ _ (r u af ai v)) (j h _)⟩
def VD(g:ip a n b c e h i):ip a n b c e (.not h) (.UnaryOp .Not i s):=
 ⟨λ{t u v w x y z B C D} j k l m f E F o=>Po f λH f p=>isTrue_not (g.bf j k l m f _ _ λq af ai r=>p▸o q af ai r)⟩
def VC(q:fZ a)(r:b7 a n b c e s t)(u:b7 a n b c e h i)(v:wj (he g) i=d)(w:g=.agd->h=.lit .none):
 ip a n b c e (.af0 s g h) (.Compare t [he g] [i] T):=
 ⟨λ{N O P Q R S U V W x} j l k f y X Y z=>Pn y λZ ad dl B m C=>wpAny_isTrue_Compare1 (r.bf j l k f B _ _ λge af go ai o D=>u.bf j (l.quiet k ai) o f m _ _ λgt be kw p E F=>xE E q f C (o.fW p D) F (C_ w m) _ _ λH bz ld I K L=>mb (l:=.bool x) G L _ _ (z H bz (ai.then (p.then I)) K)) v⟩
def lL(a:aq)(n:I)(b:ah->cb)(c:ce)(e:bL):E X->E a6->Prop
 |[],[]=>True
 |g::f,h::i=>ip a n b c e g h/\lL a n b c e f i
 |_,_=>dT
def lL.cons{h:X}{i:E X}{f:E a6}(l:lL a n b c e (h::i) f):∃g B,f=g::B/\ip a n b c e h g/\lL a n b c e i B:=by
 cases f with
 |nil=>exact l.elim
 |cons g B=>exact⟨g,B,G,l⟩
def lL.nil(f:lL a n b c e [] g):g=[]:=by
 cases g with
 |nil=>rfl
 |cons h i=>exact f.elim
def VA{g:E X}{m:E a6}(u:lL a n b c e g m):ip a n b c e (.and g) (.BoolOp .And m T):=by
 induction g generalizing m with
 |nil=>exact⟨λh i j k f=>let⟨_,f,_⟩:=mc f;no f⟩
 |cons U g z=>
  cases g with
  |nil=>
   obtain⟨o,V,rfl,r,s⟩:=u.cons;rw[s.nil];refine⟨λ{B C D F H I K L N v} h i j k f w x p=>Bj (r.bf h i j k f _ _ λq af ai l=>?_)⟩;cases v
   .exact p q af ai l
   .exact isTrue_and_nil (p q af ai l)
  |cons W g=>
   obtain⟨o,m,rfl,r,s⟩:=u.cons;obtain⟨Y,m,rfl,Z⟩:=s.cons;refine⟨λ{B C D F H I K L N v} h i j k f w x p=>?_⟩;obtain⟨ad,f,y⟩:=mc f;refine DB f (λdl O o t f=>Bj (r.bf h i j k (jc o t) _ _ λq af ai l=>(z s).bf h (i.quiet j ai) l k (jc f y) w x λP bz Q R=>p P bz (ai.then Q) R)) λO o t S=>?_;obtain rfl:=aG (t.symm.trans y);exact Bj (r.bf h i j k (jc o t) _ _ λq af ai l=>p q af ai (S▸l))
def VE{g:E X}{m:E a6}(u:lL a n b c e g m):ip a n b c e (.or g) (.BoolOp .Or m T):=by
 induction g generalizing m with
 |nil=>exact⟨λh i j k f=>let⟨_,f,_⟩:=mc f;no f⟩
 |cons U g z=>
  cases g with
  |nil=>
   obtain⟨o,V,rfl,r,s⟩:=u.cons;rw[s.nil];refine⟨λ{B C D F H I K L N v} h i j k f w x p=>Bk (r.bf h i j k f _ _ λq af ai l=>?_)⟩;cases v
   .exact isTrue_or_nil (p q af ai l)
   .exact p q af ai l
  |cons W g=>
   obtain⟨o,m,rfl,r,s⟩:=u.cons;obtain⟨Y,m,rfl,Z⟩:=s.cons;refine⟨λ{B C D F H I K L N v} h i j k f w x p=>?_⟩;obtain⟨ad,f,y⟩:=mc f;refine DE f (λdl O o t f=>Bk (r.bf h i j k (jc o t) _ _ λq af ai l=>(z s).bf h (i.quiet j ai) l k (jc f y) w x λP bz Q R=>p P bz (ai.then Q) R)) λO o t S=>?_;obtain rfl:=aG (t.symm.trans y);exact Bk (r.bf h i j k (jc o t) _ _ λq af ai l=>p q af ai (S▸l))
end
end
section
noncomputable def jL(a:a6):ah:=a.ctorIdx !=22
def vp(e:jL a=J)(c:E a6)(b:b9):hA (a::c) b=(d,eC a b)::hA c b:=by
 cases a<;>first|rfl|cases e
def vq:∀{a:E a6},a.all jL=J->∀(b:dj)(g:b9),(ih b (hA a g)).any (·.1)=d:=by
 intro c
 induction c with
 |nil=>
  intro i i i;exact G
 |cons h a f=>
  intro e b g;rw[sF,eB]at e;rw[vp e.1];show(d||(ih b (hA a g)).any (·.1))=d;rw[f e.2];rfl
section
variable{a:sN}{b:bF}{c:U->k->Prop}{g:k}{f:b9}
def Dz(m:h.all jL=J)(j:av a b (oW (ih p (hA h f))) (λi l=>o ⟨i,[]⟩ l) c g):
 av a b (evalArgs q J (ih p (hA h f)) []) o c g:=by
 cases h with
 |nil=>
  have k:av a b (oW []) (λi l=>o ⟨i,[]⟩ l) c g:=j;exact e (fd k (λi l k=>e (aJ (fc (e (aJ (e (aJ (aJ k)))))))) λs s n=>n)
 |cons r h=>
  rw[sF,eB]at m;rw[vp m.1]at j⊢;exact evalArgs_plain j
def kj(o:p.all jL=J)
 (v:av a b (oW (ih q (hA p f))) (λr h=>(∀(s:oC->k->Prop),(∀i,(i=.frame\/i=.machine)->s i h)->av a b (mx t) s c h)/\av a b (eu t (first++r)) m c h) c g):
 av a b (wk q t first (ih q (hA p f)) []) m c g:=by
 refine e (fc (Dz o (fd v (λr h l=>e (kT ?_)) λB B j=>j)));have tail:∀{u:ef U},av a b u m c h->av a b (u>>=λn=>Bh [n] point>>=λB=>pure n) m c h:=
  λw=>e (fd w (λn z x=>e (fc (BG (aJ x)))) λB B j=>j)
 simp only[vq o,E.any_nil,ql];refine e (l.1 _ λi y=>?_);rcases y with rfl|rfl
 .dsimp only
  split
  .exact tail l.2
  .exact tail (wpAny_keep l.2)
 .exact tail l.2
def rF(f:∀l,i≠.ref l)(e:oC->k->Prop)(j:∀h,(h=.frame\/h=.machine)->e h g):av a b (mx i) e c g:=by
 cases i<;>first
  |exact bC rfl (f _)
  |exact aJ (j _ (.inr rfl))
def S8{f:Q}{i:cn}{ax:j1}(l:g.heap.get? f=A i)(m:i.data=.func ax)(j:oC->k->Prop)(n:∀h,(h=.frame\/h=.machine)->j h g):av a b (mx (.ref f)) j c g:=by
 unfold mx;exact e (o0 l (m.symm▸(aJ (n _ (.inl rfl)))))
def uy(k:s1 i q f (eC i f)=eC i f)
 (n:l.all jL=J) (u:l.length<30) (m:(v.endLine==h.line)=J)
 (w:av a b (eC i f) (λr s=>av a b (s6 r q (do return(<-KI i f).getD J)) (λo t=>av a b (wk h o.1 o.2 (ih h (hA l f)) []) x c t) c s) c g):
 av a b (eC (.Call (.Attribute i q v) l [] h) f) x c g:=by
 rw[Ks,k];have y:wH (l.length+([]:E Keyword).length) (ih h (hA l f)) (wi h (wC [] f))=J:=by
  have z:∀p:E (ah×ef U),p.any (·.1)=d->p.all (!·.1)=J:=by
   intro p m;rw[di];intro j B;rw[z8]at m;simpa using m j B
  have C:wi h (wC [] f)=[]:=G;unfold wH;refine(z _ (vq n h f)).symm▸C.symm▸?_;simpa using u
 refine e (fd w (λr s D=>e (kT ?_)) λH H j=>j);unfold methodCall;refine y.symm▸(e (fc (fd D (λo t F=>?_) λH H j=>j)));unfold KS;exact m.symm▸(e (aJ F))
end
section
variable(a:aq)(n:I)(b:ah->cb)(c:ce)
structure hD(e:bL)(j:E X)(f:E a6):Prop where
 aeD:f.all jL=J
 bf:∀{m:ah}{o:bF}{g:b9}{p:aK}{v i:E Q}{q r:N}{TI:k}{s:E L}{w:dj},cV g e->bK a i TI.heap g e.i p v->al a i q TI->cC a m n o g->dv m b c p j q=A (s,r)->
  ∀(t:E U->k->Prop)(x:U->k->Prop),(∀l h u,ay [] i l TI h->al a l r h->aC l h.heap s u->t u h)->av aI o (oW (ih w (hA f g))) t x TI
end
section
variable{a:aq}{n:I}{b:ah->cb}{c:ce}{e:bL}
def Ve:hD a n b c e [] []:=
 ⟨G,λ{k l m o p f q r g s t} u v i w h x y j=>qX (j f g [] (ay.refl [] f g) ((gv h).2▸i) ((gv h).1▸aC.eY.mpr G))⟩
def Vd(B:b7 a n b c e D g)(m:hD a n b c e T h)(o:jL g=J):hD a n b c e (D::T) (g::h):=by
 refine⟨by rw[sF,o,m.aeD];rfl,λ{S C p V W F X q r s H} t u v w I=>DC (o:=λs q=>∀(i:E U->k->Prop)(x:U->k->Prop),(∀j f l,ay [] F j r f->al a j q f->aC j f.heap s l->i l f)->av aI C (oW (ih H (hA (g::h) p))) i x r) I λY Z ad dl K L i x N=>?_⟩;exact wS (B.bf t u v w K _ _ λge af go ai y O=>m.bf t (u.quiet v ai) y w L _ _ λP be l z Q R=>N P be _ (ai.then z) Q (aC.mk (y.fW z O) R)) (vp o h p)
def Pq:∀{i:ah}{l:aK}{h:E X}{m o:N}{g:E L},dv i b c l h m=A (g,o)->g.length=h.length:=by
 intro i l e
 induction e generalizing i l with
 |nil=>
  intro m o g a;rw[<-(gv a).1];rfl
 |cons k h f=>
  intro m o g a;exact DC (o:=λg t=>g.length=h.length+1) a λn p q r s j=>bj (·+1) (f j)
def GD(a:aC l m g h)(e:dv o b c p i q=A (g,r))(f:i.length<=1000):h.length<=cr:=by
 exact a.length.symm▸(Pq e).symm▸(FP f (G:cr=2^24))
def Vb(l:hD a n b c e g m)(k:g.length<=1000):b7 a n b c e (.ab g) (.Tuple m w x):=
 ⟨λ{y z B C D E F H I K} o p q r s=>PK s λL N h O P t=>wpAny_Tuple (l.bf o p q r h _ _ λi af u ai f j=>⟨GD j h k,
  t _ _ _ (ai.then (ay.push i af _ af.toks)) (f.push _ af.toks) (λQ v=>v _ u G ⟨_,dt _ G,G,_,G⟩ (f.iH (ay.push i af _ af.toks) j) f.su)⟩)⟩
def al.vN(b:al a B D T):aF (B++[g]) ge (.ref D.length) (.ref g):=λe c=>c g (by rw[<-b.len];simp) G
def U3(o:hD a n b c e g p)(j:g.length<=1000):b7 a n b c e (.list g) (.List p w):=
 ⟨λ{x y z B C D E F H I} k q r s f=>PD f λt K h L N u=>wpAny_List (o.bf k q r s h _ _ λO af i ai l m=>⟨GD m h j,
  have bq:=l.qf {cls:=.type "list",data:=.seq i.toArray} (.list t) (λP v=>v i ⟨_,dt _ G⟩ (m.bm (bW.gA (aq.kD _)) λP P P f P P=>bU _ f))
  u _ _ _ (ai.then bq.2) bq.1 l.vN⟩)⟩
end
end
section
def DM:∀a<17,∀b<17,(cL a==cL b)=decide (a=b):=by decide+kernel
structure lN(a:dy)(b:Q):Prop where
 aeW:∃aeW,j7 a b=A aeW/\aeW.hasDict=J
 afs:gD a (.ref b) "__getattribute__"=A (A (.builtin "object.__getattribute__"))
 afB:gD a (.ref b) "__getattr__"=A M
 afS:∀g<17,gD a (.ref b) (cL g)=A M
 afJ:plainOver a b=J
 afm:gD a (.ref b) "__setattr__"=A (A (.builtin "object.__setattr__"))
section
variable{a:E Q}{b:aq}
def RM(c:g<17)(f:lP a b h i)(e:h.lookup g=A l):∃e,i.find? (·.key.isStr (cL g))=A e/\aF a b l e.val:=by
 obtain⟨q,j,rfl⟩:=jn.mp ((Ek g h).symm.trans e);obtain⟨k,m,f⟩:=(f.find (c:=(·.key.isStr (cL g))) λr s n=>by obtain⟨o,⟨t,p⟩,u⟩:=n;rw[p];exact(DM _ o _ c).symm).get j;exact⟨k,m,f.2.2⟩
def DK(e:lP a b h g):g.any (·.refKey)=d:=
 z8.mpr λi c=>by
  obtain⟨j,l,⟨k,f⟩,l⟩:=e.mem c;unfold H1;rw[f];exact ml
def DJ(c:∀h<17,(cL h==i)=d)(e:lP a b m g):g.find? (·.key.isStr i)=M/\g.any (·.refKey)=d:=
 ⟨I1.mpr λn f=>by
  obtain⟨o,j,⟨p,k⟩,q⟩:=e.mem f;rw[k];exactλl=>kG ((c _ j).symm.trans l),DK e⟩
def RO(o:g<17)(bB:aF a b u h)(j:O)(c:j5)(k:lP a b p i):
 lP a b (ll g u p) (qO (cL g).cps.size (cL g).cps.toList (λ|some l=>{l with val:=h}|none=>⟨j,.str (cL g) c,h⟩) i).1/\
  (qO (cL g).cps.size (cL g).cps.toList (λ|some l=>{l with val:=h}|none=>⟨j,.str (cL g) c,h⟩) i).1.length<=i.length+1:=by
 induction k with
 |nil=>exact⟨.cons ⟨o,⟨c,G⟩,bB⟩ .nil,c_ _⟩
 |@cons m w p i q k e=>
  obtain⟨r,⟨s,t⟩,x⟩:=id q;unfold ll qO;have v:(U.str (cL m.1) s).isStr (cL g)=decide (m.1=g):=DM _ r _ o;rw[U.isStrByCps_eq,t,v];by_cases f:m.1=g
  .rw[cd (cg f),cd f];exact⟨.cons ⟨r,⟨s,t⟩,bB⟩ k,fo _⟩
  .rw[bZ (λn=>f (dE n)),bZ f];revert e;generalize qO (cL g).cps.size (cL g).cps.toList (λ|some l=>{l with val:=h}|none=>⟨j,.str (cL g) c,h⟩) i=n;intro e;obtain⟨y,z⟩:=n;exact⟨.cons q e.1,hw e.2⟩
end
section
variable{f:aq}{b i:E Q}{c:N}{a j:k}{g:bF}{e:dy}{h:U->k->Prop}
def al.c8(l:al f b c a){j e g:I}{k:E (I×L)}(r:c[j]?=A (.c8 e g))(s:c[g]?=A (.afS k)):
 aA (o4 (λT B D n=>aA (j_ (b[j]?=A T) (b[g]?=A B) (lP b a.heap k D) (a.heap.get? B=A (nA D n)) (InstAt a.heap T (wz (cX e) B) (cX e) (A (nA D n)))))):=by
 refine as λy t=>l.d0 r _ λT u m=>m _ λB o v=>?_;clear m;refine l.d0 s _ λx h p=>p _ λD n q w=>?_;clear p;refine t ?_;replace h:=o▸h;obtain rfl:=aG h;exactλy i=>i T B D n (λy i=>i u o w q ⟨v,G,G,q⟩)
def RL(p:al f b c a)(X:e.In a.heap){l:I}(m:lN e (cX l)){q r j:I}{s:E (I×L)}{k:L}{t:U}{expr:ah}(y:c[q]?=A (.c8 l r))(z:c[r]?=A (.afS s))(u:j<17)(B:s.lookup j=A k)
 (C:aF b a.heap (.ref q) t):cs f g b a (getAttr t (cL j) expr) k c:=by
 refine as λgo D=>p.c8 y z _ λV Y v n w=>w _ λF Z i ad H=>?_;clear w;have:=C.mj F;subst this;obtain⟨o,K,bB⟩:=RM u i B;obtain⟨dl,N,Q⟩:=m.aeW;refine D ?_;have O:wD (cL j) (nA v n)=A (A o.val):=by
  delta wD;simp only[K]
 have P:findObj e (cX l) (A (nA v n)) (cL j)=A (.value o.val):=by
  delta findObj;rw[N,cJ,m.afS j u,cJ];simp only[cJ];delta W.ownOf;refine Q.symm▸(cd G).symm▸?_;simp only[O,cJ]
 exactλge h R=>get_value X H m.afs P (handed bB:handedIn o.val=J) (R b _ _ (ay.toks a _) (p.toks _) bB)
where
 handed:∀{k:L}{x:U},aF b a.heap k x->handedIn x=J
  |.none,_,i=>by cases i;rfl
  |.bool _,_,i=>by cases i;rfl
  |.int _,_,i=>by obtain⟨go,rfl⟩:=i;rfl
  |.str _,_,i=>by obtain⟨go,rfl⟩:=i;rfl
  |.ab _,_,i=>by refine i _ λgo go S go go go=>?_;clear i;subst S;rfl
  |.ref _,_,i=>by refine i _ λgo go T=>?_;clear i;subst T;rfl
def Es(v:al f b c a)(X:e.In a.heap){l:I}(o:lN e (cX l)){p q:I}{w:E (I×L)}{m:U}{j:am}{i:Q}{x:ef ah}(y:c[p]?=A (.c8 l q))(z:c[q]?=A (.afS w))
 (r:∀i<17,(cL i==j)=d) (B:gD e (.ref (cX l)) j=A (A (.ref i))) (C:kR e (.ref i)=A (.type "function")) (D:aF b a.heap (.ref p) m)
 (s:U×E U->k->Prop) (F:s (.ref i,[m]) a):av aI g (s6 m j x) s h a:=by
 refine v.c8 y z _ λP R H n t=>t _ λK S u T N=>?_;clear t;have:=D.mj K;subst this;have O:wD j (nA H n)=A M:=by
  unfold wD;simp only[(DJ r u).1,(DJ r u).2,j0,g7]
 exact method_fn X N o.afs o.afB B C (by unfold shadowIn;simp only[O];rfl) F
end
end
section
structure c1(a:aq)(e:dy):Prop where
 base:fZ a
 g:a.Ns eN bw.cB
 afl:∀l i,e.lookup l=A i->i.cls≠.type "frame"
 b:a.Ns g6 bw.jY
 ae9:∀h:am,h≠"__name__"->bw.jY h=oQ h
 gd:e.In a
noncomputable def kx(a:a6):ah:=if b:a.ctorIdx=16 then H5 (motive_1:=λc=>ah) a b λe c c c=>I.beq e.ctorIdx 20 else J
def rk(h:kx g=J):s1 g i a (eC g a)=eC g a:=by
 cases g with
 |Call b c e f=>exact H4 (motive_1:=λb=>s1 (.Call b c e f) i a (eC (.Call b c e f) a)=eC (.Call b c e f) a) b (I.eq_of_beq_eq_true h) λj j j=>rfl
 |_=>rfl
noncomputable def uF(a:a6):ah:=a.ctorIdx !=26
section
variable{a:aq}{n:I}{c:ah->cb}{g:ce}{b:bL}{h:dy}
def al.gd(g:al a D T B)(e:c1 a h):h.In B.heap:=λb c f=>g.bu b c (e.gd b c f) (e.afl b c f)
def al.ach(b:al a B gt D)(e:aF [] a T ge):aF B D.heap T ge:=e.bm (bW.nil b.fresh) λc f i g h i=>b.bu c f g (by rw[h];simp)
def UY(m:c1 a h)(j:b.names.lookup i=A .globalImplicit)(k:bw.cB i=A o)(p:aF [] a l o)(q:(i==("__debug__":am))=d):
 b7 a n c g b (.aga l) (.Name i u):=
 ⟨λ{v w r x y z B C D l} e E f F s=>dF s (fC f (f.ach p) λH I t=>v8 e.kind (by rw[e.kindOf];exact j) (Bm (env:=r) (mg:=bw.cB) (by rw[e.globals];exact f.ns m.g) k t) q)⟩
def xW(f:c1 a h)(e:cV l b)(g:al a q r m)(c:b.names.lookup i=A .globalImplicit)(j:bw.cB i=A o)(k:(i==("__debug__":am))=d)
 (n:p o m):av aI s (eC (.Name i t) l) p u m:=by
 exact v8 e.kind (by rw[e.kindOf];exact c) (Bm (env:=l) (mg:=bw.cB) (e.globals.symm▸(g.ns f.g)) j n) k
def xB(f:c1 a h)(e:cV l b)(g:al a s t m)(c:b.names.lookup i=A .globalImplicit)(j:bw.cB i=M)(k:oQ i=A o)(n:i≠"__name__")(p:(i==("__debug__":am))=d)
 (q:r o m):av aI u (eC (.Name i v) l) r w m:=by
 refine v8 e.kind (by rw[e.kindOf];exact c) (KO (env:=l) (mg:=bw.cB) (mb:=bw.jY) ?_ j ?_ ((f.ae9 i n).trans k) q) p
 .exact e.globals.symm▸(g.ns f.g)
 .exact e.builtins.symm▸(g.ns f.b)
def CD(a:kV):∀i,tK a≠.ref i:=by cases a<;>intro i b<;>cases b
def UO(o:c1 a h)(f:hD a n c g b p q)(r:b.names.lookup i=A .globalImplicit)(s:bw.cB i=M)(t:oQ i=A (tK l))(u:i≠"__name__")(v:(i==("__debug__":am))=d):
 b7 a n c g b (.afZ l p) (.Call (.Name i T) q [] ge):=
 ⟨λ{F H I K L N O P Q R} j w k m e=>Pr e λS U x y e V W z=>qW (xB o j k r s t u v (kj f.aeD (f.bf j w k m x _ _ λX af Y ai B C=>
  ⟨λD E=>rF (CD l) D E,(CC B m e y C).then ai z⟩)))⟩
def UQ(t:c1 a h)(u:b7 a n c g b v m)(e:hD a n c g b w o)(x:kx m=J)(y:o.length<30)(z:(B.endLine==D.line)=J):
 b7 a n c g b (.af_ v T w) (.Call (.Attribute m (xA T) B) o [] D):=
 ⟨λ{O P Q R S U V W X Y} j p k f i=>Pt i λq Z ad dl C E F i ge go H=>uy (rk x) e.aeD y z (u.bf j p k f C _ _ λgt af kw ai l r=>Yu l E r _ _ _ (kj e.aeD
  (e.bf j (p.quiet k ai) l f F _ _ λld be le s I K=>⟨λL N=>rF (by intro lo q;cases q) L N,(Ny I t.base f i (l.fW s r) K).then (ai.then s) H⟩)))⟩
def UW(f:c1 a h)(j:∀i,lN h (cX i))(o:b7 a n c g b p l)(k:kx l=J)(q:m<17):b7 a n c g b (.br p m) (.Attribute l (cL m) D):=
 ⟨λ{E F H I K L N O P Q} r s t u v=>Py v λR i S T U V w x y z W X B=>Attribute_any_ (o.bf r s t u w _ _ λY af Z ai e C=>(RL e (e.gd f) (j i) x y q z C).then ai B) (by rw[arm_eval_Attribute,rk k])⟩
def GV{f:bF}{g:U->k->Prop}{h:k}{value slice:a6}{a c:U}{b id:eg}{i:U->k->Prop}(l:h.TypeIs a b)
 (n:qV (.type b) "__getitem__"=pure (A (.builtin id))) (o:av aI f (kQ a c) i g h) (p:qS slice d a c=wJ [a,c] (kQ a c)):
 av aI f (wO value slice a c) i g h:=by
 refine e ((KH l.not_modules).symm▸(e (nF l n ?_)));have aj:av aI f (qS slice d a c) (λj m=>av aI f (KL value a j>>=λs=>pure j) i g m) g h:=by
  exact p.symm▸(Lr (fd o (λj m q=>e (Ll (aJ q))) λs s r=>r))
 first
  |exact aJ (e aj)
  |exact e (aJ (e aj))
  |exact e aj
def Sz(s:al a p q l)(g:ck q r t=A T)(h:aF p l.heap r m):∃b id,l.TypeIs m b/\qV (.type b) "__getitem__"=pure (A (.builtin id)):=by
 have aT:∀{e:I}{j:aO},aF p l.heap (.ref e) m->q[e]?=A j->(∀P:Prop,(∀c,j=.list c->P)->(∀c,j=.afP c->P)->(∀c,j=.afM c->P)->P)->∃b id,l.TypeIs m b/\qV (.type b) "__getitem__"=pure (A (.builtin id)):=λh k u=>by
  refine s.at k h _ λi v E e=>?_;subst v;refine u _ (λc n=>?_) (λc n=>?_) λc n=>?_
  all_goals subst n
  .refine e _ λw x y=>?_;clear e;exact⟨_,_,x.isList.typeIs,slot_list_getitem.lookup⟩
  .refine e _ λF o N=>?_;clear e;exact⟨_,_,o.mapOf.typeIs,Bx.lookup⟩
  .refine e _ λf o N N=>?_;clear e;exact⟨_,_,o.typeIs,Bx.lookup⟩
 cases r with
 |ab c=>
  refine h _ λi w z B y H=>?_;clear h;subst z;exact⟨_,_,B.typeIs,qR.lookup⟩
 |ref e=>
  cases t with
  |int K=>
   refine bh g _ λj k g=>?_;cases j with
   |list c=>exact aT h k λP i N N=>i c G
   |afP c=>exact aT h k λP N i N=>i c G
   |_=>exact no g
  |ab L=>
   exact bh g _ λC D g=>aT h (mT D) λP N N i=>i C G
  |_=>exact no g
 |_=>exact no g
def UZ(q:b7 a n c g b r s)(t:b7 a n c g b u i)(v:uF i=J):b7 a n c g b (.agi r u) (.Subscript s i T):=by
 refine⟨λ{E F H I K L N O P Q} j l k e w=>PA w λR S U V W x y m X Y z=>wg (q.bf j l k e x _ _ λZ af ad ai f o=>t.bf j (l.quiet k ai) f e y _ _ λdl be ge h p B=>?_)⟩;obtain⟨go,id,C,D⟩:=Sz p m (f.fW h o);exact GV C D ((Sx p e m (f.fW h o) B).then (ai.then h) z) (by cases i<;>first|rfl|cases v)
def al.cl(b:al a ge gt T)(c:∃B ax,a.get? D=A B/\B.data=.func ax):∃B ax,T.heap.get? D=A B/\B.data=.func ax:=by
 refine as λj e=>?_;obtain⟨B,ax,f,g⟩:=c;obtain⟨i,h⟩:=b.data D B f;exact e (⟨_,ax,h,g⟩)
def x5(b:∃l ax,m.heap.get? o=A l/\l.data=.func ax)(a:oC->k->Prop)(c:∀i,(i=.frame\/i=.machine)->a i m):av p q (mx (.ref o)) a r m:=
 let⟨_,_,e,f⟩:=b;S8 e f a c
def q4(f:b9)(a:aq)(c:E Q)(g:aq)(h:Prop):Prop:=∀b:Q,∀e:cn,f.frame=A b->∀n:b∉c,a.get? b=M->g.get? b=A e->ke b e->(∃i n,e.data=.dict i n)->h
def bK.cm(b:bK a B D T ge gt kw):aA (q4 T a B D):=by
 exact b.cq _ λc e f1 f2 f g h=>λj i=>i c e f1 (b.t c f2).1 (b.t c f2).2.1 f g h
def w1(a:aq)(n:I)(c:ah->cb)(b1:I->Q):Prop:=
 ∀(f:ah)(g:bF)(h:b9)(i:I)(b:E Q)(j l:N)(e:k)(m:E L)(o:E U)(p:L),cC a f n g h->aA (q4 h a b e.heap)->al a b j e->aC b e.heap m o->c f i m j=A (.ret p,l)->cs a g b e (eu (.ref (b1 i)) o) p l
def US(q:c1 a h)(r:w1 a n c b1)(f:hD a n c g b s t)(u:b.names.lookup i=A .globalImplicit)(v:bw.cB i=A (.ref (b1 l)))(w:(i==("__debug__":am))=d)
 (x:∃m ax,a.get? (b1 l)=A m/\m.data=.func ax):b7 a n c g b (.call l s) (.Call (.Name i T) t [] ge):=
 ⟨λ{y z B Q R S U C V D} j o e k E=>Pu E λF H I K W X L=>qW (xW q j e u v w (kj f.aeD (f.bf j o e k I _ _ λN af O ai p P=>
  ⟨x5 (p.cl x),(r y z B l N H C af F O D k (o.quiet e ai).cm p P K).then ai L⟩)))⟩
def U4(w:c1 a h)(x:∀m,lN h (cX m))(y:w1 a n c b1)(z:b7 a n c g b i q)(f:hD a n c g b B r)
 (C:kx q=J) (D:r.length<30) (E:(T.endLine==ge.line)=J) (F:∀go<17,(cL go==s)=d) (H:gD h (.ref (cX m)) s=A (A (.ref (b1 l)))) (I:kR h (.ref (b1 l))=A (.type "function"))
 (K:∃i ax,a.get? (b1 l)=A i/\i.data=.func ax):b7 a n c g b (.agg m i l B) (.Call (.Attribute q s T) r [] ge):=
 ⟨λ{L N O lo mp of st P wp Q} t o j k R=>PE R λS A1 A5 B0 U V W X Y Z ad B2 B3 dl=>uy (rk C) f.aeD D E (z.bf t o j k W _ _ λB8 af gt ai e u=>Es e (e.gd w) (x _) X Y F H I u _
  (kj f.aeD (f.bf t (o.quiet j ai) e k Z _ _ λkw be ld p v le=>⟨x5 (v.cl K),
   (y L N O l kw V P be (.ref S::U) (gt::ld) Q k ((o.quiet j ai).quiet e p).cm v (aC.mk (e.fW p u) le) ad).then (ai.then p) dl⟩)))⟩
end
end
section
section
variable{a:aq}{n:I}{b:ah->cb}{e:ce}{g:bL}{h:dy}
noncomputable def ro:E gE->E X->ah
 |[],[]=>J
 |a::b,_::c=>a.some&&ro b c
 |_,_=>d
def Pp{c:ah}{f:aK}{j:X}{g:E X}{k n:L}{o:gE}{h:E gE}{p q:N}{P:Prop}(a:lY c b e f (j::g) k (o::h) p=A (n,q))(r:∀l i m,aR c b e f j p=A (l,i)->bY i o k l=A m->(cU (m&&!(g.isEmpty&&h.isEmpty)) (lY c b e f g l h i) (A (.bool m,i)))=A (n,q)->P):P:=by
 exact b0 a _ λl i s a=>bh a _ λm t a=>r l i m s t a
def aaa(le:fZ a){lo:dj}{Z:ah}{I:bF}{K:b9}{ad:aK}{mp:E Q}(dl:cV K g)(P:cC a Z n I K):∀{w:E X}{x:E a6}{m:E gE}{l:E Q}{y p:N}{i:k}{z q:L}{r:U},
 iP a n b e g w x->ro m w=J->bK a l i.heap K g.i ad mp->al a l y i->aF l i.heap z r->lY Z b e ad w z m y=A (q,p)->
 ∀(T:ah->k->Prop)(B:U->k->Prop),(∀ge go D,q=.bool ge->ay [] l go i D->al a go p D->T ge D)->av aI I (testChain lo r (m.map he) (wt x K)) T B i:=by
 intro of
 induction of with
 |nil=>
  intro x m l y p i z q r R h C s S f;exact no f
 |cons D5 w st=>
  intro x wp;cases wp with
  |nil=>
   intro l y p i z q r R h C s S f;exact no f
  |cons A1 m=>
   intro l y p i z q r R h C s S f T B V;obtain⟨Fr,x,rfl,gt,Y⟩:=R.cons;replace h:=And.imp_left o3.HH (e7.mp h);refine Pp f λA5 W F kw B0 f=>?_;have aT:∀{t af O ld},ay [] l t i af->al a t W af->aF t af.heap A5 O->(∀j bz,ay [] l j i bz->ay [] t j af bz->al a j W bz->ld F bz)->av aI I (gh (he A1) r O) (λB2 i=>av aI I (wQ B2) ld B i) B af:=λai o u B3=>
    xE o le P B0 (s.fW ai S) u (λB8=>bC B8 h.1) _ _ λj bz FB H v Ch=>mb (l:=.bool F) G Ch _ _ (B3 j bz (ai.then H) H v)
   cases w with
   |nil=>
    cases m with
    |cons KK KK=>cases h.2
    |nil=>
     refine Y.nil.symm▸?_;obtain⟨rfl,rfl⟩:=gv ((by cases F<;>exact f):A (L.bool F,W)=A (q,p));exact test_last (gt.bf dl C s P kw _ _ λt af O ai o u=>aT ai o u λj bz c KK v=>V _ _ _ G c v)
   |cons ao GM=>
    cases m with
    |nil=>cases h.2
    |cons u1 Id=>
     obtain⟨IO,KB,rfl,KF⟩:=id Y.cons;refine test_link (gt.bf dl C s P kw _ _ λt af O ai o u=>aT ai o u λj bz c H v=>?_);cases F with
     |false=>obtain⟨rfl,rfl⟩:=gv f;exact V _ _ _ G c v
     |true=>exact st Y h.2 ((C.quiet s ai).quiet o H) v (o.fW H u) f T B λge go D Cl C9 Da=>V ge go D Cl (c.then C9) Da
def aaC{c:Type}{a:E c}(b:2<=a.length):∃i l m,a=i::l::m:=by
 cases a with
 |nil=>exact bC b (AB 1)
 |cons i a=>cases a with
  |nil=>exact bC (v_ b) (AB 0)
  |cons l a=>exact⟨i,l,a,G⟩
def N5(a:ro o (q::r::i)=J):∃l m p,o=l::m::p:=by
 cases o with
 |nil=>cases a
 |cons l i=>cases i with
  |nil=>exact kG (e7.mp a).2
  |cons m i=>exact⟨l,m,i,G⟩
def VB(x:fZ a)(y:b7 a n b e g z B)(o:iP a n b e g m i)(k:ro l m=J)(C:2<=m.length)(D:lastMarks (l.map he) i=d):
 ip a n b e g (.age z l m) (.Compare B (l.map he) i p):=by
 obtain⟨ac,ao,m,rfl⟩:=aaC C;obtain⟨E,F,l,rfl⟩:=N5 k;obtain⟨H,i,rfl,ge,K⟩:=o.cons;obtain⟨I,i,rfl,_,_⟩:=K.cons;refine⟨λ{go L N gt kw O ld le P lo} q r s t h u v Q=>?_⟩;obtain⟨mp,h,w⟩:=mc h;refine Pw h λR S T U=>?_;have V:∀f af j,ay [] O f P af->al a f S af->aF f af.heap R j->av aI L (testChain p j ((E::F::l).map he) (wt (H::I::i) N)) u v af:=λf af j ai W X=>aaa (lo:=p) x q t o k (r.quiet s ai) W X U u v λof Y Z ad c dl=>by
  rw[ad]at w;exact aG w▸Q Y Z (ai.then c) dl
 exact isTrue_chain (y.bf q r s t T _ _ V) D
def Yv{e:E Q}{a:aq}(c:ah):f3 e (a.push ii) a.objs.size (t2 c):=by
 cases c
 .exactλf b=>b [] ⟨ii,#[],0,dt _ G,⟨G,G,G⟩,G,λf a=>by simp at a,.nil,.nil⟩ .nil
 .exactλf b=>b [] (ac3 a) (λf b=>b ii #[] (dt _ G) G) .nil
def UV:b7 a n b e g (.af7 i) (.Dict [] [] l):=
 ⟨λ{p c h q r j s t k u} v w f x m=>dF (c:=cs a c j k (eC (.Dict [] [] l) h)) m λy z o=>wpAny_Dict_empty (have bq:=f.qf ii (t2 i) (Yv i);o _ _ _ bq.2 bq.1 f.vN)⟩
structure tx(a:aq)(n:I)(b:ah->cb)(e:ce)(g:bL)(c:X)(f:a6):Prop where
 bf:∀{o:ah}{p:bF}{i:b9}{q:aK}{u l:E Q}{r s:N}{TI:k}{t:L}{m:am},cV i g->bK a l TI.heap i g.i q u->al a l r TI->cC a o n p i->aR o b e q c r=A (t,s)->GX t=A m->m.length<100000->
  cs a p l TI (eC f i) (.str m) s
def Vf:tx a n b e g (.lit (.str i)) (.Constant (.str i) m o):=by
 refine⟨λ{p q r s t u v w x y z} f h j k c l B=>?_⟩;obtain⟨rfl,rfl⟩:=gv c;exact aG l▸EX.bf f h j k c
def Vg(l:b7 a n b e g m o):tx a n b e g m (.FormattedValue o (-1) M z):=by
 refine⟨λ{B C D E F H I K p q L} r s t u v c w N O f=>FormattedValue_plain (l.bf r s t u v _ _ λh af P ai i j=>?_)⟩;cases q with
 |str p=>
  obtain rfl:=aG c;obtain⟨x,rfl⟩:=j;exact formatField_str (λQ k=>f h _ _ (ai.then (ay.toks af k)) (i.toks k) ⟨_,G⟩) (yE w (G:cr=2^24))
 |int R=>
  obtain⟨y,c⟩:=cf c;obtain rfl:=aG c;obtain⟨x,rfl⟩:=j;have:=yI y;exact formatField_int_small (FO this) (f h _ _ (ai.then (ay.toks af _)) (i.toks _) ⟨_,G⟩)
 |_=>exact no c
def tk(a:aq)(n:I)(b:ah->cb)(e:ce)(g:bL):E X->E a6->Prop
 |[],[]=>True
 |c::f,h::i=>tx a n b e g c h/\tk a n b e g f i
 |_,_=>dT
def ZJ(b a:am):a.length<=(b++a).length:=by rw[strLen_append];exact mr _ _
def X1(O:cV B g)(P:cC a T n ge B):∀{D:E X}{i:E a6}{o:E Q}{s t:N}{l:k}{u:E L}{m v:am},
 tk a n b e g D i->m.length<100000->bK a o l.heap B g.i go gt->al a o s l->dv T b e go D s=A (u,t)->lZ m u=A v->
 ∀(p:U->k->Prop)(w:U->k->Prop),(∀x q y,ay [] o x l q->al a x t q->p (.str v y) q)->av aI ge (joinParts m (wt i B)) p w l:=by
 intro R
 induction R with
 |nil=>
  intro i o s t l u m v r I C z f h p w F;cases i with
  |cons A1 A1=>exact r.elim
  |nil=>
   refine as λA1 H=>?_;obtain⟨rfl,rfl⟩:=gv f;exact H (joinParts_nil (aG h▸F o _ _ (ay.toks l _) (z.toks _)) (yE I (G:cr=2^24)))
 |cons kw D S=>
  intro i o s t l u m v r I C z f h p w F;cases i with
  |nil=>exact r.elim
  |cons ld i=>
   refine as λA1 H=>b0 f _ λle lo V f=>b0 f _ λmp of W f=>?_;obtain⟨rfl,rfl⟩:=gv f;refine bh h _ λK Y h=>?_;obtain⟨j,h⟩:=cf h;refine H ?_;have j:(m++K).length<100000:=dE j;exact joinParts_cons (r.1.bf O C z P V Y (c0 (ZJ m K) j) _ _ λst af wp ai Z⟨y,ad⟩=>ad.symm▸(⟨yE j (G:cr=2^24),S r.2 j (C.quiet z ai) Z W h p w λx q y c dl=>F x q y (ai.then c) dl⟩))
def UX(h:tk a n b e g l i)(f:2<=i.length):b7 a n b e g (.af3 l) (.JoinedStr i z):=by
 refine⟨λ{B C D E F H I K L N} j k m o p=>Pz p λO P Q q r s t u=>?_⟩
 match i,f,h with
 |R::S::i,_,h=>exact JoinedStr_many (X1 j o h (ap G) k m q r s t λv w x c y=>u v w _ c y ⟨x,G⟩)
 |[_],f,_=>cases v_ f
 |[],f,_=>exact bC f nofun
end
end
section
def EC{a:O}{n:I}(b:a<0):a+n<=n:=hs (O.add_le_add_right (oB b) n) (z4 (z7 (n:O)))
def Oh(a:O)(n:I):0<=(if a<0 then max (a+n) 0 else min a n):=by
 by_cases b:a<0
 .rw[cd b];exact O.le_max_right _ _
 .rw[bZ b];exact Iy.mpr ⟨lA.mp b,hP n⟩
def Og(a:O)(n:I):(if a<0 then max (a+n) 0 else min a n)=((jQ a n:I):O):=(sE (Oh a n)).symm
def Of(b:O)(n:I):clipAt n b=jQ b n:=by
 refine bj v0 ?_;by_cases a:b<0
 .rw[cd a,cd a,IA (EC a),O.max_comm]
 .rw[bZ a,bZ a];exact O.max_eq_right (Iy.mpr ⟨lA.mp a,hP n⟩)
noncomputable def ft(a:j O)(n:I):I:=match a with|some b=>jQ b n|none=>0
noncomputable def gq(a:j O)(n:I):I:=match a with|some b=>jQ b n|none=>n
def Gj(b:O)(n:I):jQ b n<=n:=by
 refine v1.mpr ?_;by_cases a:b<0
 .rw[cd a];exact O.max_le.mpr ⟨EC a,hP n⟩
 .rw[bZ a];exact O.min_le_right _ _
def ad_(a:j O)(n:I):ft a n<=n:=by cases a with|none=>exact fY _|some b=>exact Gj b n
def ad7(a:j O)(n:I):gq a n<=n:=by cases a with|none=>exact c_ _|some b=>exact Gj b n
def Yo(b c:j O)(a:E L):fh b c a=(a.take (gq c a.length)).drop (ft b a.length):=by
 cases b<;>cases c<;>rfl
def Gg(f:E U)(a b:j O):slicePick f.toArray a b M=((f.take (gq b f.length)).drop (ft a f.length)).toArray:=by
 rw[slicePick_plain]
 congr 1
 refine IW.symm▸?_;cases a<;>cases b<;>simp[ft,gq,Of]
def MB(a b:j O)(n:I):zN a b 1 (n:O)=(((ft a n:I):O),((gq b n:I):O)):=by
 unfold zN;have c:¬((1:O)<0):=by omega
 simp only[c,g7];cases a<;>cases b<;>simp only[ft,gq,Og]<;>rfl
def X7(a b:I):zO (a:O) (b:O) 1=b-a:=by
 refine(bj v0 (cd (by decide:(1:O)>0))).trans ?_;rw[It,IH];by_cases c:(a:O)<b
 .rw[cd c];exact O.toNat_sub a b|>λf=>by rw[<-vZ (e_ (eU.mp c))];rfl
 .rw[bZ c,I.sub_eq_zero_of_le (lE λe=>c (eU.mpr e))];rfl
section
variable{b:bF}{c:U->k->Prop}{a:k}
def Gc(f:lB g h)(e:i h a):av aI b (acz g) i c a:=by
 cases f with
 |none=>exact K1 e
 |int j k=>exact slicePart_int e
def MZ{o:Q}{h i:U}{f g:j O}{n:I}{p:O×O×I->k->Prop}(q:a.heap.IsSliceOf o h i .none)(r:lB h f)(s:lB i g)(t:p (((ft f n:I):O),1,gq g n-ft f n) a):
 av aI b (acy (.ref o) (pure (n:O))) p c a:=by
 refine as λw u=>?_;obtain⟨os,l,v,m⟩:=id q;refine u (e (e (eD l m (x:=h) G (e (eD l m (x:=i) G (e (eD l m (x:=.none) G (aJ (e (K1 ?_))))))))));rw[bZ (by decide)];refine e (Gc r (e (Gc s (e (aJ ?_)))));show av _ _ (match zN f g 1 (n:O)with|(f,g)=>pure (f,(1:O),zO f g 1)) _ _ a;rw[MB];show av _ _ (pure (((ft f n:I):O),(1:O),zO (ft f n:I) (gq g n:I) 1)) _ _ a;rw[X7];exact aJ t
def X6(f:E U)(a b:I):((e9 (b-a)).filterMap λ(g:I)=>f.toArray[((a:O)+(g:O)*1).toNat]?).toArray=((f.take b).drop a).toArray:=by
 have e:(λ(g:I)=>f.toArray[((a:O)+(g:O)*1).toNat]?)=λg=>f.toArray[a+g]?:=by
  funext g
  have:((a:O)+(g:O)*1).toNat=a+g:=XC;exact this.symm▸G
 refine e.symm▸?_;have:=pick_run f.toArray a (b-a);rw[E.filterMap_map,(G:((λc=>f.toArray[c]?)∘λc=>a+c)=λg=>f.toArray[a+g]?)]at this;exact this.symm▸IW.symm▸G
def Sh{n p:Q}{f:E U}{s t:U}{g h:j O}{q:U->k->Prop}(l:iI a.heap n f.toArray)(u:a.heap.IsSliceOf p s t .none)(v:lB s g)(w:lB t h)(x:f.length<=1000000)
 (y:(f.take (gq h f.length)).drop (ft g f.length)=f->q (.ref n) a)
 (i:q (.ref a.heap.objs.size) {a with heap:=a.heap.push {cls:=.type "tuple",data:=.seq ((f.take (gq h f.length)).drop (ft g f.length)).toArray}}):av aI b (kQ (.ref n) (.ref p)) q c a:=by
 refine as λK r=>?_;obtain⟨os,z,B,C⟩:=id u;refine r ?_;have o:sizeOk (.seq ((f.take (gq h f.length)).drop (ft g f.length)).toArray):=by
  show((f.take (gq h f.length)).drop (ft g f.length)).toArray.size<=cr;exact eV.symm▸qu.symm▸I7.symm▸((bG (oM _ _) (bG (qB _ _) (bG x ((G:cr=2^24).symm▸(by decide:1000000<=2^24))))))
 delta kQ
 try with_reducible refine fc ?_
 first|refine e (aJ ?_)|skip
 refine e (BJ l.typeIs (by decide) (e (kS (name:=bi "__getitem__") l.typeIs qR
  (hS qR l.typeIs entry_tuple_getitem ?_ (args_tuple_getitem _ _)))))
 show av _ _ (HU (.ref n)>>=_) _ _ a;refine e (tupleItemsOf_ l (e (tj (⟨os,z,B⟩:a.TypeIs (.ref p) "slice") ?_)));rw[cd (by decide)];refine eV.symm▸(e (MZ u v w ?_));show av _ _ (if(((ft g f.length:I):O)==0&&(1:O)==1&&(gq h f.length-ft g f.length)==f.length)=J then _ else _) _ _ a;by_cases m:(((ft g f.length:I):O)==0&&(1:O)==1&&(gq h f.length-ft g f.length)==f.length)=J
 .refine(cd m).symm▸?_;simp only[eB,oP]at m;refine as λK r=>?_;obtain⟨D,F,H,K⟩:=id l;refine r (e (e (tj l.typeIs (aJ ?_))));rw[cd (by decide)];exact e (lK (aJ ⟨_,G,aJ (y (by
   have i:=m.2;rw[(fn m.1.1:ft g f.length=0)]at i⊢;rw[show gq h f.length=f.length from i,v7,Ad]))⟩))
 .rw[bZ m,X6 f]
  first
   |exact e (m:=vR _) (iO (aJ ⟨_,rfl,aJ i⟩) o)
   |exact e (m:=vR _) (iO (e (aJ (aJ ⟨_,rfl,aJ i⟩))) o)
   |exact e (e (m:=vR _) (iO (aJ (aJ ⟨_,rfl,aJ i⟩)) o))
   |exact e (e (m:=vR _) (iO (aJ ⟨_,rfl,aJ i⟩) o))
end
section
variable{a:aq}{n:I}{c:ah->cb}{f:ce}{b:bL}{g:dy}
structure q_(a:aq)(n:I)(c:ah->cb)(f:ce)(b:bL)(e:X)(g:j a6):Prop where
 bf:∀{l:ah}{m:bF}{h:b9}{o:aK}{s i:E Q}{p q:N}{TI:k}{r:L},cV h b->bK a i TI.heap h b.i o s->al a i p TI->cC a l n m h->aR l c f o e p=A (r,q)->cs a m i TI (evalPart g h) r q
def UL:q_ a n c f b (.lit .none) M:=
 ⟨λ{m e g o p h q r i s} t u j v k=>dF (c:=cs a e h i (evalPart M g)) k (fC j G λw x l=>aJ l)⟩
def UM(e:b7 a n c f b i h):q_ a n c f b i (A h):=⟨λg j k l h=>e.bf g j k l h⟩
def zh{f:bF}{g:U->k->Prop}{h:k}{value slice:a6}{a c:U}{b id:eg}{i:U->k->Prop}(l:h.TypeIs a b)
 (n:qV (.type b) "__getitem__"=pure (A (.builtin id))) (o:av aI f (kQ a c) i g h) (p:qS slice d a c=wJ [c,a] (kQ a c)):
 av aI f (wO value slice a c) i g h:=by
 refine e ((KH l.not_modules).symm▸(e (nF l n ?_)));have aj:av aI f (qS slice d a c) (λj m=>av aI f (KL value a j>>=λs=>pure j) i g m) g h:=by
  exact p.symm▸(Lr (fd o (λj m q=>e (Ll (aJ q))) λs s r=>r))
 first
  |exact aJ (e aj)
  |exact e (aJ (e aj))
  |exact e aj
def Gb(a:l7 h=A i)(b:aF m o h l):lB l i:=by
 cases h with
 |none=>obtain rfl:=aG a;cases b;exact .none
 |int c=>obtain rfl:=aG a;obtain⟨e,rfl⟩:=b;exact .int _ _
 |_=>exact no a
def yY(a:aC i l m h)(b c:j O):aC i l (fh b c m) ((h.take (gq c h.length)).drop (ft b h.length)):=by
 rw[Yo,a.length];exact(a.take _).drop _
def Zy(b:al a i r h)(s:q.length<1000000)(t:h.heap.IsSliceOf l u v .none)(w:lB u m)(x:lB v o)(j:aF i h.heap (.ab q) y)
 (z:∀p,qS B d p (.ref l)=wJ [.ref l,p] (kQ p (.ref l))):cs a T i h (wO ge B y (.ref l)) (.ab (fh m o q)) r:=by
 refine as λL C=>j _ λD e E f g F=>?_;clear j;subst E;refine C (λI K k=>zh f.typeIs qR.lookup (Sh f t w x (XD s g.length) (λH=>k _ _ _ (ay.refl [] i h) b (λL c=>c D e G f (H▸yY g m o) F)) ?_) (z _));have n:=ay.push i h {cls:=.type "tuple",data:=.seq ((e.take (gq o e.length)).drop (ft m e.length)).toArray} h.toks;exact k _ _ _ n (b.push _ h.toks) (λL c=>c _ _ G ⟨_,dt _ G,G,_,G⟩ (b.iH n (yY g m o)) b.su)
def Zx(b:al a r m o)(g:ds m s=A p)(j:p.length<1000000)(k:o.heap.IsSliceOf h t u .none)(n:lB t i)(v:lB u l)(w:aF r o.heap (.ref s) x)
 (y:∀q,qS z d q (.ref h)=wJ [.ref h,q] (kQ q (.ref h))):cs a T r o (wO ge z x (.ref h)) (.ref m.length) (m++[.list (fh i l p)]):=by
 refine as λN B=>b.at (l0 g) w _ λH C I c=>?_;subst C;refine c _ λaB e f=>?_;clear c;refine B (λK L D=>zh e.isList.typeIs KN (Lg e.isList k n v .none nofun ?_ (by rw[eV];exact lf j f.length (G:cr=2^24))) (y _));rw[Gg];have bq:=b.qf {cls:=.type "list",data:=.seq ((aB.take (gq l aB.length)).drop (ft i aB.length)).toArray} (.list (fh i l p)) (λN E=>E _ ⟨_,dt _ G⟩ ((yY f i l).bm (bW.gA (aq.kD _)) λN N N F N N=>bU _ F));exact D _ _ _ bq.2 bq.1 b.vN
def Va{v w x:X}{y:a6}{z B:j a6}{P Q:dj}(R:b7 a n c f b v y)(S:q_ a n c f b w z)(T:q_ a n c f b x B):b7 a n c f b (.slice v w x) (.Subscript y (.Slice z B M P) Q):=by
 refine⟨λ{ld C le lo mp of st wp A1 A5} i l k m e=>PJ e λU B0 B2 B3 B8 Ch Cl C9 V W Y Z ad e Da D5 D=>wg (R.bf i l k m V _ _ λFr af FB ai o dl=>K9 (S.bf i (l.quiet k ai) o m W _ _ λGM be g p q ge=>T.bf i ((l.quiet k ai).quiet o p) q m Y _ _ λr bz h s H go=>aJ ?_))⟩;have E:=ay.push r bz {cls:=.type "slice",data:=.fields #[g,h,.none]} bz.toks;have F:=H.push {cls:=.type "slice",data:=.fields #[g,h,.none]} bz.toks;have I:=H.fW E (q.fW s (o.fW p dl));have K:(bz.heap.push {cls:=.type "slice",data:=.fields #[g,h,.none]}).IsSliceOf bz.heap.objs.size g h .none:=Il ..;have L:=Gb Z (q.fW s ge);have N:=Gb ad go;have O:=ai.then (p.then (s.then E));cases U with
 |ab gt=>
  refine as λIO t=>?_;obtain⟨u,e⟩:=cf e;exact t ((dF (c:=cs a C r _ _) e (Zy F (hl u) K L N I λIO=>rfl)).then O D)
 |ref Id=>
  refine as λIO t=>bh e _ λgt kw e=>?_;obtain⟨u,e⟩:=cf e;exact t ((dF (c:=cs a C r _ _) e (Zx F kw (hl u) K L N I λIO=>rfl)).then O D)
 |_=>exact no e
end
end
section
section
variable{a:aq}{n:I}{c:ah->cb}{f:ce}{b:bL}{g:dy}
noncomputable def rL(a:am×I×dj):j a6:=A (.Constant (.str a.1) a.2.1 a.2.2)
noncomputable def u4(a:b9)(c:dj):E (am×I×dj)->E a6->E (ef U×ef U)
 |b::e,f::g=>(eC (.Constant (.str b.1) b.2.1 b.2.2) a,do let h<-eC f a;By c;pure h)::u4 a c e g
 |_,_=>[]
def yL(a:b9)(c:dj):∀{co:E (am×I×dj)}{h:E a6},co.length=h.length->
 (evalEachOpt (co.map rL) a).zip ((wt h a).map λl=>do let m<-l;By c;pure m)=(u4 a c co h).map (λi=>(A i.1,i.2))/\(u4 a c co h).length=h.length:=by
 intro f
 induction f with
 |nil=>
  intro g;cases g with
  |nil=>
   intro p;exact⟨G,G⟩
  |cons p p=>
   intro e;cases e
 |cons n co b=>
  intro j;cases j with
  |nil=>
   intro e;cases e
  |cons o h=>
   intro k;have b:=b (h:=h) (by simpa using k);exact⟨bj (_::·) b.1,bj (·+1) b.2⟩
def Hb(b:E (am×U))(c:am)(k:U)(f:am):mz (oY b c k) f=if c=f then A k else mz b f:=by
 delta oY mz;by_cases i:(b.any λa=>decide (a.1=c))=J
 .rw[cd i]
  induction b with
  |nil=>cases i
  |cons h b m=>
   rw[qv,sH,sH];by_cases j:h.1=c
   .subst j;simp only[wx];by_cases e:h.1=f
    .simp[e]
    .simp only[e,KD,g7];by_cases n:(b.any λa=>decide (a.1=h.1))=J
     .have:=m n;rw[bZ e]at this;exact this
     .have g:b.map (λa=>if a.1=h.1 then(a.1,k)else a)=b:=by
       conv=>rhs;rw[<-qw b]
       apply Ap;intro a l;have:¬a.1=h.1:=λg=>n (v2.mpr ⟨a,l,by simpa using g⟩);simp[this]
      rw[g]
   .simp only[j,g7];by_cases e:h.1=f
    .have:¬c=f:=λg=>j (e.trans g.symm);simp[e,this]
    .simp only[e,KD];exact m (by simpa[j]using i)
 .rw[bZ i,E.find?_append];by_cases e:c=f
  .subst e;have:b.find? (λa=>decide (a.1=c))=M:=by
    rw[I1];intro a l g;exact i (v2.mpr ⟨a,l,g⟩)
   simp[this]
  .simp[e]
def aaM:∀(l i:E (am×U))(h:am),h∉l.map (·.1)->mz (tb i l) h=mz i h:=by
 intro c
 induction c with
 |nil=>
  intro i h g;exact G
 |cons b l e=>
  intro i h a;show mz (tb (oY i b.1 b.2) l) h=_;rw[qv,em,not_or]at a;rw[e _ h a.2,Hb,bZ (λf=>a.1 f.symm)]
def X5:∀{h:E am}{i:E L}{l:E U}{m:E (am×U)},aC q r i l->h.Nodup->h.length=i.length->(h.zip i).lookup p=A s->∃o,mz (tb m (h.zip l)) p=A o/\aF q r s o:=by
 intro j
 induction j with
 |nil=>
  intro i l m D D D a;simp at a
 |cons c h k=>
  intro n;cases n with
  |nil=>
   intro l m D D b a;exact nomatch b
  |cons B i=>
   intro l m t e b a;refine aC.gc.mp t _ λf u v w x=>?_;subst v;rw[sM]at e;rw[jk,fX]at a;refine jk.symm▸?_;show∃o,mz (tb (oY m c f) (h.zip u)) p=A o/\_;by_cases g:p=c
   .subst g;simp only[ny]at a;obtain rfl:=aG a;refine⟨f,?_,w⟩;rw[aaM _ _ _ ?_,Hb,cd G];intro y;obtain⟨C,z,rfl⟩:=fx.mp y;exact e.1 (Jf z).1
   .rw[nx.mpr g]at a;exact k x e.2 (by simpa using b) a
def XZ(O:cV w b)(P:cC a T n ge w):∀{co:E (am×I×dj)}{x:E X}{r:E a6}{i:E Q}{s t:N}{h:k}{o:E L},
 co.length=r.length->iP a n c f b x r->bK a i h.heap w b.i go A1->al a i s h->dv T c f go x s=A (o,t)->
 ∀(u:E (U×U)->k->Prop)(y:U->k->Prop),(∀p l z v,ay [] i p h l->al a p t l->aC p l.heap o v->Carries tz z ((co.map (·.1)).zip v)->co.length=o.length->u z l)->av aI ge (evalPairs (u4 w A5 co r)) u y h:=by
 intro R
 induction R with
 |nil=>
  intro S;cases S with
  |nil=>
   intro V;cases V with
   |nil=>
    intro i s t h o D5 D5 B q g;exactλu y C=>evalPairs_nil (C i h [] [] (ay.refl [] i h) ((gv g).2▸q) ((gv g).1▸aC.eY.mpr G) trivial ((gv g).1▸G))
   |cons D5 D5=>
    intro D5 D5 D5 D5 D5 j D5 D5 D5 D5;exact nomatch j
  |cons D5 D5=>
   intro W;cases W with
   |nil=>
    intro D5 D5 D5 D5 D5 D5 m D5 D5 D5;exact m.elim
   |cons D5 D5=>
    intro D5 D5 D5 D5 D5 j D5 D5 D5 D5;exact nomatch j
 |cons B0 co Y=>
  intro Z;cases Z with
  |nil=>
   intro ad;cases ad with
   |nil=>
    intro D5 D5 D5 D5 D5 j D5 D5 D5 D5;exact nomatch j
   |cons D5 D5=>
    intro D5 D5 D5 D5 D5 D5 m D5 D5 D5;exact m.elim
  |cons B2 x=>
   intro dl;cases dl with
   |nil=>
    intro D5 D5 D5 D5 D5 j D5 D5 D5 D5;exact nomatch j
   |cons B3 r=>
    intro i s t h o j m B q g u y C;refine as λD5 gt=>b0 g _ λB8 Ch kw g=>b0 g _ λz Cl ld g=>?_;obtain⟨rfl,rfl⟩:=gv g;refine gt ?_;have D:ay [] i i h {h with toks:=h.toks+1}:=ay.toks h _;have F:=q.toks (h.toks+1);exact evalPairs_cons (adz (e (m.1.bf O (B.quiet q D) F P kw _ _ λC9 af le ai H lo=>e (kT (aJ (Y (adj j) m.2 ((B.quiet q D).quiet F ai) H ld _ _ λp l Da v K mp of st wp=>
     C p l _ (le::v) (D.then (ai.then K)) mp (aC.mk (H.fW K lo) of) ⟨strKind_is f0 bw.w _ _,G,st⟩ (bj (·+1) wp)))))))
def U_{x:X}{o:a6}{co:E (am×I×dj)}{y:E X}{i:E a6}{p U:dj}(ad:b7 a n c f b x o)(W:iP a n c f b y i)(q:co.length=i.length)(dl:i≠[])(ge:i.length<=15)(go:(co.map (·.1)).Nodup)(gt:uF o=J):
 b7 a n c f b (.pick x (co.map (·.1)) y) (.Subscript (.Dict (co.map rL) i p) o U):=by
 refine⟨λ{j KB r KF KK k KM KT e Ns} z B l C s=>PI s λkw ld On Os Pi le lo mp Pv P3 t=>?_⟩;have D:e.heap.get? e.heap.objs.size=M:=aq.kD _;have H:ay [] k k e {e with heap:=e.heap.push ii}:=ay.push k e ii e.toks;have F:(e.heap.push ii).get? e.heap.objs.size=A ii:=dt _ G;have K:e.heap.objs.size∉k:=λg=>kL _ (l.lt g);refine wg (wpAny_Dict_pairs (knd:=tz) (yL r p q).1 (λof=>?_) ?_ ?_)
 .have:=(yL r p q).2;rw[of]at this;exact dl (Aj.mp this.symm)
 .rw[(yL r p q).2];exact ge
 .refine XZ z C q W (B.quiet l H) (l.push ii e.toks) le _ _ λh af u L ai st wp A1 A5=>?_;have N:af.heap.get? e.heap.objs.size=A ii:=ai.bu _ _ F (by simp) K (by simp);have O:e.heap.objs.size∉h:=λg=>by
   obtain⟨e5,bM,B0⟩:=ai.ext;rw[bM]at g;rcases cE.mp g with g|g
   .exact K g
   .have:=B0 _ g;rw[F]at this;exact nomatch this
  have B2:a.get? e.heap.objs.size=M:=by
   cases t:a.get? e.heap.objs.size with
   |none=>rfl
   |some P=>obtain⟨SL,j⟩:=l.data _ _ t;rw[D]at j;exact nomatch j
  refine⟨_,A1,⟨ii,#[],0,N,⟨G,G,G⟩,G,λSL j=>by simp at j,.nil,.nil⟩,λm Q v=>?_⟩;have R:b4 h af.heap m:=ot N G v;obtain⟨St,SL,SL,B3,SL⟩:=id Q;have S:ay [e.heap.objs.size] h h af {af with heap:=m,toks:=af.toks+u.length}:=se _ (by simp) B3 v;have T:al a h ld {af with heap:=m,toks:=af.toks+u.length}:=st.quiet S (by simpa using B2) R λB8 Ch=>v.2 B8 λs=>O (s▸Ch);have V:ay [] k h e {af with heap:=m,toks:=af.toks+u.length}:=(H.then ai).trans S (by simpa using D);obtain⟨SB,Cl,C9⟩:=X5 (m:=[]) (wp.bm (bW.refl _) R:aC h m kw L) go (by rw[bO];exact A5) mp;refine ad.bf z (B.quiet l V) T C lo _ _ λDa bz SC w D5 Fr=>?_;obtain⟨FB,rfl⟩:=Fr;have Y:bz.heap.DictOf tz e.heap.objs.size (tb [] ((co.map (·.1)).zip L)):=by
   obtain⟨P,GM,Id,IO,Z⟩:=Q;exact⟨P,GM,Id,w.bu _ _ IO (by rw[Z.1.1];simp) O (by simp),Z⟩
  refine GV Y.mapOf.typeIs Bx.lookup ?_ (by cases o<;>first|rfl|exact nomatch gt);exact Lh (knd:=tz) (strKind_is f0 bw.w _ FB) Y.mapOf Cl (t Da _ _ (V.then (w.then (ay.toks bz _))) (D5.toks _) (T.fW w C9))
end
end
section
def f9{a:cn}{b:ch U}(e:a.data=.fields b)(c:ch U)(n:I):a.data≠.seq c n:=λf=>nomatch e.symm.trans f
def iW{a:cn}{b c:eg}(e:a.cls=.type b)(f:b≠c):a.cls≠.type c:=λg=>f (Kq (e.symm.trans g))
def p6(a:b≠g):oO b≠.type g:=λc=>a (Kq c)
def jM{a:aq}{b c:Q}{e f:cn}(g:a.get? b=A e)(h:a.get? c=A f)(i:e.cls≠f.cls):b≠c:=λj=>i (bj JV (aG (g.symm.trans (j▸h))))
def pX{a:Type}{c:a}{b:j a}(e:b=A c)(f:b=M):dT:=nomatch e.symm.trans f
def tX{a:Type}{b:E a}{c:I}{e:a}{f:E a}(g:e::f=b.drop c):b[c]?=A e/\f=b.drop (c+1):=
 ⟨by rw[<-I5,<-g];rfl,by rw[<-E.tail_drop,<-g];rfl⟩
def EF{c:Type}{a:E c}{b:I}(e:[]=a.drop b):a[b]?=M:=by rw[<-I5,<-e];rfl
structure im(F c:E Q)(a b:k):Prop where
 bu:∀g h,a.heap.get? g=A h->g∉c->g∉F->b.heap.get? g=A h
 gens:b.gens=a.gens
 drawn:b.drawn=a.drawn
 os:b.os=a.os
structure eL(e:aq)(f:bF)(c:U)(F:E Q)(j:E dp)(v:a6)(N:E L->E Q->aq->Prop):Prop where
 bu:∀{l:E L}{a t:E Q}{o s:aq},N l a o->bW o a t->b4 a o s->(∀g∈F,∀h,o.get? g=A h->s.get? g=A h)->N l t s
 cm:∀{l:E L}{a:E Q}{o:aq},N l a o->∀g∈F,∃h,o.get? g=A h/\(∀w n,h.data≠.seq w n)/\h.cls≠.type "frame"
 item:∀{u:L}{l:E L}{a:E Q}{p:Internal.N}{b:k},N (u::l) a b.heap->al e a p b->d_ p j=J->(∀g∈F,g∉a/\e.get? g=M)->∀(m:U->k->Prop)(q:U->k->Prop),
  (∀r i,ay F a a b i->b4 a b.heap i.heap->al e a p i->aF a i.heap u r->N l a i.heap->m r i)->
  av aI f (hy c) (λh af=>∃r,h=A r/\av aI f (oU v c r) (λx be=>m r be) q af) q b
 done:∀{a:E Q}{p:Internal.N}{b:k},N [] a b.heap->al e a p b->d_ p j=J->(∀g∈F,g∉a/\e.get? g=M)->∀(m:k->Prop)(q:U->k->Prop),
  (∀i,im F a b i->al e a p i->m i)->av aI f (hy c) (λh af=>h=M/\m af) q b
 self:∀{l:E L}{a:E Q}{b:k},N l a b.heap->∀(m:U->k->Prop)(q:U->k->Prop),m c b->av aI f (my c) m q b
section
variable{g:aq}{a o l:E Q}{f:N}{b h m:k}{i:bF}{F:E Q}
theorem im.HB(l:im F a b h)(e:al g a f b)(k:∀D∈F,D∉a/\g.get? D=M)(m:∀(T:I)(D:Q)(B:aO),a[T]?=A D->f[T]?=A B->f3 a h.heap D B):al g a f h where
 z c B i n:=l.bu c B (e.z c B i n) (e.lv i) λj=>nomatch(k c j).2.symm.trans i
 data c B i:=(e.data c B i).elim λo p=>⟨o,l.bu c _ p (e.lv i) λj=>nomatch(k c j).2.symm.trans i⟩
 len:=e.len
 aeA:=e.aeA
 fresh:=e.fresh
 obj:=m
def im.ab8(i:im F a b h)(e:al g a f b)(j:∀B∈F,B∉a/\g.get? B=M)(k:∀B∈a,h.heap.get? B=b.heap.get? B)(l:b4 a b.heap h.heap):al g a f h:=
 i.HB e j λm B n c o=>(e.obj m B n c o).bm (bW.refl _) l (k B (d7 c))
def ay.qa(o:ay D l a m b)(p:im F a b h)(z:al g a f h)(C:∀B∈F,m.heap.get? B=M)(E:∀B∈D,B∈F\/B∈l\/m.heap.get? B=M):ay [] l a m h:=by
 obtain⟨n,r,w⟩:=o.ext;have x:∀c e,m.heap.get? c=A e->c∉l->c∉D/\c∉a/\c∉F:=λc e i k=>by
  have y:c∉F:=λj=>by rw[C c j]at i;exact nomatch i
  refine⟨λj=>?_,λj=>?_,y⟩
  .rcases E c j with j|j|j
   .exact y j
   .exact k j
   .rw[j]at i;exact nomatch i
  .rw[r]at j;rcases cE.mp j with j|j
   .exact k j
   .rw[w c j]at i;exact nomatch i
 have data:∀c e,m.heap.get? c=A e->c∉l->∃q,h.heap.get? c=A {e with slots:=q}:=λc e i k=>by
  obtain⟨s,t,u⟩:=x c e i k;obtain⟨q,v⟩:=o.data c e i k s;exact⟨q,p.bu c _ v t u⟩
 refine⟨⟨n,r,w⟩,λc e i H k I=>?_,λc e i k I=>data c e i k,λc e i=>?_,p.gens.trans o.gens,p.drawn.trans o.drawn,p.os.trans o.os⟩
 .obtain⟨s,t,u⟩:=x c e i k;exact p.bu c e (o.z c e i H k s) t u
 .by_cases k:c∈l
  .exact z.cm (by rw[r];exact ji _ k)
  .obtain⟨q,v⟩:=data c e i k;exact⟨_,v⟩
def rN(e:I)(m:al g a f b)(o:b.heap.get? p=A u)(v:∀s n,u.data≠.seq s n)(w:∃t,q.get? p=A t)(l:ek p b.heap q)(j:∀r∈[p],r∉a/\g.get? r=M):
 ay [p] a a b {b with heap:=q,toks:=e}/\b4 a b.heap q/\al g a f {b with heap:=q,toks:=e}:=by
 obtain⟨z,x⟩:=w;have c:ay [p] a a b {b with heap:=q,toks:=e}:=se e (.head _) x l;have k:b4 a b.heap q:=c.ab λB y t h s n=>by
  rw[b2.mp y,o]at h;obtain rfl:=aG h;exact v s n
 exact⟨c,k,m.quiet c (λr i=>(j r i).2) k λr i=>l.2 r λh=>(j p (.head _)).1 (h▸i)⟩
def rt(l:al g a f b)(t:b.heap.get? p=A u)(v:∀r n,u.data≠.seq r n)(i:lz p b.heap s)(k:∀q∈[p],q∉a/\g.get? q=M):
 im [p] a b {b with heap:=s}/\al g a f {b with heap:=s}:=by
 have m:im [p] a b {b with heap:=s}:=⟨λj c e z w=>i j c (λh=>w (by simp[h])) e,G,G,G⟩;refine⟨m,m.ab8 l k (λq o=>?_) λj c z e y⟨r,n,x⟩=>i j c (λh=>?_) e⟩
 .obtain⟨c,e⟩:=l.cm o;exact(i q c (λh=>(k p (.head _)).1 (h▸o)) e).trans e.symm
 .subst h;rw[t]at e;obtain rfl:=aG e;exact v r n x
def zs(a:i.handled=M)(c:∀r p,(∀s q,b.heap.get? s=A q->r.get? s=A q)->(∃q,r.get? p=A q/\q.cls=.type "StopIteration")->t (.ref p) {b with heap:=r}):
 av aI i (newExc (.type "StopIteration") []>>=λp=>(Br p:ef u)) v t b:=by
 refine e (e (iO (e (m:=ww _ _) (lJ (a:=iN) (by first|rfl|(simp only[ww];rfl)) (iO ?_ (by size_fits)))) (by size_fits)));refine e (Li ?_);rw[a];exact e (aJ (BK (c _ _ (λs q p=>bU _ (bU _ p)) ⟨_,dt _ G,G⟩)))
def vr{c:j U->k->Prop}{f:U->k->Prop}{a:Q}(g:∃p,b.heap.get? a=A p/\p.cls=.type "StopIteration")(h:c M b):av aI i (do if<-Bi (.ref a) (.type "StopIteration")then pure M else throw (.ref a)) c f b:=
 e (BB (T:="StopIteration") (b:=J) g isSubtype_stop (aJ h))
def My(g b:Q)(f:E U)(h:E L)(a:E Q)(e:aq)(i:Prop):Prop:=∀c:I,e.IsTupleIter g b c->e.IsTuple b f.toArray->b∉a->aC a e h (f.drop c)->i
def Mx(b c:Q)(e:E U)(f:E L)(a:E Q)(g:aq):Prop:=aA (My b c e f a g)
def Ms(e b:Q)(f:E L)(g:I)(h:E L)(a:E Q)(i:aq)(j:Prop):Prop:=a[g]?=A b->∀c:I,i.IsListIter e b c->h=f.drop c->j
def Mr(b c:Q)(e:E L)(f:I)(g:E L)(a:E Q)(h:aq):Prop:=aA (Ms b c e f g a h)
theorem eL.tuple{L:E dp}{N:a6}(O:i.handled=M)(r D:Q)(P:E U)(R:D≠r):eL g i (.ref r) [r] L N
 (Mx r D P)where
 bu:=λl v p m=>by refine l _ λq e S s t=>?_;clear l;obtain⟨h,j,o,n,k⟩:=S;exactλwp x=>x q (e.at λh T=>m r (.head _) h T) ⟨h,p _ h s j o ⟨_,_,k⟩,o,n,k⟩ (λV=>(v.2 _ V).elim s λW=>W h j o) (t.bm v p)
 cm:=λl ld X=>by refine l _ λq Y wp wp wp=>?_;clear l;obtain⟨h,j,o,k⟩:=Y;rw[b2.mp X];exact⟨h,j,f9 k,iW o nofun⟩
 item:=by
  rintro le lo a f b u y-z F H m;refine u _ λq e w s t=>?_;clear u;refine aC.gc.mp t _ λI mp v bB Z=>?_;obtain⟨ad,rfl⟩:=tX v.symm;refine wpAny_pyNext_tuple_item e w (nn.trans ad) λdl B K=>⟨I,G,letGo_tupleiter B ?_⟩;obtain⟨h,j,o,k⟩:=id e;obtain⟨ge,go,of,st⟩:=id B;obtain⟨c,p,C⟩:=rN b.toks y j (f9 k) ⟨ge,go⟩ K z;refine m I _ c p C (bB.bm (bW.refl _) p) (λwp x=>x (q+1) B (w.extBut K.extBut R) s (Z.bm (bW.refl _) p))
 done:=by
  rintro a f b u y-z F H m;refine u _ λq e w s t=>?_;clear u;refine wpAny_pyNext_tuple_end O e w (nn.trans (EF (aC.eY.mp t).symm)) λdl gt=>⟨G,?_⟩;obtain⟨h,j,o,k⟩:=id e;obtain⟨kw,C⟩:=rt y j (f9 k) gt z;exact m _ kw C
 self:=λl F H m=>by refine l _ λq e wp wp wp=>?_;exact wpAny_pyIter_tupleiter e m
theorem eL.list{R:a6}(S:i.handled=M)(v w:Q)(o:E L)(m:I):eL g i (.ref v) [v] [A (m,.list o)] R
 (Mr v w o m)where
 bu:=λj T x k=>by refine j _ λn h e p=>?_;clear j;exactλmp y=>y (T.1 _ _ n) h (e.at λq U=>k v (.head _) q U) p
 cm:=λj w V=>by refine j _ λmp h W mp=>?_;clear j;obtain⟨q,r,l,s⟩:=W;rw[b2.mp V];exact⟨q,r,f9 s,iW l nofun⟩
 item:=by
  rintro kw ld a f b t u l z K N k;refine t _ λn h e p=>?_;clear t;refine u.obj m w _ n (tQ l:f[m]?=A (.list o)) _ λO B C=>?_;obtain⟨D,X⟩:=tX p;obtain⟨P,Y,bB⟩:=C.get D;refine Lu e B.isList (nn.trans Y) λZ F ad=>⟨P,G,letGo_listiter F ?_⟩;obtain⟨q,r,l,s⟩:=id e;obtain⟨dl,ge,le,lo⟩:=id F;obtain⟨c,x,H⟩:=rN b.toks u r (f9 s) ⟨dl,ge⟩ ad z;exact k P _ c x H (bB.bm (bW.refl _) x) (λmp y=>y n (h+1) F X)
 done:=by
  rintro a f b t u l z K N k;refine t _ λn h e p=>?_;clear t;refine u.obj m w _ n (tQ l:f[m]?=A (.list o)) _ λO B C=>?_;have D:O[h]?=M:=by
   have:=C.length;rw[qs];exact uX this ((by simpa using p.symm):o.length<=h)
  refine Ls S e B.isList (by simpa using D) λZ go=>⟨G,?_⟩;obtain⟨q,r,l,s⟩:=id e;obtain⟨gt,H⟩:=rt u r (f9 s) go z;exact k _ gt H
 self:=λj K N k=>by refine j _ λmp h e mp=>?_;exact wpAny_pyIter_listiter e k
noncomputable def ky(a b:O):I->E L
 |0=>[]
 |n+1=>.int a::ky (a+b) b n
def Yt:∀(n:I)(p:O),ga p n=ky p 1 n:=by
 intro a
 induction a with
 |zero=>
  intro c;exact G
 |succ n b=>
  intro p;rw[ga,ky,b]
def Ys:∀(n:I)(p:O),u7 p n=ky p (-1) n:=by
 intro a
 induction a with
 |zero=>
  intro c;exact G
 |succ n b=>
  intro p;rw[u7,ky,b];rfl
def Gn:∀(n:I)(p q:O),(ky p q n).length=n:=by
 intro a
 induction a with
 |zero=>
  intro c c;exact G
 |succ n b=>
  intro p q;rw[ky,gY,b]
def TC{g:U->k->Prop}{target:a6}{b:Q}{j left step:O}{c:U}{f:e0->k->Prop}{h:k}(l:IK h.heap b j left step)(a:f () h):
 av aI i (oU target (.ref b) c) f g h:=by
 unfold oU;cases target<;>first
  |exact aJ a
  |(cases c<;>first
   |exact aJ a
   |(refine e (o0 l ?_)
     exact aJ a))
def Mu(e:Q)(b:O)(f:E L)(a:E Q)(g:aq)(h:Prop):Prop:=∀c:O,∀n:I,IK g e c n b->f=ky c b n->h
def Mt(b:Q)(c:O)(e:E L)(a:E Q)(f:aq):Prop:=aA (Mu b c e a f)
theorem eL.range(x:i.handled=M)(m:Q)(u:O):eL g i (.ref m) [m] T ge
 (Mt m u)where
 bu:=λh L L j=>by refine h _ λo n e k=>?_;clear h;exactλL q=>q o n (j m (.head _) _ e) k
 cm:=λh F y=>by refine h _ λL L e L=>?_;clear h;rw[b2.mp y];exact⟨_,e,f9 G,iW G nofun⟩
 item:=by
  rintro H K a f b l r-s v w j;refine l _ λo n e k=>?_;clear l;cases n with
  |zero=>cases k
  |succ n=>
   cases k;refine wpAny_pyNext_range_item e (O.ofNat_succ_pos _) λz p B=>⟨_,G,TC p ?_⟩;obtain⟨c,C,t⟩:=rN (b.toks+1) r e (f9 G) ⟨_,p⟩ B s;refine j _ _ c C t ⟨_,G⟩ (λL q=>q (o+u) n ?_ G);have:((n+1:I):O)-1=(n:O):=FQ;rw[this]at p;exact p
 done:=by
  rintro a f b l r-s v w j;refine l _ λo n e k=>?_;clear l;cases n with
  |succ n=>cases k
  |zero=>
   refine wpAny_pyNext_range_end x e (by decide) λz D=>⟨G,?_⟩;obtain⟨E,t⟩:=rt r e (f9 G) D s;exact j _ E t
 self:=λh v w j=>by refine h _ λL L e L=>?_;exact wpAny_pyIter_rangeiter e j
end
end
section
section
variable{j:aq}{b l m:E Q}{i:N}{a n o:k}{g:bF}{F:E Q}{h:U->k->Prop}
theorem Yl(i:(p==qT)=d)(c:a.heap.get? p=A q)(b:a.TypeIs (.ref p) "dict")(f:q.data=.dict r s)
 (j:t (.ref a.heap.objs.size) {a with heap:=a.heap.push {cls:=.type "dict_keyiterator",data:=.fields #[.ref p,.int 0 0,.int r.size 0,.int s 0]}}):
 av aI g (my (.ref p)) t h a:=by
 refine BH b Ig (hS Ig b F.entry_dict_iter ?_ (F.args_dict_iter_1 _));unfold Builtin.«dict.__iter__»;refine e ?_;unfold acp;refine e (wV b ?_);show av _ _ (pure (en p)) _ _ a;refine aJ ?_;show av _ _ (zJ p>>=_) _ _ a;unfold zJ;rw[bZ (by rw[i];exact ml)];refine e (aJ (e (tf c f (e (wR c f (e (iO (aJ ⟨_,G,"dict_keyiterator",_,⟨_,dt _ G,G⟩,zT.lookup,?_⟩))))))));simpa[dV]using j
theorem Gm(b:a.heap.IsKeyIter p u q s.size v)(k:a.heap.get? u=A x)(l:x.data=.dict s v)
 (y:∀t,s[q]?=A t->∀r,r.IsKeyIter p u (q+1) s.size v->ek p a.heap r->w (A t.key) {a with heap:=r})
 (z:s[q]?=M->g.handled=M/\∀r,lz p a.heap r->w M {a with heap:=r}):av aI g (hy (.ref p)) w h a:=by
 refine as λK B=>?_;obtain⟨i,f,C,c⟩:=id b;refine B ?_;unfold hy;refine e (nB (kS (name:=bi "__next__") b.typeIs zT
  (hS zT b.typeIs F.entry_dict_keyiterator_next ?_ (F.args_dict_keyiterator_next_1 _))))
 refine e (aJ (e (e ?_)))
 first|refine e (BM b.typeIs (aJ ?_))|refine e (wpAny_typeNameOf_keyiter b.typeIs (aJ ?_))
 refine e (Le f c (e (aJ (e (tf k l ?_)))));rw[bZ (by simp)];refine e (aJ (e (wR k l ?_)));rw[bZ (by simp)];refine aJ ?_;simp only[show¬((q:O)<0)from uY,g7,sD];cases m:s[q]?with
 |none=>
  obtain⟨D,E⟩:=z m;refine e ?_
  first|refine e (BM b.typeIs (aJ ?_))|refine e (wpAny_typeNameOf_keyiter b.typeIs (aJ ?_))
  refine e (m:=qP (.ref p) 0 .none) (o1 f c (by simp) (zs (i:=g.in1) D λr t up H=>vr H (E _ λn i j I=>up n i ((hr ..).extBut n i j I))))
 |some t=>
  refine e ?_
  first|refine e (BM b.typeIs (aJ ?_))|refine e (wpAny_typeNameOf_keyiter b.typeIs (aJ ?_))
  refine e (Lj b.typeIs (e (m:=qP (.ref p) 1 (dV ((q:O)+1))) (o1 f c (by simp) ?_)));have o:(a.heap.update p (kN (·.setIfInBounds 1 (dV ((q:O)+1))))).IsKeyIter p u (q+1) s.size v:=
   ⟨_,gV _ f (AG (qG c _)),(AF ..).trans C,by rw[qG c];simp[dV]⟩
  exact e (fc (e (Lj (s:={a with heap:=a.heap.update p (kN (·.setIfInBounds 1 (dV ((q:O)+1))))}) o.typeIs (aJ (aJ ⟨_,G,aJ (y t m _ o (hr ..))⟩)))))
def LL(b:E Q)(a:aq)(c:Q)(e:E (E L×L))(j:Prop):Prop:=∀f:cn,∀g:ch je,a.get? c=A f->f.cls=.type "dict"->f.data=.dict g e.length->g.size=e.length->(cz (λh i=>aF b a (.ab h.1) i.key/\aF b a h.2 i.val) e g.toList)->j
def t4(a:f3 b q r (.afM p)):aA (LL b q r p):=by
 refine a _ λf k c e=>?_;clear a;obtain⟨m,g,u,h,o,i,l,x,x⟩:=k;refine c _ λv w n s=>?_;clear c;obtain rfl:=aG (h.symm.trans n);cases i.symm.trans s;have j:g.size=p.length:=(Bw l).trans e.len;exactλx t=>t m g h o.1 (j▸i) j (l.symm▸(qw p).symm▸(e.map λx x a=>⟨a.2.1.2,a.2.2⟩))
def Mq(g c:Q)(a:E (E L×L))(h:I)(i:E L)(b:E Q)(l:aq)(j:Prop):Prop:=∀e:b[h]?=A c,∀f:I,l.IsKeyIter g c f a.length a.length->(i=(a.map λe=>L.ab e.1).drop f)->j
def Mp(a c:Q)(e:E (E L×L))(f:I)(g:E L)(b:E Q)(h:aq):Prop:=aA (Mq a c e f g b h)
theorem eL.ie(U:g.handled=M)(x y:Q)(q:E (E L×L))(o:I):eL j g (.ref x) [x] [A (o,.afM q)] mp
 (Mp x y q o)where
 bu:=λk R C e=>by refine k _ λp m f r=>?_;clear k;exactλA1 D=>D (R.1 _ _ p) m (f.at λs W=>e x (.head _) s W) r
 cm:=λk y X=>by refine k _ λA1 m Y A1=>?_;clear k;obtain⟨s,t,n,l⟩:=Y;rw[b2.mp X];exact⟨s,t,f9 l,iW n nofun⟩
 item:=by
  rintro of st b i a u v n F P h e;refine u _ λp m f r=>?_;clear u;refine t4 (v.obj o y _ p (tQ n:i[o]?=A (.afM q))) _ λZ ad H A1 K w S=>?_;obtain⟨T,dl⟩:=tX r;rw[j3]at T;obtain⟨R,N,rfl⟩:=jn.mp T;obtain⟨V,l,ge,A1⟩:=S.get N;rw[HM]at l;refine Gm (by rw[w];exact f) H K (λgo z gt B kw=>?_) λe=>nomatch l.symm.trans e;obtain rfl:=aG (l.symm.trans z);refine⟨V.key,G,letGo_keyiter B ?_⟩;rw[w]at B;obtain⟨s,t,n,l⟩:=id f;obtain⟨ld,le,wp,z⟩:=id B;obtain⟨c,C,O⟩:=rN a.toks v t (f9 l) ⟨ld,le⟩ kw F;exact e V.key _ c C O (ge.bm (bW.refl _) C) (λA1 D=>D p (m+1) B dl)
 done:=by
  rintro b i a u v n F P h e;refine u _ λp m f r=>?_;clear u;refine t4 (v.obj o y _ p (tQ n:i[o]?=A (.afM q))) _ λZ ad H A1 K w S=>Gm (by rw[w];exact f) H K (λgo z=>nomatch z.symm.trans (zF (uX w ((by simpa using r.symm):q.length<=m)))) λA1=>⟨U,λgt N=>⟨G,?_⟩⟩;obtain⟨s,t,n,l⟩:=id f;obtain⟨lo,O⟩:=rt v t (f9 l) N F;exact e _ lo O
 self:=λk P h e=>by refine k _ λA1 m f A1=>?_;exact wpAny_pyIter_keyiter f e
end
end
section
def F5:adb.lookup (eg.ofList ['d','e','s','r','e','v','e','r'].reverse)=A adc:=by kernel_rfl
def r9:Slot "reversed" "__next__" "reversed.__next__":=
 .of (owner:="reversed") (n:="__next__") (by rw[td,s2];kernel_rfl) (by decide+kernel) (by decide+kernel) (by decide+kernel)
  (by first|exact .inl (by decide+kernel)|exact .inr (by decide+kernel)) (by rw[s8];kernel_rfl)
def Dw:wr wP "reversed.__next__"=A Builtin.«reversed.__next__»:=Be (by kernel_rfl)
def Co(a:U):nw "reversed.__next__" ⟨[a],[]⟩:=by
 unfold nw;rw[Bv (id:="reversed.__next__") (n:=['_','_','t','x','e','n','_','_']) (o:=['d','e','s','r','e','v','e','r']) (by kernel_rfl) F5];kernel_rfl
def GF:Slot "reversed" "__iter__" "reversed.__iter__":=
 .of (owner:="reversed") (n:="__iter__") (by rw[td,s2];kernel_rfl) (by decide+kernel) (by decide+kernel) (by decide+kernel)
  (by first|exact .inl (by decide+kernel)|exact .inr (by decide+kernel)) (by rw[s8];kernel_rfl)
def M1(a:U):nw "reversed.__iter__" ⟨[a],[]⟩:=by
 unfold nw;rw[Bv (id:="reversed.__iter__") (n:=['_','_','r','e','t','i','_','_']) (o:=['d','e','s','r','e','v','e','r']) (by kernel_rfl) F5];kernel_rfl
def Pb:wr wP "reversed.__iter__"=A Builtin.«dict_keyiterator.__iter__»:=
 entryFor_alias (id':="dict_keyiterator.__iter__") (by kernel_rfl) (by first|rfl|decide+kernel|(unfold eg.splitOn;simp+decide [eg.splitOnAux])) (by decide+kernel) (by kernel_rfl)
def Zz:Slot "reversed" "__init__" "object.__init__":=
 .of (owner:="object") (n:="__init__") (by rw[td,s2];kernel_rfl) (by decide+kernel) (by decide+kernel) (by decide+kernel)
  (by first|exact .inl (by decide+kernel)|exact .inr (by decide+kernel)) (by rw[s8];kernel_rfl)
def NW:TypeCalled "reversed" "reversed.__new__" "object.__init__":=
 ⟨by decide+kernel,F.create_reversed,⟨_,_,F.mro_reversed⟩,F.made_reversed,F.plain_reversed_new,F.sub_reversed_self,Zz⟩
def M0(a b:U):nw "object.__init__" ⟨[a,b],[]⟩:=by
 unfold nw;rw[Bv (id:="object.__init__") (n:=['_','_','t','i','n','i','_','_']) (o:=['t','c','e','j','b','o']) (by kernel_rfl) F.owner_object];kernel_rfl
def aal:qV (.type "tuple") "__reversed__"=pure M:=by rw[td,s2];kernel_rfl
def ZM:wA (.type "tuple") (.type "dict")=pure d:=by rw[s8];kernel_rfl
abbrev nL(a:aq)(b c:Q)(e:O):Prop:=a.get? b=A {cls:=.type "reversed",dict:=M,data:=.fields #[.ref c,dV e],slots:=#[]}
section
variable{h:aq}{g m o:E Q}{l:N}{a i p:k}{b:bF}{F:E Q}{f:U->k->Prop}
def T2(c:Q)(f:ch U)(i:f.size<2^60):
 nr (Builtin.«reversed.__new__» ⟨[.type "reversed",.ref c],[]⟩) (λl q a=>iI a.heap c f/\
  ∀r,q (.ok (.ret (.ref a.heap.objs.size))) {a with heap:=a.heap.push {cls:=.type "reversed",data:=.fields #[.ref c,dV ((f.size:O)-1)]},toks:=r}):=
 .of_wp λj k b q a h=>by
  obtain⟨g,h⟩:=h;unfold Builtin.«reversed.__new__»;refine e (lJ (newClass_reversed _) ?_)
  try dsimp only
  refine e (lJ (a:=()) (by first|rfl|kernel_rfl) (e (lJ (a:=()) (by first|rfl|kernel_rfl) ?_)))
  try dsimp only
  refine e (nF g.typeIs aal ?_)
  try dsimp only
  refine e (e (BB g.typeIs ZM ?_));simp only[j0,g7];refine e (nF g.typeIs qR.lookup ?_);dsimp only;rw[cd (by decide)];refine aJ ?_;simp only[ah.not_true,j0,g7];refine e (len_tuple g (mm (eU.mpr i) (by decide)) (e (aJ ?_)));dsimp only;show av _ _ (newObj (.type "reversed") (.fields #[.ref c,dV ((f.size:O)-1)])>>=_) _ _ _;exact e (iO (aJ ⟨_,G,(h _)⟩))
theorem NS(c:q.size<2^60)(e:iI a.heap r q)
 (g:∀s,t (.ref a.heap.objs.size) {a with heap:=a.heap.push {cls:=.type "reversed",data:=.fields #[.ref r,dV ((q.size:O)-1)]},toks:=s}):
 av aI b (eu (.type "reversed") [.ref r]) t f a:=
 Ba NW G (F.typeCall_reversed_1 _) (F.newCall_reversed_1 _) (λobj=>M0 obj _) F.entry_reversed_new (T2 r q c) ⟨e,λs=>⟨⟨_,dt _ G,G⟩,g s⟩⟩
def Yn{g l:Q}{c:I}{h:ch U}{m:U}{p:j U->k->Prop}(i:nL a.heap g l c)(r:iI a.heap l h)(x:h.size<2^60)(n:h[c]?=A m)
 (s:∀q y,nL q g l ((c:O)-1)->ek g a.heap q->p (A m) {a with heap:=q,toks:=y}):av aI b (hy (.ref g)) p f a:=by
 have t:a.TypeIs (.ref g) "reversed":=⟨_,i,G⟩;unfold hy;refine e (nB (kS (name:=bi "__next__") t r9
  (hS r9 t Dw ?_ (Co _))))
 unfold Builtin.«reversed.__next__»;refine e (lJ (a:=(en g,[])) G ?_)
 try dsimp only
 refine e (eD i G (x:=.ref l) G (e (eD i G (x:=dV (c:O)) G ?_)));show av _ _ (if(c:O)<0 then _ else _) _ _ a;rw[bZ uY];refine e (nF r.typeIs qR.lookup ?_);simp only[j.isNone_some,j0,g7];refine e (wU ?_);have u:c<h.size:=by
  rcases sS c h.size with o|o
  .exact o
  .rw[zF o]at n;exact nomatch n
 refine e (nB (ado (s:={a with toks:=a.toks+1}) r (IF (2^63) _) (mm (eU.mpr (gC u x)) (by decide)) (j:=c) ?_ n ?_))
 .unfold Bt;simp[(uY:¬(c:O)<0),u]
 dsimp only;refine e (eD (s:={a with toks:=a.toks+1}) i G (x:=dV (c:O)) G (e (hT (s:={a with toks:=a.toks+1}) i (by simp) λq v w=>?_)))
 first
 |exact aJ ⟨m,rfl,aJ (s q _ v w)⟩
 |exact e (aJ (aJ ⟨m,rfl,aJ (s q _ v w)⟩))
def Ym(k:b.handled=M)(c:nL a.heap q s (-1))
 (l:∀r,lz q a.heap r->t M {a with heap:=r}):av aI b (hy (.ref q)) t f a:=by
 have g:a.TypeIs (.ref q) "reversed":=⟨_,c,G⟩;unfold hy;refine e (nB (kS (name:=bi "__next__") g r9
  (hS r9 g Dw ?_ (Co _))))
 unfold Builtin.«reversed.__next__»;refine e (lJ (a:=(en q,[])) G ?_)
 try dsimp only
 refine e (eD c G (x:=.ref s) G (e (eD c G (x:=dV (-1)) G ?_)));show av _ _ (if(-1:O)<0 then _ else _) _ _ a;rw[cd (by decide)];exact e (lK (e (e (hT c (by simp) λm n o=>hT (s:={a with heap:=m}) n (by simp) λp x u=>e (zs (i:=b.in1) (b:={a with heap:=p}) k λr y up v=>vr v (l _ λi j h w=>up i j ((o.extBut.trans u.extBut) i j h w)))))))
def Gl(e:nL a.heap q s t)(g:r (.ref q) a):av aI b (my (.ref q)) r f a:=by
 have c:a.TypeIs (.ref q) "reversed":=⟨_,e,G⟩;exact BH c GF (hS GF c Pb (aJ ⟨_,G,"reversed",_,c,r9.lookup,g⟩) (M1 _))
def TF(c:nL i.heap q t u)(a:r () i):
 av aI b (oU target (.ref q) s) r f i:=by
 unfold oU;cases target<;>first
  |exact aJ a
  |(cases s<;>first
   |exact aJ a
   |(refine e (o0 c ?_)
     exact aJ a))
def Mw(f a:Q)(b:E U)(h:E L)(g:E Q)(c:aq)(i:Prop):Prop:=∀e:I,e<=b.length->nL c f a ((e:O)-1)->iI c a b.toArray->a∉g->aC g c h (b.take e).reverse->i
def Mv(a b:Q)(c:E U)(e:E L)(g:E Q)(f:aq):Prop:=aA (Mw a b c e g f)
theorem eL.lw(T:b.handled=M)(s B:Q)(t:E U)(V:t.length<2^60)(W:B≠s):eL h b (.ref s) [s] mp wp
 (Mv s B t)where
 bu:=λk q r m=>by refine k _ λe o i X u p=>?_;clear k;obtain⟨v,y,w,n,z⟩:=X;exactλB2 C=>C e o (m s (.head _) _ i) ⟨v,r _ v u y w ⟨_,_,z⟩,w,n,z⟩ (λY=>(q.2 _ Y).elim u λZ=>Z v y w) (p.bm q r)
 cm:=λk of ad=>by refine k _ λe B2 i B2 B2 B2=>?_;clear k;rw[b2.mp ad];exact⟨_,i,f9 G,iW G nofun⟩
 item:=by
  rintro st A1 g l a x D-F P f m;refine x _ λe o i H u p=>?_;clear x;cases e with
  |zero=>
   refine aC.gc.mp p _ λB2 B2 q B2 B2=>?_;simp at q
  |succ e=>
   have R:t[e]?=A t[e]:=e8 (I.lt_of_succ_le o);rw[E.take_add_one,R,j.toList_some,Jh,E.reverse_singleton,v6]at p;refine aC.gc.mp p _ λA5 B0 q bB dl=>?_;injection q with ge go;rw[show(((e+1:I):O)-1)=(e:O) by exact FQ]at i;refine Yn i H (by rw[eV];exact(Fe V G)) (m:=t[e]) (by rw[nn];exact R) λgt kw K S=>⟨_,G,TF K ?_⟩;obtain⟨c,r,L⟩:=rN kw D i (f9 G) ⟨_,K⟩ S F;obtain⟨v,y,w,n,z⟩:=H;refine m _ _ c r L (by rw[ge];exact bB.bm (bW.refl _) r) (λB2 C=>C e (FR o) K ⟨v,(S.2 B W).trans y,w,n,z⟩ u ?_);rw[go];exact dl.bm (bW.refl _) r
 done:=by
  rintro g l a x D-F P f m;refine x _ λe o i H u p=>?_;clear x;have ld:e=0:=by
   have:=bj I6 (aC.eY.mp p);simp at this;rcases this with N|N
   .exact N
   .subst N;simp at o;exact o
  subst ld;refine Ym T i λgt le=>⟨G,?_⟩;obtain⟨lo,L⟩:=rt D i (f9 G) le F;exact m _ lo L
 self:=λk P f m=>by refine k _ λe B2 i B2 B2 B2=>?_;exact Gl i m
end
end
section
structure Sub(e:bF)(c j:Q)(f:ch U)(P:I->aq->Prop):Prop where
 ae8:∀{a:I}{i b:aq},P a i->(∀l,l=c\/l=j->∀h,i.get? l=A h->b.get? l=A h)->P a b
 cm:∀{a:I}{i:aq},P a i->∃h,i.get? c=A h/\∀r n,h.data≠.seq r n
 item:∀{a:I}{g:k}{p:U}(m:U->k->Prop)(o:U->k->Prop),P a g.heap->f[a]?=A p->(∀b,P (a+1) b->ek c g.heap b->m p {g with heap:=b})->
  av aI e (qn (.ref c)) m o g
 qa:∀{a:I}{g:k}(m:U->k->Prop)(o:U->k->Prop),P a g.heap->f[a]?=M->(∀b q,lz c g.heap b->(∃h,b.get? q=A h/\h.cls=.type "StopIteration")->o (.ref q) {g with heap:=b})->
  av aI e (qn (.ref c)) m o g
section
variable{p:aq}{t u v:E Q}{w:N}{a q x:k}{h:bF}{F:E Q}{j:U->k->Prop}
theorem Sub.list(m:h.handled=M)(f:ch U)(n:B≠D):Sub h D B f (λge T=>T.IsListIter D B ge/\T.IsList B f)where
 ae8:=λa b=>by obtain⟨g,e⟩:=a;exact⟨g.at λc i=>b D (.inl rfl) c i,e.at λc i=>b B (.inr rfl) c i⟩
 cm:=λa=>by obtain⟨⟨c,o,t,p⟩,t⟩:=a;exact⟨c,o,f9 p⟩
 item:=λq j a k b=>by obtain⟨g,e⟩:=a;exact wpAny_nextOf_list_item g e k λr s l=>b r ⟨s,e.extBut l.extBut n⟩ l
 qa:=λq j a k b=>by obtain⟨g,e⟩:=a;exact wpAny_nextOf_list_end m g e k b
def Ur{k}(f:a.heap.IsTupleIter g i l)
 (n:a.heap.IsTuple i k) (p:k[l]?=A o)
 (q:∀m,m.IsTupleIter g i (l+1)->ek g a.heap m->r o {a with heap:=m}):
 av aI h (qn (.ref g)) r j a:=by
 refine as λy s=>?_;obtain⟨w,c,t,b⟩:=id f;obtain⟨cp,u,y,x,v⟩:=n;refine s ?_;unfold qn;refine e (kS (name:=bi "__next__") f.typeIs vV
  (hS vV f.typeIs Ia ?_ (H8 _)))
 show av _ _ (field (.ref g) 0>>=_) _ _ a;refine e (eD c b (x:=.ref i) G ((bZ (show¬((en i==iN)=J)from ml)).symm▸(e (eD c b (x:=.int l 0) G (e (nE u v ?_))))));simp only[sD,p];exact e (o1 c b (by simp) (aJ ⟨o,G,aJ (q _ (⟨_,gV _ c (AG (qG b _)),(AF ..).trans t,by
  rw[qG b];simp[dV]⟩) (hr ..))⟩))
def Uq{n}(r:h.handled=M)
 (f:a.heap.IsTupleIter i l o) (s:a.heap.IsTuple l n) (t:n[o]?=M)
 (u:∀g m,lz i a.heap g->(∃b,g.get? m=A b/\b.cls=.type "StopIteration")->j (.ref m) {a with heap:=g}):
 av aI h (qn (.ref i)) B j a:=by
 refine as λE v=>?_;obtain⟨b,c,C,k⟩:=id f;obtain⟨cp,w,E,D,x⟩:=s;refine v ?_;unfold qn;refine e (kS (name:=bi "__next__") f.typeIs vV
  (hS vV f.typeIs Ia ?_ (H8 _)))
 show av _ _ (field (.ref i) 0>>=_) _ _ a;refine e (eD c k (x:=.ref l) G ((bZ (show¬((en l==iN)=J)from ml)).symm▸(e (eD c k (x:=.int o 0) G (e (nE w x ?_))))));simp only[sD,t];exact e (lK (e (o1 c k (by simp) (zs (i:=h.in1) r λg m up y=>u _ _ (λq b p z=>up q b ((hr ..).extBut q b p z)) y))))
theorem Sub.tuple(m:h.handled=M)(f:ch U)(n:B≠D):Sub h D B f (λge T=>T.IsTupleIter D B ge/\T.IsTuple B f)where
 ae8:=λa b=>by obtain⟨g,e⟩:=a;exact⟨g.at λc i=>b D (.inl rfl) c i,e.at λc i=>b B (.inr rfl) c i⟩
 cm:=λa=>by obtain⟨⟨c,o,t,p⟩,t⟩:=a;exact⟨c,o,f9 p⟩
 item:=λq j a k b=>by obtain⟨g,e⟩:=a;exact Ur g e k λr s l=>b r ⟨s,e.extBut l.extBut n⟩ l
 qa:=λq j a k b=>by obtain⟨g,e⟩:=a;exact Uq m g e k b
variable{g i b l m r s:Q}{n o:I->aq->Prop}
def Sub.iG{b e a:Q}{f:ch U}{P:I->aq->Prop}{g:I}{i j:aq}(c:Sub h b e f P)(k:P g i)(l:lz a i j)(q:b≠a)(r:e≠a):P g j:=
 c.ae8 k λm n o p=>l m o (by rcases n with rfl|rfl<;>assumption) p
def Ht{K L:I}{f W:ch U}{gt N:U}{wp:U->k->Prop}(p:ZipApart g i b l m r s)(ai:Sub h l r f n)(w:Sub h m s W o)
 (P:jg a.heap g i b .none) (IO:gf a.heap i (.ref l) (.ref m)) (A1:gf a.heap b gt N) (A5:n K a.heap) (B0:o L a.heap)
 (KB:∀B ge,f[K]?=A B->W[L]?=A ge->∀T,jg T g i b (dV a.heap.objs.size)->gf T b B ge->n (K+1) T->o (L+1) T->gf T a.heap.objs.size B ge->
  (∀y z,y≠g->y≠b->y≠l->y≠m->a.heap.get? y=A z->T.get? y=A z)->wp (.ref a.heap.objs.size) {a with heap:=T})
 (B2:f[K]?=M\/W[L]?=M->∀T D,(∀y z,y≠g->y≠b->y≠l->y≠m->a.heap.get? y=A z->T.get? y=A z)->(∃B ge,gf T b B ge)->(∃z,T.get? D=A z/\z.cls=.type "StopIteration")->j (.ref D) {a with heap:=T}):
 av aI h (Builtin.«zip.__next__» ⟨[.ref g],[]⟩) (λaj q=>∃B3,aj=.done (.ret B3)/\wp B3 q) j a:=by
 show av _ _ (field (.ref g) 2>>=_) _ _ _;refine e (eD P G (x:=.bool d) G (e (eD P G (x:=.ref i) G (e (nE IO G (e ?_))))));unfold acB;refine e (eD P G (x:=.none) G (aJ ?_));simp only[wx];refine e (lK (e (eD P G (x:=.ref b) G (e (hT P (by simp) λKF Q x=>?_)))));replace Q:jg KF g i b .ellipsis:=Q;refine e ?_;simp only[E.zipIdx_cons,E.zipIdx_nil,Ae,I2];refine e (e (Lq ?_));cases X:f[K]?with
 |none=>
  refine e (ai.qa _ _ (ai.iG A5 x.extBut p.i1z p.l1z) X λkw D u ld=>?_);obtain⟨le,R,S⟩:=ld;have B8:jg kw g i b .ellipsis:=u _ _ p.i1z.symm Q;refine hT B8 (by simp) λlo Pv v=>B2 (.inl X) lo D (λy z c Pv F Pv B=>v.extBut _ _ c (u _ _ F (x.extBut _ _ c B)))
   ⟨gt,N,v.extBut _ _ p.TOz (u _ _ p.TOi1 (x.extBut _ _ p.TOz A1))⟩ ⟨le,v.extBut _ _ (jM R B8 (S▸p6 nofun)) R,S⟩
 |some B=>
  refine e (ai.item _ _ (ai.iG A5 x.extBut p.i1z p.l1z) X λkw KK u=>aJ ?_);have Ch:gf kw b gt N:=u.extBut _ _ p.TOi1 (x.extBut _ _ p.TOz A1);refine e (nE Ch G (e (Lw Ch λlo Y v=>?_)));replace Y:gf lo b B N:=Y;refine e (wT (aJ (e (e (Lq ?_)))));cases Z:W[L]?with
  |none=>
   refine e (w.qa _ _ (w.iG (w.iG (w.iG B0 x.extBut p.i2z p.l2z) u.extBut p.i12.symm p.l2i1) v.extBut p.TOi2.symm p.l2TO) Z λmp D C ld=>?_);obtain⟨le,R,S⟩:=ld;have Cl:jg mp g i b .ellipsis:=C _ _ p.i2z.symm (v.extBut _ _ p.TOz.symm (u.extBut _ _ p.i1z.symm Q));refine hT Cl (by simp) λt Pv H=>B2 (.inr Z) t D (λy z c O F V B=>H.extBut _ _ c (C _ _ V (v.extBut _ _ O (u.extBut _ _ F (x.extBut _ _ c B)))))
    ⟨B,N,H.extBut _ _ p.TOz (C _ _ p.TOi2 Y)⟩ ⟨le,H.extBut _ _ (jM R Cl (S▸p6 nofun)) R,S⟩
  |some ge=>
   refine e (w.item _ _ (w.iG (w.iG (w.iG B0 x.extBut p.i2z p.l2z) u.extBut p.i12.symm p.l2i1) v.extBut p.TOi2.symm p.l2TO) Z λmp KM C=>aJ ?_);have C9:gf mp b B N:=C.extBut _ _ p.TOi2 Y;refine e (nE C9 G (e (Lw C9 λt ad H=>?_)));replace ad:gf t b B ge:=ad;refine e (wT (aJ (aJ (e (nE ad G (e (Lp ?_)))))));have Da:t.objs.size=a.heap.objs.size:=by rw[H.1,C.1,v.1,u.1,x.1]
   have D5:jg t g i b .ellipsis:=H.extBut _ _ p.TOz.symm (C.extBut _ _ p.i2z.symm (v.extBut _ _ p.TOz.symm (u.extBut _ _ p.i1z.symm Q)));have KT:∀y z,y≠g->y≠b->y≠l->y≠m->a.heap.get? y=A z->t.get? y=A z:=λy z c O F V D=>
    H.extBut _ _ O (C.extBut _ _ V (v.extBut _ _ O (u.extBut _ _ F (x.extBut _ _ c D))))
   have Ns:n (K+1) t:=ai.iG (ai.iG (ai.iG KK v.extBut p.TOi1.symm p.l1TO) C.extBut p.i12 p.l1i2) H.extBut p.TOi1.symm p.l1TO;have On:o (L+1) t:=w.iG KM H.extBut p.TOi2.symm p.l2TO;have Fr:g<t.objs.size:=du D5;refine e ?_;unfold acA;have Os:jg (t.push {cls:=.type "tuple",data:=.seq #[B,ge]}) g i b .ellipsis:=bU _ D5;refine e (hT Os (by simp) λPi of FB=>?_);replace of:jg Pi g i b (dV t.objs.size):=of;refine hT of (by simp) λdl go GM=>?_;replace go:jg dl g i b (dV t.objs.size):=go;have up:∀y z,y≠g->t.get? y=A z->dl.get? y=A z:=λy z c D=>GM.extBut _ _ c (FB.extBut _ _ c (bU _ D));have Id:gf dl t.objs.size B ge:=GM.extBut _ _ (fK Fr) (FB.extBut _ _ (fK Fr) (dt _ G));rw[Da]at go Id;refine aJ ⟨_,G,?_⟩;rw[Da];exact KB B ge X Z dl go (up _ _ p.TOz ad) (ai.ae8 Ns λy st z D=>up y z (by rcases st with rfl|rfl;exact p.i1z;exact p.l1z) D) (w.ae8 On λy st z D=>up y z (by rcases st with rfl|rfl;exact p.i2z;exact p.l2z) D) Id
    λy z c O F V D=>up y z c (KT y z c O F V D)
end
end
section
def Mj(l:bF)(g:E L)(j k:Q)(m:I->E Q->aq->Prop)(a:I)(b:E Q)(c:aq)(n:Prop):Prop:=∀f:ch U,∀P:I->aq->Prop,Sub l.in1 j k f P->P a c->(∀h,g[a]?=A h->∃i,f[a]?=A i/\aF b c h i)->(g[a]?=M->f[a]?=M)->(∀e,P (a+1) e->b4 b c e->m (a+1) b e)->n
structure jz(j:aq)(q:bF)(o:E dp)(r:E L)(e f:Q)(c:I->E Q->aq->Prop):Prop where
 bu:∀{g:I}{a p:E Q}{h m:aq},c g a h->bW h a p->b4 a h m->(∀b,h.get? e=A b->m.get? e=A b)->c g p m
 cls:∀{g:I}{a:E Q}{h:aq},c g a h->∃b,h.get? e=A b/\b.cls≠.type "tuple"/\b.cls≠.type "list"/\(∀s n,b.data≠.seq s n)/\b.cls≠.type "frame"
 aeL:∀{g:I}{a:E Q}{l:N}{i:k},c g a i.heap->al j a l i->d_ l o=J->∃b,i.heap.get? f=A b/\((b.cls=.type "tuple"/\f∉a)\/(b.cls=.type "list"/\f∈a))
 sub:∀{g:I}{a:E Q}{l:N}{i:k},c g a i.heap->al j a l i->d_ l o=J->aA (Mj q r e f c g a i.heap)
section
variable{m:aq}{a y z:E Q}{l:N}{b B C:k}{o:bF}{F:E Q}{t:U->k->Prop}
def Mh(c b:Q)(g:E L)(f:E U)(h:I)(a:E Q)(e:aq)(i:Prop):Prop:=e.IsTupleIter c b h->e.IsTuple b f.toArray->b∉a->aC a e g f->i
def Mg(b c:Q)(e:E L)(f:E U)(g:I)(a:E Q)(h:aq):Prop:=aA (Mh b c e f g a h)
theorem jz.tuple(y:o.handled=M)(v:E L)(q:E U)(z:D≠T):jz m o ge v T D (Mg T D v q)where
 bu:=λh w r s=>by refine h _ λt B f i=>?_;obtain⟨c,g,e,n,k⟩:=B;exactλW j=>j (t.at λc u=>s c u) ⟨c,r _ c f g e ⟨_,_,k⟩,e,n,k⟩ (λC=>(w.2 _ C).elim f λF=>F c g e) (i.bm w r)
 cls:=λh=>by refine h _ λH W W W=>?_;obtain⟨c,g,e,k⟩:=H;exact⟨c,g,iW e nofun,iW e nofun,f9 k,iW e nofun⟩
 aeL:=λh W W=>by refine h _ λW I f W=>?_;obtain⟨c,g,e,W⟩:=I;exact⟨c,g,.inl ⟨e,f⟩⟩
 sub:=by
  rintro r a l b x R -;refine x _ λt K f i=>?_;clear x;refineλW j=>j q.toArray _ (Sub.tuple (h:=o.in1) y q.toArray z) ⟨t,K⟩ (λS p=>?_) (λp=>?_) λV⟨N,O⟩ s=>λW j=>j N O f (i.bm (bW.refl _) s)
  .obtain⟨u,P,Q⟩:=i.get p;exact⟨u,by rw[nn];exact P,Q⟩
  .rw[nn];have:=i.length;rw[sI]at p⊢;exact uX this p
theorem jz.list(w:o.handled=M)(h:E L)(f:A (g,.list h)∈gt)(x:D≠ge):jz m o gt h ge D (λT a kw=>kw.IsListIter ge D T/\a[g]?=A D)where
 bu:=λj y T v=>by obtain⟨e,c⟩:=j;exact⟨e.at λk e=>v k e,y.1 _ _ c⟩
 cls:=λj=>by obtain⟨⟨k,p,f,z⟩,Q⟩:=j;exact⟨k,p,iW f nofun,iW f nofun,f9 z,iW f nofun⟩
 aeL:=by
  rintro T a l b ⟨e,c⟩ q r;have s:l[g]?=A (.list h):=tR r f;refine q.obj g D _ c s _ λt B u=>?_;obtain⟨n,p⟩:=B;exact⟨_,p,.inr ⟨G,d7 c⟩⟩
 sub:=by
  rintro T a l b ⟨e,c⟩ q r;have s:l[g]?=A (.list h):=tR r f;refine q.obj g D _ c s _ λt C u=>λQ F=>F t.toArray _ (Sub.list (h:=o.in1) w t.toArray x) ⟨e,C.isList⟩ (λN i=>?_) (λi=>?_) λO⟨H,P⟩ v=>⟨H,c⟩
  .obtain⟨e,I,K⟩:=u.get i;exact⟨e,by rw[nn];exact I,K⟩
  .rw[nn];have:=u.length;rw[sI]at i⊢;exact uX this i
def D6(c:f3 a b.heap g .afT):∃h i,gf b.heap g h i:=c
def abQ{c f:E L}{a:I}{g:L}(b:(gz c f)[a]?=A g):∃h i,c[a]?=A h/\f[a]?=A i/\g=.ab [h,i]:=by
 unfold gz at b;rw[j3]at b;obtain⟨l,e,rfl⟩:=jn.mp b;rw[E.getElem?_zip_eq_some]at e;exact⟨l.1,l.2,e.1,e.2,G⟩
def abS{c e:E L}{a:I}(b:(gz c e)[a]?=M):c[a]?=M\/e[a]?=M:=by
 unfold gz at b;rw[j3,j.map_eq_none_iff,sI,I9]at b;rw[sI,sI];exact(Std.min_le.mp b)
structure tB(g c h i:Q)(j:I)(k l:I->E Q->aq->Prop)(e:I)(f:Q)(a:E Q)(b:aq):Prop where
 ae1:a[j]?=A f
 aeK:jg b g c f .none
 lr:gf b c (.ref h) (.ref i)
 aeR:c∉a
 aeS:k e a b
 aeT:l e a b
section
variable{p:E dp}{g s h i u v j:Q}{n k:I}{w x:E L}{q r:I->E Q->aq->Prop}
def tB.apart(f:tB g s h i n q r k j a b.heap)(ai:jz m o p w h u q)(K:jz m o p x i v r)(V:h≠g)(W:i≠g)(X:h≠i)(I:al m a l b)(L:d_ l p=J)(E:∀D∈[g,h,i],D∉a/\m.get? D=M)(Y:gf b.heap j D T):ZipApart g s j h i u v:=by
 have y:j∈a:=d7 f.ae1;refine as λmp Z=>?_;obtain⟨kw,N,R,ad,mp⟩:=ai.cls f.aeS;obtain⟨ld,O,S,ez,mp⟩:=K.cls f.aeT;obtain⟨le,dl,ge⟩:=ai.aeL f.aeS I L;obtain⟨lo,go,gt⟩:=K.aeL f.aeT I L;refine Z ?_;have P:∀{c:Q}{z:cn},b.heap.get? c=A z->((z.cls=.type "tuple"/\c∉a)\/(z.cls=.type "list"/\c∈a))->c≠g/\c≠j/\c≠h/\c≠i:=λ{c z} B t=>by
  have cM:∀{F:U},F≠.type "tuple"->F≠.type "list"->z.cls≠F:=λD T e=>t.elim (λt=>D (e.symm.trans t.1)) λt=>T (e.symm.trans t.1);exact⟨jM B f.aeK (cM (p6 nofun) (p6 nofun)),t.elim (λt e=>t.2 (e▸y)) λt=>jM B Y (iW t.1 nofun),jM B N (cM R ad),jM B O (cM S ez)⟩
 have C:=P dl ge;have H:=P go gt;exact⟨jM f.lr f.aeK (p6 nofun),λe=>(E g (.head _)).1 (e▸y),V,W,λe=>f.aeR (e▸y),jM f.lr N R.symm,jM f.lr O S.symm,λe=>(E h (.tail _ (.head _))).1 (e▸y),λe=>(E i (.tail _ (.tail _ (.head _)))).1 (e▸y),X,C.1,C.2.1,C.2.2.1,C.2.2.2,H.1,H.2.1,H.2.2.1,H.2.2.2⟩
def Hs(u:tB g s h i n q r k j a b.heap)(p:al m a l b)(t:∀gt∈[g,h,i],gt∉a/\m.get? gt=M)(H:l[n]?=A .afT)(E:b.heap.get? h=A kw)(K:kw.cls≠.type "tuple")(F:b.heap.get? i=A le)(N:le.cls≠.type "tuple")
 (up:∀D T,D≠g->D≠j->D≠h->D≠i->b.heap.get? D=A T->ge.get? D=A T) (I:∃mp go,gf ge j mp go):im [g,h,i] a b {b with heap:=ge}/\b4 a b.heap ge/\al m a l {b with heap:=ge}:=by
 have z:j∈a:=d7 u.ae1;have go:im [g,h,i] a b {b with heap:=ge}:=⟨λD T e f v=>up D T (λc=>v (c▸.head _)) (λc=>f (c▸z)) (λc=>v (c▸.tail _ (.head _))) (λc=>v (c▸.tail _ (.tail _ (.head _)))) e,G,G,G⟩;have B:b4 a b.heap ge:=λD T f e w O=>up D T (jM e u.aeK (iW w nofun)) (λc=>f (c▸z)) (jM e E (w▸K.symm)) (jM e F (w▸N.symm)) e;refine⟨go,B,go.HB p t λx D T o y=>?_⟩;by_cases C:D=j
 .subst C;obtain rfl:x=n:=(I3 (d6.mp o).1 p.aeA).mp (o.trans u.ae1.symm);obtain rfl:=aG (H.symm.trans y);exact I
 .have f:D∈a:=d7 o;refine(p.obj x D T o y).bm (bW.refl _) B ((p.obj x D T o y).cm.elim λL e=>(up D L (λe=>(t g (.head _)).1 (e▸f)) C (λe=>(t h (.tail _ (.head _))).1 (e▸f)) (λe=>(t i (.tail _ (.tail _ (.head _)))).1 (e▸f)) e).trans e.symm)
theorem eL.zip{KT:E a6}{Ns}{On:dj}(agu:o.handled=M)(B2:A (n,.afT)∈p)
 (ai:jz m o p w h u q) (Q:jz m o p x i v r) (X:h≠g) (ad:i≠g) (B3:h≠i):eL m o (.ref g) [g,h,i] p (.Tuple KT Ns On)
 (λge a D=>∃k j,tB g s h i n q r k j a D/\ge=(gz w x).drop k)where
 bu:=by
  rintro ge a y D B8 ⟨k,j,z,Os⟩ N I B;exact⟨k,j,⟨N.1 _ _ z.ae1,B g (.head _) _ z.aeK,I _ _ z.aeR z.lr G ⟨_,_,G⟩,λPi=>(N.2 _ Pi).elim z.aeR λg=>g _ z.lr G,ai.bu z.aeS N I (B h (.tail _ (.head _))),Q.bu z.aeT N I (B i (.tail _ (.tail _ (.head _))))⟩,Os⟩
 cm:=by
  rintro ge a D ⟨k,j,z,agw⟩ Ch O;rcases em.mp O with rfl|O
  .exact⟨_,z.aeK,f9 G,p6 nofun⟩
  rcases em.mp O with rfl|O
  .exact(ai.cls z.aeS).imp λF D=>⟨D.1,D.2.2.2.1,D.2.2.2.2⟩
  .rw[b2.mp O];exact(Q.cls z.aeT).imp λF D=>⟨D.1,D.2.2.2.1,D.2.2.2.2⟩
 item:=by
  rintro agv ge a l b ⟨k,j,z,dl⟩ H L P Cl t B;have S:l[n]?=A .afT:=tR L B2;obtain⟨Ch,Pv,T⟩:=D6 (H.obj n j _ z.ae1 S);have K:=z.apart ai Q X ad B3 H L P T;refine ai.sub z.aeS H L _ λf P3 V go g1 agw W=>Q.sub z.aeT H L _ λSt SB Y gt g2 agw kw=>?_;obtain⟨SC,ld,le,agw⟩:=ai.cls z.aeS;obtain⟨SL,lo,mp,agw⟩:=Q.cls z.aeT;obtain⟨ST,SZ⟩:=tX dl;obtain⟨C9,Da,D5,Fr,rfl⟩:=abQ ST;have U:b.TypeIs (.ref g) "zip":=⟨_,z.aeK,G⟩;unfold hy;refine e (nB (kS (name:=bi "__next__") U vW
   (hS vW U Ic (Ht K V Y z.aeK z.lr T go gt (λof st wp A1 B8 Tm Ty FB GM TD TE=>aJ ?_) λB=>(B.elim (λB=>(g1 C9 D5).elim λagw D=>pX D.1 B) (λB=>(g2 Da Fr).elim λagw D=>pX D.1 B):dT).elim) (H9 _))))
  refine⟨_,G,wpAny_letOwnedTupleGo_zip Tm λZ Id R=>?_⟩;obtain⟨agw,TI,TT⟩:=g1 C9 D5;obtain⟨agw,XV,abs⟩:=g2 Da Fr;obtain rfl:=aG (wp.symm.trans TI);obtain rfl:=aG (A1.symm.trans XV);have up:∀C F,C≠g->C≠j->C≠h->C≠i->b.heap.get? C=A F->Z.get? C=A F:=λC F W kw agn ago N=>R.extBut _ _ W (TE C F W kw agn ago N);have IO:=R.extBut _ _ K.TOz Ty;obtain⟨A5,I,B0⟩:=Hs z H P S ld le lo mp up ⟨of,st,IO⟩;have c:ay [g,h,i] a a b {b with heap:=Z}:=.of ⟨[],(gX _).symm,nofun⟩ A5.bu (λC F N=>by
   by_cases KB:C=g
   .exact⟨_,KB▸Id⟩
   by_cases KF:C=j
   .exact⟨_,KF▸IO⟩
   by_cases KK:C=h
   .exact(V.cm FB).imp λF D=>KK▸R.extBut _ _ X D.1
   by_cases KM:C=i
   .exact(Y.cm GM).imp λF D=>KM▸R.extBut _ _ ad D.1
   exact⟨F,up C F KB KF KK KM N⟩) G rfl rfl
  exact B _ _ c I B0 (λagw agp=>agp _ [of,st] rfl ⟨_,R.extBut _ _ (fK (du z.aeK)) TD,G,_,G⟩ (aC.mk (TT.bm (bW.refl _) I) (aC.mk (abs.bm (bW.refl _) I) (aC.eY.mpr G))) H.su)
   ⟨k+1,j,⟨z.ae1,Id,up _ _ K.TIz K.TITO K.TIi1 K.TIi2 z.lr,z.aeR,W Z (V.iG FB R.extBut K.i1z K.l1z) I,kw Z (Y.iG GM R.extBut K.i2z K.l2z) I⟩,SZ⟩
 done:=by
  rintro a l b ⟨k,j,z,dl⟩ H L P Cl t B;have S:l[n]?=A .afT:=tR L B2;obtain⟨Ch,Pv,T⟩:=D6 (H.obj n j _ z.ae1 S);refine ai.sub z.aeS H L _ λf P3 V go agw g1 agw=>Q.sub z.aeT H L _ λSt SB Y gt agw g2 agw=>?_;obtain⟨SC,ld,le,agw⟩:=ai.cls z.aeS;obtain⟨SL,lo,mp,agw⟩:=Q.cls z.aeT;have U:b.TypeIs (.ref g) "zip":=⟨_,z.aeK,G⟩;unfold hy;refine e (nB (kS (name:=bi "__next__") U vW
   (hS vW U Ic (Ht (z.apart ai Q X ad B3 H L P T) V Y z.aeK z.lr T go gt (λof st wp A1=>(((abS (EF dl)).imp g1 g2).elim (pX wp) (pX A1)).elim) λagw B8 N agq agr ags=>?_) (H9 _))))
  obtain⟨A5,agw,B0⟩:=Hs z H P S ld le lo mp agq agr;exact vr ags ⟨G,B _ A5 B0⟩
 self:=λagt Cl t B=>by obtain⟨k,j,z,agw⟩:=agt;exact BI z.aeK B
end
end
end
section
noncomputable abbrev vG(a:eg)(b:aq)(c:Q):aq:=b.push {cls:=.type a,data:=.fields #[.ref c,.int 0 0]}
noncomputable abbrev vH(a:eg)(b:aq)(c e:Q):aq:=(vG a b c).push {cls:=.type "tuple_iterator",data:=.fields #[.ref e,.int 0 0]}
noncomputable abbrev vI(b:eg)(a:aq)(c e:Q):aq:=(vH b a c e).push {cls:=.type "tuple",data:=.seq #[.ref a.objs.size,.ref (vG b a c).objs.size]}
noncomputable abbrev p9(a:eg)(b:aq)(c e:Q):aq:=(vI a b c e).push {cls:=.type "tuple",data:=.seq #[.none,.none]}
noncomputable abbrev jV(a:eg)(b:aq)(c e:Q):aq:=(p9 a b c e).push {cls:=.type "zip",data:=.fields #[.none,.bool d,.bool d,.ref (vH a b c e).objs.size,.ref (vI a b c e).objs.size]}
def Hq(b:eg)(a:aq)(c e:Q):(p9 b a c e).objs.size=a.objs.size+4/\jg (jV b a c e) (a.objs.size+4) (a.objs.size+2) (a.objs.size+3) .none/\gf (jV b a c e) (a.objs.size+3) .none .none/\
 gf (jV b a c e) (a.objs.size+2) (.ref a.objs.size) (.ref (a.objs.size+1))/\(jV b a c e).get? (a.objs.size+1)=A {cls:=.type "tuple_iterator",data:=.fields #[.ref e,.int 0 0]}/\
 (jV b a c e).get? a.objs.size=A {cls:=.type b,data:=.fields #[.ref c,.int 0 0]}:=by
 have f:(vG b a c).objs.size=a.objs.size+1:=jf ..;have g:(vH b a c e).objs.size=a.objs.size+2:=by rw[jf,f]
 have h:(vI b a c e).objs.size=a.objs.size+3:=by rw[jf,g]
 have i:(p9 b a c e).objs.size=a.objs.size+4:=by rw[jf,h]
 have eX:(jV b a c e).get? (p9 b a c e).objs.size=A _:=dt _ G;have dM:(jV b a c e).get? (vI b a c e).objs.size=A _:=bU _ (dt _ G);have g3:(jV b a c e).get? (vH b a c e).objs.size=A _:=bU _ (bU _ (dt _ G));have g2:(jV b a c e).get? (vG b a c).objs.size=A _:=bU _ (bU _ (bU _ (dt _ G)));rw[g,h,i]at eX;rw[f,g]at g3;rw[h]at dM;rw[f]at g2;exact⟨i,eX,dM,g3,g2,(bU _ (bU _ (bU _ (bU _ (dt _ G)))):(jV b a c e).get? a.objs.size=A _)⟩
section
variable{b:bF}{c:U->k->Prop}{a:k}
def T5(c e:Q)(f h:ch U):
 nr (Builtin.«zip.__new__» ⟨[.type "zip",.ref c,.ref e],[]⟩) (λt i a=>a.heap.IsTuple c f/\a.heap.IsTuple e h/\
  i (.ok (.ret (.ref (p9 "tuple_iterator" a.heap c e).objs.size))) {a with heap:=jV "tuple_iterator" a.heap c e}):=
 .of_wp λq r b i a g=>by
  obtain⟨l,j,k,m,os⟩:=a;obtain⟨n,o,g⟩:=g;have s:=sub_zip;have p:zX (wf ⟨l.push {cls:=.type "tuple_iterator",data:=.fields #[.ref c,.int 0 0]},j,k,m,os⟩) e h:=vX o _
  wp_walk using wW (n:zX (wf ⟨l,j,k,m,os⟩) c f),wW p
  exact⟨_,G,g⟩
def NV{e h:Q}{f j:ch U}{m:U->k->Prop}(n:a.heap.IsTuple e f)(o:a.heap.IsTuple h j)
 (p:∀g,jg g (a.heap.objs.size+4) (a.heap.objs.size+2) (a.heap.objs.size+3) .none->gf g (a.heap.objs.size+2) (.ref a.heap.objs.size) (.ref (a.heap.objs.size+1))->
  gf g (a.heap.objs.size+3) .none .none->g.IsTupleIter a.heap.objs.size e 0->g.IsTupleIter (a.heap.objs.size+1) h 0->
  (∀i l,a.heap.get? i=A l->g.get? i=A l)->m (.ref (a.heap.objs.size+4)) {a with heap:=g}):
 av aI b (eu (.type "zip") [.ref e,.ref h]) m c a:=by
 refine Ba H_ G (Ij _ _) (Ie _ _) (λobj=>H7 obj _ _) Ib
  (T5 e h f j) ⟨n,o,?_⟩
 refine as λt q=>?_;obtain⟨r,eX,dM,g3,g2,g1⟩:=Hq "tuple_iterator" a.heap e h;exact q (r.symm▸(⟨⟨_,eX,G⟩,p _ eX g3 dM ⟨_,g1,G,G⟩ ⟨_,g2,G,G⟩ λi l s=>
  bU _ (bU _ (bU _ (bU _ (bU _ s))))⟩))
def T4(c e:Q)(f h:ch U):
 nr (Builtin.«zip.__new__» ⟨[.type "zip",.ref c,.ref e],[]⟩) (λt i a=>a.heap.IsList c f/\a.heap.IsTuple e h/\
  i (.ok (.ret (.ref (p9 "list_iterator" a.heap c e).objs.size))) {a with heap:=jV "list_iterator" a.heap c e}):=
 .of_wp λq r b i a g=>by
  obtain⟨l,j,k,m,os⟩:=a;obtain⟨n,o,g⟩:=g;have s:=sub_zip;have p:zX (wf ⟨l.push {cls:=.type "list_iterator",data:=.fields #[.ref c,.int 0 0]},j,k,m,os⟩) e h:=vX o _
  wp_walk using ti (n:aq.IsList (wf ⟨l,j,k,m,os⟩) c f),wW p
  exact⟨_,G,g⟩
def NU{e h:Q}{f j:ch U}{m:U->k->Prop}(n:a.heap.IsList e f)(o:a.heap.IsTuple h j)
 (p:∀g,jg g (a.heap.objs.size+4) (a.heap.objs.size+2) (a.heap.objs.size+3) .none->gf g (a.heap.objs.size+2) (.ref a.heap.objs.size) (.ref (a.heap.objs.size+1))->
  gf g (a.heap.objs.size+3) .none .none->g.IsListIter a.heap.objs.size e 0->g.IsTupleIter (a.heap.objs.size+1) h 0->
  (∀i l,a.heap.get? i=A l->g.get? i=A l)->m (.ref (a.heap.objs.size+4)) {a with heap:=g}):
 av aI b (eu (.type "zip") [.ref e,.ref h]) m c a:=by
 refine Ba H_ G (Ij _ _) (Ie _ _) (λobj=>H7 obj _ _) Ib
  (T4 e h f j) ⟨n,o,?_⟩
 refine as λt q=>?_;obtain⟨r,eX,dM,g3,g2,g1⟩:=Hq "list_iterator" a.heap e h;exact q (r.symm▸(⟨⟨_,eX,G⟩,p _ eX g3 dM ⟨_,g1,G,G⟩ ⟨_,g2,G,G⟩ λi l s=>
  bU _ (bU _ (bU _ (bU _ (bU _ s))))⟩))
end
def nI(e:aq)(c:bF)(m:E Q)(f:k)(n:ef U)(o:a6)(h:E L)(p:E dp)(q:N):Prop:=∀(i:U->k->Prop)(j:U->k->Prop),
 (∀a b l F N,ay [] m a f b->al e a q b->(∀g∈F,f.heap.get? g=M/\g∉a/\e.get? g=M)->eL e c l F p o N->N h a b.heap->h.length<=2000000->i l b)->
 av aI c n (λr af=>av aI c (my r) i j af) j f
structure k1(b:aq)(n:I)(f:ah->cb)(j:ce)(e:bL)(t:jA)(u:E X)(c v:a6):Prop where
 fold:∀a h,KG c a h=pure h
 bf:∀{i:bF}{a:b9}{l:aK}{w g:E Q}{m o p:N}{TI:k}{q r:E L}{s:E dp},cV a e->bK b g TI.heap a e.i l w->al b g m TI->cC b J n i a->
  dv J f j l u m=A (q,o)->eb o t q=A (r,s,p)->nI b i g TI (eC c a) v r s p
def m_{a b:E L}{c e:E dp}{f g:N}{h:E L->E dp->N->Prop}(i:A (a,c,f)=A (b,e,g))(j:h a c f):h b e g:=by cases i;exact j
noncomputable def rR(a:a6):ah:=a.ctorIdx !=7
def DN(c:rR a=J)(e:b9)(b:U):KG a e b=pure b:=by
 cases a<;>first|rfl|cases c
section
variable{a:aq}{n:I}{f:ah->cb}{g:ce}{e:bL}{h:dy}{b:a6}
def ay.none(c:ay ge gt kw B D)(a:D.heap.get? T=M):B.heap.get? T=M:=c.jW a
def al.lq(e:al a T ge D)(c:D.heap.get? B=M):a.get? B=M:=by
 cases f:a.get? B with
 |none=>rfl
 |some g=>obtain⟨h,b⟩:=e.data B g f;rw[c]at b;exact nomatch b
def rO(ai:ay [] o l m af)(b:al a l p af):∀i∈[af.heap.objs.size],m.heap.get? i=M/\i∉l/\a.get? i=M:=by
 intro i c;exact(b2.mp c).symm▸(⟨ai.none (aq.kD _),b.su,b.lq (aq.kD _)⟩)
def DD(a:dv l f g m [o] p=A (q,r)):∃i,q=[i]/\aR l f g m o p=A (i,r):=by
 refine as λn b=>b0 a _ λi h c a=>b0 a _ λj k e a=>b ?_;cases e;cases a;exact⟨i,G,c⟩
def Gi{a:E Q}{b:aq}{c:E L}{aB:E U}(e:cn)(f:aC a b c aB):aC a (b.push e) c aB:=f.bm (bW.refl _) λh h h g h h=>bU _ g
def S3{h:bF}{c:E Q}{n:N}{e:k}{f:Q}{g:E L}{aB:E U}{o:U->k->Prop}{r:U->k->Prop}(s:h.handled=M)(p:al a c n e)(t:g.length<1000000)(j:iI e.heap f aB.toArray)(u:aC c e.heap g aB)(a1:f∉c)
 (v:∀i l q F N,ay [] c i e l->al a i n l->(∀m∈F,e.heap.get? m=M/\m∉i/\a.get? m=M)->eL a h q F [] b N->N g i l.heap->g.length<=2000000->o q l):av aI h (my (.ref f)) o r e:=by
 exact wW j (v c _ _ [e.heap.objs.size] _ (ay.push c e {cls:=.type "tuple_iterator",data:=.fields #[.ref f,.int 0 0]} e.toks) (p.push _ e.toks) (rO (ay.refl [] c e) p) (eL.tuple s _ f aB ((by obtain⟨y,w,z⟩:=j;exact ee (du w)):f≠e.heap.objs.size)) (λz x=>x 0 ⟨_,dt _ G,G,G⟩ (vX j _) a1 (Gi _ u)) (FS t))
def S2{h:bF}{c:E Q}{j:N}{e:k}{g:I}{f:E L}{n:U}{p:U->k->Prop}{s:U->k->Prop}(t:h.handled=M)(o:al a c j e)(u:f.length<1000000)(v:j[g]?=A (.list f))(w:aF c e.heap (.ref g) n)
 (x:∀l m q F N,ay [] c l e m->al a l j m->(∀i∈F,e.heap.get? i=M/\i∉l/\a.get? i=M)->eL a h q F [A (g,.list f)] b N->N f l m.heap->f.length<=2000000->p q m):av aI h (my n) p s e:=by
 refine as λK y=>o.at v w _ λi z B r=>?_;subst z;refine r _ λaB C H=>?_;clear r;exact y (ti C.isList (x c _ _ [e.heap.objs.size] _ (ay.push c e {cls:=.type "list_iterator",data:=.fields #[.ref i,.int 0 0]} e.toks) (o.push _ e.toks) (rO (ay.refl [] c e) o) (eL.list t _ i f g) (λK D=>D B 0 ⟨_,dt _ G,G,G⟩ G) (FS u)))
def pN{F f g:E Q}{a af:k}(c:ay [] f g a af){P:Q->Prop}(b:∀i∈F,af.heap.get? i=M/\P i):∀i∈F,a.heap.get? i=M/\P i:=λi e=>⟨c.none (b i e).1,(b i e).2⟩
def Vw(u:b7 a n f g e T i)(H:rR i=J):k1 a n f g e .val [T] i b:=by
 refine⟨DN H,λ{v w ad dl x ge go gt y kw ld le} z B C l I c=>?_⟩;have D:=l.hand G;refine as λof h=>?_;obtain⟨K,rfl,E⟩:=DD I;refine h ?_;cases K with
 |ab L=>
  refine as λof h=>?_;obtain⟨j,c⟩:=cf c;exact h (m_ (h:=nI a v x y (eC i w) b) c λO P k=>u.bf z B C l E _ _ λQ af R ai m S=>S _ λlo aB U V X a1=>U▸S3 D m (hl j) V X a1 λo p q F N r s n W t=>k o p q F N (ai.then r) s (pN ai n) W t)
 |ref mp=>
  refine as λof h=>bh c _ λL Y c=>?_;obtain⟨j,c⟩:=cf c;exact h (m_ (h:=nI a v x y (eC i w) b) c λO P k=>u.bf z B C l E _ _ λQ af R ai m Z=>S2 D m (hl j) (l0 Y) Z λo p q F N r s n W t=>k o p q F N (ai.then r) s (pN ai n) W t)
 |_=>exact no c
def S1(v:fZ a){o:bF}{c:E Q}{j:N}{e:k}{g:I}{f:E (E L×L)}{n:U}{q:U->k->Prop}{w:U->k->Prop}(x:o.handled=M)(h:al a c j e)(y:f.length<1000000)(z:j[g]?=A (.afM f))(B:aF c e.heap (.ref g) n)
 (C:∀l m r F N,ay [] c l e m->al a l j m->(∀i∈F,e.heap.get? i=M/\i∉l/\a.get? i=M)->eL a o r F [A (g,.afM f)] b N->N (f.map λp=>.ab p.1) l m.heap->(f.map λp=>L.ab p.1).length<=2000000->q r m):av aI o (my n) q w e:=by
 refine as λV D=>h.at z B _ λi H s K=>?_;subst H;exact t4 K _ λO T t P R u V=>D (Yl (h.nd v (d7 s)) t ⟨O,t,P⟩ R (u.symm▸(C c _ _ [e.heap.objs.size] _ (ay.push c e {cls:=.type "dict_keyiterator",data:=.fields #[.ref i,.int 0 0,.int f.length 0,.int f.length 0]} e.toks) (h.push _ e.toks) (rO (ay.refl [] c e) h) (eL.ie x _ i f g) (λV S=>S s 0 ⟨_,dt _ G,G,G⟩ G) (by rw[bO];exact FT y u))))
def Vp(m:c1 a h)(o:b7 a n f g e p i)(j:rR i=J):k1 a n f g e .ie [p] i b:=by
 refine⟨DN j,λ{k q R S r T U V s X Y Z} t u v l w c=>as λle x=>?_⟩;obtain⟨ad,rfl,y⟩:=DD w;refine bh c _ λdl z c=>bh c _ λge B c=>?_;obtain⟨C,c⟩:=cf c;exact x (m_ (h:=nI a k r s (eC i q) b) c λgo gt D=>o.bf t u v l (pU y z) _ _ λkw af ld ai E H=>S1 m.base (l.hand G) E (hl C) (mT B) H λI K L F N O P n W Q=>D I K L F N (ai.then O) P (pN ai n) W Q)
def vn(c:c1 a h)(f:cV l e)(g:al a T ge m)(j:e.names.lookup i=A .globalImplicit)(k:bw.cB i=M)
 (n:oQ i=A o) (s:i≠"__name__") (t:(i==("__debug__":am))=d) (u:∀v,o≠.ref v) (w:p.all jL=J)
 (x:av aI q (oW (ih y (hA p l))) (λz B=>av aI q (eu o z) D r B) r m):av aI q (eC (.Call (.Name i go) p [] y) l) D r m:=
 qW (xB c f g j k n s t (kj w (fd x (λF F b=>⟨λC E=>rF u C E,b⟩) λF F b=>b)))
def ZD{e:N}{c:E L}{j:E L}{k:E dp}{m:N}{f:E L->E dp->N->Prop}(a:eb e .range c=A (j,k,m))
 (o:∀n:O,c=[.int n]->-1000000<=n->n<=1000000->f (ky 0 1 n.toNat) [] e)
 (p:∀i l:O,c=[.int i,.int l,.int (-1)]->-1000<=i->i<=1000000->-1000<=l->l<=1000000->f (ky i (-1) (i-l).toNat) [] e):f j k m:=by
 match c,a with
 |[i],a=>
  refine as λw g=>bh a _ λn h a=>?_;obtain⟨b,a⟩:=cf a;refine g ?_;have b:=dE b;exact m_ a (Yt _ _▸o n (by rw[pH h]) b.1 b.2)
 |[i,l,u],a=>
  refine as λw g=>bh a _ λq h a=>bh a _ λr s a=>bh a _ λv t a=>?_;obtain⟨b,a⟩:=cf a;refine g ?_;have b:=dE b;exact m_ a (Ys _ _▸p q r (by rw[pH h,pH s,pH t,b.1]) b.2.1 b.2.2.1 b.2.2.2.1 b.2.2.2.2)
 |[],a=>exact no a
 |[_,_],a=>exact no a
 |_::_::_::_::_,a=>exact no a
def Go:zL i l (-1)=((i-l).toNat:O):=by
 unfold zL;rw[bZ (by decide)]
 split
 .rw[show-(-1:O)=1 by decide,It];exact XF ‹_›
 .exact XG ‹_›
def ZA(a:-1000<=i)(b:i<=1000000)(c:-1000<=l)(e:l<=1000000):zM i l (-1)=J:=by
 unfold zM;refine Go.symm▸?_;simp only[acx,eB,sy,j8,oP,show¬((-1:O)>0) by decide,g7];exact XH a c b e
def D4(c:I)(g:w.handled=M)(h:al a q y l)(j:zM i p m=J)(z:zL i p m=(o.length:O))(k:o=ky i m o.length)(n:o.length<=2000000)
 (B:∀r s x F N,ay [] q r l s->al a r y s->(∀i∈F,l.heap.get? i=M/\i∉r/\a.get? i=M)->eL a w x F [] b N->N o r s.heap->o.length<=2000000->D x s):
 av aI w (my (.ref l.heap.objs.size)) D T {l with heap:=l.heap.push {cls:=.type "range",data:=.fields #[.int i t,.int p u,.int m v]},toks:=c}:=by
 refine wpAny_pyIter_range (s:={l with heap:=l.heap.push {cls:=.type "range",data:=.fields #[.int i t,.int p u,.int m v]},toks:=c}) (dt _ G) j ?_;refine z.symm▸?_;have e:=ay.push q l {cls:=.type "range",data:=.fields #[.int i t,.int p u,.int m v]} c;have f:=h.push {cls:=.type "range",data:=.fields #[.int i t,.int p u,.int m v]} c;exact B q _ _ [_] _ (e.then (ay.push q _ {cls:=.type "range_iterator",data:=.fields #[dV i,dV (o.length:O),dV m]} c)) (f.push _ c) (rO e f) (eL.range g _ m) (λE C=>C i o.length (dt _ G) k) n
def Vs(v:c1 a h){w:E X}{x:E a6}{O P:dj}(y:hD a n f g e w x)(Q:e.names.lookup ("range":am)=A .globalImplicit)(R:bw.cB ("range":am)=M):
 k1 a n f g e .range w (.Call (.Name "range" O) x [] P) b:=by
 refine⟨λGM GM=>rfl,λ{S wp A1 A5 T B0 B2 B3 U B8 Ch Cl} z V B l Y Z=>?_⟩;have C:=l.hand G;refine ZD (f:=nI a S T U _ b) Z (λad D j k dl ge m=>?_) λo go D j k H I dl ge m=>?_
 all_goals
  subst D;refine vn v (o:=.type "range") z B Q R (by decide+kernel) (by decide+kernel) (by decide+kernel) (by intro o i;cases i) y.aeD (y.bf z V B l Y _ _ λC9 af Da ai p K=>?_)
 .obtain⟨gt,rfl,kw,rfl⟩:=l6 K;have c:=Gn ad.toNat 0 1;refine PySem.call_range_1 (D4 _ C p (small_one (by omega) (by omega) (by omega) (by omega)) ?_ (by rw[c]) (by omega) λq r s F N t u n W i=>m q r s F N (ai.then t) u (pN ai n) W i);rw[rangeSize_one,c]
  split<;>omega
 .refine aC.gc.mp K _ λgt D5 ld le lo=>?_;subst ld;obtain⟨kw,rfl⟩:=le;refine p5 lo _ λao aS L=>L _ λmp of st=>?_;clear L;subst mp;obtain⟨Fr,rfl⟩:=of;obtain⟨FB,rfl⟩:=st;have c:=Gn (o-go).toNat o (-1);exact PySem.call_range_3 nofun (D4 af.toks C p (ZA j k H I) (by rw[Go,c]) (by rw[c]) (XI j H k I c) λq r s F N t u n W i=>m q r s F N (ai.then t) u (pN ai n) W i) (Or.inr (p.HF v.base l))
def Vu(z:c1 a h){j:E X}{p:E a6}{B C:dj}(q:hD a n f g e j p)(D:e.names.lookup ("reversed":am)=A .globalImplicit)(F:bw.cB ("reversed":am)=M):
 k1 a n f g e .lw j (.Call (.Name "reversed" B) p [] C) b:=by
 refine⟨λA5 A5=>rfl,λ{H Y Z ad I dl ge go K gt kw ld} r L s t N c=>?_⟩;obtain⟨le,rfl,c⟩:=og c;refine bh c _ λj P c=>?_;obtain⟨Q,c⟩:=cf c;refine m_ (h:=nI a H I K _ b) c λlo mp R=>vn z (o:=.type "reversed") r s D F (by decide+kernel) (by decide+kernel) (by decide+kernel) (by intro of S;cases S) q.aeD (q.bf r L s t N _ _ λu af st ai v T=>?_);obtain⟨wp,rfl,k⟩:=l6 T;rw[vx P]at k;refine k _ λi aB U l w a1=>?_;clear k;subst U;have m:=hl Q;have o:=w.length;refine NS (by rw[eV];exact FV m o) l λx=>?_;have y:nL (af.heap.push {cls:=.type "reversed",data:=.fields #[.ref i,dV ((aB.toArray.size:O)-1)]}) af.heap.objs.size i ((aB.length:O)-1):=dt _ G;refine Gl y (R u _ _ [af.heap.objs.size] _ (ai.then (ay.push u af {cls:=.type "reversed",data:=.fields #[.ref i,dV ((aB.toArray.size:O)-1)]} x)) (v.push _ x) (rO ai v) (eL.lw (t.hand G) _ i aB (FV m o) ((by obtain⟨A1,V,A5⟩:=l;exact ee (du V)):i≠af.heap.objs.size)) (λA5 W=>W aB.length (c_ _) y (vX l _) a1 ?_) (by rw[oE];exact FT m o));rw[v7];exact Gi _ w.reverse
end
end
section
section
variable{a:aq}{n:I}{c:ah->cb}{e:ce}{b:bL}{f:dy}{g:a6}
def ZE{b:N}{c:E L}{g:E L}{j:E dp}{k:N}{f:E L->E dp->N->Prop}(a:eb b .zip c=A (g,j,k))
 (m:∀h i,c=[.ab h,.ab i]->bV h.length=J->f (gz h i) [A (b.length,.afT)] (b++[.afT]))
 (n:∀l h i,c=[.ref l,.ab i]->b[l]?=A (.list h)->bV h.length=J->f (gz h i) [A (l,.list h),A (b.length,.afT)] (b++[.afT])):f g j k:=by
 obtain⟨o,r,rfl,a⟩:=sk a;refine bh a _ λi p a=>?_;obtain rfl:=vx p;cases o with
 |ab h=>
  obtain⟨e,a⟩:=cf a;rw[eB]at e;exact m_ a (m _ _ G e.1)
 |ref l=>
  refine bh a _ λh q a=>?_;obtain⟨e,a⟩:=cf a;rw[eB]at e;exact m_ a (n _ _ _ G (l0 q) e.1)
 |_=>exact no a
def abR(a b:E L):(gz a b).length<=a.length:=by unfold gz;rw[bO,I9];exact(JE _ _)
def k8(a:aq)(b:I):a.get? (a.objs.size+b)=M:=by
 cases c:a.get? (a.objs.size+b)with
 |none=>rfl
 |some e=>exact bC (du c) (hv.mpr (d8 _ _))
def rS{a:aq}{b:Q}{e:cn}(f:I)(c:a.get? b=A e):b≠a.objs.size+f:=λg=>by rw[g,k8]at c;cases c
def abX{e:E Q}{b i:I}(c f:I)(g:c≠f)(h:b+c∉e):b+c∉e++[b+f]:=λa=>by
 rcases cE.mp a with a|a
 .exact h a
 .exact g (qz (b2.mp a))
def abW{e:E Q}{i:N}{b:k}(f:al a e i b):(∀h∈[b.heap.objs.size+4,b.heap.objs.size,b.heap.objs.size+1],b.heap.get? h=M/\h∉e++[b.heap.objs.size+3]/\a.get? h=M)/\b.heap.objs.size+2∉e++[b.heap.objs.size+3]:=by
 have gN:∀c,c≠3->b.heap.get? (b.heap.objs.size+c)=M/\(b.heap.objs.size+c)∉e++[b.heap.objs.size+3]/\a.get? (b.heap.objs.size+c)=M:=λc j=>⟨k8 _ c,abX (i:=0) c 3 j (f.nc (k8 _ c)),f.lq (k8 _ c)⟩;refine⟨λh g=>?_,(gN 2 (g0 G)).2.1⟩;simp only[em,As,or_false]at g;rcases g with rfl|rfl|rfl
 .exact gN 4 (g0 G)
 .exact gN 0 (g0 G)
 .exact gN 1 (g0 G)
def zn{c:E Q}{e:aq}{b:Q}{f:ch U}(g:iI e b f)(h:b∉c):b∉c++[e.objs.size+3]:=λa=>by
 obtain⟨j,i,k⟩:=g;rcases cE.mp a with a|a
 .exact h a
 .exact rS 3 i (b2.mp a)
def Vz(wp:c1 a f){g:E X}{S:E a6}{A1 A5:dj}{B0:E a6}{B2}{B3:dj}(T:hD a n c e b g S)(B8:b.names.lookup ("zip":am)=A .globalImplicit)(Ch:bw.cB ("zip":am)=M):
 k1 a n c e b .zip g (.Call (.Name "zip" A1) S [] A5) (.Tuple B0 B2 B3):=by
 refine⟨λTE TE=>rfl,λ{Cl Pi Pv P3 C9 St Da SB D5 SC SL ST} U Fr V Y FB GM=>?_⟩;have j:=Y.hand G;have k:∀(m o x:I),o≠x->m+o≠m+x:=λm o x y p=>y (qz p);refine ZE (f:=nI a Cl C9 D5 _ _) GM (λg q W f1 Id IO z=>?_) λo g q W KB f1 Id IO z=>?_
 all_goals
  subst W;refine vn wp (o:=.type "zip") U V B8 Ch (by decide+kernel) (by decide+kernel) (by decide+kernel) (by intro m y;cases y) T.aeD (T.bf U Fr V Y FB _ _ λB af SZ ai r KF=>?_);obtain⟨u,Z⟩:=abW r;have u:=pN ai u;have ad:(B++[af.heap.objs.size+3])[Da.length]?=A (af.heap.objs.size+3):=by rw[<-r.len];simp
  have l:(gz g q).length<=2000000:=bG (abR g q) (bG (e_ (hl f1)) (ap G));refine p5 KF _ λTm ao dl=>dl _ λKK C ge=>?_;clear dl;subst KK;refine ge _ λTy go KM s gt kw=>?_;clear ge;subst KM;obtain⟨ld,v,le⟩:=id s
 .refine as λTE h=>C _ λTD aB KT D lo a1=>?_;clear C;subst KT;refine h (NV D s λF l H K L N i=>BI l ?_);obtain⟨O,P⟩:=r.qe af.toks .afT (k8 _ 3) i ⟨_,_,K⟩;have h:b4 B af.heap F:=λQ R TE p TE TE=>i Q R p;obtain⟨mp,w,Ns⟩:=id D;exact z _ _ _ [af.heap.objs.size+4,af.heap.objs.size,af.heap.objs.size+1] _ (ai.then P) O u (eL.zip j (.head _) (jz.tuple j g aB (rS 0 w)) (jz.tuple j q go (rS 1 v)) (k _ 0 4 (g0 G)) (k _ 1 4 (g0 G)) (k _ 0 1 (g0 G)))
   ⟨0,_,⟨ad,l,H,Z,λTE t=>t L ⟨mp,i _ _ w,Ns⟩ (zn D a1) (lo.bm (bW.gA (k8 _ 3)) h),λTE t=>t N ⟨ld,i _ _ v,le⟩ (zn s kw) (gt.bm (bW.gA (k8 _ 3)) h)⟩,G⟩ ‹_›
 .refine as λTE h=>r.at KB C _ λm On Os of=>?_;subst On;refine of _ λaB st lo=>?_;clear of;refine h (NU st.isList s λF l H K L N i=>BI l (as λTE h=>?_));obtain⟨O,P⟩:=r.qe af.toks .afT (k8 _ 3) i ⟨_,_,K⟩;obtain⟨mp,w⟩:=id st;exact h (z _ _ _ [af.heap.objs.size+4,af.heap.objs.size,af.heap.objs.size+1] _ (ai.then P) O u (eL.zip j (.tail _ (.head _)) (jz.list (g:=o) j g (.head _) (rS 0 w)) (jz.tuple j q go (rS 1 v)) (k _ 0 4 (g0 G)) (k _ 1 4 (g0 G)) (k _ 0 1 (g0 G)))
   ⟨0,_,⟨ad,l,H,Z,⟨L,(bW.gA (e:=af.heap) (k8 _ 3)).1 _ _ Os⟩,λTE t=>t N ⟨ld,i _ _ v,le⟩ (zn s kw) (gt.bm (bW.gA (k8 _ 3)) (λQ R TE p TE TE=>i Q R p:b4 B af.heap F))⟩,G⟩ ‹_›)
end
end
section
section
variable{g:aq}{a n:E Q}{m:N}{TI f:k}{o:bF}{b:b9}{p:E (j am)}{h:aK}{i l:E Q}
structure rb(a:bL)(b:b9)(l i:E Q)(is:E I):Prop where
 sub:∀t∈l,t∈i
 afk:b.locals∈l
 cell:∀(r:I)(q:am)(s:Q),r∈is->a.i[r]?=A (A q)->b.kindOf q≠A .local->b.cells.lookup q=A s->s∈l
def GL(p:cV b q)(t:al g a m TI)(u:bK g a TI.heap b q.i h i)(W:rb q b l i is)(v:r∈is)(j:q.i[r]?=A (A s))(w:b.kindOf s≠A .free)(bB:aF a TI.heap x y)
 (e:e0->k->Prop) (n:U->k->Prop) (z:∀f,ay l a a TI f->b4 a TI.heap f.heap->al g a m f->bK g a f.heap b q.i (h.set r (A x)) i->e () f):av aI o (oX b s y) e n TI:=
 GK p t u j w W.sub W.afk (λB C D=>W.cell r s B v j C D) bB e n λf c E H F I=>z f c E H F
noncomputable def hL:dw->E I
 |.aa a=>[a]
 |.afQ b=>b
structure jw(e:bL)(p:dw)(c:a6):Prop where
 bf:∀{g:aq}{o:bF}{b:b9}{h TE:aK}{i l a:E Q}{m:N}{TI:k}{q:L}{r:U},(p.plain=d->o.handled=M)->cV b e->bK g a TI.heap b e.i h i->rb e b l i (hL p)->al g a m TI->
  k6 m h p q=A TE->aF a TI.heap q r->∀(s:e0->k->Prop)(t:U->k->Prop),
  (∀f,ay l a a TI f->b4 a TI.heap f.heap->al g a m f->bK g a f.heap b e.i TE i->s () f)->av aI o (j6 c b r) s t TI
noncomputable def bound(a:bL)(c:I)(b:am):ah:=decide (a.i[c]?=A (A b))&&decide (a.names.lookup b≠A .free)
def bound.at(a:bound B T D=J):B.i[T]?=A (A D)/\B.names.lookup D≠A .free:=by
 unfold bound at a;rw[eB,j8,j8]at a;exact a
def uK(c:bound r q s=J):jw r (.aa q) (.Name s y):=by
 refine⟨?_⟩;intro g o b h k i l a m TI e z B f n W p j t u v w;have x:k=h.set q (A e):=by
  cases e<;>(simp only[k6,it]at j;exact(aG j).symm)
 subst x;exact Lb (GL f p n W (by simp[hL]) (bound.at c).1 (by rw[f.kindOf];exact(bound.at c).2) t u v w)
noncomputable def iB:E (am×dj)->E a6
 |[]=>[]
 |a::b=>.Name a.1 a.2::iB b
def O7:∀r:E (am×dj),AW (iB r) b=r.map λq=>(d,j6 (.Name q.1 q.2) b):=by
 intro a
 induction a with
 |nil=>
  exact G
 |cons q r c=>
  show(d,j6 (.Name q.1 q.2) b)::AW (iB r) b=_;rw[c];rfl
noncomputable def iu(a:bL):E I->E (am×dj)->ah
 |[],[]=>J
 |b::is,e::c=>bound a b e.1&&iu a is c
 |_,_=>d
def Uj(B:cV b u)(W:rb u b l i is):∀{s:E I}{x:E (am×dj)}{h:aK}{TI:k}{q:E L}{v:E U},iu u s x=J->(∀y∈s,y∈is)->bK g a TI.heap b u.i h i->al g a m TI->
 s.length=q.length->aC a TI.heap q v->∀(t:e0->k->Prop)(w:U->k->Prop),
 (∀f,ay l a a TI f->b4 a TI.heap f.heap->al g a m f->bK g a f.heap b u.i ((s.zip q).foldl (λh r=>h.set r.1 (A r.2)) h) i->t () f)->
 av aI o (Kt (x.map λr=>j6 (.Name r.1 r.2) b) v) t w TI:=by
 intro Q
 induction Q with
 |nil=>
  intro R;cases R with
  |nil=>
   intro h TI q v of of j n c C t w p;cases q with
   |cons of of=>cases c
   |nil=>exact Kv (p TI (ay.refl _ _ _) (λof of of z of of=>z) n j)
  |cons of of=>
   intro of of of of e of of of of of of of of;cases e
 |cons y s S=>
  intro T;cases T with
  |nil=>
   intro of of of of e of of of of of of of of;cases e
  |cons r x=>
   intro h TI q v e D j n c C t w p;cases q with
   |nil=>cases c
   |cons le q=>
    replace e:=e7.mp e;refine as λof V=>aC.gc.mp C _ λlo mp X bB Y=>?_;subst X;exact V (Ku (Lb (GL B n j W (D y (.head _)) (bound.at e.1).1 (by rw[B.kindOf];exact(bound.at e.1).2) bB _ _ λaf ai F Z ad=>S e.2 (λdl ge=>D dl (.tail _ ge)) ad Z (by simpa using c) (Y.bm (bW.refl _) F) t w λbe go gt kw ld=>p be (ai.eJ go) (λH K N z O P=>gt H K N (F H K N z O P) O P) kw ld)))
end
end
section
section
variable{g:aq}{b r:E Q}{m:N}{a i:k}{h:bF}{o:b9}{s:E (j am)}{f:aK}{p q:E Q}{l:U->k->Prop}
def OX(j:x≠v):∀(n t:I)(a:k)(w:E U->k->Prop),a.heap.IsListIter v x t->a.heap.IsList x u->t+n<=u.size->
 (∀y,y.IsListIter v x (t+n)->ek v a.heap y->w ((u.toList.drop t).take n) {a with heap:=y})->av aI h (draw (.ref v) n) w l a:=by
 intro o
 induction o with
 |zero=>
  intro t a w b C C c;exact aJ (by simpa using c a.heap b (zY ..))
 |succ n p=>
  intro t a w b f g c;have i:t<u.size:=FW g;refine e (Lu b f (x:=u[t]) (by simp[i]) λB q m=>e (fc (p (t+1) _ _ q (f.extBut m.extBut j) (yF g) λr s z=>aJ ?_)));have:=c r (by rw[show t+(n+1)=t+1+n by exact uZ];exact s) (m.trans z);rw[((by simp[E.drop_eq_getElem_cons,i]):u.toList.drop t=u[t]::u.toList.drop (t+1)),E.take_succ_cons]at this;exact this
def aaJ(m:h.handled=M)(b:a.heap.IsList u t)
 (n:∀v,lz a.heap.objs.size a.heap v->w t.toList {a with heap:=v}):av aI h (K4 (.ref u) t.size M) w l a:=by
 have f:u≠a.heap.objs.size:=by obtain⟨c,o,z⟩:=b;exact ee (du o)
 refine e ?_
 .unfold notIterableAtAll;refine e (nF b.typeIs slot_list_iter.lookup (aJ ?_));simp only[j0,g7];refine e (fc (ti b (e (fc (OX f t.size 0 _ _ ⟨_,dt _ G,G,G⟩ (Ik b _) FX λp q i=>?_)))));have r:E.take t.size (Aa 0 t.toList)=t.toList:=by
   rw[Ad];exact Jm (by simp)
  refine r.symm▸?_;rw[bZ (by simp)];refine e (fc (Ls m q ((Ik b _).extBut i.extBut f:p.IsList u t) (by simp) λs x=>?_));simp only[j.isSome_none,j0,g7];refine aJ (n s λk c g y=>x k c g (i.extBut k c g (bU _ y)))
def G9(y:h.handled=M)(s:al g b m a)(j:k6 m f (.afQ is) T=A z)(F:aF b a.heap T ge)(w:E U->k->Prop)
 (H:∀i t u,ay [] b b a i->al g b m i->is.length=t.length->aC b i.heap t u->z=(is.zip t).foldl (λf v=>f.set v.1 (A v.2)) f->w u i):av aI h (K4 ge is.length M) w l a:=by
 have B:∀{e:aq},lz a.heap.objs.size a.heap e->∀q r,a.heap.get? q=A r->e.get? q=A r:=λn q r C=>n q r (ee (du C)) C;have aj:∀(t:E L)(u:E U)(e:aq),lz a.heap.objs.size a.heap e->is.length=t.length->aC b a.heap t u->z=(is.zip t).foldl (λf v=>f.set v.1 (A v.2)) f->w u {a with heap:=e}:=λt u e n I K N=>by
  have c:=ay.bm b a a.toks (B n);exact H _ t u c (s.bm a.toks (B n)) I (s.iH c K) N
 refine bh j _ λt O j=>?_;obtain⟨p,j⟩:=cf j;have p:=dE p;have j:=(aG j).symm;have D:∀{aB:E U},aC b a.heap t aB->is.length=aB.toArray.size:=λo=>by rw[eV,o.length];exact p
 exact un s O F (λR aB x P o a1=>by rw[x,D o];exact wpAny_unpackItems_tuple y P λe n=>aj t aB e n p o j) λS aB x Q o=>by rw[x,D o];exact aaJ y Q.isList λe n=>aj t aB e n p o j
def CN:∀{t:E I}{u:E (am×dj)},iu v t u=J->t.length=u.length:=by
 intro b
 induction b with
 |nil=>
  intro c;cases c with
  |nil=>
   intro i;exact G
  |cons i i=>
   intro a;cases a
 |cons g t e=>
  intro f;cases f with
  |nil=>
   intro a;cases a
  |cons h u=>
   intro a;unfold iu at a;rw[eB]at a;exact gY.symm▸gY.symm▸(e a.2).symm▸G
def yl(j:iu w is t=J):jw w (.afQ is) (.Tuple (iB t) T ge):=by
 refine⟨?_⟩;intro g h o f U p q b m a V X x y z W r c B C l D;rw[arm_assign_Tuple];refine e (kT ?_);unfold unpack;rw[O7];have F:(t.map λi=>(d,j6 (.Name i.1 i.2) o)).findIdx? (·.1)=M:=by
  rw[E.findIdx?_eq_none_iff];intro Y H;obtain⟨i,go,rfl⟩:=fx.mp H;rfl
 rw[F,((by rw[mq];rfl):((t.map λi=>(d,j6 (.Name i.1 i.2) o)).map (·.2))=t.map λi=>j6 (.Name i.1 i.2) o),bO,<-CN j];refine e (fc (G9 (x G) r c B _ λaf Z ad ai I K L N=>?_));subst N;exact Uj y W j (λdl O=>O) (z.quiet r ai) I K L C l λbe P Q R S=>D be (ai.gB.eJ P) (λk n s c u v=>Q k n s (r.ab ai k n s c u v) u v) R S
end
end
theorem El{b:b9}(f:b.scope.kind=.function):∀{h:E (am×lD)}{a:am},h.lookup a=A .free->b.kindOf a=A .cell->
 (h.map λ(n,g)=>if(g==qy&&b.scope.kind==.function&&b.kindOf n==A .cell)then(n,oJ)else(n,g)).lookup a=A .cell
 |[],_,c,_=>by simp at c
 |(n,g)::j,a,c,i=>by
  show jh a ((if(g==qy&&b.scope.kind==.function&&b.kindOf n==A .cell)=J then(n,oJ)else(n,g))::_)=_;cases e:a==n with
  |true=>
   simp only[fX,e]at c;obtain rfl:=aG c;have k:a=n:=by simpa using e
   subst k;refine f.symm▸i.symm▸?_;simp
  |false=>
   simp only[fX,e]at c
   split<;>(simp only[fX,e];exact(@El b f j a) c i)
noncomputable def rp(c:b9)(a:am×lD)(b:E (am×Q)):ef (zV (E (am×Q))):=
 if(a.2==.free)=J then(do let e<-cellOf c a.1;pure (nk ((a.1,e)::b)))else pure (nk b)
def Oi(scope:g5)(b:b9):closureFor scope b=forIn scope.names [] (rp b):=by
 have:∀a:ef (E (am×Q)),(a>>=λc=>pure c)=a:=λa=>bind_pure a;refine(this (forIn scope.names [] (rp b)))▸?_;rfl
def Oj:∀(l:E (am×lD))(h:E (am×Q)),(∀g∈l,g.2=.free->∃b,m.cells.lookup g.1=A b)->(∀n b,h.lookup n=A b->m.cells.lookup n=A b)->
 ∃i,(forIn l h (rp m):ef (E (am×Q)))=pure i/\
  (∀n b,i.lookup n=A b->m.cells.lookup n=A b)/\(∀n,((n,qy)∈l\/(h.lookup n).isSome=J)->(i.lookup n).isSome=J):=by
 intro w
 induction w with
 |nil=>
  intro h B f;exact⟨h,G,f,λn c=>by rcases c with c|c;cases c;exact c⟩
 |cons x l t=>
  obtain⟨g,u⟩:=x;intro h j f;rw[Ae];by_cases k:u=.free
  .subst k;obtain⟨b,v⟩:=j (g,.free) gZ G;obtain⟨i,o,p,q⟩:=t ((g,b)::h) (λr s=>j r (lC _ s)) (λn y a=>by
    rw[fX]at a;cases e:n==g with
    |true=>rw[e]at a;obtain rfl:=aG a;rw[show n=g by simpa using e];exact v
    |false=>rw[e]at a;exact f n y a)
   refine⟨i,?_,p,λn a=>?_⟩
   .have z:cellOf m g=pure b:=by unfold cellOf;rw[v]
    unfold rp;simp only[ny,wx,z];exact o
   .refine q n ?_;rw[fX];cases e:n==g with
    |true=>exact .inr rfl
    |false=>
     rcases a with a|a
     .rcases em.mp a with a|a
      .cases a;simp at e
      .exact .inl a
     .exact .inr a
  .obtain⟨i,o,p,q⟩:=t h (λr s=>j r (lC _ s)) f;refine⟨i,?_,p,λn a=>q n ?_⟩
   .have:(u==qy)=d:=by simpa using k
    unfold rp;simp only[this,j0,g7];exact o
   .rcases a with a|a
    .rcases em.mp a with a|a
     .cases a;exact bC G k
     .exact .inl a
    .exact .inr a
noncomputable def ix:E I->aK->aK
 |[],a=>a
 |b::c,a=>ix c (a.set b M)
def tU:∀(b:E I)(a:aK),(ix b a).length=a.length:=by
 intro c
 induction c with
 |nil=>
  intro g;exact G
 |cons f b e=>
  intro a;rw[ix,e,fJ]
def C5:∀(g:E I)(b:aK)(a:I),a<b.length->(ix g b)[a]?=if a∈g then A M else b[a]?:=by
 intro h
 induction h with
 |nil=>
  intro b a k;simp[ix]
 |cons i g j=>
  intro b a f;rw[ix,j _ a (by rw[fJ];exact f)];by_cases c:a∈g
  .simp[c]
  .by_cases e:a=i
   .subst e;simp[c,f]
   .rw[oD (dA e)];simp[c,e]
def R4:∀(g:E I)(h:E L)(a:aK)(b:I),g.length=h.length->b∈g->
 (g.zip h).foldl (λa i=>a.set i.1 (A i.2)) (a.set b M)=(g.zip h).foldl (λa i=>a.set i.1 (A i.2)) a:=by
 intro j
 induction j with
 |nil=>
  intro o o b o c;cases c
 |cons k g l=>
  intro m;cases m with
  |nil=>
   intro o o e o;cases e
  |cons n h=>
   intro a b e c;rw[jk,nm,nm];by_cases f:k=b
   .subst f;rw[Jk]
   .exact(Jj _ _ (dA f)).symm▸(l h _ b (by simpa using e) ((em.mp c).resolve_left (dA f)))
def R0:∀(l b:E I)(g:E L)(a:aK),b.length=g.length->(∀i∈l,i∈b)->
 (b.zip g).foldl (λa h=>a.set h.1 (A h.2)) (ix l a)=(b.zip g).foldl (λa h=>a.set h.1 (A h.2)) a:=by
 intro f
 induction f with
 |nil=>
  intro n n n n n;exact G
 |cons i l j=>
  intro b g a c e;rw[ix,j b g _ c (λk m=>e k (lC _ m)),R4 b g a i c (e i gZ)]
def xz(a:nY b g h=A l):g.length=h.length/\l=(g.zip h).foldl (λb i=>b.set i.1 (A i.2)) b:=by
 obtain⟨c,a⟩:=cf a;exact⟨dE c,(aG a).symm⟩
def Nj(c:b.length=g.length):nY a b g=A ((b.zip g).foldl (λa h=>a.set h.1 (A h.2)) a):=by
 unfold nY;refine(cg c).symm▸?_;rfl
def tL(b:it g (.afQ h) i=A l):∃a,i=.ab a/\nY g h a=A l:=by
 exact bh b _ λa c b=>⟨a,vx c,b⟩
def Nk(a:it g b h=A i):it (ix (hL b) g) b h=A i:=by
 cases b with
 |aa k=>exact(bj A (Jk _)).trans a
 |afQ c=>
  obtain⟨f,rfl,a⟩:=tL a;obtain⟨e,rfl⟩:=xz a;exact(Nj e).trans (bj A (R0 c c f g e (λl j=>j)))
def R1:∀(g:E I)(h:E L)(b:aK)(a:I),a∉g->((g.zip h).foldl (λb i=>b.set i.1 (A i.2)) b)[a]?=b[a]?:=by
 intro f
 induction f with
 |nil=>
  intro n n n n;exact G
 |cons j g k=>
  intro l;cases l with
  |nil=>
   intro n n n;exact G
  |cons m h=>
   intro b a e;exact jk.symm▸nm.symm▸(k h _ a (λc=>e (lC _ c))).symm▸(oD (λ(c:j=a)=>e (by rw[c];exact gZ))).symm▸G
def Nn(a:it b h l=A i)(c:g∉hL h):i[g]?=b[g]?:=by
 cases h with
 |aa e=>
  rw[<-aG (show A (b.set e (A l))=A i from a),oD λf=>c (by rw[<-f];exact b2.mpr G)]
 |afQ j=>
  obtain⟨k,rfl,a⟩:=tL a;obtain⟨m,rfl⟩:=xz a;exact R1 j k b g c
def CE(a:it g b h=A i):k6 l g b h=A i:=by
 cases b with
 |aa c=>exact a
 |afQ e=>obtain⟨f,rfl,a⟩:=tL a;exact a
section
section
variable{a:bF}{c:iM->k->Prop}{b:k}
def Ca(a:bF)(c:iM->k->Prop)(p target:a6)(q:E a6)(r s:U)(g:b9)(i:I->k->Prop)(n:I)(b:U->k->Prop)(e:j U)(l:k):Prop:=
 (e=M/\c (.ok .next) l)\/∃h,e=A h/\
  av aI a (oU target r h) (λy t=>av aI a (j6 target g h) (λy u=>
   av aI a (forIn q J λm e=>if e=J then do let ok<-wB m g (eC m g);pure (nk ok)else pure (nk e)) (λok o=>
    (ok=J/\av aI a (eC p g) (λv w=>av aI a (eu (.builtin "list.append") [s,v]) (λy x=>∃f,f<n/\i f x) b w) b o)\/
    (ok=d/\∃f,f<n/\i f o)) b u) b t) b l
def Ou(i:I->k->Prop)
 (s:∀(n:I)(b:k),i n b->∀(o:U->k->Prop),av aI a (hy l) (Ca a c p target q l r m i n o) o b)
 (n:I) (t:i n b):hx aI a (.compLoop (.ListComp p [⟨target,u,q,0⟩] scope v) 0 l r m) c b:=by
 refine codeAny_loop G i (λn b w=>?_) n t;show av _ a ((compTurn (.ListComp p [⟨target,u,q,0⟩] scope v) 0 l r m).onRaise (λj=>do qN j m;theTreesLotGoes j)) _ _ b;refine wpAny_noted ?_;rw[compTurn_list];refine e (kT (e (fd (s n b w _) (λC D g=>?_) λO O f=>f)));rcases g with⟨rfl,g⟩|⟨E,rfl,g⟩
 .exact aJ g
 .refine e (fd g (λO F x=>e (fd x (λO H y=>e (fd y (λok K h=>?_) λO O f=>f)) λO O f=>f)) λO O f=>f);rcases h with⟨rfl,h⟩|⟨rfl,h⟩
  .exact e (e (fd h (λj L z=>e (fd z (λO N B=>aJ (aJ ⟨G,B⟩)) λO O f=>f)) λO O f=>f))
  .exact aJ ⟨G,h⟩
end
section
variable{a:aq}{n:I}{e:ah->cb}{g:ce}
def nN(a:aq)(n:I)(e:ah->cb)(g:ce)(h:bL)(b:X)(c:E a6):Prop:=
 (b=.lit (.bool J)/\c=[])\/∃f,c=[f]/\ip a n e g h b f
def nN.bf(f:nN a n e g ge b le)(m:cV B ge)(o:bK a D TI.heap B ge.i mp B3)(i:al a D wp TI)
 (p:cC a A1 n A5 B) (c:eO A1 e g b mp wp=A (B0,B2)) (h:ah->k->Prop) (j:U->k->Prop) (l:∀gt T,ay [] D gt TI T->al a gt B2 T->h B0 T):
 av aI A5 (forIn le J λb kw=>if kw=J then do let ok<-wB b B (eC b B);pure (nk ok)else pure (nk kw)) h j TI:=by
 rcases f with⟨rfl,rfl⟩|⟨s,rfl,f⟩
 .refine as λu q=>?_;obtain⟨t,c,r⟩:=mc c;obtain⟨rfl,rfl⟩:=gv c;exact q (wpAny_tests_nil (aG r▸l D TI (ay.refl _ _ _) i))
 .exact wpAny_tests_one (f.bf m o i p c h j l)
def nR.bare(c:nR B D T ge gt kw):nR B D T ge gt M:=by
 rcases c with⟨a,j⟩|⟨a,e,f,g,h,j⟩
 .exact .inl a (λi b=>by exact nomatch b)
 .exact .inr a e f g h (λi b=>by exact nomatch b)
def bK.Hz(b:bK a ge gt kw le B mp)(l:it D T wp=A B)(g:B.length=D.length):bK a ge gt kw le (ix (hL T) D) mp:=by
 refine as λr m=>b.ns _ λn o h=>m (⟨λr p=>p n o λc i q j e=>?_,b.t,b.own,b.cq,b.cells,b.inj,b.aeJ,by rw[tU,<-g];exact b.len⟩);have k:c<D.length:=by
  have:=(d6.mp e).1;rwa[tU]at this
 rw[C5 _ _ _ k]at e;by_cases f:c∈hL T
 .rw[cd f]at e;obtain rfl:=aG e;have:B[c]?=A B[c]:=e8 (by rw[g];exact k);exact(h c i _ j this).bare
 .rw[bZ f]at e;exact h c i q j (by rw[Nn l f];exact e)
def R2:∀(i:E I)(h:E L)(b:aK),((i.zip h).foldl (λb l=>b.set l.1 (A l.2)) b).length=b.length:=by
 intro a
 induction a with
 |nil=>
  intro j j;exact G
 |cons f i c=>
  intro e;cases e with
  |nil=>
   intro j;exact G
  |cons g h=>
   intro b;rw[jk,nm,c h,fJ]
def Nm(a:it b i l=A h):h.length=b.length:=by
 cases i with
 |aa c=>rw[<-aG (show A (b.set c (A l))=A h from a),fJ]
 |afQ e=>
  obtain⟨f,rfl,a⟩:=tL a;obtain⟨g,rfl⟩:=xz a;exact R2 e f b
def ay.sub(b:ay B D T ge gt)(i:∀kw∈B,kw∈le):ay le D T ge gt:=
 ⟨b.ext,λc e f j g h=>b.z c e f j g λa=>h (i c a),λc e f g h=>b.data c e f g λa=>h (i c a),b.cm,b.gens,b.drawn,b.os⟩
def b4.trans(g:b4 D T ge)(h:b4 gt ge kw)(i:∀b B,b∈gt->b∉D->T.get? b=A B->B.cls≠.type "tuple"):b4 D T kw:=λb B c e a f=>by
 refine h b B (λj=>i b B j c e a) (g b B c e a f) a f
def al.zw{b:E Q}{t:N}{i:k}(e:al a b t i){j:Q}{q:E U}{f:E L}(u:i.heap.PlainList j q.toArray)(x:j∉b)(y:a.get? j=M)(z:aC b i.heap f q):
 al a (b++[j]) (t++[.list f]) i/\bW i.heap b (b++[j]):=by
 have r:bW i.heap b (b++[j]):=bW.zw λv w=>by
  obtain⟨n,h⟩:=u;rw[h]at w;obtain rfl:=aG w;simp
 refine⟨⟨e.z,e.data,by simp[e.len],?_,?_,?_⟩,r⟩
 .rw[sL];refine⟨e.aeA,by simp,λl a F o=>?_⟩;simp only[b2]at o;subst o;exactλh=>x (h▸a)
 .intro l o;rcases cE.mp o with c|c
  .exact e.fresh l c
  .rw[b2.mp c];exact y
 .intro p l B g m;rcases sS p b.length with c|c
  .rw[eK c]at g;rw[eK (by rw[<-e.len];exact c)]at m;exact(e.obj p l B g m).bm r (λl v H h H H=>h) G
  .rw[qr c]at g;rw[qr (by rw[<-e.len];exact c),<-e.len]at m;have C:p-b.length=0:=by
    rcases Jt (p-b.length)with s|s
    .exact s
    .rw[qs (by simp;exact FU s)]at g;exact nomatch g
   rw[C]at g m;simp only[E.getElem?_cons_zero,wd]at g m;subst g;subst m;exactλH D=>D q u (z.bm r λl v H h H H=>h)
def tl(a:aq)(n:I)(e:ah->cb)(g:ce)(b:bL)(r:X)(s l:a6)(m:dw)(t:X)(u:E a6)(o:bF)(h:b9)(i:E Q)(v:U)(F:E Q)(w:E dp)(N:E L->E Q->aq->Prop)(p:E Q)(q:k)(c:Q)(x:Prop):Prop:=b7 a n e g b r s->jw b m l->nN a n e g b t u->cC a J n o h->cV h b->rb b h [h.locals] i (hL m)->eL a o v F w l N->(∀f∈F,(∃j,q.heap.get? f=A j)/\f∉p/\a.get? f=M)->((∃j,q.heap.get? c=A j)/\c∉p/\a.get? c=M)->c∉F->c∉i->(∀f∈F,f∉i)->x
def nH(a:aq)(e:ah->cb)(g:ce)(s:bL)(t:X)(m:dw)(u:X)(o:b9)(n:aK)(v F:E Q)(w:E dp)(N:E L->E Q->aq->Prop)(x:E Q)(y:k)(p:Q)(z:E L)(B:Internal.N)(h:E L)(q:Internal.N)(c:E Q)(i:E L)(r:E U)(f:E L)(b:k)(C:Prop):Prop:=ay (o.locals::p::F) x c y b->al a c q b->bK a c b.heap o s.i (ix (hL m) n) v->N h c b.heap->b.heap.PlainList p (oI r)->aC c b.heap i r->(e2 w m n (λj l=>eO J e g u j l) (λj l=>aR J e g j t l) h q=A (f,B))->z=i++f->i.length+h.length<=2000000->C
inductive w0(a:aq)(e:ah->cb)(g:ce)(b:bL)(c:X)(h:dw)(i:X)(j:b9)(l:aK)(m F:E Q)(n:E dp)(N:E L->E Q->aq->Prop)(o:E Q)(p:k)(q:Q)(r:E L)(s:Internal.N):I->k->Prop
 |mk {t v w x y f u} (z:aA (nH a e g b c h i j l m F n N o p q r s t v w x y f u)):w0 a e g b c h i j l m F n N o p q r s t.length u
section
variable{r:bL}{q:X}{C y:a6}{m:dw}{t:X}{D:E a6}{u:bF}{h:b9}{H:aK}{s:E Q}{v:U}{F:E Q}{o:E dp}{N:E L->E Q->aq->Prop}{j:E Q}{l:k}{b:Q}{z:E L}{I B:Internal.N}{w:E L}{i:E Q}{O:E L}{x:E U}{f:E L}{p:k}{K:iM->k->Prop}
def kv(c:ay go j i l p)(e:∃ge,l.heap.get? T=A ge)(f:T∉j):T∉i:=λa=>by
 obtain⟨e5,g,h⟩:=c.ext;obtain⟨ge,b⟩:=e;rw[g]at a;rcases cE.mp a with a|a
 .exact f a
 .rw[h T a]at b;exact nomatch b
def N8(a:d_ I o=J):d_ (I++[T]) o=J:=by
 unfold d_ at a⊢;rw[di]at a⊢;intro b c;cases b with
 |none=>rfl
 |some e=>
  have:=dE (a _ c);exact cg ((eK (d6.mp this).1).trans this)
def eL.HD(b:eL a u v F o y N)(q:N w i gt):∀T∈F,∀ge,gt.get? T=A ge->ge.cls≠.type "frame":=λT c ge e=>by
 obtain⟨g,f,j,h⟩:=b.cm q T c;rwa[<-aG (f.symm.trans e)]
def Ef{a:aq}{x:ch U}{b:Q}{e:cn}(m:a.PlainList b x)(c:a.get? b=A e):e.cls≠.type "frame":=by
 obtain⟨n,f⟩:=m;refine(aG (f.symm.trans c))▸?_;simp
def nH.bm(L:aA (tl a n e g r q C y m t D u h s v F o N j l b))(c:ay (h.locals::b::F) j i l p)(bq:N w i p.heap)(K:p.heap.PlainList b (oI x))(O:b4 i p.heap ge.heap)(z:ay kw i gt p ge)(E:∀T∈kw,T=h.locals)(Q:h.locals∉F/\b≠h.locals):
 ay (h.locals::b::F) j gt l ge/\N w gt ge.heap/\ge.heap.PlainList b (oI x):=L _ λP P P P P P R I S P P P=>⟨c.eJ (z.sub λT f=>by rw[E T f];exact .head _),R.bu bq z.sv O λT f B k=>z.bu T B k (R.HD bq T f B k) (kv c (I T f).1 (I T f).2.1) λH=>Q.1 (E T H▸f),
 K.at λB k=>z.bu b B k (Ef K k) (kv c S.1 S.2.1) λH=>Q.2 (E b H)⟩
def Ow(gt:aA (tl a n e g r q C y m t D u h s v F o N j l b))(w:aA (nH a e g r q m t h H s F o N j l b z B [] I i O x f p))
 (kw:∀i ge T,ay (h.locals::b::F) j i l ge->im F (i++[b]) ge T->al a (i++[b]) (B++[.list z]) T->(∃le,T.heap.Ns h.locals le)->b∉i->K (.ok .next) T) (Y:U->k->Prop):
 av aI u (hy v) (λmp l=>mp=M/\K (.ok .next) l) Y p:=by
 refine gt _ λIO IO IO IO IO IO Z Q R ld lo of=>?_;refine w _ λc st S bq wp A1 V ad GM=>?_;clear w;have dl:=kv c R.1 R.2.1;have W:=S.own;obtain⟨A5,V⟩:=cf V;obtain⟨rfl,rfl⟩:=gv V;rw[gX]at ad;subst ad;obtain⟨B0,B2⟩:=st.zw wp dl R.2.2 A1;have go:∀{E},E∉i->E≠b->E∉i++[b]:=λB3 B8 w=>(cE.mp w).elim B3 λw=>B8 (b2.mp w);refine Z.done (Z.bu bq B2 (λId X IO L IO IO=>L) λE IO X L=>L) B0 (N8 A5) (λE P=>⟨go (kv c (Q E P).1 (Q E P).2.1) λL=>ld (L▸P),(Q E P).2.2⟩) _ Y λbe ao Ch=>kw i p be c ao Ch (S.ns _ λCl C9 IO=>?_) dl;obtain⟨X,Da,D5,Fr,FB⟩:=C9;exact⟨Cl,X,Da,D5,ao.bu _ _ Fr (go (S.t _ W).1 λL=>lo (L▸W)) λw=>of _ w W,FB⟩
def Oy(Y:aA (tl a n e g r q C y m t D u h s v F o N j l b))(Q:aA (nH a e g r q m t h H s F o N j l b z B (Ns::w) I i O x f p))(S:U->k->Prop):
 av aI u (hy v) (Ca u K C y D v (.ref b) h (w0 a e g r q m t h H s F o N j l b z B) (Ns::w).length S) S p:=by
 refine Y _ λKT On Os ld le Pi B2 lo T B3 B8 Ch=>?_;refine Q _ λc Pv mp bq Cl P3 P C9 Z=>?_;clear Q;have St:cr=2^24:=G;have of:h.locals∉F/\b≠h.locals:=⟨λQ=>Ch _ Q mp.own,λQ=>B8 (Q▸mp.own)⟩;rw[gY]at Z;obtain⟨SB,P⟩:=cf P;refine bh P _ λSC ad P=>b0 P _ λSL agA ST P=>?_;have Da:=Nm ad;refine fd (B2.item bq Pv SB (λL E=>⟨kv c (lo L E).1 (lo L E).2.1,(lo L E).2.2⟩) _ S λagB be st D5 SZ Tm Ty=>?_) (λwp be TD=>.inr TD) λagI agI R=>R;have TE:=mp.bm st (λL E Q=>Ch L Q E) D5;have TI:be.heap.PlainList b (oI x):=Cl.at λwp R=>st.bu b wp R (Ef Cl R) (kv c T.1 T.2.1) B3;have TT:=c.eJ (st.sub λL E=>.tail _ (.tail _ E));refine On.bf (λagI=>ld.hand G) le TE Pi SZ (CE (Nk ad)) Tm _ S λbz XV Fr dl FB=>?_;obtain⟨abs,agn,ago⟩:=nH.bm Y TT Ty TI Fr XV (λL E=>b2.mp E) of;refine Os.bf le FB dl ld ST _ S λagC dD ge V=>?_;obtain⟨GM,Id,IO⟩:=nH.bm Y abs agn ago (dl.ab ge) ge (by simp) of;have A1:=FB.quiet dl ge;have KB:=dl.iH ge (pK (pK P3 D5) Fr);cases SL with
 |false=>exact .inr ⟨G,_,jl _,⟨λagI A5=>A5 GM V (A1.Hz ad Da) Id IO KB P C9 (sR Z)⟩⟩
 |true=>
  refine b0 P _ λagD agp agq P=>b0 P _ λagE agF agr P=>?_;obtain⟨rfl,rfl⟩:=gv P;refine .inl ⟨G,KT.bf le A1 V ld agq _ S λW fS agG go ags agt=>?_⟩;obtain⟨re,agu,KF⟩:=nH.bm Y GM Id IO (V.ab go) go (by simp) of;have KK:=V.iH go KB;have agv:=KK.length;refine Lm (hsz:=by rw[eV];exact XK Z agv St) KF λgt KM kw=>⟨_,jl _,?_⟩;obtain⟨agH,agw⟩:=id KM;have X:b4 W fS.heap gt:=vy KF kw;have B0:ay [b] W W fS {fS with heap:=gt}:=se fS.toks (.head _) agw kw;have agx:al a W agp {fS with heap:=gt}:=ags.quiet B0 (λL E=>by rw[b2.mp E];exact T.2.2) X λL E=>kw.2 L λR=>kv re T.1 T.2.1 (R▸E);have agy:bK a W gt h r.i SC s:=(A1.quiet V go).bm B0 (λL E Q=>B8 (by rw[<-b2.mp Q];exact E)) X;exact⟨λagI A5=>A5 (re.eJ (B0.sub λL E=>by rw[b2.mp E];exact .tail _ (.head _))) agx (agy.Hz ad Da) (B2.bu agu (bW.refl _) X λL E wp R=>(kw.2 L λagz=>B3 (agz▸E)).trans R) (by simpa using KM) ((pK KK X).append (aC.mk (kq agt X) (aC.eY.mpr G))) agr (by rw[C9,mo];rfl) (by rw[bJ,v4];exact(yF Z))⟩
set_option tactic.hygienic true in
def Oz(c:aA (tl a n e g r q C y m t D u h s v F o N j l b))(L:ge.length<=2000000)
 (P:al a j le l) (Q:bK a j l.heap h r.i (ix (hL m) H) s) (R:N ge j l.heap) (S:l.heap.PlainList b #[])
 (U:e2 o m H (λgo gt=>eO J e g t go gt) (λgo gt=>aR J e g go q gt) ge le=A (z,B))
 (V:∀i kw T,ay (h.locals::b::F) j i l kw->im F (i++[b]) kw T->al a (i++[b]) (B++[.list z]) T->(∃mp,T.heap.Ns h.locals mp)->b∉i->K (.ok .next) T):
 hx aI u (.compLoop (.ListComp C [⟨y,of,D,0⟩] scope wp) 0 v (.ref b) h) K l:=by
 refine Ou (w0 a e g r q m t h H s F o N j l b z B) (λad p W k=>?_) ge.length ⟨λlo X=>X (ay.refl _ _ _) P Q R S (aC.eY.mpr G) U G (by rw[Ak,g4];exact L)⟩;obtain⟨E⟩:=W
 rename_i w I i O x f
 cases w with
 |nil=>exact fd (Ow c E V k) (λdl be Y=>.inl Y) λlo lo Z=>Z
 |cons ld w=>exact Oy c E k
end
end
end
section
noncomputable def yX(b:bL)(e:g5):E (am×lD):=e.names.map λ(n,a)=>if(a==qy&&b.names.lookup n==A .cell)then(n,oJ)else(n,a)
noncomputable def x1(g:bL)(b:g5)(e:E (I×am))(c:I)(f:j am):j am:=
 match e.lookup c with
 |some a=>A a
 |none=>match f with
  |some a=>if b.names.lookup a=A .free then A a else M
  |none=>M
noncomputable def i3(a:bL)(b:g5)(c:E (I×am)):I->E (j am)->E (j am)
 |_,[]=>[]
 |e,f::g=>x1 a b c e f::i3 a b c (e+1) g
noncomputable def gs(a:bL)(b:g5)(c:E (I×am)):bL:=⟨yX a b,i3 a b c 0 a.i⟩
noncomputable def pv(a:E (j am)):ah:=decide (a.filterMap id).Nodup
noncomputable def r3(e:bL)(b:g5)(f:E (I×am)):ah:=
 decide (b.kind=.function)&&
 b.names.all (λa=>decide (a.2≠.cell)&&(decide (a.2≠.local)||decide (b.names.lookup a.1=A .local))&&(decide (a.2≠.free)||(decide (e.names.lookup a.1=A .cell)&&e.i.contains (A a.1))))&&
 f.all (λg=>decide (b.names.lookup g.2=A .local))&&pv (i3 e b f 0 e.i)
def SG(c:bL)(e:g5)(f:E (I×am)):∀(g:E (j am))(b a:I),(i3 c e f b g)[a]?=(g[a]?).map (x1 c e f (b+a)):=by
 intro h
 induction h with
 |nil=>
  intro b a;simp[i3]
 |cons l g i=>
  intro b k;cases k with
  |zero=>
   simp[i3]
  |succ a=>
   rw[i3,Ag,Ag,i]
   congr 2
   exact FY
def SH(c:bL)(e:g5)(f:E (I×am)):∀(a:E (j am))(b:I),(i3 c e f b a).length=a.length:=by
 intro g
 induction g with
 |nil=>
  intro k;exact G
 |cons i a h=>
  intro b;rw[i3,gY,gY,h]
def t1:∀{h:E (j am)},pv h=J->∀(b a:I)(g:am),h[b]?=A (A g)->h[a]?=A (A g)->b=a:=by
 intro o
 induction o with
 |nil=>
  intro r b a g f r;simp at f
 |cons p h k=>
  cases p with
  |none=>
   intro f b a g c e;cases b with
   |zero=>simp at c
   |succ b=>cases a with
    |zero=>simp at e
    |succ a=>rw[k (by simpa[pv]using f) b a g (by simpa using c) (by simpa using e)]
  |some i=>
   intro f b a g c e;have l:(i::h.filterMap id).Nodup:=by simpa[pv]using f
   rw[sM]at l;have m:∀n,h[n]?=A (A i)->dT:=λn q=>l.1 (oG.mpr ⟨A i,d7 q,G⟩);cases b with
   |zero=>
    simp only[E.getElem?_cons_zero,wd]at c;subst c;cases a with
    |zero=>rfl
    |succ a=>exact(m a (by simpa using e)).elim
   |succ b=>cases a with
    |zero=>
     simp only[E.getElem?_cons_zero,wd]at e;subst e;exact(m b (by simpa using c)).elim
    |succ a=>rw[k (by simpa[pv]using l.2) b a g (by simpa using c) (by simpa using e)]
structure lQ(e:bL)(a:g5)(c:E (I×am)):Prop where
 kind:a.kind=.function
 afH:∀b∈a.names,b.2≠.cell
 afk:∀b∈a.names,b.2=.local->a.names.lookup b.1=A .local
 free:∀b∈a.names,b.2=.free->e.names.lookup b.1=A .cell/\∃g:I,e.i[g]?=A (A b.1)
 afK:∀l∈c,a.names.lookup l.2=A .local
 aeJ:∀(g h:I)(i:am),(i3 e a c 0 e.i)[g]?=A (A i)->(i3 e a c 0 e.i)[h]?=A (A i)->g=h
def r3.at(c:r3 B D T=J):lQ B D T:=by
 unfold r3 at c;simp only[eB,j8,di,sy,z9]at c;obtain⟨⟨⟨h,e⟩,i⟩,j⟩:=c;refine⟨h,λa b=>(e a b).1.1,λa b f=>((e a b).1.2).resolve_left (λg=>g f),λa b f=>?_,λk l=>i k l,t1 j⟩;obtain⟨m,n⟩:=((e a b).2).resolve_left (λg=>g f);exact⟨m,Jc.mp n⟩
def m3{c f:Type}[BEq c][LawfulBEq c]:∀{g:E (c×f)}{b:c}{h:f},g.lookup b=A h->(b,h)∈g:=by
 intro j
 induction j with
 |nil=>
  intro n n a;simp at a
 |cons k g l=>
  obtain⟨i,m⟩:=k;intro b h a;rw[fX]at a;cases e:b==i with
  |true=>rw[e]at a;obtain rfl:=aG a;rw[show b=i by simpa using e];exact gZ
  |false=>rw[e]at a;exact lC _ (l a)
def lQ.seen(c:lQ b T g)(e:(gs b T g).i[B]?=A (A D)):
 (T.names.lookup D=A .local/\B∈g.map (·.1))\/(T.names.lookup D=A .free/\b.names.lookup D=A .cell/\b.i[B]?=A (A D)/\g.lookup B=M):=by
 have e:(i3 b T g 0 b.i)[B]?=A (A D):=e;rw[SG,g4]at e;obtain⟨i,j,a⟩:=jn.mp e;unfold x1 at a;cases f:g.lookup B with
 |some k=>
  rw[f]at a;obtain rfl:=aG a;have:=m3 f;exact .inl ⟨c.afK _ this,fx.mpr ⟨_,this,G⟩⟩
 |none=>
  rw[f]at a;cases i with
  |none=>exact nomatch a
  |some k=>
   simp only at a
   split at a
   .rename_i h
    obtain rfl:=aG a;exact .inr ⟨h,(c.free _ (m3 h) G).1,j,G⟩
   .exact nomatch a
section
variable{b:aq}{n:I}{e:ah->cb}{f:ce}{a:bL}
def Db(c:lQ a g i)(b:cV h a):cV (oS g l m h) (gs a g i):=by
 refine⟨c.kind,b.globals,b.builtins,?_⟩;show(relabel g h).names=yX a g;delta relabel yX;simp only[b.kind,ny,vQ,b.kindOf]
def cV.mh(b:cV g a)(c:a.names.lookup B=A D):g.kindOf B=A D:=by rw[b.kindOf];exact c
def Ox(c:lQ a o s)(q:cV t a)(R:kw=s.map (·.1))
 (r:bK b ge i t a.i le mp) (C:∀m h,u.lookup m=A h->t.cells.lookup m=A h) (ad:∀m,(m,qy)∈o.names->(u.lookup m).isSome=J)
 (D:∀T l,i.get? T=A l->go.get? T=A l) (dl:i.get? p=M) (ld:∃gt,go.Ns p gt/\∀g,gt g=M) (lo:p∉ge) (of:b.get? p=M):
 bK b ge go (oS o u p t) (gs a o s).i (ix kw le) (p::mp):=by
 have P3:=Db (l:=u) (m:=p) (i:=s) c q;obtain⟨st,S,St⟩:=ld;refine r.ns _ λgt SB wp=>?_;have F:∀g,o.names.lookup g=A .local->(oS o u p t).kindOf g=A .local:=λg e=>KR e;refine⟨λTm H=>H st S λj g A1 v f=>?_,λw K=>?_,gZ,r.cq _ λA5 l f1 f2 B0 B2 B3=>λTm H=>H A5 l f1 (.tail _ f2) (D _ _ B0) B2 B3,λj g h v B8 k=>?_,λj Ch g m h v L Cl C9 Da D5=>?_,c.aeJ,by rw[tU];show(i3 a o s 0 a.i).length=_;rw[SH];exact r.len⟩
 .have Fr:j<le.length:=by
   have:=(d6.mp f).1;rwa[tU]at this
  rw[C5 _ _ _ Fr]at f;rcases c.seen v with⟨e,n⟩|⟨e,k,x,N⟩
  .rw[cd (by rw[R];exact n)]at f;obtain rfl:=aG f;exact .inl (F g e) (λU f=>by exact nomatch f)
  .have L:j∉kw:=by
    rw[R];intro n;obtain⟨y,FB,rfl⟩:=fx.mp n;have:∀(z:E (I×am)),y∈z->(z.lookup y.1).isSome=J:=by
     intro z
     induction z with
     |nil=>intro i;exact nomatch i
     |cons Q z GM=>
      intro i;rw[fX];cases B:y.1==Q.1 with
      |true=>rfl
      |false=>
       rcases em.mp i with i|i
       .subst i;simp at B
       .exact GM i
    obtain⟨SC,V⟩:=kO.mp (this s FB);rw[N]at V;exact nomatch V
   rw[bZ L]at f;obtain⟨h,W⟩:=kO.mp (ad g (m3 e));rcases wp j g A1 x f with⟨w,Tm⟩|⟨w,X,Id,IO,⟨KB,KF,KK⟩,KM⟩
   .rw[q.mh k]at w;exact nomatch w
   .have:X=h:=by
     have:=C g h W;rw[IO]at this;obtain rfl:=aG this;rfl
    subst this;exact .inr (.inl ((λg e k=>El q.kind e (q.mh k):∀g,o.names.lookup g=A .free->a.names.lookup g=A .cell->(oS o u p t).kindOf g=A .cell) g e k)) X Id W ⟨KB,D _ _ KF,KK⟩ (λU f=>let⟨KT,y,Q⟩:=KM U f;⟨KT,y,Q.bm (bW.refl _) (λT l Tm B Tm Tm=>D T l B:b4 ge i go)⟩)
 .rcases em.mp K with rfl|K
  .obtain⟨l,SL,ST,Ns,Tm⟩:=S;exact⟨lo,of,l,Ns⟩
  .obtain⟨On,Os,l,O⟩:=r.t w K;exact⟨On,Os,l,D _ _ O⟩
 .rcases c.seen v with⟨e,n⟩|⟨e,P,x,N⟩
  .exact bC (F g e) B8
  .have:=(r.cells j g h x (by rw[q.mh P];simp) (C g h k)).1;refine⟨.tail _ this,λB=>?_⟩;subst B;obtain⟨Tm,Tm,l,O⟩:=r.t _ this;have Y:i.get? h=A l:=O;rw[show i.get? h=M from dl]at Y;exact nomatch Y
 .rcases c.seen v with⟨e,n⟩|⟨e,P,x,N⟩
  .exact bC (F g e) Cl
  .rcases c.seen L with⟨Z,n⟩|⟨Z,Pi,Pv,SZ⟩
   .exact bC (F m Z) C9
   .exact r.inj j Ch g m h x Pv (by rw[q.mh P];simp) (by rw[q.mh Pi];simp) (C g h Da) (C m h D5)
end
end
section
section
variable{a:aq}{n:I}{e:ah->cb}{g:ce}{b:bL}
def Dd{le:X}{B3 lo mp:a6}{of:dw}{Os:jA}{v:E X}{K:X}{B8:E a6}{p:g5}{w:E (I×am)}{Pi abs:dj}(c:lQ b p w)(Pv:hL of=w.map (·.1))(P3:k1 a n e g b Os v mp lo)
 (agn:b7 a n e g (gs b p w) le B3) (ago:jw (gs b p w) of lo) (agp:nN a n e g (gs b p w) K B8)
 {V:bF} {r:b9} {Y:aK} {Ch O:E Q} {St SB Cl x:N} {u:k} {SC C9 f:E L} {SL:E dp} (st:cV r b) (Z:bK a O u.heap r b.i Y Ch) (ST:al a O St u) (B:cC a J n V r) (agq:dv J e g Y v St=A (SC,SB)) (agr:eb SB Os SC=A (C9,SL,Cl))
 (ags:e2 SL of Y (λD5 x=>eO J e g K D5 x) (λD5 x=>aR J e g D5 le x) C9 Cl=A (f,x)) (wp:j (U->ef e0)) (Da:U->k->Prop) (Fr:U->k->Prop)
 (FB:∀A1 ge Tm go,ay [] O A1 u ge->al a A1 (x++[.list f]) ge->aF A1 ge.heap (.ref x.length) (.ref Tm)->u.heap.get? go=M->go∉A1->a.get? go=M->(∃agt,ge.heap.Ns go agt)->compPost aI V Fr wp Da (.ref Tm) go (.ok .next) ge):
 av aI V (comprehension (.ListComp B3 [⟨lo,mp,B8,0⟩] p Pi) p r abs (newList []) d (eC mp r) wp) Da Fr u:=by
 obtain⟨W,agu,agv,agw⟩:=Oj (m:=r) p.names [] (λad dl agx=>by
  obtain⟨agy,GM,gt⟩:=c.free ad dl agx;refine Z.ns _ λagV ag0 agz=>?_;have agA:GM<Y.length:=by rw[<-Z.len];exact(d6.mp gt).1
  rcases agz GM ad.1 _ gt (e8 agA)with⟨i,ag0⟩|⟨ag0,K,agW,i,ag0⟩
  .rw[st.mh agy]at i;exact nomatch i
  .exact⟨K,i⟩) (λn K agB=>by simp at agB)
 have agC:closureFor p r=pure W:=by rw[Oi];exact agu
 refine wpAny_comprehension_free (use:=wp) G (P3.fold r) agC c.kind c.afk (P3.bf st Z ST B agq agr _ _ λP af agD F N ai C Id R bq agE=>iO (wpAny_newFunctionEnv c.afH (by intro ad dl;simp at dl) (λy A5 B0=>?_) c.kind));dsimp only at A5 B0⊢;generalize IO:af.heap.push {cls:=.type "list",dict:=M,data:=.seq ([]:E U).toArray}=m at A5 B0⊢;have KB:m.objs.size=af.heap.objs.size+1:=by rw[<-IO,jf]
 have KF:af.heap.objs.size≠m.objs.size:=by rw[KB];exact ee (jl _)
 have below:∀q,q<af.heap.objs.size->q≠m.objs.size/\q≠af.heap.objs.size:=λq a=>⟨by rw[KB];exact ee (sT a),ee a⟩;have S:∀q o,af.heap.get? q=A o->y.get? q=A o:=λq o s=>B0.extBut q o (below q (du s)).1 (bU _ (IO▸bU _ s));have SZ:y.PlainList af.heap.objs.size #[]:=⟨_,B0.extBut _ _ KF (bU _ (IO▸dt _ G))⟩;have fresh:∀i,af.heap.objs.size<=i->af.heap.get? i=M:=λi l=>by
  cases s:af.heap.get? i with
  |none=>rfl
  |some Ty=>exact bC (du s) (hv.mpr l)
 have T:af.heap.get? af.heap.objs.size=M:=fresh _ (c_ _);have z:af.heap.get? m.objs.size=M:=fresh _ (by rw[KB];exact fo _);have TD:=Z.quiet ST ai;have agF:∀D,ay [] P P af {af with heap:=y,toks:=D}:=λD=>ay.bm P af D S;have agG:∀D,al a P Cl {af with heap:=y,toks:=D}:=λD=>C.bm D S;have TE:N C9 P y:=R.bu bq (bW.refl _) (λq o ag0 s ag0 ag0=>S q o s) λi l o s=>S i o s;have agH:=Db (l:=W) (m:=m.objs.size) (i:=w) c st;have agI:bK a P y (oS p W m.objs.size r) (gs b p w).i (ix (hL of) Y) (m.objs.size::Ch):=
  Ox c st Pv TD agv (λad dl=>agw ad (.inl dl)) S z ⟨_,A5,λle=>rfl⟩ (C.nc z) (C.lq z)
 have TI:∀KK:k,KK={af with heap:=y,toks:=af.toks+([]:E (am×U)).length}->
  hx aI V (.compLoop (.ListComp B3 [⟨lo,mp,B8,0⟩] p Pi) 0 agD (.ref af.heap.objs.size) (oS p W m.objs.size r))
   (compPost aI V Fr wp Da (.ref af.heap.objs.size) m.objs.size) KK:=by
  rintro KK rfl;have agJ:∀i∈F,i∉m.objs.size::Ch:=λi l h=>by
   obtain⟨o,t,ag0⟩:=R.cm bq i l;rcases em.mp h with h|h
   .subst h;rw[z]at t;exact nomatch t
   .obtain⟨ag0,ag0,Ty,kw⟩:=Z.t i h;rw[(Id i l).1]at kw;exact nomatch kw
  refine Oz (h:=oS p W m.objs.size r) (λag0 KM=>KM agn ago agp ⟨B.depth,B.units,B.cq,B.guards,B.hand,B.quiet⟩ agH ⟨λi l=>?_,b2.mpr G,λGM le K gt agK agL ag0=>?_⟩ R (λi l=>?_) ⟨⟨_,SZ.choose_spec⟩,C.nc T,C.lq T⟩ (λh=>?_) (λh=>?_) agJ) agE (agG _) agI TE SZ ags λld be bz TT ao KT agM agX=>?_
  .rw[b2.mp l];exact gZ
  .rcases c.seen agK with⟨agN,ag0⟩|⟨ag0,ag0,ag0,agO⟩
   .exact bC (KR agN) agL
   .rw[Pv]at gt;obtain⟨Ns,agP,rfl⟩:=fx.mp gt;have:∀(v:E (I×am)),Ns∈v->(v.lookup Ns.1).isSome=J:=by
     intro v
     induction v with
     |nil=>intro h;exact nomatch h
     |cons FB v agQ=>
      intro h;rw[fX];cases s:Ns.1==FB.1 with
      |true=>rfl
      |false=>
       rcases em.mp h with h|h
       .subst h;simp at s
       .exact agQ h
    have:=this w agP;rw[agO]at this;exact nomatch this
  .obtain⟨o,t,ag0⟩:=R.cm bq i l;exact⟨⟨o,S i o t⟩,(Id i l).2⟩
  .obtain⟨o,t,ag0⟩:=R.cm bq _ h;rw[T]at t;exact nomatch t
  .rcases em.mp h with h|h
   .exact KF h
   .obtain⟨ag0,ag0,Ty,kw⟩:=TD.t _ h;rw[T]at kw;exact nomatch kw
  .have agR:m.objs.size∉ld++[af.heap.objs.size]:=λh=>by
    rcases cE.mp h with h|h
    .obtain⟨e5,bM,On⟩:=TT.ext;rw[bM]at h;rcases cE.mp h with h|h
     .exact C.nc z h
     .obtain⟨o,agY,agZ,t,ag0⟩:=A5;have:=On _ h;rw[show y.get? m.objs.size=M from this]at t;exact nomatch t
    .rw[b2]at h;exact KF h.symm
   have B2:∀i,af.heap.get? i=M->u.heap.get? i=M:=λi l=>ai.jW l;have H:ay (m.objs.size::af.heap.objs.size::F) O ld u be:=(ai.gB.eJ (agF _).gB).eJ TT;have agS:ay (m.objs.size::af.heap.objs.size::F) O (ld++[af.heap.objs.size]) u be:=by
    obtain⟨e5,bM,On⟩:=H.ext;refine⟨⟨e5++[af.heap.objs.size],by rw[bM];simp,λi l=>?_⟩,H.z,H.data,H.cm,H.gens,H.drawn,H.os⟩;rcases cE.mp l with l|l
    .exact On i l
    .rw[b2.mp l];exact B2 _ T
   have agT:ay [] O (ld++[af.heap.objs.size]) u bz:=agS.qa ao KT (λi l=>(Id i l).1) λi l=>by
    rcases em.mp l with rfl|l
    .exact .inr (.inr (B2 _ z))
    .rcases em.mp l with rfl|l
     .exact .inr (.inr (B2 _ T))
     .exact .inl l
   refine FB _ bz af.heap.objs.size m.objs.size agT KT (λag0 KM=>KM af.heap.objs.size ?_ G) (B2 _ z) agR (C.lq z) agM;have XV:=KT.len;simp only[bJ,v4]at XV;have agU:ld.length=x.length:=(I.add_right_cancel XV);refine agU▸?_;simp
 exact codeAny_compStart_list (TI _ G) (R.self TE _ _ (TI _ G))
def Dc(c:ay B D i p h)(l:al a i T h)(C:p.heap.get? m=M)(E:m∉i)(F:a.get? m=M)
 (H:∃v,h.heap.Ns m v) (g:ek m h.heap o):ay B D i p {h with heap:=o}/\al a i T {h with heap:=o}/\b4 i h.heap o:=by
 refine as λV k=>?_;obtain⟨v,Q,R,S,I,K,U⟩:=H;refine k ?_;have w:b4 i h.heap o:=ot I K g;have n:∀b e,p.heap.get? b=A e->b≠m:=λb e f j=>by subst j;rw[C]at f;exact nomatch f
 have x:∀b e,a.get? b=A e->b≠m:=λb e f j=>by subst j;rw[F]at f;exact nomatch f
 refine⟨⟨c.ext,λb e f q r s=>(g.2 b (n b e f)).trans (c.z b e f q r s),λb e f r s=>let⟨t,u⟩:=c.data b e f r s;⟨t,(g.2 b (n b e f)).trans u⟩,λb e f=>?_,c.gens,c.drawn,c.os⟩,⟨λb e f q=>(g.2 b (x b e f)).trans (l.z b e f q),λb e f=>let⟨t,L⟩:=l.data b e f;⟨t,(g.2 b (x b e f)).trans L⟩,l.len,l.aeA,l.fresh,λN y e z O=>?_⟩,w⟩
 .refine as λV k=>?_;obtain⟨P,u⟩:=c.cm b e f;exact k (⟨P,(g.2 b (n b e f)).trans u⟩)
 .exact(l.obj N y e z O).bm (bW.refl _) w (g.2 y λj=>E (j▸d7 z))
def UU{l:X}{m j o:a6}{k:dw}{p:jA}{q:E X}{r:X}{s:E a6}{h:g5}{i:E (I×am)}{u:dj}(c:lQ b h i)(v:hL k=i.map (·.1))(w:k1 a n e g b p q o j)
 (x:b7 a n e g (gs b h i) l m) (y:jw (gs b h i) k j) (z:nN a n e g (gs b h i) r s):b7 a n e g b (.comp l k p q r) (.ListComp m [⟨j,o,s,0⟩] h u):=
 ⟨λ{kw ld le lo mp of st wp A1 A5} B C D F H=>DF H λB0 B2 B3 B8 Ch f Cl K L N O P Q R=>by
  subst L;rw[eval_ListComp];refine Dd c v w x y z B C D F K N O M P Q λS C9 Da D5 ai T V U W Y t=>?_;obtain⟨Z,ad⟩:=id t;refine⟨Z,ad,λFr dl=>?_⟩;obtain⟨ge,go,gt⟩:=Dc ai T U W Y t dl;exact R S _ _ ge go (V.bm (bW.refl _) gt)⟩
end
end
section
abbrev mF(a:aq)(b c:Q)(e:U)(f:ah)(g n h:I)(ok i:U):Prop:=
 a.get? b=A {cls:=.type "dict_itemiterator",dict:=M,data:=.fields #[e,.bool f,.ref c,.int g 0,.int n 0,.int h 0,ok,i],slots:=#[]}
inductive q8(b:aq)(f c:Q)(e:U)(g:ah):Prop|inl (b:e=.none/\g=d)|inr (a:Q) (h:cn) (i:e=dV a) (j:b.get? a=A h) (k:a≠f) (n:a≠c)
def L2(a:aq)(b g c:Q)(h n i:I)(j:Prop):Prop:=∀e:U,∀f:ah,∀ok k:U,mF a b g e f h n i ok k->q8 a b c e f->j
def mG(a:aq)(b e c:Q)(f n g:I):Prop:=aA (L2 a b e c f n g)
def q8.bu{e f:aq}{a c:Q}{g:U}{h:ah}(l:q8 e a c g h)(k:∀b B,b≠a->b≠c->e.get? b=A B->f.get? b=A B):q8 f a c g h:=
 l.rec .inl λb i m o j n=>.inr b i m (k b i j n o) j n
def mG.bu{e f:aq}{a h c:Q}{i n j:I}(l:mG e a h c i n j)(k:∀g b,g≠c->e.get? g=A b->f.get? g=A b)(m:a≠c):mG f a h c i n j:=
 l _ λo p ok q r s=>λw t=>t o p ok q (k _ _ m r) (s.bu λu b w n v=>k u b n v)
section
variable{b:bF}{f:U->k->Prop}{a:k}
def SS(c:a.heap.get? g=A i)(e:h (A i) a):av aI b (KP g) h f a:=by
 have j:h (a.heap.get? g) a:=by rw[c];exact e
 exactλk k k=>j
def XX{g p c:Q}{B ok w i j:U}{x:ah}{q n r:I}{C:U->k->Prop}(D:mF a.heap g p B x q n r ok w)(V:q8 a.heap g c B x)(W:c<a.heap.objs.size)
 (R:∀h,mG h g p c q n r->h.get? a.heap.objs.size=A {cls:=.type "tuple",data:=.seq #[i,j]}->h.objs.size=a.heap.objs.size+1->(∀l m,l≠g->a.heap.get? l=A m->h.get? l=A m)->C (.ref a.heap.objs.size) {a with heap:=h}):
 av aI b (acs (.ref g) 6 i j) C f a:=by
 have E:a.heap.objs.size≠g:=fK (du D);refine e (Lp (as λmp X=>?_));obtain⟨s,t⟩:∃s,a.heap.push {cls:=.type "tuple",data:=.seq #[i,j]}=s:=⟨_,G⟩;refine X ?_;have o:mF s g p B x q n r ok w:=t▸bU _ D;have S:s.get? a.heap.objs.size=A {cls:=.type "tuple",data:=.seq #[i,j]}:=t▸dt _ G;have aj:∀h,ek g s h->mG h g p c q n r->C (.ref a.heap.objs.size) {a with heap:=h}:=λh u bq=>
  R h bq (u.extBut _ _ E S) (u.1.trans (t▸jf ..)) λl m Y F=>u.extBut l m Y (t▸bU _ F)
 have up:∀l m,a.heap.get? l=A m->s.get? l=A m:=λl m F=>t▸bU _ F;show av _ _ (acq (.ref g)>>=_) _ _ {a with heap:=a.heap.push {cls:=.type "tuple",data:=.seq #[i,j]}};rw[t];refine e ?_;clear D t R;rcases V with⟨rfl,rfl⟩|⟨v,H,rfl,Z,K,T⟩
 .refine e (eD o G (x:=.none) G (aJ (e (eD o G (x:=ok) G (e (eD o G (x:=w) G (e (hT o (by simp) λL N z=>e (hT (show mF L g p .none d q n r i w from N) (by simp) λad dl ge=>e (hT (show mF ad g p .none d q n r i j from dl) (by simp) λgo gt kw=>e (hT (show mF go g p (dV a.heap.objs.size) d q n r i j from gt) (by simp) λld le lo=>?_)))))))))));have u:=((ac6 z ge).trans kw).trans lo;exact e (wT (aJ (aj ld u (λmp y=>y (dV a.heap.objs.size) d i j le (.inr a.heap.objs.size _ G (u.extBut _ _ E S) E (fK W))))))
 .have P:=up v H Z;refine e (eD o G (x:=dV v) G (e (m:=KP ((v:O).toNat)) ?_));rw[sD];refine SS P (e (eD o G (x:=.bool x) G ?_));cases x with
  |true=>exact aJ (aJ (aj s (zY _ _) (λmp y=>y _ _ _ _ o (.inr v H G P K T))))
  |false=>exact e (hT o (by simp) λL N z=>aJ (aJ (aj L z (λmp y=>y (dV v) J ok w N (.inr v H G (ac5 z _ _ K P) K T)))))
def g9(b:bF)(f:aq):Prop:=b.handled=M\/∃(a:Q)(e:cn)(c:ch U),b.handled=A (.ref a)/\f.get? a=A e/\e.data=.fields c/\c[2]?=A .none
def g9.in1(a:g9 b g):g9 b.in1 g:=a
def g9.keeps(a:g9 b D)(c:∀B g,D.get? B=A g->T.get? B=A g):g9 b T:=by
 rcases a with a|⟨a,g,e,f,h,i⟩
 .exact .inl a
 .exact .inr ⟨a,g,e,f,c _ _ h,i⟩
def Pc:wr wP "proto.unchain"=A Builtin.«proto.unchain»:=Be (by kernel_rfl)
def X_:plainId "proto.unchain"=J:=by decide+kernel
def Yq(l:g9 b a.heap)(c:a.heap.get? g=A {cls:=p,dict:=M,data:=.fields m,slots:=#[]})(k:2<m.size)
 (n:∀h,b.handled=A (.ref h)->h≠g) (j:∀i q,ek g a.heap i->i.get? g=A {cls:=p,dict:=M,data:=.fields q,slots:=#[]}->f (.ref g) {a with heap:=i}):av aI b (Br (.ref g):ef y) z f a:=by
 unfold Br;refine e (Li ?_);rcases l with l|⟨h,B,C,o,r,s,t⟩
 .exact l.symm▸(e (aJ (BK (j a.heap m (zY ..) c))))
 .refine o.symm▸?_;have u:=n h o;have v:(en h !=en g)=J:=by simpa using u
  dsimp only;refine(cd v).symm▸(e (fc (wpAny_runValue (wm Pc ((zE X_ _).symm▸(e (eD r s (x:=.none) t (aJ (e (m:=qP (.ref g) 2 (.ref h)) (hT c k λi w x=>BK (j i _ x w)))))))))))
def D0{m u c:Q}{i v:I}{K:cn}{p:ch je}{F:j U->k->Prop}(L:mG a.heap m u c i p.size v)(ge:c<a.heap.objs.size)(N:a.heap.get? u=A K)(P:K.data=.dict p v)
 (go:∀o,p[i]?=A o->∀l,mG l m u c (i+1) p.size v->l.get? a.heap.objs.size=A {cls:=.type "tuple",data:=.seq #[o.key,o.val]}->l.objs.size=a.heap.objs.size+1->
  (∀h g,h≠m->a.heap.get? h=A g->l.get? h=A g)->F (A (.ref a.heap.objs.size)) {a with heap:=l})
 (gt:p[i]?=M->g9 b a.heap/\∀l,lz m a.heap l->F M {a with heap:=l}):av aI b (hy (.ref m)) F f a:=by
 refine as λC9 kw=>L _ λR S ok T w ld=>?_;clear L;refine kw ?_;have n:a.TypeIs (.ref m) "dict_itemiterator":=⟨_,w,G⟩;unfold hy;refine e (nB (kS (name:=bi "__next__") n AQ
  (hS AQ n PySem.F.entry_dict_itemiterator_next ?_ (PySem.F.args_dict_itemiterator_next_1 _))))
 refine e (aJ (e (e ?_)))
 first|refine e (BL n (aJ ?_))|refine e (wpAny_typeNameOf_itemiter n (aJ ?_))
 refine e (Le w G (e (aJ (e (tf N P ?_)))));rw[bZ (by simp)];refine e (aJ (e (wR N P ?_)));rw[bZ (by simp)];refine aJ ?_;simp only[show¬((i:O)<0)from uY,g7,sD];cases q:p[i]?with
 |some o=>
  refine e ?_
  first|refine e (BL n (aJ ?_))|refine e (wpAny_typeNameOf_itemiter n (aJ ?_))
  refine e (BC n (e (m:=qP (.ref m) 3 (dV ((i:O)+1))) (hT w (by simp) λt V r=>?_)));replace r:ek m a.heap t:=r;have W:k.TypeIs {a with heap:=t} (.ref m) "dict_itemiterator":=⟨_,V,G⟩;refine e (fc (e (BC W (e (BC W (XX (a:={a with heap:=t}) (p:=u) (c:=c) (B:=R) (x:=S) (q:=i+1) (n:=p.size) (r:=v) (ok:=ok) (w:=T) (show mF t m u R S (i+1) p.size v ok T by unfold mF;rw[(XM:((i+1:I):O)=(i:O)+1)];simpa[dV]using V)
   (ld.bu λB3 g i C9 le=>r.extBut _ _ i le) (r.1.symm▸ge) λl bq y z lo=>?_))))))
  replace y:l.get? t.objs.size=_:=y;replace z:l.objs.size=t.objs.size+1:=z;show av _ _ (pure _) _ _ _;rw[r.1]at y z;exact aJ ⟨_,G,aJ (r.1.symm▸go o q l bq y z λh g B s=>lo h g B (r.extBut h g B s))⟩
 |none=>
  obtain⟨mp,of⟩:=gt q;refine e ?_
  first|refine e (BL n (aJ ?_))|refine e (wpAny_typeNameOf_itemiter n (aJ ?_))
  refine e (m:=qP (.ref m) 2 .none) (hT w (by simp) λC B8 D=>?_);replace D:ek m a.heap C:=D;refine e (m:=newExc (.type "StopIteration") []) (e (iO (e (m:=ww _ _) (lJ (a:=iN) (by first|rfl|(simp only[ww];rfl)) (iO ?_ (by size_fits)))) (by size_fits)));have X:g9 b C:=mp.imp id λ⟨s,g,Y,st,q,Z,ad⟩=>⟨s,g,Y,st,D.extBut s g (λx=>by subst x;cases w.symm.trans q;cases Z;cases ad) q,Z,ad⟩;have H:∀h g,C.get? h=A g->(C.push {cls:=.type "tuple",data:=.seq ([]:E U).toArray}).get? h=A g:=λh g o=>bU _ o;refine Yq (b:=b.in1) ((g9.keeps X H).keeps λh g o=>bU _ o) (dt _ G) (by rw[ch.size_append];exact dz (show 2<6 by decide) (d8 _ _)) (λs q x=>?_) λl Ch wp A1=>vr ⟨_,A1,G⟩ (of _ λh g B o=>?_)
  .rcases X with A5|⟨Cl,g,Y,B0,B2,C9⟩
   .cases(show b.handled=A (.ref s)from q).symm.trans A5
   .cases(show b.handled=A (.ref s)from q).symm.trans B0;exact kL _ (x▸du (H _ _ B2))
  .have dl:=H h g (D.extBut h g B o);exact(wp.2 h λx=>kL _ (x▸du dl)).trans (bU _ dl)
end
structure q7(e:ch je)(f:Q)(h:aq)(c:E Q):Prop where
 above:∀a∈c,f<a
 afd:∀(g:I)(a:Q),c[g]?=A a->∃b,e[g]?=A b/\h.get? a=A {cls:=.type "tuple",data:=.seq #[b.key,b.val]}
section
variable{f:bF}{b:k}{g:iM->k->Prop}{a:ch je}{h:I}{i:cn}
def SX{c k w:Q}{V:aq}(A1:∀m:aq,(∀l o,l≠c->l≠k->V.get? l=A o->m.get? l=A o)->g9 f m)(gt:c<k)(A5:w≠c)(B0:w≠k)(kw:a.size<=cr)(ld:i.data=.dict a h)(res:U)
 (B2:∀s u r x p,(∀l o,l≠c->l≠k->V.get? l=A o->s.get? l=A o)->s.get? c=A {cls:=.type "list",dict:=M,data:=.seq r x,slots:=#[]}->p.length=a.size->q7 a k s p->
  r.toList=p.map en->g (.ok (.ret res)) {b with heap:=s,toks:=u}):
 ∀(T q:I)(m:aq)(u x:I)(r:ch U)(p:E Q),a.size-q=T->q<=a.size->mG m k w c q a.size h->m.get? w=A i->(∀l o,l≠c->l≠k->V.get? l=A o->m.get? l=A o)->
  m.get? c=A {cls:=.type "list",dict:=M,data:=.seq r x,slots:=#[]}->r.toList=p.map en->p.length=q->q7 a k m p->k<m.objs.size->
  hx aI f (.builtin "list.extend.loop" ⟨[.ref c,.ref k,res],[]⟩) g {b with heap:=m,toks:=u}:=by
 have W:c≠k:=ee gt;intro T
 induction T with
 |zero=>
  intro q m u x r p N le X O P y R B v Y;have lo:q=a.size:=(Jw le (I.sub_eq_zero_iff_le.mp N));refine wm Kc ((zE sY _).symm▸(e (D0 (a:={b with heap:=m,toks:=u}) (c:=c) (b:=f.in1) X (du y) O ld (λj C=>(pX C (zF (b3 (id (ni lo))))).elim) λDa=>⟨A1 m P,λs Z=>?_⟩)));refine aJ (B2 s u r x p (λl o n D j=>Z l o D (P l o n D j)) (Z c _ W y) (F0 B lo) ⟨v.above,λF H t=>?_⟩ R);obtain⟨j,ad,dl⟩:=v.afd F H t;exact⟨j,ad,Z H _ (fK (v.above H (d7 t))) dl⟩
 |succ T B3=>
  intro q m u x r p N le X O P y R B v Y;have S:q<a.size:=(I.lt_of_sub_eq_succ N);obtain⟨j,ge⟩:∃B8,a[q]?=A B8:=⟨a[q],HL S⟩;have mp:r.size=q:=by rw[<-ch.length_toList,R,bO,B]
  refine wm Kc ((zE sY _).symm▸(e (D0 (a:={b with heap:=m,toks:=u}) (c:=c) X (du y) O ld (λof C=>aG (ge.symm.trans C)▸λs Ch go Cl K=>?_) λC=>(pX ge C).elim)));dsimp only at go Cl K⊢;have st:=K c _ W y;have up:∀l o,l≠c->s.get? l=A o->(s.update c (mu (·.push (en m.objs.size)))).get? l=A o:=λl o z j=>(qo _ _ (dA z)).trans j;have wp:c<m.objs.size:=du y;refine e (wX st G (aJ ⟨wK sY _,B3 (q+1) _ u _ (r.push (en m.objs.size)) (p++[m.objs.size]) ((JM _ _ 1).trans (bj (·-1) N)) S (Ch.bu up (dA W)) (up w _ A5 (K w _ B0 O))
   (λl o n D j=>up l o n (K l o D (P l o n D j))) (gV _ st G) (by rw[HN,R,el];rfl) (by rw[bJ,B];rfl) ⟨?_,?_⟩ ?_⟩) (by rw[mp];exact(bG (e_ S) kw)) (by show(r.push (en m.objs.size)).size<=cr+1;rw[ch.size_push,mp];exact(hw (bG (e_ S) kw))))
  .intro H L;rcases cE.mp L with L|L
   .exact v.above H L
   .rw[b2.mp L];exact Y
  .intro F l t;rcases I.lt_trichotomy F p.length with n|n|n
   .replace t:=(eK n)▸t;obtain⟨of,ad,dl⟩:=v.afd F l t;have z:=v.above l (d7 t);exact⟨of,ad,up l _ (fK (gC gt z)) (K l _ (fK z) dl)⟩
   .subst n;have z:m.objs.size=l:=by simpa using t
    subst z;exact⟨j,by rw[B];exact ge,up _ _ (fK wp) go⟩
   .have C9:(p++[m.objs.size])[F]?=M:=qs (by rw[bJ,v4];exact(JS n));rw[C9]at t;exact nomatch t
  .have j:(s.update c (mu (·.push (en m.objs.size)))).get? m.objs.size=_:=up _ _ (fK wp) go;exact gC Y (du j)
end
end
section
section
variable{h:bF}{l:U->k->Prop}{a:k}{i:cn}{f:ch je}{j:I}{g b:Q}
def SY(m:a.heap.IsItemsView g b)(c:a.heap.get? b=A i)(k:i.data=.dict f j)
 (n:o (.ref a.heap.objs.size) {a with heap:=a.heap.push {cls:=.type "dict_itemiterator",data:=.fields #[.none,.bool d,.ref b,.int 0 0,.int f.size 0,.int j 0,.none,.none]}}):
 av aI h (my (.ref g)) o l a:=by
 refine as λu p=>?_;obtain⟨s,q,t,r⟩:=id m;refine p (BH m.typeIs Ke (hS Ke m.typeIs PySem.F.entry_dict_items_iter (e (aJ (e (e (eD q r (x:=.ref b) G (aJ (e (e (tf c k (e (wR c k ?_))))))))))) (PySem.F.args_dict_items_iter_1 _)));simp only[((by decide):acr "dict_itemiterator"=J),wx];refine iO (aJ ⟨_,G,"dict_itemiterator",_,⟨_,dt _ G,G⟩,AQ.lookup,?_⟩)
  (by simp only[sizeOk,HR,eV,bJ,gY,Ak,wM];exact(mr (0+1+1+(0+1+1+1+1)+(0+1+1)) 16777210))
 simpa[dV,HR]using n
def SV(W:g9 h a.heap)(x:a.heap.IsItemsView g b)(y:a.heap.get? b=A i)(H:i.data=.dict f j)(c:Q)(X:c≠g)(K:b≠c)(res:U)(L:I)(z:a.heap.get? c=A {cls:=.type "list",data:=.seq #[] L})
 (Y:∀q r t B s,(∀o m,o≠c->a.heap.get? o=A m->q.get? o=A m)->q.get? c=A {cls:=.type "list",dict:=M,data:=.seq t B,slots:=#[]}->s.length=f.size->q7 f a.heap.objs.size q s->
  t.toList=s.map en->u (.ok (.ret res)) {a with heap:=q,toks:=r}) (Z:f.size<=cr):
 av aI h.in1 (zK (.ref c) (.ref g) res)
  (λaj v=>match aj with|.done ge=>u (.ok ge) v|.again T=>T.quiet=J/\hx aI h T u v) (λp v=>u (.error p) v) a:=by
 have N:c<a.heap.objs.size:=du z;have ad:∀l:aq,(∀o m,o≠c->o≠a.heap.objs.size->a.heap.get? o=A m->l.get? o=A m)->g9 h l:=λl dl=>by
  rcases W with C|⟨O,m,go,D,w,P,gt⟩
  .exact .inl C
  .refine .inr ⟨O,m,go,D,dl O m (λC=>?_) (ee (du w)) w,P,gt⟩;subst C;rw[z]at w;obtain rfl:=aG w;exact nomatch P
 have R:∀(l:aq)(E r:I),(∀o m,o≠c->(a.heap.push {cls:=.type "dict_itemiterator",data:=.fields #[.none,.bool d,.ref b,.int 0 0,.int f.size 0,.int j 0,.none,.none]}).get? o=A m->l.get? o=A m)->
  l.get? c=A {cls:=.type "list",data:=.seq #[] E}->hx aI h (.builtin "list.extend.loop" ⟨[.ref c,.ref a.heap.objs.size,res],[]⟩) u {a with heap:=l,toks:=r}:=by
  intro l E r F n;have S:=F a.heap.objs.size _ (fK N) (dt _ G);refine SX (b:=a) (i:=i) (a:=f) (h:=j) (V:=a.heap) ad N K (ee (du y:b<a.heap.objs.size)) Z H res (λq kw t B s ld le lo mp of=>Y q kw t B s (λo m k p=>ld o m k (ee (du p)) p) le lo mp of)
   f.size 0 l r E #[] [] (JQ _) (fY _) (λCl st=>st .none d .none .none S (.inl ⟨G,G⟩)) (F b _ K (bU _ y)) (λo m k Cl p=>F o m k (bU _ p)) n G rfl
   ⟨(λCl wp=>nomatch wp),(λB8 Ch A1=>by simp at A1)⟩ (du S)
 refine e (tj (T:="dict_items") x.typeIs ?_);have D:HT (.ref c) (.ref g)=d:=by simp[HT,X]
 have A5:(oO "dict_items"==oO "list")=d:=by decide
 have B0:(oO "dict_items"==oO "tuple")=d:=by decide
 simp only[D,A5,B0,ql,j0,g7];refine e (SY x y H ?_);have n:=bU {cls:=.type "dict_itemiterator",data:=.fields #[.none,.bool d,.ref b,.int 0 0,.int f.size 0,.int j 0,.none,.none]} z;refine e (fc (kdx_hint (let⟨m,B2,B3,_⟩:=x;⟨m,bU _ B2,B3⟩) ?_));refine wpAny_ite_split (λCl=>e (lK (e (e (wX n G ?_))))) (λCl=>aJ ⟨wK sY _,R _ L _ (λo m Cl p=>p) n⟩);have V:=gV (mu (·.push iN)) n G;refine wX (hz:=by seq_fits) V G (aJ ⟨wK sY _,R _ _ _ (λo m k p=>?_) (gV (mu (·.pop)) V G)⟩);exact(qo _ _ (dA k)).trans ((qo _ _ (dA k)).trans p)
def SW(I:g9 h a.heap)(K:a.heap.IsItemsView g b)(L:a.heap.get? b=A i)(N:i.data=.dict f j)(c:Q)(B:c≠g)(C:b≠c)(k:a.heap.get? c=A {cls:=.type "list",data:=.seq #[]})
 (O:∀p v s w q,(∀o m,o≠c->a.heap.get? o=A m->p.get? o=A m)->p.get? c=A {cls:=.type "list",dict:=M,data:=.seq s w,slots:=#[]}->q.length=f.size->q7 f c p q->
  s.toList=q.map en->x (.ok (.ret .none)) {a with heap:=p,toks:=v}) (P:f.size<=cr):
 av aI h.in1 (Builtin.«list.__init__» ⟨[.ref c,.ref g],[]⟩)
  (λaj t=>match aj with|.done T=>x (.ok T) t|.again D=>D.quiet=J/\hx aI h D x t) (λr t=>x (.error r) t) a:=by
 show av _ _ (do let R<-act (.ref c);acv (.ref c) (λkw=>#[]);letGo R.toList.reverse;zK (.ref c) (.ref g) .none) _ _ a;refine e (e (nE k G (aJ ?_)));show av _ _ (updateSeq c (λkw=>#[])>>=λkw=>letGo (#[]:ch U).toList.reverse>>=λkw=>zK (.ref c) (.ref g) .none) _ _ a;refine e (wX k G ?_);have E:=gV (mu (λkw=>(#[]:ch U))) k G;have l:∀o m,o≠c->a.heap.get? o=A m->(a.heap.update c (mu (λkw=>(#[]:ch U)))).get? o=A m:=
  λo m n r=>(qo _ _ (dA n)).trans r
 refine e (wT ?_);have S:g9 h (a.heap.update c (mu (λkw=>(#[]:ch U)))):=by
  rcases I with y|⟨u,m,V,W,z,F,X⟩
  .exact .inl y
  .refine .inr ⟨u,m,V,W,l u m (λy=>?_) z,F,X⟩;subst y;rw[k]at z;obtain rfl:=aG z;exact nomatch F
 exact SV S (let⟨m,Y,u⟩:=K;⟨m,l g m B.symm Y,u⟩) (l b _ C L) N c B C .none _ E (λp v s w q Z ad dl H ge=>O p v s w q (λo m n r=>Z o m n (l o m n r)) ad dl ⟨λgo gt=>c0 (e_ (du E)) (H.above go gt),H.afd⟩ ge) P
def SU(w:g9 h a.heap)(k:a.heap.IsItemsView g b)(n:a.heap.get? b=A i)(x:i.data=.dict f j)(y:f.size<=cr)
 (z:∀o s r t p,(∀q m,a.heap.get? q=A m->o.get? q=A m)->o.get? a.heap.objs.size=A {cls:=.type "list",dict:=M,data:=.seq r t,slots:=#[]}->p.length=f.size->q7 f a.heap.objs.size o p->
  r.toList=p.map en->B (.ref a.heap.objs.size) {a with heap:=o,toks:=s}):
 av aI h (eu (.type "list") [.ref g]) B l a:=by
 refine callType_codes (Q₁:=λobj u=>obj=.ref a.heap.objs.size/\u={a with heap:=a.heap.push {cls:=.type "list",data:=.seq #[]}}) PySem.F.called_list (PySem.F.typeCall_list_1 _) PySem.F.entry_list_init
  (code_list_new _ ⟨G,G⟩) λobj u C=>?_
 obtain⟨rfl,rfl⟩:=C;have v:(a.heap.push {cls:=.type "list",data:=.seq #[]}).get? a.heap.objs.size=A {cls:=.type "list",data:=.seq #[]}:=dt _ G;refine⟨⟨_,v,G⟩,PySem.F.args_list_init_2 _ _,SW (h:=h.in1) (w.keeps λq m c=>bU _ c) (let⟨m,e,D⟩:=k;⟨m,bU _ e,D⟩) (bU _ n) x _ (fK (let⟨_,e,_⟩:=k;du e:g<a.heap.objs.size)) (ee (du n:b<a.heap.objs.size)) v (λo s r t p E F H I K=>?_) y⟩;exact⟨G,z o s r t p (λq m c=>E q m (ee (du c)) (bU _ c)) F H I K⟩
def T1(b:Q)(c:(b==qT)=d):
 MeetsIn f0 bw.w (Builtin.«dict.items» ⟨[.ref b],[]⟩) (λi m a=>a.TypeIs (.ref b) "dict"/\
  m (.ok (.ret (.ref a.heap.objs.size))) {a with heap:=a.heap.push {cls:=.type "dict_items",data:=.fields #[.ref b]}}):=
 .of_wp λh m a⟨f,g⟩=>by
  refine e (e (wV f (aJ ?_)));unfold zJ;rw[bZ (by rw[c];exact ml)];exact e (aJ (e (iO (aJ ⟨_,G,g⟩))))
end
def aC.acf:∀{g:E L}{B:E U},B.length=g.length->(∀(D:I)(b:L),g[D]?=A b->∃T,B[D]?=A T/\aF ge gt b T)->aC ge gt g B:=by
 intro e
 induction e with
 |nil=>
  intro f;cases f with
  |nil=>
   intro n n;simp[aC]
  |cons n n=>
   intro a n;exact nomatch a
 |cons b g h=>
  intro i;cases i with
  |nil=>
   intro a n;exact nomatch a
  |cons T B=>
   intro a c;obtain⟨m,j,k⟩:=c 0 b G;obtain rfl:=aG j;exact aC.mk k (h (by simpa using a) λD b l=>by simpa using c (D+1) b (by simpa using l))
section
variable{b:aq}{i:E Q}{c:aq}{a:Q}{n:I}{g:ah->cb}{h:ce}{e:bL}{j:dy}
def U2(H:c1 b j)(ge:b7 b n g h e q T)(go:kx T=J)(gt:(kw.endLine==le.line)=J)(s:e.names.lookup ("list":am)=A .globalImplicit)(ld:bw.cB ("list":am)=M):
 b7 b n g h e (.agj q) (.Call (.Name "list" Tm) [.Call (.Attribute T "items" kw) [] [] le] [] TD):=by
 refine⟨λ{c lo mp Os Pi i Pv P3 St SB} I of K N l=>PC l λk SC st wp A1 A5 SL ST v=>vn H (o:=.type "list") I K s ld (by decide+kernel) (by decide+kernel) (by decide+kernel) (by intro a c;cases c) G (wS (uy (rk go) G (ap G) gt (ge.bf I of K N wp _ _ λt af SZ ai u B0=>as λXV m=>u.at A1 B0 _ λa B2 B3 w=>?_)) (vp G [] mp))⟩;subst B2;refine t4 w _ λB8 L O Ch Cl x C9=>m ?_;have y:af.TypeIs (.ref a) "dict":=⟨B8,O,Ch⟩;have Da:∀o,en a=.ref o->∃Q,af.heap.get? o=A Q/\Q.dict=M:=λo D5=>by
  cases D5;refine as λXV m=>w _ λf s XV XV=>?_;clear w;exact m (KE s a G)
 refine qM y AN Kd PySem.F.type_dict_items Da (kj G (qX ⟨λFr FB=>rF (by intro a z;cases z) Fr FB,(s4 Kd y PySem.F.entry_dict_items (PySem.F.args_dict_items_1 _) (T1 a (u.nd H.base (d7 B3))) ⟨y,(qX ?_)⟩)⟩));have B:=u.push {cls:=.type "dict_items",data:=.fields #[.ref a]} af.toks;have GM:g9 lo af.heap:=by
  rcases N.quiet with v|⟨z,q,L,Id,s,IO⟩
  .exact .inl v
  .refine as λXV m=>?_;obtain⟨Ty,KB⟩:=u.data _ _ s;exact m (.inr ⟨z,_,L,Id,KB,IO⟩)
 refine SU (GM.keeps λo q l=>bU _ l) (b:=a) ⟨_,dt _ G,G,G⟩ (bU _ O) Cl (lf A5 x (G:cr=2^24)) λP KF TE KK p R KM S V KT=>?_;have C:(af.heap.push {cls:=.type "dict_items",data:=.fields #[.ref a]}).get? (af.heap.push {cls:=.type "dict_items",data:=.fields #[.ref a]}).objs.size=M:=aq.kD _;have U:b4 t (af.heap.push {cls:=.type "dict_items",data:=.fields #[.ref a]}) P:=λo q XV l XV XV=>R o q l;have bq:=B.qe (T:=P) KF (D:=(af.heap.push {cls:=.type "dict_items",data:=.fields #[.ref a]}).objs.size) (.list (st.map λl=>.ab [.ab l.1,l.2])) C R (λXV D=>D (p.map en) ⟨KK,by rw[<-KT];exact KM⟩ ?_)
 .exact v _ _ _ (ai.then ((ay.push t af {cls:=.type "dict_items",data:=.fields #[.ref a]} af.toks).then bq.2)) bq.1 B.vN
 .refine aC.acf (by rw[bO,bO];exact F0 S x) λk TI W=>?_;rw[j3]at W;refine as λXV m=>?_;obtain⟨l,X,rfl⟩:=jn.mp W;have E:k<p.length:=by rw[S,x];exact(d6.mp X).1
  obtain⟨Y,Z,Ns⟩:=V.afd k p[k] (e8 E);obtain⟨TT,ad,gP,bB⟩:=C9.get X;rw[HM]at ad;refine m ?_;rw[ad]at Z;cases Z;have F:=V.above p[k] (qt E);have On:p[k]∉t++[(af.heap.push {cls:=.type "dict_items",data:=.fields #[.ref a]}).objs.size]:=λr=>by
   rcases cE.mp r with r|r
   .exact kL _ (gC F (B.lt r))
   .rw[b2]at r;rw[r]at F;exact kL _ F
  refine⟨.ref p[k],by rw[j3,e8 E];rfl,λXV D=>D p[k] [Y.key,Y.val] rfl ⟨_,Ns,G,_,G⟩ ?_ On⟩;have dl:b4 t af.heap (af.heap.push {cls:=.type "dict_items",data:=.fields #[.ref a]}):=λo q XV l XV XV=>bU _ l;exact aC.mk ((gP.bm (bW.refl _) dl).bm (bW.gA C) U) (aC.mk ((bB.bm (bW.refl _) dl).bm (bW.gA C) U) (by simp[aC]))
end
end
section
section
variable{h:aq}{b l:E Q}{c:N}{a f:k}{i:bF}{g:dy}{j:U->k->Prop}
def Yi(g:m<17)(bB:aF r s t o)(a:O)(b:j5)(h:lP r s u p)(n:I):
 aA (kW (λq v=>e1 (mv (cL m) a (.str (cL m) b) o (nA p n)=nA q v) (lP r s (ll m t u) q) (q.length<=p.length+1))):=by
 have f:=RO g bB a b h;refineλl c=>c _ (if(qO (cL m).cps.size (cL m).cps.toList (λ|some e=>{e with val:=o}|none=>⟨a,.str (cL m) b,o⟩) p).2 then n+1 else n) (λl c=>c ?_ f.1 f.2);unfold mv;dsimp only;generalize qO (cL m).cps.size (cL m).cps.toList (λ|some e=>{e with val:=o}|none=>⟨a,.str (cL m) b,o⟩) p=i;obtain⟨k,j⟩:=i;cases j<;>rfl
def Zh(x:al h b c a)(X:g.In a.heap){y:I}(o:lN g (cX y)){z t l:I}{p:E (I×L)}{u:L}{B q:U}(O:c[z]?=A (.c8 y t))(P:c[t]?=A (.afS p))(C:l<17)(Q:p.length<500)
 (R:aF b a.heap (.ref z) B) (bB:aF b a.heap u q) (D:e0->k->Prop) (S:∀f,ay [] b b a f->al h b (bd c t (.afS (ll l u p))) f->D () f):av aI i (setAttr B (cL l) q) D j a:=by
 refine x.c8 O P _ λlo F r n H=>H _ λT V m s v=>?_;clear H;have:=R.mj T;subst this;obtain⟨mp,W,Y⟩:=o.aeW;refine set_plain X v o.afm (osa_open (s:={a with toks:=a.toks+1}) X v o.afJ (r:=M) (by unfold takerIn;rw[o.afS l C];rfl) λof=>?_);have Z:g.In ({a with toks:=a.toks+1}:k).heap:=X;obtain⟨ad,st,wp,-⟩:=v;refine e (aJ (e (e (BE ad (e ((s9 Z W).here (Y.symm▸(aJ (a:=A F) (e (aJ (e (e (e (wpAny_askSetting (aJ (e (BF (e (BE s ?_)))))))))))))))))));have dl:(!r.toArray.any (·.key.isStr (cL l))&&r.toArray.any (·.refKey))=d:=by
  refine HJ▸HJ▸?_;rw[show r.toArray.toList=r from G,DK m,HO]
 dsimp only;rw[aRefKeyMayBeTheName_at,dl];refine wpAny_updatePart s (Yi C bB (sX bw.w.params (cL l)) (a.toks+1) m n _ λge go gt=>gt _ λK kw ld=>?_);have w:=gV (mv (cL l) (sX bw.w.params (cL l)) (.str (cL l) (a.toks+1)) q) s (by rw[K];rfl);rw[K]at w;refine e (Lo w (KW (by rw[eV,wM];exact XN Q (m.len) ld)) (aJ ?_));have N:=hr (h:=a.heap) (a:=F) (f:=mv (cL l) (sX bw.w.params (cL l)) (.str (cL l) (a.toks+1)) q);have bq:=x.set (XV:=.afS (ll l u p)) (a.toks+1+1) V N (λA1 le=>le ge go w (kw.imp λA1 A1 m=>⟨m.1,m.2.1,kq m.2.2 (ot s G N)⟩));exact S _ bq.2 bq.1
end
end
section
structure hB(c g:E Q)(e f:aq):Prop where
 same:∀a b,e.get? a=A b->a∉g->a∉c->f.get? a=A b
 slots:∀a b,e.get? a=A b->a∉g->∃h,f.get? a=A {b with slots:=h}
 cm:∀a b,e.get? a=A b->∃i,f.get? a=A i
def hB.trans{c g:E Q}{k l m:aq}(h:hB c g k l)(i:hB c g l m):hB c g k m:=
 ⟨λa b e f n=>i.same a b (h.same a b e f n) f n,λa b e f=>let⟨_,j⟩:=h.slots a b e f;let⟨o,p⟩:=i.slots a _ j f;⟨o,p⟩,λa b e=>let⟨q,j⟩:=h.cm a b e;i.cm a q j⟩
def hB.kE{c k l m:E Q}{h n:aq}(i:hB c l h n)(o:∀g∈l,(∃b,h.get? g=A b)->g∈m)(p:∀g∈c,g∈k):hB k m h n:=
 ⟨λa b e j q=>i.same a b e (λf=>j (o a f ⟨b,e⟩)) λf=>q (p a f),λa b e j=>i.slots a b e λf=>j (o a f ⟨b,e⟩),i.cm⟩
def B_(e f:aq)(g:U)(h:Q)(i:ch U)(j:Prop):Prop:=∀a:Q,∀b:cn,∀c:ch U,i[1]?=A (.ref a)->e.get? a=M->a≠h->f.get? a=A b->b.data=.fields c->c[3]?=A g->j
def LU(g:Q)(h e:aq)(c:U)(f:Q)(i:Prop):Prop:=∀b:cn,∀a:ch U,e.get? f=A b->b.cls=.ref g->b.data=.fields a->a[2]?=A .none->(a[1]?=A .none/\c=.none\/aA (B_ h e c f a))->i
def jr(a:Q)(b c:aq)(e:U)(f:Q):Prop:=aA (LU a b c e f)
def LV(f:Q)(g e:aq)(h:U)(c:Q)(i:Prop):Prop:=∀a:cn,∀b:ch U,e.get? c=A a->a.cls=.ref f->a.data=.fields b->b[2]?=A .none->aA (B_ g e h c b)->i
def o6(a:Q)(b c:aq)(e:U)(f:Q):Prop:=aA (LV a b c e f)
def o6.at(a:o6 b g B D T):jr b g B D T:=a _ λc e f h i j a=>λl k=>k c e f h i j (.inr a)
def jr.zx(a:jr g B D T ge)(e:∀b,B.get? b=M->gt.get? b=M):jr g gt D T ge:=
 a _ λf h b i j k a=>λv c=>c f h b i j k (a.imp id λl=>l _ λm n o p q r s t u=>λv c=>c m n o p (e _ q) r s t u)
section
variable{n:sN}{m:bF}{o:U->k->Prop}{a:k}{g:aq}{f:b9}{i:E b9}{h b:Q}{l:Q}
def y6{e:Q}{a:cn}{g:ch U}{b:I}{c:U}{f:aq}(i:f.get? e=A a)(h:a.data=.fields g):
 (f.update e (kN (·.setIfInBounds b c))).get? e=A (kN (·.setIfInBounds b c) a)/\(kN (·.setIfInBounds b c) a).data=.fields (g.setIfInBounds b c)/\(kN (·.setIfInBounds b c) a).cls=a.cls/\
  ∀p,p≠e->(f.update e (kN (·.setIfInBounds b c))).get? p=f.get? p:=
 ⟨gV _ i (AG (qG h _)),qG h _,AF ..,λp j=>qo _ _ (dA j)⟩
def Dv{t:cn}{u:ch U}{head:U}{V:ah}{E:e0->k->Prop}
 (W:m.frames=A (f::i)) (H:a.heap.FunFrames ({}:aq) (f::i)) (X:f.frame=A h) (Y:∀v,a.heap.get? v=M->g.get? v=M)
 (F:a.heap.get? b=A t) (Z:t.cls=.ref l) (y:t.data=.fields u) (I:1<u.size) (ad:u[2]?=A .none)
 (dl:∀z,hB ((f::i).filterMap (·.frame)) [b] a.heap z->o6 l g z (dV h) b->E () {a with heap:=z}):
 av n m (do let v<-frameOf f;let w<-entryPlaceOf h V;let p<-acM head v .none (dV h) .none w;qP (.ref b) 1 p) E o a:=by
 have ge:b∉(f::i).filterMap (·.frame):=λgo=>by
  obtain⟨lo,c,x,gt⟩:=H.mem go;rw[F]at x;injection x with x;subst x;exact gt u y
 refine e (wpAny_frameOf_fun W H X λq s=>e (wpAny_entryPlaceOf λw K=>e (iO ?_ (K.sizeOk5 _ _ _ _ _))));have L:q.get? b=A t:=(s.2.1 b ge).trans F;generalize N:({cls:=.type "traceback",dict:=M,data:=.fields ([head,.ref h,.none,dV h,.none]++(if w.isEmpty then hu 6 iN else w)).toArray}:cn)=r;have O:=bU (h:=q) r L;have P:q.objs.size≠b:=fK (du L);refine o1 O y I ?_;obtain⟨Q,ez,kw,R⟩:=y6 (b:=1) (c:=en q.objs.size) O y;have up:∀p c,p≠b->q.get? p=A c->((q.push r).update b (kN (·.setIfInBounds 1 (en q.objs.size)))).get? p=A c:=λp c ld j=>(R p ld).trans (bU r j);refine dl _ ⟨λp c j B le=>up p c (by simpa using B) ((s.2.1 p le).trans j),λp c j B=>?_,λp c j=>?_⟩ ?_
 .obtain⟨S,C⟩:=s.2.2 p c j;exact⟨S,up p _ (by simpa using B) C⟩
 .by_cases T:p=b
  .subst T;exact⟨_,Q⟩
  .obtain⟨S,C⟩:=s.2.2 p c j;exact⟨_,up p _ T C⟩
 .refineλlo D=>D _ _ Q (kw.trans Z) ez (by rw[ch.getElem?_setIfInBounds_ne (g0 G)];exact ad) (λlo D=>D q.objs.size r _ (by simp[I]) (Y _ ?_) P ((R _ P).trans (dt _ (by rw[<-N];rfl):(q.push r).get? q.objs.size=A r)) (by rw[<-N]) ?_)
  .have:a.heap.objs.size=q.objs.size:=s.1.symm;exact this▸(aq.kD _)
  .first|(simp;done)|(rcases K with rfl|⟨_,_,_,_,_,_,_,rfl⟩<;>simp)
def EL{N:e0->k->Prop}(O:m.frames=A (f::i))(Q:a.heap.FunFrames ({}:aq) (f::i))(F:f.frame=A h)(P:∀p,a.heap.get? p=M->g.get? p=M)(w:jr l g a.heap .none b)
 (E:∀u T,(∀p∈T,(p=b\/g.get? p=M)/\∀q,a.heap.get? p=A q->∃z,q.data=.fields z)->hB ((f::i).filterMap (·.frame)) T a.heap u->o6 l g u (dV h) b->N () {a with heap:=u}):av n m (qN (.ref b) f) N o a:=by
 refine w _ λgt z x R y H Z=>?_;clear w;have S:1<z.size:=by have:=(zG.mp H).1;exact(JB this)
 unfold qN;simp only[F];rcases Z with⟨I,lo⟩|U
 .refine e (eD x y I ?_);rw[bZ nofun];exact Dv O Q F P x R y S H λu K w=>E u [b] (λp r=>by
   refine(b2.mp r).symm▸?_;exact⟨.inl rfl,λq s=>by rw[x]at s;obtain rfl:=aG s;exact⟨z,y⟩⟩) K w
 .refine U _ λv kw V I ad dl B C W=>?_;clear U;refine e (eD x y I ?_);refine(cd (show(en v !=iN)=J from G)).symm▸?_;refine e (eD B C W ?_);refine(bZ (show¬((iN==dV h)=J)from by simp[dV])).symm▸?_;refine e (o1 B C (zG.mp W).1 ?_);obtain⟨ge,ez,ld,D⟩:=y6 (b:=3) (c:=iN) B C;have Y:hB ((f::i).filterMap (·.frame)) [v,b] a.heap (a.heap.update v (kN (·.setIfInBounds 3 iN))):=
   ⟨λt q j L lo=>(D t λc=>L (by simp[c])).trans j,λt q j L=>⟨q.slots,(D t λc=>L (by simp[c])).trans j⟩,λt q j=>by
    by_cases c:t=v
    .subst c;exact⟨_,ge⟩
    .exact⟨q,(D t c).trans j⟩⟩
  refine Dv (a:={a with heap:=a.heap.update v (kN (·.setIfInBounds 3 iN))}) O (Q.of_keeps λt q j go=>⟨q,(D t λc=>?_).trans j,G⟩) F (λp r=>P p ?_) ((D b (dA dl)).trans x) R y S H λu K w=>E u [v,b] (λp r=>?_) (Y.trans (K.kE (λp r lo=>by rw[b2.mp r];simp) λlo E=>E)) w
  .subst c;rw[B]at j;obtain rfl:=aG j;exact go V C
  .cases c:a.heap.get? p with
   |none=>rfl
   |some q=>
    obtain⟨le,X⟩:=Y.cm p q c;rw[show(a.heap.update v (kN (·.setIfInBounds 3 iN))).get? p=M from r]at X;exact nomatch X
  .simp only[em,As,or_false]at r;rcases r with rfl|rfl
   .exact⟨.inr ad,λq s=>by rw[B]at s;obtain rfl:=aG s;exact⟨V,C⟩⟩
   .exact⟨.inl rfl,λq s=>by rw[x]at s;obtain rfl:=aG s;exact⟨z,y⟩⟩
def xS{T:U}{B:e0->k->Prop}{c:E Q}(C:o6 l g a.heap T b)
 (V:∀s D,(∀t∈D,g.get? t=M/\∀p,a.heap.get? t=A p->∃u,p.data=.fields u)->hB c D a.heap s->o6 l g s .none b->B () {a with heap:=s}):av n m (setFlight (.ref b) M) B o a:=by
 refine as λgt v=>C _ λW u F X H Y I=>?_;clear C;refine I _ λq ge K L N O w x Z=>?_;clear I;refine v ?_;have P:3<K.size:=(zG.mp Z).1;refine e (eD F H L ((cd (show(en q !=iN)=J from G)).symm▸(as λgt v=>?_)));obtain⟨R,ez,go,r⟩:=y6 (b:=3) (c:=(M:j Q).elim iN λad=>dV ad) w x;refine v (o1 w x P (V _ [q] (λt dl=>by rw[b2.mp dl];exact⟨N,λp S=>by rw[w]at S;obtain rfl:=aG S;exact⟨K,x⟩⟩) ⟨λf p i y gt=>(r f λh=>y (by simp[h])).trans i,λf p i y=>⟨p.slots,(r f λh=>y (by simp[h])).trans i⟩,λf p i=>?_⟩ ?_))
 .by_cases h:f=q
  .subst h;exact⟨_,R⟩
  .exact⟨p,(r f h).trans i⟩
 .exactλgt z=>z W u ((r b (dA O)).trans F) X H Y (λgt z=>z q _ _ L N O R ez (by simp[P]))
end
end
section
def ju(c:E Q)(e:aq)(f:da)(a:oz):Prop:=match f with
 |.next=>a=.next
 |.cont=>a=.cont
 |.ret g=>∃b,a=.ret b/\aF c e g b
 |.afU _=>dT
def b4.then(k:b4 g B.heap D.heap)(c:ay gt g T B D)(l:b4 T D.heap ge):b4 g B.heap ge:=λb f h e i j=>
 l b f (λa=>by
  obtain⟨n,bM,m⟩:=c.ext;rw[bM]at a;rcases cE.mp a with a|a
  .exact h a
  .rw[m b a]at e;exact nomatch e) (k b f h e i j) i j
structure mJ(e:aq)(c:ah)(n:I)(a:bF):Prop where
 depth:a.depth+5*n<=803
 units:a.units+200*n+1900<=cy
 guards:a.guards=A []
 hand:c=J->a.handled=M
 quiet:a.handled=M\/∃(b:Q)(g:cn)(h:ch U),a.handled=A (.ref b)/\e.get? b=A g/\g.data=.fields h/\h[2]?=A .none
def q3(c:E Q)(f:aq)(e:b9)(g:Prop):Prop:=(e.scope.kind=.function)->∀a:Q,∀b:cn,e.frame=A a->∀n:a∉c,f.get? a=A b->ke a b->(∃h n,b.data=.dict h n)->g
def LY(e:bF)(f:E Q)(a:aq)(g:Prop):Prop:=bw.ls<=a.objs.size->∀b:E b9,∀c:e.frames=A b,(∀c∈b,aA (q3 f a c))->g
def mD(a:bF)(b:E Q)(c:aq):Prop:=aA (LY a b c)
def cC.zz(a:cC b g n B D):mJ b g n B:=⟨by have:=a.depth;exact(bG this (ap G)),by have:=a.units;exact VG this,a.guards,a.hand,a.quiet⟩
def cC.sr(l:cC g gt n T ge)(h:al g B kw D)(j:aA (q4 ge g B D.heap)):mD T B D.heap:=by
 refine l.cq _ λff w k y y y y m o p=>j _ λb e f1 f2 y c i q=>λy a=>a (bG i.2 (e_ (du c))) _ k λr f=>?_;rcases em.mp f with rfl|f
 .exactλy a=>a o b e (m.trans f1) f2 c i q
 .refine as λy s=>?_;obtain⟨t,b,e,f1,f2,u,c⟩:=p r f;obtain⟨x,v⟩:=h.data b e f2;exact s (λy a=>a t b _ f1 (h.lv f2) v u c)
def mA(f:aq)(n:I)(v:ah->cb)(b1:I->Q)(w:Q):Prop:=
 ∀(m:ah)(i:bF)(o:I)(e:E Q)(p j:N)(b:k)(q:E L)(r:E U)(g:dW),mJ f m n i->mD i e b.heap->al f e p b->aC e b.heap q r->v m o q p=A (g,j)->(∀s,g=.afU s->s=5)->
  ∀(l:iM->k->Prop),(∀c a t u,g=.ret t->ay [] e c b a->al f c j a->aF c a.heap t u->l (.ok (.ret u)) a)->
   (∀c a h,g=.afU 5->ay [] e c b a->al f c j a->jr w b.heap a.heap .none h->b.heap.get? h=M->h∉c->l (.error (.ref h)) a)->hx aI i (.call (.ref (b1 o)) ⟨r,[]⟩) l b
def mA.Hx(g:mA B n D b1 T):w1 B n D b1:=λh i E j k l m o p q r a s b t u F H v=>
 nC (g h i j k l m o p q (.ret r) a.zz (a.sr b s) b t u (λI w=>by cases w) _ (λe f K x y c z bB=>by cases y;exact v e f x c z bB) λe f L C=>by cases C)
section
variable(a:aq)(n:I)(e:ah->cb)(g:ce)(b:Q)
def jv(l:bL)(t:bF)(m:b9)(g h:E Q)(f:k)(u:ef oz)(j:da)(n:aK)(o:N):Prop:=(∀p,j=.afU p->p=5)->
 ∀(q:oz->k->Prop)(r:U->k->Prop),(∀c e s,ay g h c f e->b4 h f.heap e.heap->al a c o e->bK a c e.heap m l.i n g->ju c e.heap j s->q s e)->
  (∀c e i,j=.afU 5->ay g h c f e->b4 h f.heap e.heap->al a c o e->bK a c e.heap m l.i n g->jr b f.heap e.heap .none i->f.heap.get? i=M->i∉c->r (.ref i) e)->av aI t u q r f
structure ha(i:bL)(bq:c)(j:cx):Prop where
 bf:∀{m:ah}{o:bF}{h:b9}{p q:aK}{r l:E Q}{s t:N}{TI:k}{u:da},cV h i->bK a l TI.heap h i.i p r->al a l s TI->cC a m n o h->f m e g bq p s=A (u,q,t)->jv a b i o h r l TI (exec j h) u q t
structure hX(f:bL)(j:E c)(u:E cx):Prop where
 bf:∀{l:ah}{m:bF}{h:b9}{o p:aK}{q i:E Q}{r s:N}{TI:k}{t:da},cV h f->bK a i TI.heap h f.i o q->al a i r TI->cC a l n m h->bt l e g j o r=A (t,p,s)->jv a b f m h q i TI (wv u h) t p s
end
section
variable{a:aq}{n:I}{e:ah->cb}{f:ce}{g:Q}{b:bL}{s:dy}
section
variable{o:bF}{m:b9}{j i r:E Q}{h af:k}{p:ef oz}{l:da}{t q:aK}{u n:N}
def jv.mk(c:∀(D:oz->k->Prop)(ge:U->k->Prop),(∀T B gt,ay j i T h B->b4 i h.heap B.heap->al a T n B->bK a T B.heap m b.i q j->ju T B.heap l gt->D gt B)->av aI o p D ge h):jv a g b o m j i h p l q n:=λf D ge e f=>c D ge e
def jv.qi(f:bK a i h.heap m b.i t j)(e:al a i u h)(q:∀(B:oz->k->Prop)(ge:U->k->Prop),(∀gt D T,ay [] i gt h D->al a gt n D->ju gt D.heap l T->B T D)->av aI o p B ge h):jv a g b o m j i h p l t n:=λx B ge s x=>q B ge λr af T c v w=>s r af T c.gB (e.ab c) v (f.quiet e c) w
def rQ(a:l.fw=d)(b:I)(c:l=.afU b):b=5:=by rw[c]at a;cases a
def pO{l:da}{P:Prop}(a:l.fw=d)(b:l=.afU 5):P:=by rw[b]at a;cases a
def jv.then(u:jv a g b o m j r af p l q n)(ai:ay j i r h af)(t:b4 i h.heap af.heap)(v:∀gt,l=.afU gt->gt=5)
 (w:∀D B ge,ay j i D h B->b4 i h.heap B.heap->al a D n B->bK a D B.heap m b.i q j->ju D B.heap l ge->kw ge B)
 (x:∀D B T,l=.afU 5->ay j i D h B->b4 i h.heap B.heap->al a D n B->bK a D B.heap m b.i q j->jr g h.heap B.heap .none T->h.heap.get? T=M->T∉D->le (.ref T) B):av aI o p kw le af:=
 u v kw le (λc be ge e f k s y=>w c be ge (ai.eJ e) (t.then ai f) k s y) λc be T z e f k s C E F=>x c be T z (ai.eJ e) (t.then ai f) k s (C.zx λH=>ai.jW) (ai.jW E) F
end
def UK:hX a n e f g b [] []:=
 ⟨λ{q k c r s l h t u i v} w m j x o=>i1 (a:=jv a g b k c l h i (wv [] c)) o (.qi m j λy z p=>tg (p h i .next (ay.refl _ _ _) j G))⟩
def UJ{bq:c}{h:cx}{s:E c}{t:E cx}(u:ha a n e f g b bq h)(B:hX a n e f g b s t):hX a n e f g b (bq::s) (h::t):=by
 refine⟨λ{K L N O P Q R S T U C} m v w o h x V W p y=>Ld ?_⟩;rcases y5 h with⟨X,Y,D,h⟩|⟨F,h⟩
 .refine u.bf m v w o D (λZ q=>by cases q) _ _ (λz af r ai j k l i=>?_) λz af ad q=>by cases q
  exact(show r=.next from i).symm▸((B.bf m l k o h).then ai j x p y)
 .refine u.bf m v w o h x _ _ (λz af r ai j k l i=>?_) y;cases C with
  |next=>cases F
  |cont=>obtain rfl:r=.cont:=i;exact p _ _ _ ai j k l G
  |ret dl=>obtain⟨H,rfl,I⟩:=i;exact p _ _ _ ai j k l ⟨H,G,I⟩
  |afU ge=>exact i.elim
noncomputable def ku(a:a6):ah:=Jr a.ctorIdx 8||Jr 10 a.ctorIdx
def p2(a:ku value=J)(b:j a6)(c:I)(e:b9):BA value b c e=pure d:=by
 cases value<;>first|rfl|cases a
def Vt(l:b7 a n e f b m h):ha a n e f g b (.ret m) (.Return (A h) u):=
 ⟨λ{v w x y z B C D E F H} j c i k h=>Hm h λI K o=>.qi c i λL N p=>wpAny_Return_some (l.bf j c i k o _ _ λq af r ai s t=>p q af _ ai s ⟨r,G,t⟩)⟩
def Vm(l:b7 a n e f b m h)(k:ku h=J):ha a n e f g b (.expr m) (.Expr h u):=
 ⟨λ{v w x y z B C D E F H} i c j o p=>Hi p λI K q=>.qi c j λL N r=>K8 (l.bf i c j o q _ _ λs af O ai t P=>r s af _ ai t G) (by unfold s7;rw[i.kind];rfl) (p2 k _ _ _)⟩
def Vl:ha a n e f g b .cont (.Continue l):=
 ⟨λ{r k c s t m h u v i w} x o j y p=>i1 (a:=jv a g b k c m h i (exec (.Continue l) c)) p (.qi o j λz B q=>wpAny_Continue (q h i _ (ay.refl _ _ _) j G))⟩
def Vo(r:ip a n e f b t u)(s:hX a n e f g b v w)(x:hX a n e f g b y z):ha a n e f g b (.ite t v y) (.If u w z T):=
 ⟨λ{F H I K L N O P Q R S} i l h j c=>Hk c (λB k c m C D o p=>wpAny_If (r.bf i l h j k _ _ λE af ai q=>(s.bf i (l.quiet h ai) q j c).then ai.gB (h.ab ai) m o p))
  λB k c m C D o p=>wpAny_If (r.bf i l h j k _ _ λE af ai q=>(x.bf i (l.quiet h ai) q j c).then ai.gB (h.ab ai) m o p)⟩
def Vj(r:b7 a n e f b t u)(s:b7 a n e f b v w)(x:b7 a n e f b y q)(k:ku q=J):ha a n e f g b (.af9 t v y) (.Assign [.Subscript u w T] q ge):=
 ⟨λ{Q R S U V W X Y Z ad dl} j h c i z=>Hh z λgo gt kw ld le lo mp B C D E=>.qi h c λof F H=>wpAny_Assign_Subscript (x.bf j h c i B _ _ λst af wp ai l I=>r.bf j (h.quiet c ai) l i C _ _ λA1 be A5 m o K=>s.bf j ((h.quiet c ai).quiet l m) o i D _ _ λB0 bz B2 p L N=>
  Zk L i E (o.fW p K) N (o.fW p (l.fW m I)) _ F λdD O P=>H _ dD _ (ai.then (m.then (p.then O))) P G) (p2 k _ _ _)⟩
def Vi(q:c1 a s)(r:∀i,lN s (cX i))(t:b7 a n e f b u v)(w:b7 a n e f b x l)(y:ku l=J):ha a n e f g b (.afY u z x) (.Assign [.Attribute v (cL z) T] l ge):=
 ⟨λ{Q R S U V W X Y Z ad dl} j h c k B=>Hg B λgo gt kw ld i le lo C D E F H I=>.qi h c λmp of K=>KX (w.bf j h c k C _ _ λst af wp ai m L=>t.bf j (h.quiet c ai) m k D _ _ λA1 be A5 o p N=>
  Zh p (p.gd q) (r _) E F I H N (m.fW o L) _ λbz O P=>K _ bz _ (ai.then (o.then O)) P G) (p2 y _ _ _)⟩
end
end
section
set_option backward.match.sparseCases true
noncomputable def SO:a6->ah
 |.Starred _ _=>J
 |_=>d
noncomputable def yd(a:am->j lD)(b:I):a6->j am
 |.Name id e=>if a id==A .local&&e.line==b then A id else M
 |_=>M
noncomputable abbrev Ex(a:bL):I->a6->j am:=yd λid=>a.names.lookup id
noncomputable def sg{c:Type}(b e:E a6)(ns:E am)(f:c)(a:j (E am)->c):c:=
 if(!(b.length==2||b.length==3)||e.length !=b.length)=J then a M
 else if e.any SO=J then a M
 else if(ns.length !=b.length||ns.eraseDups.length !=ns.length)=J then a M
 else if e.all (foldedForSure 8)=J then a M
 else if e.all (constantsAlone 8)=J then f else a (A ns)
noncomputable def p1(c:bL)(a:E a6)(b:a6):j (j (E am)):=
 if e:b.ctorIdx=25 then H6 (motive_1:=λg=>j (j (E am))) b e λf g g=>sg a f (a.filterMap (Ex c ((a.head?.map (·.pos.line)).getD 0))) M A else A M
noncomputable abbrev Ey(a:b9):I->a6->j am:=yd a.kindOf
def Ui(b:cV g h)(a:I):Ey g a=Ex h a:=by
 exact bj (yd · a) (funext b.kindOf)
def ZS(a:j (j (E am))->h)(b c:E a6)(ns:E am):sg b c ns (a M) (λg=>a (A g))=a (sg b c ns M A):=by
 unfold sg;simp only[apply_ite a]
def zd(e:cV b g)(f:p1 g a value=A h):Bz [.Tuple a i l] value b=pure h:=by
 have j:Bz [.Tuple a i l] value b=(p1 g a value).elim (K5 "assign.tuple-of-constant-expressions:order-of-the-stores") pure:=by
  cases value with
  |Tuple c n o=>
   have k:b.blockKind=.function:=by unfold H2;rw[e.kind];rfl
   refine Eq.trans (b:=sg a c (a.filterMap (Ey b ((a.head?.map (·.pos.line)).getD 0))) (K5 "assign.tuple-of-constant-expressions:order-of-the-stores") pure) ?_ ((Ui e _)▸ZS (λm=>m.elim _ pure) a c _);show(if(_||b.blockKind !=.function)=J then _ else _)=_;rw[k,Ky,ql];rfl
  |_=>rfl
 rw[j,f];rfl
end
section
section
variable{b:aq}{n:I}{g:ah->cb}{h:ce}{i:Q}{a:bL}
def bK.vO(e:bK b T ge D a.i gt B)(is:E I):rb a D B B is:=
 ⟨λl c=>c,e.own,λf g h l i j k=>(e.cells f g h i j k).1⟩
def yn(r:jw a s m)(t:b7 b n g h a u o)(k:∀v l,BA o (A m) v l=pure d)(w:∀l,cV l a->Bz [m] o l=pure M)(x:∀l,AW [m] l=[(d,j6 m l)]):
 ha b n g h i a (.agb s u) (.Assign [m] o T):=by
 refine⟨λ{P Q l R S U V W X Y Z} c f e p y=>vE y λad dl ge z j B=>.mk λgo C D=>K6 (t.bf c f e p z _ _ λE af gt ai F H=>?_) (k _ _) (w l c)⟩;rw[x];have q:=f.quiet e ai;exact r.bf (λI=>p.hand (by rw[I,ql]at j;exact j)) c q (q.vO _) F B H _ C λbe K L N O=>D E be .next (ai.gB.eJ K) ((e.ab ai).then ai L) N O G
def R3:∀(m:E I)(o:E L)(l:aK),m.length=o.length->m.Nodup->(m.reverse.zip o.reverse).foldl (λl p=>l.set p.1 (A p.2)) l=(m.zip o).foldl (λl p=>l.set p.1 (A p.2)) l:=by
 intro i
 induction i with
 |nil=>
  intro o l r r;exact G
 |cons b m j=>
  intro k;cases k with
  |nil=>
   intro l a r;cases a
  |cons c o=>
   intro l a e;rw[sM]at e;have g:m.length=o.length:=by simpa using a
   rw[oH,oH,E.zip_append (by rw[oE,oE,g]),E.foldl_append,j o l g e.2,jk,nm];exact h m o l e.1
where
 h:∀(m:E I)(o:E L)(l:aK){b:I}{c:L},b∉m->nq ((m.zip o).foldl (λl p=>l.set p.1 (A p.2)) l) b (A c)=(m.zip o).foldl (λl p=>l.set p.1 (A p.2)) (l.set b (A c))
  |[],_,_,_,_,_=>rfl
  |n::m,[],_,_,_,_=>rfl
  |n::m,q::o,l,b,c,a=>by
   rw[jk,nm,nm,h m o _ (λf=>a (lC _ f)),Jj _ _ (λf=>a (by rw[<-f];exact gZ))]
def No(i:cV w a):∀{t:E I}{x:E (am×dj)}{p:aK}{l:k}{m:E L}{u:E U},iu a t x=J->bK b o l.heap w a.i p y->al b o B l->
 t.length=m.length->aC o l.heap m u->∀(q:e0->k->Prop)(v:U->k->Prop),
 (∀r,ay y o o l r->b4 o l.heap r.heap->al b o B r->bK b o r.heap w a.i ((t.zip m).foldl (λp s=>p.set s.1 (A s.2)) p) y->q () r)->
 av aI ge (Kt (x.map λs=>bindName w s.1) u) q v l:=by
 intro n
 induction n with
 |nil=>
  intro C;cases C with
  |nil=>
   intro p l m u ad f g c j q v h;cases m with
   |cons ad ad=>exact nomatch c
   |nil=>exact Kv (h l (ay.refl _ _ _) (λad ad ad D ad ad=>D) g f)
  |cons ad ad=>
   intro ad ad ad ad e ad ad ad ad ad ad ad;exact nomatch e
 |cons W t F=>
  intro H;cases H with
  |nil=>
   intro ad ad ad ad e ad ad ad ad ad ad ad;exact nomatch e
  |cons s x=>
   intro p l m u e f g c j q v h;cases m with
   |nil=>exact nomatch c
   |cons X m=>
    replace e:=e7.mp e;refine as λad K=>aC.gc.mp j _ λY Z N bB Q=>?_;subst N;exact K (Ku (wpAny_bindName (ZI i g f (bound.at e.1).1 (by rw[i.kindOf];exact(bound.at e.1).2) bB _ _ λaf ai z O P=>F e.2 P O (by simpa using c) (Q.bm (bW.refl _) z) q v λbe R S T V=>h be (ai.eJ R) (z.then ai S) T V)))
theorem CO:∀{l:E I}{m:E (am×dj)},iu a l m=J->iu a l.reverse m.reverse=J
 |[],[],_=>rfl
 |[],_::_,b=>by exact nomatch b
 |_::_,[],b=>by exact nomatch b
 |c::l,e::m,b=>by
  replace b:=e7.mp b;rw[oH,oH];exact f _ _ (CO b.2) b.1
where
 f:∀(l:E I)(m:E (am×dj)){c:I}{e:am×dj},iu a l m=J->bound a c e.1=J->iu a (l++[c]) (m++[e])=J
  |[],[],c,e,_,b=>(vQ _).trans b
  |[],_::_,_,_,b,_=>by exact nomatch b
  |_::_,[],_,_,b,_=>by exact nomatch b
  |g::l,h::m,c,e,b,i=>by
   replace b:=e7.mp b;show(bound a g h.1&&iu a (l++[c]) (m++[e]))=J;rw[b.1,f l m b.2 i];rfl
def Vk(j:iu a is l=J)(y:is.Nodup)(z:b7 b n g h a B m)(C:ku m=J)(D:p1 a (iB l) m=A (A (l.map (·.1)))):
 ha b n g h i a (.agb (.afQ is) B) (.Assign [.Tuple (iB l) p q] m r):=by
 refine⟨λ{Y H k E Z ad dl ge go gt kw} c s f t F=>vE F λld le lo I K L=>.mk λmp N O=>?_⟩;rw[exec_Assign_arm];refine e (kT ((show swapsWithSole [.Tuple (iB l) p q] m r.line k=pure d from p2 C (A (.Tuple (iB l) p q)) r.line k).symm▸(e (aJ ?_))));rw[bZ (by decide)];refine e (z.bf c s f t I _ _ λP af of ai u Q=>(zd c D).symm▸(e (aJ ?_)));unfold assignStores;dsimp only;rw[bO,<-CN j];refine e (lK (e (G9 (t.hand (by simpa[dw.plain]using K):H.handled=M) u L Q _ λbe R st v S w T U=>?_)));have o:=ai.then v;refine Ja▸mq.symm▸(e (No c (CO j) ((s.quiet f ai).quiet u v) S (by rw[oE,oE,w]) T.reverse _ N λbz V W X x=>aJ ?_));rw[R3 is R E w y,<-U]at x;exact O P bz .next (o.gB.eJ V) ((f.ab o).then o W) X x G
def bK.drop(a:bK b T ge le mp wp gt)(c:∀D∈gt,∀B,ge.get? D=A B->kw.get? D=A B)(k:b4 T ge kw):bK b T kw le mp wp gt:=by
 refine as λN l=>a.ns _ λm n o=>?_;obtain⟨B,p,q,r,s⟩:=n;exact l (⟨λN e=>e m ⟨B,p,q,c _ a.own B r,s⟩ λf g t h u=>(o f g t h u).bm (bW.refl _) k λi L v w⟨B,x,y⟩=>⟨B,c i (a.cells f g i h v w).1 B x,y⟩,λD j=>let⟨z,C,B,E⟩:=a.t D j;⟨z,C,B,c D j B E⟩,a.own,(a.cq _ λF B f1 f2 H I K=>λN e=>e F B f1 f2 (c _ f2 _ H) I K),a.cells,a.inj,a.aeJ,a.len⟩)
def Vh(c:lQ a l r)(ad:hL T=r.map (·.1))(dl:k1 b n g h a o gt v s)
 (kw:b7 b n g h (gs a l r) le w) (ld:jw (gs a l r) T s) (lo:nN b n g h (gs a l r) mp x) (of:bound a ge m=J) (st:a.names.lookup m=A .local) (wp:(q.line==t.line)=J) (A1:l.names.any (λ(n,o)=>n==m&&(o==.local||o==.cell))=d):
 ha b n g h i a (.agb (.aa ge) (.comp le T o gt mp)) (.Assign [.Name m q] (.ListComp w [⟨s,v,x,0⟩] l t) go):=by
 refine⟨λ{Ty A5 p B0 TD K B2 TE TI B3 TT} u y z B8 Ch=>vE Ch λL k N B XV C=>?_⟩;revert C;refine DF (o:=λL k=>k6 k B0 (.aa ge) L=A N->jv b i a A5 p K B2 B3 (exec (.Assign [.Name m q] (.ListComp w [⟨s,v,x,0⟩] l t) go) p) .next N k) B λabs agn ago agp agq f agr B Cl C9 Da C=>.mk λD5 O D=>?_;subst Cl;have Fr:BA (.ListComp w [⟨s,v,x,0⟩] l t) (A (.Name m q)) go.line p=pure J:=by
  show(pure (p.blockKind==.function&&p.kindOf m==A .local&&q.line==t.line&&!(l.names.any λ(n,o)=>n==m&&(o==.local||o==.cell))):ef ah)=pure J;rw[((by unfold H2;rw[u.kind];rfl):p.blockKind=.function),u.kindOf,st,wp,A1];rfl
 refine(exec_Assign_Name_used _ _ _ _ Fr).symm▸(e (kT (e (e (fd (Dd c ad dl kw ld lo u y z B8 B C9 Da (A (j6 (.Name m q) p)) (λagv P=>D5 .next P) O λFB af ags Q ai GM Id R S IO KB=>?_) (λagv P KF=>aJ (aJ KF)) λagv agv E=>E)))));have V:=y.quiet z ai;have U:Q∉K:=λKK=>by
  refine as λagv j=>?_;obtain⟨agv,agv,W,F⟩:=y.t _ KK;exact j (no (R.symm.trans F))
 refine(uK (r:=a) (y:=q) of).bf (λKM=>by cases KM) u V (V.vO _) GM C Id _ O λbe H KT Ns On=>as λagv j=>?_;obtain⟨I,W,Os,Pi,F,Pv,P3⟩:=KB;obtain⟨agt,St⟩:=H.data _ _ F S U;have X:∃I,be.heap.Ns Q I:=⟨I,_,Os,Pi,St,Pv,P3⟩;obtain⟨SB,SC⟩:=id X;refine j (⟨SB,SC,λagu Y=>as λagv j=>?_⟩);obtain⟨SL,ST,Z⟩:=Dc (ai.gB.eJ H) Ns R S IO X Y;exact j (D FB _ .next SL (((z.ab ai).then ai KT).then (ai.gB.eJ H) Z) ST (On.drop (λSZ Tm W E=>(Y.2 SZ λD=>U (D▸Tm)).trans E) Z) G)
end
end
mutual
noncomputable def EI:c->ah
 |.raise _ _=>d
 |.agl _ _ _ _=>d
 |.try _ _ _=>d
 |.ite _ b a=>hm b&&hm a
 |.while _ a=>hm a
 |.for _ _ _ a=>hm a
 |_=>J
noncomputable def hm:E c->ah
 |[]=>J
 |a::b=>EI a&&hm b
end
section
def DS{a:da}(b:a.jX=J):a.fw=d:=by cases a<;>first|rfl|cases b
def abB{e:aK->N->j (ah×N)}{c:aK->N->eE}(f:∀g h b,c g h=A b->b.1.fw=d):∀(n:I){g:aK}{h:N}{b:da×aK×N},iE e c n g h=A b->b.1.fw=d:=by
 intro i
 induction i with
 |zero=>
  intro g h b a;exact no a
 |succ n k=>
  intro g h b a;refine b0 a _ λl p q a=>?_;cases l with
  |false=>rw[<-aG (show A _=A b from a)];rfl
  |true=>
   rcases rB a with m|⟨q,a⟩
   .exact m _ λq q q o=>o _ λq q a=>k a
   .exact f _ _ _ a
def R7{e:E dp}{f:dw}{c:aK->N->eE}(j:∀g h b,c g h=A b->b.1.fw=d):∀(i:E L){g:aK}{h:N}{b:da×aK×N},eP e f c i g h=A b->b.1.fw=d:=by
 intro k
 induction k with
 |nil=>
  intro g h b a;rw[<-aG (cf a).2];rfl
 |cons o i l=>
  intro g h b a;refine bh (cf a).2 _ λp q a=>?_;rcases rB a with m|⟨q,a⟩
  .exact m _ λq q q n=>n _ λq q a=>l a
  .exact j _ _ _ a
def uE(h:E c):hm h=J->bt i o p h l m=A g->g.1.fw=d:=
 c.rec_1 (motive_1:=λn=>∀(l:aK)(m:N)(g:da×aK×N),EI n=J->f i o p n l m=A g->g.1.fw=d) (motive_2:=λh=>∀(l:aK)(m:N)(g:da×aK×N),hm h=J->bt i o p h l m=A g->g.1.fw=d)
  (λs k C C C b a=>vE (u:=λe C C=>e.fw=d) a λC C C C C C=>rfl)
  (λt q k C C C b a=>Hh (u:=λe C C=>e.fw=d) a λC C C C C C C C C C C=>rfl)
  (λt w k C C C b a=>Hg (u:=λe C C=>e.fw=d) a λC C C C C C C C C C C C C=>rfl)
  (λk C C C b a=>Hi (u:=λe C C=>e.fw=d) a λC C C=>rfl)
  (λC C C C C C C b C=>nomatch b)
  (λk C C C b a=>Hm (u:=λe C C=>e.fw=d) a λC C C=>rfl)
  (λe x r u j C C C b a=>Hk a (λC C a=>u _ _ _ (e7.mp b).1 a) λC C a=>j _ _ _ (e7.mp b).2 a)
  (λe r j C C C b a=>abB (λl m g i=>j _ _ _ b i) _ a)
  (λs y z r j C C C b a=>Hj a λC C C C C C C C a=>R7 (λl m g i=>j _ _ _ b i) _ a)
  (λC C C b a=>i1 (a:=λe C C=>e.fw=d) a G)
  (λC C C C C b C=>nomatch b)
  (λC C C C C C C C b C=>nomatch b)
  (λB C C C b a=>zv (u:=λe C C=>e.fw=d) a λC C C C C C C C C=>rfl)
  (λC C C b a=>i1 (a:=λe C C=>e.fw=d) a G)
  (λn h q v C C C b a=>(y5 a).elim (λ⟨_,_,_,a⟩=>v _ _ _ (e7.mp b).2 a) λ⟨_,a⟩=>q _ _ _ (e7.mp b).1 a) h _ _ _
section
variable{a:aq}{n:I}{e:ah->cb}{f:ce}{g:Q}{b:bL}
inductive xf(a:aq)(b:bL)(j:b9)(f g:E Q)(h:k)(l:I->aK->N->eE)(m:da×aK×N):I->k->Prop
 |mk {n i o p e} (c:ay f g i h e) (q:b4 g h.heap e.heap) (r:al a i p e) (s:bK a i e.heap j b.i o f) (t:l n o p=some m):xf a b j f g h l m n e
def Vx(h:ip a n e f b r ge)(K:hX a n e f g b i go)(Z:hm i=J):ha a n e f g b (.while r i) (.While ge go [] A5):=by
 refine⟨λ{o B0 L B2 N O P B3 Q R s} t ad dl u c=>.mk λB8 Ch S=>wpAny_While (codeAny_whileLoop (xf a b L O P R (iE (eO o e f r) λv w=>bt o e f i v w) (s,N,Q)) (λj Cl gt=>?_) n8 ⟨ay.refl _ _ _,λGM GM GM c GM GM=>c,dl,ad,c⟩)⟩;obtain⟨ai,kw,x,T,c⟩:=gt;cases j with
 |zero=>exact no c
 |succ j=>
  refine b0 c _ λld C9 le c=>h.bf t T x u le _ _ λlo be y z=>?_;have B:=T.quiet x y;have l:=ai.then y;have C:=kw.then ai (x.ab y);cases ld with
  |false=>
   refine(bZ ml).symm▸?_;obtain⟨rfl,mp⟩:=gv c;obtain⟨rfl,rfl⟩:=jo mp;exact tg (S lo be .next l C z B G)
  |true=>
   refine(cd G).symm▸?_;rcases rB c with U|⟨k,p⟩
   .refine U _ λof Da D5 V=>?_;clear U;refine V _ λp k c=>?_;clear V;refine K.bf t B z u p (rQ (DS k)) _ _ (λq bz D E F H I m=>?_) λq bz st h=>pO (DS k) h;have W:∃X,X<j+1/\xf a b L O P R (iE (eO o e f r) λv w=>bt o e f i v w) (s,N,Q) X bz:=⟨j,jl j,l.eJ E,C.then l F,H,I,c⟩;cases of with
    |next=>rw[show D=.next from m];exact W
    |cont=>rw[show D=.cont from m];exact W
    |_=>exact nomatch k
   .have Y:=uE i Z p;refine K.bf t B z u p (rQ Y) _ _ (λq bz D E F H I m=>?_) λq bz st h=>pO Y h;cases s with
    |ret Fr=>obtain⟨wp,rfl,A1⟩:=m;exact S q bz _ (l.eJ E) (C.then l F) H I ⟨wp,G,A1⟩
    |afU FB=>exact m.elim
    |_=>exact nomatch k
end
end
section
section
variable{a:aq}{n:I}{o:ah->cb}{p:ce}{z:Q}{b:bL}
def ay.ab4(h:ay kw T B ge le)(l:im F B le gt)(r:al a B wp gt)(s:∀D∈F,ge.heap.get? D=.none)(o:∀D∈kw,D∈F\/D∈mp):ay mp T B ge gt:=by
 obtain⟨e5,k,p⟩:=h.ext;have m:∀{b g},ge.heap.get? b=A g->b∉T->b∉B/\b∉F:=λ{b g} c f=>by
  refine⟨λe=>?_,λe=>by rw[s b e]at c;exact nomatch c⟩;rw[k]at e;rcases cE.mp e with e|e
  .exact f e
  .rw[p b e]at c;exact nomatch c
 refine⟨⟨e5,k,p⟩,λb g c t f n=>?_,λb g c f n=>?_,λb g c=>?_,l.gens.trans h.gens,l.drawn.trans h.drawn,l.os.trans h.os⟩
 .obtain⟨j,i⟩:=m c f;exact l.bu b g (h.z b g c t f λe=>(o b e).elim i n) j i
 .obtain⟨j,i⟩:=m c f;obtain⟨u,v⟩:=h.data b g c f λe=>(o b e).elim i n;exact⟨u,l.bu b _ v j i⟩
 .by_cases f:b∈T
  .exact r.cm (by rw[k];exact ji _ f)
  .obtain⟨j,i⟩:=m c f;obtain⟨q,w⟩:=h.cm b g c;exact⟨q,l.bu b q w j i⟩
def w6(a:aq)(n:I)(o:ah->cb)(p:ce)(z:Q)(b:bL)(f:a6)(j:dw)(g:E c)(l:E cx)(h:bF)(i:b9)(m:E Q)(q:U)(F:E Q)(r:E dp)(N:E L->E Q->aq->Prop)(s:E Q)(t:k)(u:Prop):Prop:=jw b j f->hX a n o p z b g l->hm g=J->cC a J n h i->cV i b->eL a h q F r f N->(∀e∈F,(∃v,t.heap.get? e=A v)/\e∉s/\a.get? e=M/\e∉m)->u
inductive w7(a:aq)(b:bL)(j:b9)(g F h:E Q)(i:k)(N:E L->E Q->aq->Prop)(m:E L->aK->Internal.N->eE)(n:da×aK×Internal.N):I->k->Prop
 |mk {l f o p e} (c:ay (F++g) h f i e) (q:b4 h i.heap e.heap) (r:al a f p e) (s:bK a f e.heap j b.i o g) (bq:N l f e.heap) (t:m l o p=some n):w7 a b j g F h i N m n l.length e
def to(a:aq)(b:bL)(l:b9)(g F h:E Q)(i:k)(m:da)(n:aK)(o:Internal.N)(p:iM->k->Prop):Prop:=
 ∀c f e j,ay (F++g) h c i f->(e=f\/im F c f e)->b4 h i.heap e.heap->al a c o e->bK a c e.heap l b.i n g->ju c e.heap m j->p (.ok j) e
section
variable{C:a6}{w:dw}{q:E c}{D:E cx}{r:bF}{j:b9}{h:E Q}{B:U}{F:E Q}{x:E dp}{N:E L->E Q->aq->Prop}{g i:E Q}{f e:k}{u:E L}{l s:Internal.N}{m t:aK}{v:da}{y:iM->k->Prop}
def R8(S:aA (w6 a n o p z b C w q D r j h B F x N g f))(c:ay (F++h) g i f e)(V:b4 g f.heap e.heap)(W:al a i l e)(Q:bK a i e.heap j b.i m h)(bq:N [] i e.heap)
 (K:eP x w (λm l=>bt J o p q m l) [] m l=A (v,t,s)) (L:to a b j h F g f v t s y) (O:U->k->Prop):av aI r (hy B) (λT be=>T=M/\y (.ok .next) be) O e:=by
 refine S _ λmp mp mp mp mp R H=>?_;obtain⟨X,K⟩:=cf K;refine R.done bq W X (λu E=>⟨kv c (H u E).1 (H u E).2.1,(H u E).2.2.1⟩) _ O λbe ao Y=>?_;have P:b4 i e.heap be.heap:=λq T Z I le⟨ad,n,dl⟩=>ao.bu q T I Z λge=>by
  obtain⟨lo,go,gt,mp⟩:=R.cm bq q ge;exact gt ad n (aG (go.symm.trans I)▸dl)
 exact i1 (a:=λkw t s=>to a b j h F g f kw t s y->y (.ok .next) be) K (λL=>L i e be .next c (.inr ao) (V.then c P) Y (Q.drop (λu E T I=>ao.bu u T I (Q.t u E).1 λld=>(H u ld).2.2.2 E) P) G) L
def ju.HC(a:ju i gt T ge):ge≠.brk:=λb=>by
 subst b;cases T with
 |ret c=>obtain⟨e,b,e⟩:=a;cases b
 |afU e=>exact a.elim
 |_=>cases a
def R9(KF:aA (w6 a n o p z b C w q D r j h B F x N g f))(c:ay (F++h) g i f e)(S:b4 g f.heap e.heap)(KK:al a i l e)(KM:bK a i e.heap j b.i m h)(bq:N (mp::u) i e.heap)
 (O:eP x w (λm l=>bt J o p q m l) (mp::u) m l=A (v,t,s)) (KT:to a b j h F g f v t s y) (B2:∀T e,T≠.brk->((T=.next\/T=.cont)->∃S,S<(mp::u).length/\w7 a b j h F g f N (eP x w λm l=>bt J o p q m l) (v,t,s) S e)->(T≠.next->T≠.cont->y (.ok T) e)->of T e) (X:U->k->Prop):
 av aI r (hy B) (λgo be=>∃ge,go=A ge/\av aI r (oU C B ge) (λabs bz=>av aI r (j6 C j ge) (λabs dD=>av aI r (wv D j) of X dD) X bz) X be) X e:=by
 refine KF _ λNs On Os B3 B8 lo P=>?_;refine as λabs Pi=>?_;obtain⟨Pv,O⟩:=cf O;refine bh O _ λP3 St O=>Pi (lo.item bq KK Pv (λH I=>⟨kv c (P H I).1 (P H I).2.1,(P H I).2.2.1⟩) _ _ λge be Ch Cl SB SC SL=>?_);have C9:bK a i be.heap j b.i m h:=KM.bm Ch (λH I K=>(P H K).2.2.2 I) Cl;have st:=c.eJ (Ch.sub λH I=>ji _ I);refine Ns.bf (λabs=>B3.hand G) B8 C9 (C9.vO _) SB (CE St) SC _ _ λbz Da D5 ST SZ=>?_;have wp:=st.eJ (Da.sub λH I=>jj _ I);have h6:∀{i A1:E Q}{e gt:k}{A5:E Q},ay (F++h) g i f e->N u i e.heap->b4 i e.heap gt.heap->ay A5 i A1 e gt->(∀H∈A5,H∈h)->N u A1 gt.heap:=λ{i A1 e gt A5} c bq S Fr Tm=>lo.bu bq Fr.sv S λH I go kw=>Fr.bu H go kw (lo.HD bq H I go kw) (kv c (P H I).1 (P H I).2.1) λK=>(P H I).2.2.2 (Tm H K);have FB:∀{Z ld le},bt J o p q P3 l=A (Z,ld,le)->(∀L dD T,ay (F++h) g L f dD->b4 g f.heap dD.heap->al a L le dD->bK a L dD.heap j b.i ld h->N u L dD.heap->ju L dD.heap Z T->of T dD)->av aI r (wv D j) of X bz:=λ{Z ld le} V Ty=>
  have GM:=uE q Os V
  On.bf B8 SZ ST B3 V (rQ GM) _ _ (λL dD T Y W ad dl R=>Ty L dD T (wp.eJ (Y.sub λH I=>jj _ I)) (((S.then c Cl).then st D5:b4 g f.heap bz.heap).then wp W) ad dl (h6 wp (h6 st SL D5 Da λabs K=>K) W Y λabs K=>K) R) λL dD TT TD=>pO GM TD
 rcases rB O with Id|⟨B0,V⟩
 .refine Id _ λZ ld le IO=>?_;clear Id;refine IO _ λV B0 O=>?_;clear IO;refine FB V λL dD T Y W ad dl KB R=>B2 T dD (ju.HC R) (λabs=>⟨_,jl _,Y,W,ad,dl,KB,O⟩) λTE TI=>?_;cases Z with
  |next=>exact bC R TE
  |cont=>exact bC R TI
  |_=>cases B0
 .refine FB V λL dD T Y W ad dl KB R=>B2 T dD (ju.HC R) (λK=>?_) λabs abs=>KT L dD dD _ Y (.inl rfl) W ad dl R;cases v with
  |ret mp=>obtain⟨ge,kw,abs⟩:=R;rw[kw]at K;rcases K with K|K<;>cases K
  |afU XV=>exact R.elim
  |_=>cases B0
set_option tactic.hygienic true in
def R_(K:aA (w6 a n o p z b C w q D r j h B F x N g f))
 (R:al a g ge f) (S:bK a g f.heap j b.i go h) (U:N T g f.heap) (E:eP x w (λm l=>bt J o p q m l) T go ge=A (v,t,s)) (L:to a b j h F g f v t s y):
 hx aI r (.forLoop C B D [] j) y f:=by
 refine codeAny_forLoop_any (w7 a b j h F g f N (eP x w λm l=>bt J o p q m l) (v,t,s)) (λI e V=>?_) T.length ⟨ay.refl _ _ _,λdl dl dl k dl dl=>k,R,S,U,E⟩;obtain⟨c,I,O,P,bq,E⟩:=V
 rename_i u i m l
 cases u with
 |nil=>exact fd (R8 K c I O P bq E L _) (λW be H=>H.1▸tg H.2) λdl dl k=>k
 |cons X u=>
  refine fd (R9 K c I O P bq E L (λY e a Q Z=>?_) _) (λW be H=>by obtain⟨ad,rfl,H⟩:=H;exact H) λdl dl k=>k;cases Y with
  |next=>exact Q (.inl rfl)
  |cont=>exact Q (.inr rfl)
  |ret X=>exact Z nofun nofun
  |brk=>exact bC G a
end
def Vn(t:k1 a n o p b T ge go u)(H:jw b gt u)(I:hX a n o p z b g kw)(K:hm g=J):ha a n o p z b (.for gt T ge g) (.For u go kw [] mp):=by
 refine⟨λ{v of L st wp l O A1 A5 w B0} x m q y e=>Hj e λB2 B3 B8 Ch Cl P Q R e=>.mk λC9 Da S=>?_⟩;subst Q;refine wpAny_For (t.bf x m q y P R _ _ λD5 af Fr F N ai U j B bq FB=>?_) (t.fold L);have V:∀c∈F,c∉l:=λc h v=>by
  obtain⟨FB,FB,f,r⟩:=m.t c v;exact no ((j c h).1.symm.trans r)
 refine R_ (λFB W=>W H I K y x B λc h=>⟨let⟨f,r,_⟩:=B.cm bq c h;⟨f,r⟩,(j c h).2.1,(j c h).2.2,V c h⟩) U (m.quiet q ai) bq e λC be bz X Y Z ad D dl ld=>?_;have i:ay (F++l) O C w be:=ai.gB.eJ Y;refine S C bz X ?_ ((q.ab ai).then ai ad) D dl ld;rcases Z with rfl|le
 .have E:∀g f,w.heap.get? g=A f->g∉l->g∉F++l:=λg f e k a=>(cE.mp a).elim (λa=>no ((j g a).1.symm.trans e)) k;exact⟨i.ext,λg f e lo s k=>i.z g f e lo s (E g f e k),λg f e s k=>i.data g f e s (E g f e k),i.cm,i.gens,i.drawn,i.os⟩
 .exact i.ab4 le D (λc h=>(j c h).1) λc h=>cE.mp h
end
end
section
section
variable{a:aq}{n:I}{c:ah->cb}{e:ce}{g:Q}{f:bL}{b:dy}
def G8(a:bF)(b:Q)(c:E U):(a.under (.builtin "type.__call__" ⟨.ref b::c,[]⟩)).depth=a.depth+1/\(a.under (.builtin "type.__call__" ⟨.ref b::c,[]⟩)).units=a.units+1/\
 (a.under (.builtin "type.__call__" ⟨.ref b::c,[]⟩)).frames=a.frames/\(a.under (.builtin "type.__call__" ⟨.ref b::c,[]⟩)).guards=a.guards/\(a.under (.builtin "type.__call__" ⟨.ref b::c,[]⟩)).handled=a.handled:=by
 refine⟨?_,?_,?_,?_,G⟩
 .show a.depth+_=_
  congr 1
 .show a.units+(1+3*(HX "type.__call__" ⟨.ref b::c,[]⟩).frames)=_;exact(((by kernel_rfl):(HX "type.__call__" ⟨.ref b::c,[]⟩).frames=0)).symm▸G
 .kernel_rfl
 .kernel_rfl
def BY(a:aq)(n:I)(e:ce):Prop:=
 ∀(c:bF)(g:b9)(h:I)(b:E Q)(i j:N)(f:k)(l:E L)(m:E U)(o:L),cC a J n c g->aA (q4 g a b f.heap)->al a b i f->aC b f.heap l m->e h l i=A (o,j)->cs a c b f (eu (.ref (cX h)) m) o j
def Up(V:c1 a b){b1:I->Q}{t:I->I}(W:mA a n c b1 g)(f:∀e,s_ b (cX e)=J)(Y:∀e,gD b (.ref (cX e)) "__init__"=A (A (.ref (b1 (t e)))))
 (Z:∀e,kR b (.ref (b1 (t e)))=A (.type "function")) {r:bF} {D:b9} {e:I} {s:E Q} {h F:N} {l:k} {v:E L} {o:E U} (p:cC a J n r D) (ad:aA (q4 D a s l.heap)) (q:al a s h l) (dl:aC s l.heap v o) (ge:c J (t e) (.ref (h.length+1)::v) (h++[.afS [],.c8 e h.length])=A (.ret .none,F)) {H:U->k->Prop} {go:U->k->Prop} (gt:∀w u T,ay [] s w l u->al a w F u->aF w u.heap (.ref (h.length+1)) T->H T u):av aI r (eu (.ref (cX e)) o) H go l:=by
 have X:=q.gd V;have x:=q.qf ii (.afS []) (λId i=>i [] 0 (dt _ G) .nil);have K:=x.1.qf (wz (cX e) l.heap.objs.size) (.c8 e h.length) (λId i=>i l.heap.objs.size (by rw[<-q.len];simp) (dt _ G));have R:=x.2.then K.2;have y:(l.heap.push ii).objs.size=l.heap.objs.size+1:=jf ..;refine as λId j=>?_;obtain⟨m,Cl,C9,Da,os⟩:=l;refine j (nC (make_core (makes_of X (f e)) (wF X (Y e)) (λself=>bind_fn X self (Z e)) (.inl rfl) (as λId j=>?_)));obtain⟨kw,ez,ld,le,ib⟩:=G8 r (cX e) o;refine j ?_;have lo:mD (r.under (.builtin "type.__call__" ⟨.ref (cX e)::o,[]⟩)) (s++[m.objs.size]++[(m.push ii).objs.size]) ((m.push ii).push (wz (cX e) m.objs.size)):=by
  refine as λId j=>p.sr q ad _ λmp of f1 f2=>j (λId i=>i (bG mp (by simp only[jf];exact(d8 _ 2))) of (ld.trans f1) λst wp=>as λId j=>f2 st wp _ λA1 O A5 g1 g2 g3 dM eX=>j ?_);have P:O<m.objs.size:=du g3;refineλId i=>i A1 O A5 g1 (λf=>?_) (bU _ (bU _ g3)) dM eX;rcases cE.mp f with f|f
  .rcases cE.mp f with f|f
   .exact g2 f
   .rw[b2]at f;exact ee P f
  .rw[b2,y]at f;exact ee (sT P) f
 have D5:=x.1.len;have z:=q.len;refine W J _ (t e) _ _ _ _ (.ref (h.length+1)::v) (.ref (m.objs.size+1)::o) (.ret .none) (⟨by rw[kw];have:=p.depth;exact VH this,by rw[ez];have:=p.units;exact VI this,by rw[le];exact p.guards,λB=>by rw[ib];exact p.hand B,by rw[ib];exact p.quiet⟩:mJ a J n (r.under (.builtin "type.__call__" ⟨.ref (cX e)::o,[]⟩))) lo K.1 (aC.mk (λId i=>i _ ?_ G) (q.iH R dl)) (by rw[((by simp):(h++[.afS []])++[.c8 e h.length]=h++[.afS [],.c8 e h.length])];exact ge) (λId B=>by cases B) _ (λC bz Fr FB B0 S B2 B3=>?_) λC bz GM B8=>by cases B8
 .rw[<-z,<-y];simp
 .cases B0;refine⟨B3,?_⟩;have Ch:C[h.length+1]?=A (m.objs.size+1):=by
   refine as λId j=>?_;obtain⟨e5,bM,Id⟩:=S.ext;refine j ?_;rw[bM,eK (by simp;exact VJ z),<-z,<-y];simp
  exact gt C bz _ (R.then S) B2 (λId i=>i _ Ch G)
def Uo(f:c1 a b)(j:mA a n c b1 g)(k:∀h,s_ b (cX h)=J)(l:∀h,gD b (.ref (cX h)) "__init__"=A (A (.ref (b1 (i h)))))
 (m:∀h,kR b (.ref (b1 (i h)))=A (.type "function")):BY a n (rP (c J) i):=by
 intro o B h p C D q E r F s t u v e;refine as λL w=>b0 e _ λx H y e=>w ?_;cases x with
 |none=>
  exact dF (c:=cs a o p q (eu (.ref (cX h)) r)) e λI K z=>Up f j k l m s t u v (pV y) z
 |_=>exact no e
def U6(j:c1 a b)(q:BY a n e)(l:hD a n c e f r s)(t:f.names.lookup h=A .globalImplicit)(u:bw.cB h=A (.ref (cX i)))(v:(h==("__debug__":am))=d)
 (w:oT b (.ref (cX i))=J):b7 a n c e f (.new i r) (.Call (.Name h T) s [] ge):=by
 refine⟨λ{U x y V W X Y z Z B} k m g o C=>PG C λD E F H I ad dl K=>?_⟩;subst H;refine qW (xW j k g t u v (kj l.aeD (l.bf k m g o F _ _ λL af N ai p O=>⟨λgo P=>?_,(q x y i L E z af D N B o (m.quiet g ai).cm p O I).then ai K⟩)));obtain⟨Q,R,S⟩:=looks_keep w (p.gd j);exact S.here (P Q R)
end
end
section
def N3:∀(h:E (am×lD))(n:I)(g:E (am×Q))(b:am),((b,oJ)∈h\/(g.lookup b).isSome=J)->((s5 n h g).lookup b).isSome=J:=by
 intro e
 induction e with
 |nil=>
  intro o g b a;rcases a with a|a
  .cases a
  .exact a
 |cons f l c=>
  obtain⟨i,m⟩:=f;intro n g b a;unfold s5
  split
  .refine c _ _ b ?_;rw[fX];cases j:b==i with
   |true=>exact .inr rfl
   |false=>
    rcases a with a|a
    .rcases em.mp a with a|a
     .cases a;simp at j
     .exact .inl a
    .exact .inr a
  .rename_i k
   refine c n g b ?_;rcases a with a|a
   .rcases em.mp a with a|a
    .cases a;simp at k
    .exact .inl a
   .exact .inr a
noncomputable def i0(a:bL)(c:I)(b:E am):ah:=
 decide (a.i.length=c)&&pv a.i&&decide (b.length<=c)&&(a.i.take b.length==b.map A)&&
 a.i.all (λf=>match f with|none=>J|some e=>decide (a.names.lookup e=A .local)||decide (a.names.lookup e=A .cell))
section
variable{f:aq}{i:bF}{h:U->k->Prop}{a:E Q}{g:N}{b:bL}
def X0(N:cV D b)(O:am×U->sW->ef (zV sW))(V:∀n T go,O (n,T) go=(do oX D n T;pure (.yield ⟨⟩))):
 ∀(x:E am)(m:I)(o:E L)(y:E U)(p:aK)(q:k)(u:sW->k->Prop),bK f a q.heap D b.i p ge->al f a g q->x.length=o.length->aC a q.heap o y->
  (∀l r,x[l]?=A r->b.i[m+l]?=A (A r)/\b.names.lookup r≠A .free)->
  (∀s v,ay ge a a q s->al f a g s->bK f a s.heap D b.i v ge->v.length=p.length->(∀l,v[l]?=if m<=l/\l<m+o.length/\l<p.length then A o[l-m]?else p[l]?)->(∀t,t∉ge->s.heap.get? t=q.heap.get? t)->u ⟨⟩ s)->
  av aI i (forIn (x.zip y) ⟨⟩ O) u h q:=by
 intro W
 induction W with
 |nil=>
  intro m o y p q u z C j P B F;cases o with
  |cons A5 A5=>cases j
  |nil=>
   rw[E.zip_nil_left,I2];exact aJ (F q p (ay.refl _ _ _) C z G (λl=>by rw[bZ (by simp;exact(λr H=>bC H (hv.mpr r)))]) λA5 A5=>rfl)
 |cons r x X=>
  intro m o y p q u z C j P B F;cases o with
  |nil=>cases j
  |cons T o=>
   refine as λA5 Y=>aC.gc.mp P _ λA1 Z ad bB dl=>?_;subst ad;refine Y ?_;rw[jk,Ae,V];have Q:b.i[m]?=A (A r):=(B 0 r G).1;refine e (e (GN N C z Q (by rw[N.kindOf];exact((B 0 r G).2)) bB _ h λaf ai gt kw ld le=>aJ (X (m+1) o Z _ af u ld kw (by simpa using j) (dl.bm (bW.refl _) gt) (λl H lo=>by
    have:=B (l+1) H (by simpa using lo);rwa[show m+(l+1)=m+1+l by exact uZ]at this) λs v c mp of R st wp=>?_)))
   rw[fJ]at R;refine F s v (ai.eJ c) mp of R (λl=>?_) λt f=>(wp t f).trans (le t f);rw[st l,fJ];have S:m<p.length:=by rw[<-z.len];exact(d6.mp Q).1
   by_cases w:m+1<=l/\l<m+1+o.length/\l<p.length
   .rw[cd w,cd (by simp only[gY];exact VK w)];rw[show l-m=(l-(m+1))+1 by exact(((bj (·+1) (JM _ _ 1)).trans (JL (JO w.1))).symm),Ag]
   .rw[bZ w];by_cases K:l=m
    .subst K;rw[cd (by simp only[gY];exact VL S),JP,v3 S];rfl
    .rw[oD (dA K),bZ (by simp only[gY];exact VM w K)]
def Cn(F:cV s b)(t:am×U->sW->ef (zV sW))(H:∀n z T,t (n,z) T=(do oX s n z;pure (.yield ⟨⟩)))(u:i0 b r m=J)(K:bK f a o.heap s b.i (hu r M) v)(L:al f a g o)(B:m.length=p.length)(N:aC a o.heap p D)
 (O:∀l,ay v a a o l->al f a g l->bK f a l.heap s b.i (e3 r p) v->(∀w,w∉v->l.heap.get? w=o.heap.get? w)->ge ⟨⟩ l):av aI i (forIn (m.zip D) ⟨⟩ t) ge h o:=by
 unfold i0 at u;simp only[eB,j8,di,oP]at u;obtain⟨⟨⟨⟨P,kw⟩,Q⟩,R⟩,S⟩:=u;refine X0 (a:=a) (g:=g) F t H m 0 p D _ _ _ K L B N (λj x C=>?_) λl V c W X gt Y Z=>?_
 .have y:(b.i.take m.length)[j]?=A (A x):=by rw[R,j3,C];rfl
  rw[Ai ((d6.mp C).1:j<m.length)]at y;rw[g4];refine⟨y,λad=>?_⟩;have:=S _ (d7 y);have dl:b.names.lookup x=A .local\/b.names.lookup x=A .cell:=by simpa using this
  rcases dl with q|q<;>rw[ad]at q<;>exact nomatch q
 .have go:V=e3 r p:=by
   apply E.ext_getElem?;intro j;rw[Y j];unfold e3;simp only[An,fY,true_and,g4,JQ];by_cases e:j<p.length
   .rw[cd ⟨e,E0 e B Q P⟩,eK (by simpa using e),j3,e8 e];rfl
   .rw[bZ (λq=>e q.1),qr (by simpa using hv.mp e),bO];simp only[E.getElem?_replicate];by_cases k:j<r
    .rw[cd k,cd (I.sub_lt_sub_right (lE e) k)]
    .rw[bZ k,bZ (hv.mpr (I.sub_le_sub_right (lE k) _))]
  subst go;exact O l c W X Z
def Du{scope:g5}{R:E am}{S:E L}{ge:E U}{l:k}{T:I}{go:am}{func:j Q}{kP:U}{gt:b9->k->Prop}(of:bw.ls<=l.heap.objs.size)(st:scope.kind=.function)(V:b.names=scope.names)(K:i0 b T R=J)
 (Y:al f a g l) (wp:aC a l.heap S ge) (N:R.length=S.length)
 (A1:∀r x kw,cV r b->r.scope=scope->r.frame=A r.locals->ay [] a a l x->al f a g x->bK f a x.heap r b.i (e3 T S) kw->(∀q∈kw,l.heap.get? q=M)->(∀p o,l.heap.get? p=A o->x.heap.get? p=A o)->gt r x):
 av aI i (tc scope eN [] (R.zip ge) go func kP M g6) gt h l:=by
 have A5:=K;unfold i0 at K;simp only[eB,j8,di,oP]at K;obtain⟨⟨⟨⟨B0,ld⟩,Ns⟩,On⟩,B2⟩:=K;have kinds:∀(t:I)(m:am),b.i[t]?=A (A m)->b.names.lookup m=A .local\/b.names.lookup m=A .cell:=λt m W=>by
  have:=B2 _ (d7 W);simpa using this
 simp only[tc,j.isSome_none,j0,g7];refine e (La (e (Lk _ (λOs B3 Pi=>by cases X:B3==oJ<;>simp[X]) _ _ _ _ ?_)));generalize le:s5 ({l with heap:=l.heap.push {cls:=.type "frame",data:=.dict #[]}}:k).heap.objs.size scope.names []=y;have Z:({l with heap:=l.heap.push {cls:=.type "frame",data:=.dict #[]}}:k).heap.objs.size=l.heap.objs.size+1:=jf ..;have ok:=cellsFrom_ok scope.names (l.heap.push {cls:=.type "frame",data:=.dict #[]}) (l.heap.objs.size+1) [] ⟨λSt St B8=>(nomatch B8),ac_⟩ (by rw[jf];exact c_ _);rw[show(l.heap.push {cls:=.type "frame",data:=.dict #[]}).objs.size=l.heap.objs.size+1 from jf ..,<-Z,le,Z]at ok;generalize Ch:wL (l.heap.push {cls:=.type "frame",data:=.dict #[]}) scope.names=z at ok;have ad:∀p o,(l.heap.push {cls:=.type "frame",data:=.dict #[]}).get? p=A o->z.get? p=A o:=λp o n=>by rw[<-Ch];exact pushCells_keeps _ _ p o n
 have O:∀p o,l.heap.get? p=A o->z.get? p=A o:=λp o n=>ad p o (bU _ n);have lo:∀q,l.heap.objs.size<=q->l.heap.get? q=M:=λq u=>by
  cases n:l.heap.get? q with
  |none=>rfl
  |some o=>exact bC (du n) (hv.mpr u)
 have mp:z.get? l.heap.objs.size=A {cls:=.type "frame",data:=.dict #[]}:=ad _ _ (dt _ G);have Cl:ay [] a a l {l with heap:=z}:=ay.bm a l l.toks O;have C9:al f a g {l with heap:=z}:=Y.bm l.toks O;let r:b9:={scope:=scope,locals:=l.heap.objs.size,globals:=eN,cells:=y,qual:=go,func:=func,code:=kP,frame:=A l.heap.objs.size,builtins:=g6};have D:cV r b:=⟨st,G,G,V.symm⟩;have fresh:∀q∈l.heap.objs.size::scope.names.filterMap (λB=>y.lookup B.1),l.heap.get? q=M/\∃o,z.get? q=A o:=λq u=>by
  rcases em.mp u with rfl|u
  .exact⟨lo _ (c_ _),_,mp⟩
  .obtain⟨B,Pv,n⟩:=oG.mp u;obtain⟨⟨o,Da,St⟩,D5⟩:=ok.empty B.1 q (ta n);exact⟨lo _ (sR D5),o,Da⟩
 have cellAt:∀(t:I)(m:am),b.i[t]?=A (A m)->r.kindOf m≠A .local->∃s,y.lookup m=A s/\r.kindOf m=A .cell:=λt m W P=>by
  rcases kinds t m W with w|w
  .exact bC (D.mh w) P
  .obtain⟨s,v⟩:=kO.mp (N3 scope.names (l.heap.objs.size+1) [] m (.inl (by rw[<-V];exact m3 w)));rw[<-Z,le]at v;exact⟨s,v,D.mh w⟩
 have Fr:bK f a z r b.i (hu T M) (l.heap.objs.size::scope.names.filterMap (λB=>y.lookup B.1)):=by
  refine⟨λSt dl=>dl _ ((Im l.heap (.type "frame")).keeps ad) λt m FB F H=>?_,λq u=>?_,gZ,λSt dl=>dl _ _ G gZ mp ⟨G,of⟩ ⟨_,⟨_,G⟩⟩,λt m s F P v=>?_,λt GM m B s F Id P P3 v IO=>?_,t1 ld,by rw[An];exact B0⟩
  .have:FB=M:=by
    have:=d7 H;exact(Ar.mp this).2
   subst this;by_cases N:r.kindOf m=A .local
   .exact .inl N (λKB H=>by exact nomatch H)
   .obtain⟨s,v,X⟩:=cellAt t m F N;exact .inr (.inl X) s M v ((ok.empty m s (ta v)).1) (λKB H=>by exact nomatch H)
  .obtain⟨C,o,KF⟩:=fresh q u;exact⟨Y.nc C,Y.lq C,o,KF⟩
  .have C:y.lookup m=A s:=v;refine⟨.tail _ (oG.mpr ?_),λn=>?_⟩
   .rcases kinds t m F with w|w
    .exact bC (D.mh w) P
    .exact⟨(m,.cell),by rw[<-V];exact m3 w,C⟩
   .have:=(ok.empty m s (ta C)).2;rw[(n:s=l.heap.objs.size)]at this;exact bC this (by show¬(l.heap.objs.size+1<=l.heap.objs.size);exact(I.not_succ_le_self _))
  .have C:y.lookup m=A s:=v;have:=name_of_addr ok.apart (ta C) (ta (IO:y.lookup B=A s));subst this;exact t1 ld t GM m F Id
 refine e (Cn (s:=r) (a:=a) (g:=g) D _ (λSt St St=>rfl) A5 Fr C9 N (wp.bm (bW.refl _) λp o St n St St=>O p o n) λx c KK KM KT=>aJ (A1 r x _ D G rfl ?_ KK KM (λq u=>(fresh q u).1) λp o n=>(KT p λf=>?_).trans (O p o n)))
 .exact Cl.trans c λq u=>.inr (fresh q u).1
 .rw[(fresh p f).1]at n;exact nomatch n
def O_{scope:g5}{p:E am}{q:E L}{c:E U}{e:k}{n:I}{t:am}{func:j Q}{kP:U}{s:b9->k->Prop}(u:bw.ls<=e.heap.objs.size)(v:scope.kind=.function)(w:b.names=scope.names)(x:i0 b n p=J)
 (y:al f a g e) (z:aC a e.heap q c) (B:p.length=q.length)
 (C:∀l m o,cV l b->l.scope=scope->l.frame=A l.locals->ay [] a a e m->al f a g m->bK f a m.heap l b.i (e3 n q) o->(∀r∈o,e.heap.get? r=M)->s l m):
 av aI i (tc scope eN [] (p.zip c) t func kP M g6) s h e:=
 Du u v w x y z B λl m o r D F H K N O P=>C l m o r D F H K N O
end
end
section
structure o7(ax:j1)(a:E am)(body:E cx)(b:E (am×Q):=[]):Prop where
 pos:ax.params.posonlyargs=[]
 afF:ax.params.kwonlyargs=[]
 var:ax.params.vararg=M
 afE:ax.params.kwarg=M
 mi:ax.params.args.map (·.arg)=a
 vM:a.Nodup
 afx:ax.defaults=.none
 body:ax.body=.stmts body
 afa:ax.closure=b
 aga:ax.globals=eN
 ae_:ax.builtins=g6
 kind:ax.scope.kind=.function
 aeX:ax.scope.isCoroutine=d
 gen:ax.scope.isGenerator=d
def abV:∀{a:E am}{g:E U}{b:am},a.length=g.length->b∈a->((a.zip g).lookup b).isSome=J:=by
 intro h
 induction h with
 |nil=>
  intro n n n c;cases c
 |cons i a j=>
  intro k;cases k with
  |nil=>
   intro n e n;cases e
  |cons m g=>
   intro b e c;rw[jk,fX];cases f:b==i with
   |true=>rfl
   |false=>exact j (by simpa using e) ((em.mp c).resolve_left λl=>by rw[l]at f;simp at f)
def abT:∀(a:E am)(b:E U)(g:E (am×U)),a.length=b.length->a.Nodup->(∀h∈a.zip b,g.lookup h.1=A h.2)->a.filterMap (λn=>(g.lookup n).map (n,·))=a.zip b:=by
 intro k
 induction k with
 |nil=>
  intro p p p p p;exact G
 |cons e a l=>
  intro m;cases m with
  |nil=>
   intro p c p p;exact nomatch c
  |cons f b=>
   intro g c i j;rw[sM]at i;rw[E.filterMap_cons,j (e,f) (by rw[jk];exact gZ),jk];show(e,f)::_=_;rw[l b g (by simpa using c) i.2 λh o=>j h (by rw[jk];exact lC _ o)]
theorem Hr:∀{g:E am}{h:E U},g.Nodup->∀b∈g.zip h,(g.zip h).lookup b.1=A b.2
 |[],_,_,b,a=>by cases a
 |c::g,[],_,b,a=>by cases a
 |c::g,i::h,e,b,a=>by
  rw[sM]at e;rw[jk]at a⊢;rw[fX];rcases em.mp a with rfl|a
  .simp
  .have:b.1∈g:=(Jf a).1;exact(nx.mpr λ(f:b.1=c)=>e.1 (by rw[<-f];exact this)).symm▸(Hr e.2 b a)
def aaz{e:Type}{a b:Prop}[oy a][oy b]{f g c:e}(h:¬a)(i:¬b):(if a then f else if b then g else c)=c:=(bZ h).trans (bZ i)
def Nl(a1 c:am)(b:E lx)(h:E (j a6))(i:E a6)(k:zW)(l:g5)(m:Q)(o:E (am×Q))(p q r:U)(H:j Q)(s t:U)(u:Q)(e:E U)(f:E U)(v:f=Aa (0-(b.map λa:lx=>a.arg).length) ([]:E U)):
 ∃w x,AY ⟨a1,c,⟨[],b,M,[],h,M,i⟩,k,l,m,o,.none,p,q,r,H,s,t,u⟩ ⟨e,[]⟩=if(decide (e.length>(b.map λa:lx=>a.arg).length)&&J)=J then w else
  if(!(((b.map λa:lx=>a.arg).take ((b.map λa:lx=>a.arg).length-f.length)).filter λn=>(((b.map λa:lx=>a.arg).zip e).lookup n).isNone).isEmpty)=J then x else(forIn (m:=ef) ((Aa ((b.map λa:lx=>a.arg).length-f.length) (b.map λa:lx=>a.arg)).zip f) ((b.map λa:lx=>a.arg).zip e) λa g=>
   if(jh a.fst g).isNone=J then pure (nk (g++[(a.fst,a.snd)]))else pure (nk g))>>=λg=>pure (((b.map λa:lx=>a.arg)++[]).filterMap λn=>(g.lookup n).map (n,·)):=by
 subst v;exact⟨_,_,G⟩
def tM{ax:j1}{b:E am}{body:E cx}{i:E (am×Q)}(P:o7 ax b body i){a:E U}(c:b.length=a.length):AY ax ⟨a,[]⟩=pure (b.zip a):=by
 obtain⟨a1,e,⟨k,f,l,m,n,dN,o⟩,p,q,r,s,t,u,v,w,H,x,y,z⟩:=ax;obtain rfl:k=[]:=P.pos;obtain rfl:m=[]:=P.afF;obtain rfl:l=M:=P.var;obtain rfl:dN=M:=P.afE;obtain rfl:t=.none:=P.afx;obtain rfl:f.map (·.arg)=b:=P.mi;have g:=P.vM;clear P;obtain⟨D,F,h⟩:=Nl a1 e f n o p q r s u v w H x y z a [] Ac.symm;rw[h];clear h;generalize f.map (·.arg)=B at g c;refine(aaz (by rw[c,kL a.length|>dU];exact ml) ?_).trans ?_
 .rw[E.filter_eq_nil_iff.mpr λI C=>by rw[j.isNone_iff_eq_none];exactλe=>by have:=abV c (E.mem_of_mem_take C);rw[e]at this;cases this];exact ml
 .rw[E.zip_nil_right,gX];exact bj (pure (f:=ef)) (abT B a _ c g (Hr g))
noncomputable def pu(a:aq)(b:Q->ah):aq:={a with objs:=a.objs.mapIdx λc e=>if b c then e else{cls:=.none,data:=.freed}}
def tY(e:aq)(b:Q->ah)(a:Q):(pu e b).get? a=if b a then e.get? a else M:=by
 unfold pu Io;dsimp only;rw[ch.getElem?_mapIdx];cases e.objs[a]?with
 |none=>cases b a<;>rfl
 |some f=>cases c:b a<;>simp[c]
section
variable{a:aq}{e:E Q}{f:N}{b:k}{g:dy}
noncomputable def ir(a c:aq)(e:E Q):aq:=pu c λb=>e.contains b||(a.get? b).isSome
def tJ(b:(ir a i l).get? h=A m):i.get? h=A m/\(h∈l\/∃o,a.get? h=A o):=by
 unfold ir at b;rw[tY]at b
 split at b
 .rename_i c
  rw[sy,z9,kO]at c;exact⟨b,c⟩
 .exact nomatch b
def lU(b:h∈i\/∃l,a.get? h=A l):(ir a m i).get? h=m.get? h:=by
 unfold ir;rw[tY];refine cd ?_;rw[sy,z9,kO];exact b
theorem al.ox(g:al a e f b)(k:∀B∈D,B∉e):al (ir a b.heap D) e f b where
 z l h c _:=(tJ c).1
 data l h c:=⟨h.slots,(tJ c).1⟩
 len:=g.len
 aeA:=g.aeA
 fresh B j:=by
  cases m:(ir a b.heap D).get? B with
  |none=>rfl
  |some h=>
   rcases(tJ m).2 with i|⟨n,i⟩
   .exact bC j (k B i)
   .exact bC j (g.lv i)
 obj:=g.obj
theorem al.vK(l:al a e f b)(g:al (ir a b.heap ge) B D T):al a B D T where
 z h c i k:=g.z h c ((lU (.inr ⟨c,i⟩)).trans (l.z h c i k)) k
 data h c i:=by
  obtain⟨o,j⟩:=l.data h c i;obtain⟨p,q⟩:=g.data h _ ((lU (.inr ⟨c,i⟩)).trans j);exact⟨p,q⟩
 len:=g.len
 aeA:=g.aeA
 fresh m r:=by
  cases n:a.get? m with
  |none=>rfl
  |some c=>
   obtain⟨o,j⟩:=l.data m c n;exact bC r (g.lv ((lU (.inr ⟨c,n⟩)).trans j))
 obj:=g.obj
def c1.ox(l:c1 a g)(p:al a e f b)(k:E Q):c1 (ir a b.heap k) g:=by
 have up:∀i h,a.get? i=A h->h.cls≠.type "frame"->(ir a b.heap k).get? i=A h:=λi h c r=>(lU (.inr ⟨h,c⟩)).trans (p.bu i h c r);have ns:∀{j m},a.Ns j m->(ir a b.heap k).Ns j m:=λ{j m} n=>by
  refine as λz o=>?_;obtain⟨h,s,t,q,u⟩:=n;obtain⟨y,c⟩:=p.data j h q;exact o (⟨_,s,t,(lU (.inr ⟨h,q⟩)).trans c,u⟩)
 refine as λz o=>?_;obtain⟨v,sub,w,x⟩:=l.base.lu;exact o (⟨⟨⟨v,λi h c=>⟨up i h (sub i h c).1 (sub i h c).2,(sub i h c).2⟩,w,x⟩,l.base.tree⟩,ns l.g,l.afl,ns l.b,l.ae9,λj h c=>up j h (l.gd j h c) (l.afl j h c)⟩)
def f3.acc(a:f3 e B D T)(b:B.get? D=A ge):∀gt,ge.data≠.fields gt:=by
 cases T with
 |list f=>refine a _ λl g l=>?_;clear a;obtain⟨l,B⟩:=g;rw[b]at B;obtain rfl:=aG B;simp
 |afP f=>refine a _ λl h l=>?_;clear a;obtain⟨l,l,l,B,l,c,l⟩:=h;rw[b]at B;obtain rfl:=aG B;rw[c];simp
 |afM f=>refine a _ λl i l l=>?_;clear a;obtain⟨l,l,l,B,l,c,l⟩:=i;rw[b]at B;obtain rfl:=aG B;rw[c];simp
 |afT=>obtain⟨l,l,B⟩:=a;rw[b]at B;obtain rfl:=aG B;simp
 |arg=>refine a _ λl l l B c=>?_;clear a;rw[b]at B;obtain rfl:=aG B;rw[c];simp
 |c8 j k=>refine a _ λl l B=>?_;clear a;rw[b]at B;obtain rfl:=aG B;simp
 |afS f=>refine a _ λl l B l=>?_;clear a;rw[b]at B;obtain rfl:=aG B;simp
def al.zy(l:al a e f b){c r:E Q}{j:aq}(o:hB c r b.heap j)(k:∀D∈r,a.get? D=M/\∀B,b.heap.get? D=A B->∃T,B.data=.fields T)(s:∀D∈c,D∉e/\∀B,b.heap.get? D=A B->ke D B):
 al a e f {b with heap:=j}/\b4 e b.heap j:=by
 have t:∀g B,b.heap.get? g=A B->rg g B->g∉c:=λg B h m i=>m.no ((s g i).2 B h);have u:b4 e b.heap j:=λg B I h m⟨K,n,v⟩=>o.same g B h (λi=>by
  obtain⟨T,p⟩:=(k g i).2 B h;rw[p]at v;exact nomatch v) (t g B h (.inl (by rw[m];simp)))
 refine⟨⟨λg B h m=>o.same g B (l.z g B h m) (λi=>by rw[(k g i).1]at h;exact nomatch h) (t g B (l.z g B h m) m),λg B h=>?_,l.len,l.aeA,l.fresh,λy D B w z=>?_⟩,u⟩
 .obtain⟨L,C⟩:=l.data g B h;obtain⟨F,H⟩:=o.slots g _ C (λi=>by rw[(k g i).1]at h;exact nomatch h);exact⟨F,H⟩
 .have q:=l.obj y D B w z;obtain⟨x,h⟩:=q.cm;refine q.bm (bW.refl _) u ((o.same D x h (λi=>?_) λi=>(s D i).1 (d7 w:D∈e)).trans h.symm);obtain⟨T,p⟩:=(k D i).2 x h;exact q.acc h T p
end
end
section
set_option backward.match.sparseCases true
section
variable{a:aq}{n:I}{c:ah->cb}{g:ce}{b:Q}{f:dy}{b1:I->Q}
def xL(a:kl l=A (m,o)):∃h i,l=A (h,i,o)/\h.end=A m:=by
 refine as λk b=>bh a _ λc e a=>?_;obtain⟨h,i,g⟩:=c;refine bh a _ λj f a=>?_;obtain⟨rfl,rfl⟩:=gv a;exact b (⟨h,i,e,f⟩)
def Ds{a:da}{b:dW}(c:a.end=A b){e:I}(f:a=.afU e):b=.afU e:=by
 rw[f]at c;exact(aG c).symm
def Dt(a:l.end=A i)(b:ju o p l m):∃h,i=.ret h/\aF o p h (match(generalizing:=false) m with|.ret h=>h|_=>.none):=by
 cases l with
 |next=>rw[show m=.next from b];exact⟨.none,(aG a).symm,G⟩
 |ret h=>obtain⟨c,rfl,i⟩:=b;exact⟨h,(aG a).symm,i⟩
 |afU e=>exact b.elim
 |cont=>exact no a
def xV{c:E Q}{e:aq}{f:E b9}(g:∀i∈f,aA (q3 c e i)){b:Q}(a:b∈f.filterMap (·.frame)):b∉c/\∃h,e.get? b=A h/\ke b h/\∃l n,h.data=.dict l n:=by
 refine as λp j=>?_;obtain⟨bM,k,m⟩:=oG.mp a;refine g bM k _ λp o h g1 g2 g3 dM eX=>j ?_;rw[<-aG (m.symm.trans g1)]at g2 g3 dM;exact⟨g2,h,g3,dM,eX⟩
def DL(b:mJ a o (n+1) i)(k:i.frames=A l)(p:∀q∈l,aA (q3 r m.heap q))(s:al a r T m)
 (gen:h.scope.isGenerator=d) (t:h.scope.isCoroutine=d) (u:h.scope.kind=.function) (v:h.builtins=g6) (w:h.globals=eN):cC (ir a m.heap (l.filterMap (·.frame))) o n (i.deeper h) h:=by
 refine⟨?_,?_,λI x=>x h l ?_ gen t v w G u λbM f=>?_,b.guards,b.hand,?_⟩
 .show i.depth+1+5*n<=800;have:=b.depth;exact VN this
 .show i.units+3+200*n+2000<=cy;have:=b.units;exact VO this
 .show i.frames.map (h::·)=_;rw[k];rfl
 .exact as λI e=>p bM f _ λy z c g1 g2 g3 dM eX=>e (⟨y,z,c,g1,(lU (.inl (oG.mpr ⟨bM,f,g1⟩))).trans g3,dM,eX⟩)
 .rcases b.quiet with B|⟨g,c,C,D,j,E⟩
  .exact .inl B
  .refine as λI e=>?_;obtain⟨H,F⟩:=s.data g c j;exact e (.inr ⟨g,_,C,D,(lU (.inr ⟨c,j⟩)).trans F,E⟩)
def RQ{y:bF}{z p:E Q}{ge L:N}{h be:k}{n:E b9}{l:b9}{i:Q}{B:iM->k->Prop}(go:y.frames=A n)(gt:al a z ge h)(m:ay [] z p h be)(kw:al a p L be)
 (O:∀r∈l::n,aA (q3 p be.heap r)) (ld:l.frame=A l.locals) (le:jr b h.heap be.heap .none i) (P:h.heap.get? i=M) (lo:i∉p)
 (mp:∀D u i,ay [] z D h u->al a D L u->jr b h.heap u.heap .none i->h.heap.get? i=M->i∉D->B (.error (.ref i)) u):av (aI) (y.deeper l) (leaving l (.ref i)) (λKB h=>B (.error (.ref i)) h) (λr h=>B (.error r) h) be:=by
 have R:∀c∈(l::n).filterMap (·.frame),c∉p/\∀f,be.heap.get? c=A f->ke c f:=λc q=>by
  obtain⟨C,f,v,of,KB⟩:=xV O q;exact⟨C,λS st=>aG (v.symm.trans st)▸of⟩
 have wp:∀s:E b9,(∀bM∈s,bM∈l::n)->be.heap.FunFrames ({}:aq) s:=by
  intro s
  induction s with
  |nil=>intro KB;trivial
  |cons bM s A1=>
   intro T;refine O bM (T bM gZ) _ λA5 B0 f f1 KB B2 KB B3=>?_;obtain⟨Id,IO,B8⟩:=B3;exact⟨by rw[A5];simp,⟨B0,f,f1,G,B2,λU=>by rw[B8];simp⟩,A1 λCh Cl=>T Ch (lC _ Cl)⟩
 refine e (EL (i:=n) (by show y.frames.map (l::·)=_;rw[go];rfl) (wp _ λKB g=>g) ld (λV t=>m.jW t) le λC w W Y C9=>xS (c:=(l::n).filterMap (·.frame)) (a:={be with heap:=C}) C9 λv F X Da D5=>?_);have x:hB ((l::n).filterMap (·.frame)) (w++F) be.heap v:=(Y.kE (λV t KB=>ji _ t) λKB g=>g).trans (Da.kE (λV t KB=>jj _ t) λKB g=>g);have H:∀c∈w++F,h.heap.get? c=M:=λc q=>(cE.mp q).elim (λg=>(W c g).1.elim (λr=>r▸P) id) λg=>(X c g).1;have Fr:∀c∈w++F,a.get? c=M/\∀f,be.heap.get? c=A f->∃U,f.data=.fields U:=λc q=>by
  refine⟨gt.lq (H c q),λf Z=>?_⟩;by_cases I:c∈w
  .exact(W c I).2 f Z
  .obtain⟨ad,j⟩:=Y.slots c f Z I;exact(X c ((cE.mp q).resolve_left I)).2 {f with slots:=ad} j
 refine mp p {be with heap:=v} i ⟨m.ext,λc f o dl K KB=>?_,λc f o K KB=>?_,λc f o=>?_,m.gens,m.drawn,m.os⟩ (kw.zy x Fr R).1 D5.at P lo
 .have j:=m.z c f o dl K (by simp);exact x.same c f j (λg=>no ((H c g).symm.trans o)) λg=>dl.no ((R c g).2 f j)
 .obtain⟨ad,j⟩:=m.data c f o K (by simp);obtain⟨FB,GM⟩:=x.slots c _ j (λg=>no ((H c g).symm.trans o));exact⟨FB,GM⟩
 .obtain⟨S,j⟩:=m.cm c f o;exact x.cm c S j
def RR{ad:Q}{p:bb}{ax:j1}{C:E am}{body:E cx}{H:bL}{dl:cn}(ge:c1 a f)(B0:f.lookup ad=A dl)(B2:dl.data=.func ax)(l:o7 ax C body)(B3:nz f ax.code ax.qualname=J)
 (B8:H.names=ax.scope.names) (Ch:i0 H p.slots C=J) (go:C.length=p.params) (Cl:∀t,c1 t f->hX t n c g b H p.body body)
 {w:ah} {x:bF} {q:E Q} {gt F:N} {m:k} {K:E L} {kw:E U} {y:dW} (ld:mJ a w (n+1) x) (C9:mD x q m.heap) (r:al a q gt m) (bB:aC q m.heap K kw) (le:K.length=p.params)
 (z:kl (bt w c g p.body (e3 p.slots K) gt)=A (y,F)) (Da:∀B,y=.afU B->B=5) (I:iM->k->Prop)
 (D5:∀o h D mp,y=.ret D->ay [] q o m h->al a o F h->aF o h.heap D mp->I (.ok (.ret mp)) h)
 (Fr:∀o h s,y=.afU 5->ay [] q o m h->al a o F h->jr b m.heap h.heap .none s->m.heap.get? s=M->s∉o->I (.error (.ref s)) h):hx aI x (.call (.ref ad) ⟨kw,[]⟩) I m:=by
 refine as λTI e=>C9 _ λFB lo of O=>e ?_;have X:=r.gd ge;have st:=ge.ox r (lo.filterMap (·.frame));refine Bb ((by have:=ld.depth;exact E1 this (G:hz=1000)):x.depth<hz) (X _ _ B0) B2 l.aeX l.gen l.body (wn X B3) ?_;rw[tM l (by rw[go,<-le,bB.length])];refine aJ ?_;rw[l.afa,l.aga,l.ae_];refine O_ (n:=p.slots) FB l.kind B8 Ch (r.ox (λi t=>(xV O t).1:∀i∈lo.filterMap (·.frame),i∉q)) bB (by rw[go,le]) λGM af Id u wp IO ai A1 KB fresh=>⟨?_,KA ?_⟩
 .refine as λTI e=>?_;obtain⟨SZ,sub,KF,TI⟩:=st.base.lu;exact e (KF.keeps λi j z=>A1.bu i j (sub i j z).1 (sub i j z).2)
 .have KK:=DL (h:=GM) ld of O r (by rw[wp];exact l.gen) (by rw[wp];exact l.aeX) u.kind u.builtins u.globals;refine as λTI e=>?_;obtain⟨Tm,Ty,KM,P⟩:=xL z;refine e ?_;have A5:∀i∈Id,i∈([]:E Q)\/m.heap.get? i=M:=λi t=>.inr (fresh i t);refine(Cl _ st).bf u KB A1 KK KM (λB w=>Da B (Ds P w)) _ _ (λR be TD S KT T V Ns=>?_) λR be s On S KT T V Os Pi Pv=>?_
  .refine as λTI e=>?_;obtain⟨D,P3,bB⟩:=Dt P Ns;exact e (D5 R be D _ P3 (ai.trans S A5) (r.vK T) bB)
  .have Y:ay [] q R m be:=ai.trans S A5;refine RQ of r Y (r.vK T) (λbM W=>?_) IO (Os.zx λTI=>ai.jW) (ai.jW Pi) Pv λo h s=>Fr o h s (Ds P On);rcases em.mp W with rfl|W
   .exact as λTI e=>V.cq _ λv j f1 f2 St SB SC=>e (λTI Z=>Z u.kind v j f1 (V.t v f2).1 St SB SC)
   .refine as λTI e=>O bM W _ λSL v j g1 g2 g3 dM eX=>?_;obtain⟨TE,ST⟩:=Y.data v j g3 g2 (by simp);exact e (λTI Z=>Z SL v _ g1 (kv Y ⟨j,g3⟩ g2) ST dM eX)
end
end
end
section
noncomputable abbrev hf:E U:=[.type "Exception",.type "BaseException",.type "object"]
theorem kn:ExcBaseFacts "Exception" "Exception.__new__" "Exception.__init__" hf where
 toExcCallFacts:=PySem.F.excCall_Exception
 newSplit:=by kernel_rfl
 newKind:=by kernel_rfl
 newRow:=by kernel_rfl
 mroIs:=by rw[mroOf_type];kernel_rfl
 hasB:=by rfl
 hasBase:=by rfl
 noAttr:=by rfl
 noName:=by rfl
 canon:=by kernel_rfl
section
variable{f:bF}{g:iM->k->Prop}{b:aq}{h:ch sz}{i:vU}{c:I}{os:hR}
variable{a1 l:am}{a m e:Q}{n:E U}{o:ah}{p:E am}{sub:E U}{q:ah}{r:j ah}{s:j Q}{t u v w x:j U}
noncomputable abbrev mQ(a c:Q):cn:={cls:=.ref a,data:=.fields #[.ref c,.none,.none,.none,.bool d,.none]}
def PP(j:b.get? a=A (wu a1 l a m n (.ref e::hf) o p sub q r s t u v w x "Exception.__new__"))
 (k:g (.ok (.ret (.ref (b.objs.size+1)))) ⟨(b.push {cls:=.type "tuple",data:=.seq y.toArray}).push (mQ a b.objs.size),h,i,c,os⟩) (D:y.length<=cr:=by size_fits):
 hx aI f (.builtin "Exception.__new__" ⟨.ref a::y,[]⟩) g ⟨b,h,i,c,os⟩:=by
 have E:=kn.ends;have z:(en a::.ref e::hf).contains (.type "Exception")=J:=G;have B:(en a::.ref e::hf).contains (.type "AttributeError")=d:=G;have C:(en a::.ref e::hf).contains (.type "NameError")=d:=G;refine codeAny_builtinAt kn.entry (BN ?_);show wpAt _ _ _ (stack>>=_) _ _ _;refine BN (wpAt_stack λF below=>qY ?_)
 wp_walk
 refine qY ?_;rw[kn.owner]
 repeat(first|with_reducible refine wpAny_madeHere_exc kn.canon j ?_|with_reducible refine nD j ?_|(with_reducible refine BD j ?_;first|rw[z]|rw[B]|rw[C])|wp_step)
 show g _ _;rw[jf];exact k
def PQ(X:T.In b)(j:b.get? a=A (wu a1 l a m n (.ref e::hf) o p sub q r s t u v w x "Exception.__new__"))
 (H:gD T (.ref a) "__init__"=A (A (.ref ge))) (I:kR T (.ref ge)=A (.type "function"))
 (K:hx (aI) (f.under (.builtin "type.__call__" ⟨.ref a::y,[]⟩)) (.call (.ref ge) ⟨.ref (b.objs.size+1)::y,[]⟩) (InitBack (b.objs.size+1) g) ⟨(b.push {cls:=.type "tuple",data:=.seq y.toArray}).push (mQ a b.objs.size),h,i,c,os⟩)
 (L:y.length<=cr:=by size_fits):
 hx aI f (.call (.ref a) ⟨y,[]⟩) g ⟨b,h,i,c,os⟩:=by
 have f1:=tc_lookup;have f2:=tc_bind (.ref a);have P:(⟨b,h,i,c,os⟩:k).TypeIs (.ref a) "type":=⟨_,j,G⟩;refine KC ?_;show av _ _ (callAny (.ref a) _) _ _ _
 repeat(any_goals(first|assumption|with_reducible refine nD j ?_|wp_step))
 refine⟨G,(codeAny_call_builtin_at (HY _ (by decide+kernel)) entry_typeCall (wpAny_check_type_call_sub j ?_))⟩;show av _ (f.under (.builtin "type.__call__" ⟨.ref a::y,[]⟩)) (Builtin.«type.__call__» ⟨.ref a::y,[]⟩) _ _ _
 repeat(first|with_reducible refine nD j ?_|with_reducible refine wpAny_madeBy_exc j ?_|wp_step)
 refine codeAny_call_builtin_code (HY _ kn.quiet) (wpAny_check_new_subU kn (bmB:=.ref e::hf) G .base j (PP j ?_ L));show av _ _ _ _ _ _;have z:∀C D,b.get? C=A D->((b.push {cls:=.type "tuple",data:=.seq y.toArray}).push (mQ a b.objs.size)).get? C=A D:=λC D F=>bU _ (bU _ F);have Q:=z _ _ j;have N:((b.push {cls:=.type "tuple",data:=.seq y.toArray}).push (mQ a b.objs.size)).get? (b.objs.size+1)=A (mQ a b.objs.size):=by heap_get
 have R:iK (aI) ((b.push {cls:=.type "tuple",data:=.seq y.toArray}).push (mQ a b.objs.size)) (typeOf (.ref (b.objs.size+1))) (.ref a):=(Jn N).andThen .now;have af:iK aI b (wA (.ref a) (.ref a)) J:=λf S U V z l=>BD (z _ _ j) (by rw[E.contains_cons,ny,ah.true_or];exact l);have af:=af.keeps z;have W:=(wF (M:=aI) X H).keeps z;have Y:=(bind_fn (M:=aI) X (.ref (b.objs.size+1)) I).keeps z
 repeat(first|with_reducible refine nC ?_|lk)
 refine codeAny_mono K λO Z B=>?_;rcases O with F|(ad|dl|dl|dl)<;>first|exact B|exact B.elim|skip
 obtain⟨rfl,B⟩:=B;exact aJ (aJ B)
end
end
section
def He:Slot "wrapper_descriptor" "__get__" "wrapper_descriptor.__get__":=.of (owner:="wrapper_descriptor") (n:="__get__") (by rw[td,s2];kernel_rfl) (by decide+kernel) (by decide+kernel) (by decide+kernel)
 (by first|exact .inl (by decide+kernel)|exact .inr (by decide+kernel)) (by rw[s8];kernel_rfl)
def abw:wr wP "wrapper_descriptor.__get__"=A Builtin.«wrapper_descriptor.__get__»:=Be (by kernel_rfl)
def abv(a b c:U):nw "wrapper_descriptor.__get__" ⟨[a,b,c],[]⟩:=by unfold nw;kernel_rfl
def abA(a:k):a.TypeIs (.builtin "Exception.__init__") "wrapper_descriptor":=by
 show typeOf _=_
 kernel_rfl
noncomputable abbrev me(a:eg)(b:Q):cn:={cls:=.type "method-wrapper",data:=.fields #[.builtin a,.ref b]}
section
variable{g:bF}{h:U->k->Prop}{a:aq}{c:ch sz}{f:vU}{b:I}{os:hR}
def abz:".".intercalate ("Exception.__init__".cutAt '.').dropLast="Exception":=by kernel_rfl
def abx(e:a.get? i=A m)(j:m.cls=.ref l)(k:iK aI a (wA (.ref l) (.type "Exception")) J)
 (n:o (.done (.ret (.ref a.objs.size))) ⟨a.push (me "Exception.__init__" i),c,f,b,os⟩):
 av aI g (Builtin.«wrapper_descriptor.__get__» ⟨[.builtin "Exception.__init__",.ref i,.ref l],[]⟩) o h ⟨a,c,f,b,os⟩:=by
 unfold Builtin.«wrapper_descriptor.__get__»
 repeat(first|(with_reducible refine nD e ?_;rw[j])|(rw[abz];with_reducible refine iK.at k ?_)|wp_step)
 exact n
def ZP
 (n:a.get? t=A {cls:=.type "super",dict:=M,data:=.fields #[.ref m,.ref l,.ref i],slots:=#[]}) (u:iK aI a (KV (.ref i)) M)
 (v:iK aI a (wI (.ref i)) w) (x:(w.dropWhile (·!=.ref m)).drop 1=y) (X:z.In a) (B:l≠i) (C:(q==("__class__":am))=d)
 (D:wh z q y=A (A (.builtin r))) (s:(⟨a,c,f,b,os⟩:k).TypeIs (.builtin r) "wrapper_descriptor")
 (E:av aI g.in1 (Builtin.«wrapper_descriptor.__get__» ⟨[.builtin r,.ref l,.ref i],[]⟩) (λaj T=>∃o,aj=.done (.ret o)/\ge (.done (.ret o)) T) h ⟨a,c,f,b,os⟩):
 av aI g (Builtin.«super.__getattribute__» ⟨[.ref t,.str q go],[]⟩) ge h ⟨a,c,f,b,os⟩:=by
 have I:=He.lookup;have F:(en l==en i)=d:=by simp[B]
 have p:({cls:=.type "super",dict:=M,data:=.fields #[.ref m,.ref l,.ref i],slots:=#[]}:cn).data=.fields #[.ref m,.ref l,.ref i]:=G;have H:(#[.ref m,.ref l,.ref i]:ch U)[0]?=A (.ref m):=G;have f1:(#[.ref m,.ref l,.ref i]:ch U)[1]?=A (.ref l):=G;have f2:(#[.ref m,.ref l,.ref i]:ch U)[2]?=A (.ref i):=G
 repeat(first
  |(with_reducible refine eD n p H ?_)|(with_reducible refine eD n p f1 ?_)|(with_reducible refine eD n p f2 ?_)
  |(with_reducible refine ks_wpAny_notOpaque u ?_)
  |(with_reducible refine iK.at v ?_;rw[x])
  |(refine ks_forIn_along X (λK K=>rfl) G ?_ D)
  |(with_reducible refine tj s ?_)
  |(with_reducible refine hS He s abw ?_ (abv _ _ _))
  |(simp only[C,F,ql,j0,g7])
  |(with_reducible refine fd E (λK K j=>?_) (λK K j=>j))
  |wp_step
  |dsimp only)
 obtain⟨o,rfl,j⟩:=j;exact⟨o,G,e (aJ (aJ (aJ j)))⟩
def ZQ
 (n:a.get? m=A {cls:=.type "super",dict:=M,data:=.fields #[.ref u,.ref i,.ref o],slots:=#[]}) (v:iK aI a (KV (.ref o)) M)
 (w:iK aI a (wI (.ref o)) x) (y:(x.dropWhile (·!=.ref u)).drop 1=z) (X:B.In a) (C:i≠o) (D:(q==("__class__":am))=d)
 (E:wh B q z=A (A (.builtin l))) (H:∀T:k,T.TypeIs (.builtin l) "wrapper_descriptor")
 (I:∀g p h b,p (.done (.ret (.ref a.objs.size))) ⟨a.push (me l i),c,f,b,os⟩->av aI g (Builtin.«wrapper_descriptor.__get__» ⟨[.builtin l,.ref i,.ref o],[]⟩) p h ⟨a,c,f,b,os⟩)
 (K:p (.ref a.objs.size,[]) ⟨a.push (me l i),c,f,b+1,os⟩):
 av aI g (s6 (.ref m) q ge) p h ⟨a,c,f,b,os⟩:=by
 have r:=zS.lookup;have j:∀L,(⟨a,c,f,L,os⟩:k).TypeIs (.ref m) "super":=λO=>⟨_,n,G⟩;refine e (nF (j _) r ?_);show av _ _ (if(ada "super.__getattribute__"!="object.__getattribute__")=J then _ else _) _ _ _;rw[cd F.ks_canon_super_ga];refine e (e (BF (fc (e (tj (j _) (e (lJ r ?_)))))));show av _ _ (getAttrByItsOwn (.ref m) (.str q b) (.type "super") (.builtin "super.__getattribute__") J d) _ _ _;refine e (lJ (show(if onTheHeap (.type "super")then qV (.type "super") "__getattr__" else pure M)=pure M from G) (e (nB (fc ?_))));show av _ _ (bindSpecial (.builtin "super.__getattribute__") (.ref m)>>=_) _ _ _;refine e (lJ (zS.bind _) (fd (Q:=λs t=>s=.ref a.objs.size/\t=⟨a.push (me l i),c,f,b+1,os⟩) (E:=λO O=>dT)
  (hS zS (j _) F.ks_entry_super_ga (ZP n v w y X C D E (H _) (I _ _ _ _ ⟨_,G,_,G,G,G⟩)) (F.ks_gaArgs_super _ _)) (λs t N=>?_) λO O Q=>Q.elim))
 obtain⟨rfl,rfl⟩:=N;exact aJ (aJ K)
end
end
section
def O8{m:sN}{n:bF}{o:U->k->Prop}{a:aq}{c:ch sz}{e:vU}{f:I}{os:hR}{g:e0->k->Prop}{h i:Q}{l b:cn}{j:zQ}{p:U}(q:a.get? h=A l)(r:l.cls=.ref i)
 (s:a.get? i=A b) (t:b.data=.cls j) (u:g () ⟨a,c,e,f,os⟩):av m n (Kz "Exception.__init__" ⟨[.ref h,p],[]⟩) g o ⟨a,c,e,f,os⟩:=by
 have w:=kn.noStar;obtain⟨x,y,v,z⟩:=b;obtain rfl:v=.cls j:=t;unfold Kz;simp only[kn.initKind,kn.initRow]
 repeat(first|(with_reducible refine nD q ?_;rw[r])|with_reducible refine nD s ?_|wp_step)
 exact u
noncomputable abbrev jF(a:Q)(b:j Q)(c:U):cn:={cls:=.ref a,dict:=b,data:=.fields #[c,.none,.none,.none,.bool d,.none]}
section
variable{g:bF}{h:U->k->Prop}{a:aq}{c:ch sz}{f:vU}{b:I}{os:hR}
def S_(b:l.heap.get? m=A (me o p))(a:oC->k->Prop)(c:∀i,(i=.frame\/i=.machine)->a i l):av q g (mx (.ref m)) a h l:=by
 delta mx;exact e (o0 b (aJ (c _ (.inr rfl))))
def PS(e:a.get? l=A (jF p q (.ref t)))
 (j:∀m r,(∀i o,i≠l->a.get? i=A o->m.get? i=A o)->m.get? l=A (jF p q (.ref r))->s (.done (.ret .none)) ⟨m,c,f,b,os⟩):
 av aI g (Builtin.«BaseException.__init__» ⟨[.ref l,u],[]⟩) s h ⟨a,c,f,b,os⟩:=by
 wp_walk
 refine j _ a.objs.size (λi o k n=>?_) ?_
 .rw[qo _ _ (dA k)];exact bU _ n
 .rw[gV _ (bU _ e) G];rfl
def abG{l i m u:Q}{n:j Q}{v:U}{q:U->k->Prop}(w:a.get? l=A (me "Exception.__init__" i))(r:a.get? i=A (jF m n (.ref u))){s:cn}{x:zQ}(y:a.get? m=A s)(z:s.data=.cls x)
 (B:∀o D,(∀p t,p≠i->a.get? p=A t->o.get? p=A t)->o.get? i=A (jF m n (.ref D))->q .none ⟨o,c,f,b,os⟩):av aI g (eu (.ref l) [v]) q h ⟨a,c,f,b,os⟩:=by
 refine nC (KC ?_);show av _ _ (callAny (.ref l) _) _ _ _;exact e (o0 w (e (O8 r G y z (aJ ⟨wK kn.init.plain _,wm kn.initEntry (PS r B)⟩))))
def Zg{p:dy}{i j D:Q}{dQ o:U}{m:am}{s:zQ}{y:e0->k->Prop}(X:p.In a)(t:a.get? i=A (jF j M dQ))(Y:p.lookup i=M)(w:j7 p j=A s)(z:s.mro=.ref j::.ref D::hf)(E:s.hasDict=J)
 (u:gD p (.ref j) "__setattr__"=A (A (.builtin "object.__setattr__"))) (F:gD p (.ref j) m=A M)
 (H:∀q x T,(∀r l,r≠i->a.get? r=A l->q.get? r=A l)->q.get? i=A (jF j (A T) dQ)->y () ⟨q,c,f,x,os⟩):
 av aI g (setAttr (.ref i) m o) y h ⟨a,c,f,b,os⟩:=by
 have v:∀x,iK (aI) (⟨a,c,f,x,os⟩:k).heap (typeOf (.ref i)) (.ref j):=λge=>(Jn t).andThen .now;have eG:=PySem.F.store_object;refine e (BF (e (e (e ((v _) _ _ _ _ (λge ge n=>n) (wF X u _ _ _ _ (λge ge n=>n) (fc ?_)))))));rw[eG.slot.bind];refine e (aJ (e (nC ?_)));refine codeAny_call_builtin eG.slot.plain eG.entry (@check_slot aI _ _ ⟨a,c,f,b+1,os⟩ "object.__setattr__" "object" "__setattr__" (.ref i) [.str m b,o] [] _ eG.kind eG.split ((v b).andThen (Bo X (by unfold oV;rw[w,cJ,z,bZ (by simp)];rfl)):iK aI a (Bi (.ref i) (.type "object")) J) (eG.args (.ref i) (.str m b) o) ?_);show av _ _ (Builtin.«object.__setattr__» ⟨[.ref i,.str m b,o],[]⟩) _ _ _;rw[osa_eq,refuse_eq];refine e (e ((v _).here (e (((s9 X w).andThen .now:iK aI a (wI (.ref j)) s.mro).here ?_))));rw[z,KZ,KZ,PySem.F.store_Exception.passes];refine aJ (e ((v _).here (e ((wF X F).here (e (aJ ?_))))));refine e (aJ (e (e (BE t (e ((s9 X w).here ?_))))));rw[E];have B:i≠a.objs.size:=ee (du t);have C:(a.push {cls:=.type "dict",data:=.dict #[]}).get? i=A (jF j M dQ):=bU _ t;refine e (wpAny_alloc' (e (wpAny_update' C (aJ ?_))));refine e (aJ ?_);have I:((a.push {cls:=.type "dict",data:=.dict #[]}).update i λl=>{l with dict:=A a.objs.size}).get? a.objs.size=A {cls:=.type "dict",data:=.dict #[]}:=
  (Iq _ _ _ _ B.symm).trans (zZ G rfl)
 have K:((a.push {cls:=.type "dict",data:=.dict #[]}).update i λl=>{l with dict:=A a.objs.size}).get? i=A (jF j (A a.objs.size) dQ):=gV _ C G;have L:((a.push {cls:=.type "dict",data:=.dict #[]}).update i λl=>{l with dict:=A a.objs.size}).Ns a.objs.size (λge=>M):=
  ⟨_,#[],_,I,G,λn N=>bC N (by simp),λge=>rfl⟩
 show av _ _ (acw a.objs.size (.str m b) m o) _ _ _;refine e (aJ (e (wpAny_nsSet1 (ac4 L) λq R u=>?_)));refine as λge O=>?_;obtain⟨Z,ad,dl,P,S,V⟩:=R.count (Within.cons m o Within.nil);refine O ?_;refine e (Lo P (by rw[S];exact KW (bG V (by rw[gY,Ak,wM];exact(mr (0+1) 16777216)))) ?_);refine aJ (aJ (aJ ?_));refine H q _ a.objs.size (λr l W n=>?_) ((u.2 i B).trans K);exact(u.2 r (ee (du n))).trans ((Iq _ _ _ _ W).trans (bU _ n))
end
end
section
set_option tactic.hygienic true
def qZ(e:dy)(c:Q)(f:Prop):Prop:=∀g h i a b j,e.lookup c=A ⟨g,h,.fields a,i⟩->a[2]?=A (.str b j)->((f0.main.file:am)==b)=J->f
def tm(a:dy)(b c:Q)(e:Prop):Prop:=∀f g h,a.lookup b=A ⟨f,g,.cell (A (.ref c)),h⟩->e
def xc(b:dy)(a:b9)(c e f g:Q)(i:am)(j:Prop):Prop:=(a.scope.kind=.function)->a.kindOf "super"=A .globalImplicit->a.kindOf "__class__"=A .free->a.globals=eN->a.builtins=g6->(a.func=A c)->a.code=.ref f->a.cells.lookup ("__class__":am)=A e->(∃k l m ax h,b.lookup c=A ⟨k,l,.func ax,m⟩/\(ax.params.posonlyargs++ax.params.args).head?=A h/\h.arg=i)->aA (qZ b f)->aA (tm b e g)->(∃n,j7 b g=A n)->(f0.main.scope.names.lookup ("super":am)).isSome=d->j
section
variable{a:bF}{b:U->k->Prop}{f:dy}
def GS(X:f.In g.heap)(y:g.heap.Ns eN bw.cB)(z:bw.cB "super"=M)(B:g.heap.Ns g6 bw.jY)(C:bw.jY "super"=A (.type "super"))
 (c:aA (xc f h A5 B0 B2 m D)) (E:(T==("__class__":am))=d) (F:g.heap.get? p=A q) (H:q.cls=.ref r) (I:∀s,q.data≠.cls s) (K:oV f r (.ref m)=A J)
 (L:∀(l:U->k->Prop),l (.ref p) g->av aI a (Bn h D) l b g)
 (N:∀i,i.get? g.heap.objs.size=A (ks_superObj m p r)->(∀t u,g.heap.get? t=A u->i.get? t=A u)->l (.ref g.heap.objs.size) {g with heap:=i}):
 wpAt aI a (.func body h) (s1 (.Call (.Name "super" B3) [] [] B8) T h whole) l b g:=by
 refine c _ λj n v O P Q R S V W Y Z ad=>?_;refine as λOs dl=>?_;obtain⟨Ch,Cl,C9,ax,Da,ge,go,rfl⟩:=V;refine W _ λD5 Fr FB GM Id IO gt kw ld=>Y _ λKB KF KK le=>?_;obtain⟨lo,e⟩:=Z;obtain⟨mp,KM,of,KT,os⟩:=g;refine dl ?_;obtain⟨o,w,x⟩:∃o,mp.get? m=A o/\o.data=.cls lo:=by
  unfold j7 at e
  split at e
  .rename_i s of Ns On st
   obtain rfl:=aG e;exact⟨_,X _ _ st,G⟩
  .exact nomatch e
 exact ks_wpAt_super_base (env:=h) n v E Q (X _ _ ge) G go R (X _ _ gt) G kw ld ad (ks_loadName_global j n (KO (env:=h) (by rw[O];exact y) z (by rw[P];exact B) C ⟨G,(Ln j v S ⟨_,X _ _ le,G⟩ (L _ (ks_wpAny_isType_cls w x ⟨G,(ks_wpAny_call_super w x F H I (Bo X K) λi wp A1=>N i wp A1)⟩)))⟩))
def Et(j:i.all jL=J)(k:i.length<30)(f:(t.endLine==h.line)=J)
 (n:wpAt aI a u (s1 l p g (eC l g)) (λq r=>av aI a (s6 q p (do return(<-KI l g).getD J)) (λm s=>av aI a (wk h m.1 m.2 (ih h (hA i g)) []) v b s) b r) b w):
 wpAt aI a u (eC (.Call (.Attribute l p t) i [] h) g) v b w:=by
 rw[Ks];have x:wH (i.length+([]:E Keyword).length) (ih h (hA i g)) (wi h (wC [] g))=J:=by
  have y:∀o:E (ah×ef U),o.any (·.1)=d->o.all (!·.1)=J:=by
   intro o f;rw[di];intro c z;rw[z8]at f;simpa using f c z
  have B:wi h (wC [] g)=[]:=G;unfold wH;rw[y _ (vq j h g),B];simpa using k
 refine BN (wpAt_mono n (λq r C=>qY (e (kT ?_))) λF F c=>c);unfold methodCall;rw[x];refine e (fc (fd C (λm s D=>?_) λF F c=>c));unfold KS;rw[f];exact e (aJ D)
end
end
section
def LS(b:dy)(a c:Q)(e:Prop):Prop:=∀a1 f g h i sub j k l m n o p q,b.lookup a=A (wu a1 f a g h (.ref c::hf) J i sub j k l m n o p q "Exception.__new__")->e
def LR(a:dy)(c f g:Q)(h:Prop):Prop:=∀i j k ax l m b n e o p q r s,(a.lookup c=A ⟨i,j,.func ax,k⟩)->o7 ax ["self","what"] [.Expr (.Call (.Attribute (.Call (.Name "super" l) [] [] m) "__init__" b) [.Name "what" n] [] e) o,.Assign [.Attribute (.Name "self" p) "what" q] (.Name "what" r) s] [("__class__",f)]->nz a ax.code ax.qualname=J->ax.code=.ref g->ax.scope.names.lookup ("self":am)=A .local->ax.scope.names.lookup ("what":am)=A .local->ax.scope.names.lookup ("super":am)=A .globalImplicit->ax.scope.names.lookup ("__class__":am)=A .free->(∀t∈ax.scope.names,t.2≠.cell)->(ax.params.posonlyargs++ax.params.args).head?.map (·.arg)=A ("self":am)->(b.endLine==e.line)=J->h
structure js(a:dy)(b c e f g:Q):Prop where
 obj:aA (LS a b c)
 init:gD a (.ref b) "__init__"=A (A (.ref e))
 afy:kR a (.ref e)=A (.type "function")
 cl:aA (LR a e f g)
 aeW:aA (qZ a g)
 afw:aA (tm a f c)
 afD:∃h,j7 a c=A h
 y:(f0.main.scope.names.lookup ("super":am)).isSome=d
 af1:b≠c
 afm:gD a (.ref b) "__setattr__"=A (A (.builtin "object.__setattr__"))
 br:gD a (.ref b) "what"=A M
 afI:j9 a s3 "thirdparty.any"=A M
 afL:bw.cB "super"=M
def CM:oQ "super"=A (.type "super"):=by kernel_rfl
section
variable{g:bF}{j:U->k->Prop}{a:dy}{b c e f h:Q}{i:iM->k->Prop}
def PR(q:js a b c e f h)(wp:g.depth<hz)(A1:p.heap.NoLimit)(X:a.In p.heap)(A5:p.heap.Ns eN bw.cB)(t:p.heap.Ns g6 bw.jY)(B0:bw.jY "super"=A (.type "super"))(ad:a.lookup o=M)
 (H:p.heap.get? o=A (jF b M (.ref abs)))
 (B2:∀r go T ge,(∀m l,m≠o->p.heap.get? m=A l->r.get? m=A l)->r.get? o=A (jF b (A T) (.ref ge))->i (.ok (.ret .none)) {p with heap:=r,toks:=go}):
 hx aI g (.call (.ref e) ⟨[.ref o,u],[]⟩) i p:=by
 refine q.obj _ λa1 s B3 B8 Ch sub Cl C9 agn ago k n C agp D=>q.cl _ λagq agr ags ax agt agu agv agw agx agy agz agA agB agC dl P Da D5 I K Fr FB GM F Id=>?_;have IO:AY ax ⟨[.ref o,u],[]⟩=pure ([("self",.ref o),("what",u)]:E (am×U)):=tM (a:=[.ref o,u]) P G;refine ks_codeAny_call_defAt wp (X _ _ dl) G A1 (wn X Da) P.body (BindsTo.of_eq IO) GM (λw L=>?_) (λgt N x=>?_) P.aeX P.gen P.kind
 .rcases em.mp L with rfl|L
  .exact I
  .rw[b2.mp L];exact K
 have kw:a.In gt:=X.keeps x;have ld:=x _ _ H;have O:(λw=>([("self",.ref o),("what",u)]:E (am×U)).reverse.lookup w) "self"=A (.ref o):=G;have R:(λw=>([("self",.ref o),("what",u)]:E (am×U)).reverse.lookup w) "what"=A u:=G;generalize agD:(λw=>([("self",.ref o),("what",u)]:E (am×U)).reverse.lookup w)=KB at N O R;have KF:(A_ ax p.heap.objs.size e).cells=([("__class__",f)]:E (am×Q)):=P.afa;have KK:aA (xc a (A_ ax p.heap.objs.size e) e f h c "self"):=by
  refineλagI KM=>KM P.kind Fr FB P.aga P.ae_ G D5 (by rw[KF];rfl) ?_ q.aeW q.afw q.afD q.y;cases S:(ax.params.posonlyargs++ax.params.args).head? with
  |none=>rw[S]at F;exact nomatch F
  |some y=>rw[S]at F;exact⟨_,_,_,_,y,dl,S,aG F⟩
 have le:∀m l,a.lookup m=A l->m≠o:=λm l j s=>by rw[s,ad]at j;exact nomatch j
 have V:∀r:aq,(∀m l,m≠o->gt.get? m=A l->r.get? m=A l)->r.Ns p.heap.objs.size KB:=λr KT=>by
  obtain⟨l,Ns,On,j,Os⟩:=N;refine⟨l,Ns,On,KT _ _ (λs=>?_) j,Os⟩;rw[<-s]at H;exact bC (du H) (kL _)
 have Pi:oV a b (.ref c)=A J:=by
  unfold oV j7;rw[D];simp
 refine Bl (KJ (Et G (by simp) Id (GS kw (A5.keeps x) q.afL (t.keeps x) B0 KK G ld G (λagE j=>by exact nomatch j) Pi (λW z=>th P.kind I N O z) λv Pv k=>?_)) (by show(ax.scope.kind==.module&&_)=d;rw[P.kind];rfl) G);have agF:=V v λm l agI j=>k m l j;have B:a.In v:=kw.keeps k;have lo:=k _ _ ld;have P3:o≠b:=λs=>le _ _ D s.symm;have Y:j7 a b=A {name:=a1,bases:=B8,mro:=.ref b::.ref c::hf,ns:=B3,qualname:=s,hasDict:=J,slotNames:=Ch,subclasses:=sub,abstract:=Cl,collection:=C9,hasDel:=d}:=by unfold j7;rw[D]
 have St:iK aI v (wI (.ref b)) (.ref b::.ref c::hf):=(s9 B Y).andThen .now;have SB:∀r:aq,a.In r->iK aI r (wA (.ref b) (.type "Exception")) J:=λr SC=>Bo SC (by unfold oV;rw[Y];rfl);have SL:((en b::.ref c::hf).dropWhile (·!=.ref c)).drop 1=hf:=by
  rw[IV,cd (bne_iff_ne.mpr λs=>q.af1 (Kp s)),IV,bZ (by simp)];rfl
 refine ZQ (z:=hf) Pv (KQ B q.afI) St SL B P3 G (by kernel_rfl) (λST=>abA ST) (λagG W agH go z=>abx lo G (SB _ B) z) ?_;have n:∀m l,v.get? m=A l->(v.push (me "Exception.__init__" o)).get? m=A l:=λm l j=>bU _ j;have mp:(v.push (me "Exception.__init__" o)).get? v.objs.size=A (me "Exception.__init__" o):=zZ G rfl;have of:=B.keeps n;have SZ:=V _ λm l agI j=>n m l (k m l j);refine kj G (wS (te (th P.kind K SZ R (qX ⟨λW z=>S_ mp W z,(abG mp (n _ _ lo) (of _ _ D) G λZ ge C Tm=>Bl (qY ?_))⟩)) G));have Ty:a.In Z:=λy l j=>C y l (le y l j) (of y l j);have TD:∀m l,m≠o->p.heap.get? m=A l->Z.get? m=A l:=λm l t j=>C m l t (n m l (k m l (x m l j)));have st:=V Z λm l t j=>C m l t (n m l (k m l j));exact KX (te (th (env:=A_ ax p.heap.objs.size e) P.kind K st R (te (th P.kind I st O (Zg Ty Tm ad Y G rfl q.afm q.br λTE TI T TT XV=>qY (tg (B2 TE TI T ge (λm l t j=>TT m l t (TD m l t j)) XV)))) G)) G) G
end
end
section
section
variable{a:bF}{b:U->k->Prop}{f:dy}{c g h i j:Q}
def Yr(t:js f c g h i j)(u:a.handled=M)
 (v:av aI a w (λo l=>aA (gi (λm p q=>fL (o=.ref m) (f.In l.heap) (l.heap.get? m=A (jF c p q)) (b (.ref m) l)))) b x):av aI a (raiseStmt D (A w) M) T b x:=by
 refine as λZ n=>t.obj _ λa1 E F H I sub K L N O P Q R S k=>n (e (fd v (λo l r=>as λZ n=>r _ λm p q s=>?_) λZ Z y=>y));clear r;refine s _ λz X B C=>?_;clear s;subst z;have k:=X _ _ k;obtain⟨U,V,W,Y,os⟩:=l;refine n ?_
 repeat(first|with_reducible refine nD B ?_|with_reducible refine nD k ?_|(with_reducible refine BD k ?_;rw[(G:(en c::.ref g::hf).contains (.type "BaseException")=J)])|wp_step)
 exact wpAny_raiseNew_none u C
end
section
variable{f:aq}{n:I}{g:ah->cb}{h:ce}{a:Q}{i:bL}{b:dy}{j l m o:Q}
def Vq(W:c1 f b)(v:js b a j l m o)(N:hD f n g h i [ge] [s])(X:i.names.lookup T=A .globalImplicit)(Z:bw.cB T=A (.ref a))(ad:(T==("__debug__":am))=d)
 (dl:oT b (.ref a)=J):ha f n g h a i (.raise 5 ge) (.Raise (A (.Call (.Name T Ns) [s] [] Tm)) M TD):=by
 refine⟨λ{GM I Id go IO KB KF gt KK KM KT} L Q z H kw=>Hl kw λld O le lo On Os Pi P mp=>?_⟩;subst lo;have of:dv J g h go [ge] gt=A ([ld],O):=by
  show a3 _ _=_;rw[le,fe];exact fe
 rw[arm_exec_Raise];refine e (kT (Yr v (H.hand G) (e (qW (xW W L z X Z ad (kj N.aeD (N.bf L Q z H of _ _ λw af Pv ai u st=>⟨λP3 R=>?_,?_⟩)))))))
 .refine as λagp t=>?_;obtain⟨wp,A1,A5⟩:=looks_keep dl (u.gd W);exact t (A5.here (R wp A1))
 .have B:=u.gd W;refine as λagp t=>v.obj _ λa1 R St SB SC sub SL ST SZ Ty TE TI TT XV B0=>?_;obtain⟨C,rfl,bB⟩:=l6 st;obtain⟨B2,ez,abs,agn,ib⟩:=G8 I a [C];obtain⟨ago,S,B3,agp⟩:=W.base.lu;have B8:af.heap.NoLimit:=B3.keeps λr p s=>u.bu r p (S r p s).1 (S r p s).2;have g1:=u.ns W.g;have Ch:=u.ns W.b;obtain⟨q,D,E,U,os⟩:=af;refine t ?_;have t:∀r p,q.get? r=A p->((q.push {cls:=.type "tuple",data:=.seq [C].toArray}).push (mQ a q.objs.size)).get? r=A p:=λr p s=>bU _ (bU _ s);have Cl:((q.push {cls:=.type "tuple",data:=.seq [C].toArray}).push (mQ a q.objs.size)).get? (q.objs.size+1)=A (jF a M (.ref q.objs.size)):=by heap_get
  have x:q.get? (q.objs.size+1)=M:=Ip (fo _);have C9:b.lookup (q.objs.size+1)=M:=by
   cases Da:b.lookup (q.objs.size+1)with
   |none=>rfl
   |some p=>rw[B _ _ Da]at x;exact nomatch x
  show av _ I (eu (.ref a) [C]) _ _ _;refine nC (PQ B (B _ _ B0) v.init v.afy (PR v (by rw[B2];have:=H.depth;have s:hz=1000:=G;exact VP this s) (B8.keeps t) (B.keeps t) (g1.keeps t) (Ch.keeps t) ((W.ae9 _ (by decide)).trans CM) C9 Cl λK F D5 Fr FB V=>?_) (by size_fits));refine⟨G,?_⟩;have all:∀r p,q.get? r=A p->K.get? r=A p:=λr p s=>FB r p (λP=>by rw[P,x]at s;exact nomatch s) (t r p s);have Y:al f w O ⟨K,D,E,F,os⟩:=u.bm F all;have c:=ai.then (ay.bm w ⟨q,D,E,U,os⟩ F all:ay [] w w (⟨q,D,E,U,os⟩:k) ⟨K,D,E,F,os⟩);exact e (kT (aJ (λagp y=>y _ D5 (.ref Fr) (λagp y=>y G (Y.gd W) V (mp w _ _ G c.gB (z.ab c) Y (Q.quiet z c) (λagp y=>y _ _ V G rfl rfl (.inl ⟨G,G⟩)) (ai.jW x) (u.nc x))))))
end
end
section
open PyProof.Rows
section
section
variable{a:aq}{n:I}{b:ah->cb}{f:ce}{g:Q}{e:bL}{h:dy}
def Vr(l:i≠5):ha a n b f g e (.raise i u) m:=by
 exact⟨λ{v o c w h p q x j r k} y z B C s=>Hl (u:=λk h j=>jv a g e o c p q r (exec m c) k h j) s λD E F H t=>bC (t i G) l⟩
def Vy(F:c1 a h)(H:∀s,lN h (cX s))(I:mA a n b b1 g)(t:b7 a n b f e p D)(u:hD a n b f e go T)
 (K:kx D=J) (k:T.length<30) (L:(gt.endLine==kw.line)=J) (N:∀le<17,(cL le==ge)=d) (O:gD h (.ref (cX s)) ge=A (A (.ref (b1 q)))) (P:kR h (.ref (b1 q))=A (.type "function"))
 (Q:∃p ax,a.get? (b1 q)=A p/\p.data=.func ax):ha a n b f g e (.agl s p q go) (.Expr (.Call (.Attribute D ge gt) T [] kw) C9):=by
 refine⟨λ{v R S Cl Da D5 Fr FB GM Id IO} w m i r U=>abN U λV KB KF KK W X C Y Z ad dl ld lo mp KM KT of st=>K8 (uy (rk K) u.aeD k L (t.bf w m i r Z _ _ λNs af wp ai o E=>Es o (o.gd F) (H _) ad dl N O P E _ (kj u.aeD (u.bf w (m.quiet i ai) o r ld _ _ λA1 be A5 l x B0=>
  ⟨x5 (x.cl Q),nC (I v R q A1 X Y be (.ref V::W) (wp::A5) C r.zz (r.sr x ((m.quiet i ai).quiet o l).cm) x (aC.mk (o.fW l E) B0) lo (λj v=>mp j (by rw[v];rfl):∀j,C=.afU j->j=5) _ (λy bz On Os B2 z B Pi=>?_) λy bz B3 B8 z B t k Ch=>?_)⟩)))) ((by unfold s7;rw[w.kind];rfl):s7 S=d) G⟩
 .have c:=ai.then (l.then z);exact of y bz _ c.gB (i.ab c) B (m.quiet i c) (by rw[B2];rfl)
 .have c:=ai.then (l.then z);exact st y bz B3 (by rw[B8];rfl) c.gB (i.ab c) B (m.quiet i c) (t.zx λPv=>(ai.then l).jW) ((ai.then l).jW k) Ch
end
end
section
def Uz{a:U}{b ff:b9}(e:ff.frame=b.frame):qN a b=qN a ff:=by
 unfold qN PySem.frameOf;exact e.symm▸G
section
variable{a:aq}{n:I}{f:ah->cb}{g:ce}{e:Q}{b:bL}{h:dy}{i j l m:Q}
def mD.ab6{e:E Q}{b:aq}{a:E b9}(c:∀B∈a,aA (q3 e b B)):b.FunFrames ({}:aq) a:=by
 induction a with
 |nil=>trivial
 |cons bM a f=>
  refine c bM gZ _ λg h i f1 q j q k=>?_;obtain⟨n,o,l⟩:=k;exact⟨by rw[g];simp,⟨h,i,f1,G,j,λp=>by rw[l];simp⟩,f λB m=>c B (lC _ m)⟩
def hB.step{c h i:E Q}{TT:k}{j:aq}(f:hB c h TT.heap j)(l:∀D∈c,∀B,TT.heap.get? D=A B->ke D B):ay h i i TT {TT with heap:=j}:=
 ⟨⟨[],by simp,by simp⟩,λb B e m n g=>f.same b B e g λa=>m.no (l b a B e),λb B e n g=>f.slots b B e g,f.cm,G,G,G⟩
def aag(W:c1 a h)(agu:js h e i j l m){r ad:E c}{Os:E cx}{Pi:cx}{Pv:E cx}{O:am}{agv agw agx:dj}(agy:hX a n f g e b r Os)(agz:∀x,c1 x h->hX x n f g e b ad (Pi::Pv))(agA:hm ad=J)
 (agB:b.names.lookup O=A .globalImplicit) (P:bw.cB O=A (.ref e)) (agC:(O==("__debug__":am))=d)
 {st:bF} {u:b9} {P3 wp R:aK} {B dl:E Q} {St SB SC:N} {C:k} {SL:da} (S:cV u b) (ST:bK a dl C.heap u b.i P3 B) (A1:al a dl St C) (K:cC a J n st u) (V:bt J f g r P3 St=A (.afU 5,R,SC)) (SZ:bt d f g ad R SC=A (SL,wp,SB)) {Tm:oz->k->Prop} {agD:U->k->Prop}
 (A5:∀go T ge,ay B dl go C T->b4 dl C.heap T.heap->al a go SB T->bK a go T.heap u b.i wp B->ju go T.heap SL ge->Tm ge T):av aI st (exec (.Try Os [.ExceptHandler (A (.Name O agv)) M (Pi::Pv) agw] [] [] agx) u) Tm agD C:=by
 refine K_ (agy.bf S ST A1 K V (λahh B0=>by cases B0;rfl) _ _ (λv af ge ahC ahC ahC ahC B2=>B2.elim) λv af D ahC ai agE Ty B3 F TD agF=>as λahC s=>K.cq _ λff H B8 f2 agG agH agI Ch agJ agK=>K.sr Ty B3.cm _ λahC agL Cl gt=>s ?_);replace Cl:=B8▸Cl;refine as λahC s=>?_;obtain rfl:ff::H=agL:=aG Cl;refine B3.cq _ λahi ahj agM ahk ahl ahC ahC=>s ((Uz Ch).symm▸?_);have C9:∀o∈(ff::H).filterMap (·.frame),o∉v/\∀q,af.heap.get? o=A q->ke o q:=λo p=>by
  refine as λahC s=>?_;obtain⟨bM,X,kw⟩:=oG.mp p;refine gt bM X _ λahC ld q g1 g2 g3 dM ahC=>s ?_;replace g1:=kw▸g1;obtain rfl:=aG g1;exact⟨g2,λTE L=>by rw[g3]at L;obtain rfl:=aG L;exact dM⟩
 refine EL (g:=C.heap) B8 (mD.ab6 gt) (Ch.trans agM) (λo p=>ai.jW p) F λagN le TI TT agO=>xS (c:=(ff::H).filterMap (·.frame)) (a:={af with heap:=agN}) agO λy Da XV agP abs=>as λahC s=>agu.obj _ λa1 ahm ahn aho ahp sub ahq ahr ahs aht ahu ahv ahw ahx agQ=>s ?_;have D5:∀r∈le++Da,C.heap.get? r=M:=λr x=>by
  rcases cE.mp x with t|t
  .rcases(TI r t).1 with rfl|agR
   .exact TD
   .exact agR
  .exact(XV r t).1
 have Fr:hB ((ff::H).filterMap (·.frame)) (le++Da) af.heap y:=(TT.kE (λo p ahC=>ji _ p) λahC t=>t).trans (agP.kE (λo p ahC=>jj _ p) λahC t=>t);have agn:∀r∈le++Da,a.get? r=M/\∀q,af.heap.get? r=A q->∃Y,q.data=.fields Y:=λr x=>by
  refine⟨A1.lq (D5 r x),λq lo=>?_⟩;by_cases FB:r∈le
  .exact(TI r FB).2 q lo
  .refine as λahC s=>?_;obtain⟨GM,V⟩:=TT.slots r q lo FB;refine s ?_;have Id:=(XV r ((cE.mp x).resolve_left FB)).2 {q with slots:=GM} V;exact Id
 refine as λahC s=>?_;obtain⟨IO,ago⟩:=Ty.zy Fr agn C9;have KB:=Fr.step (i:=v) λo p=>(C9 o p).2;have agS:(en i::hf).contains (.type "BaseException")=J:=G;have agT:=(IO.gd W) _ _ agQ;refine abs.at _ λahy Y KF agU ahz X ahC=>s (wpAny_handleBy_cons (codeAny_handlers_test ?_) (by intro A5;exact nomatch A5));refine v8 S.kind (by rw[S.kindOf];exact agB) (Bm (env:=u) (mg:=bw.cB) ?_ P ?_) agC
 .rw[S.globals];exact IO.ns W.g
 refine wpAny_excMatches_sub_self agT KF agU agS (codeAny_handlers_suite (xS (c:=(ff::H).filterMap (·.frame)) (a:={af with heap:=y}) abs λI agp mp agq agV=>?_));have agr:∀o∈(ff::H).filterMap (·.frame),o∉v/\∀q,y.get? o=A q->ke o q:=λo p=>by
  refine⟨(C9 o p).1,λq lo=>as λahC s=>?_⟩;obtain⟨bM,X,kw⟩:=oG.mp p;refine gt bM X _ λahC ld agW g1 ahC g3 dM ahC=>s ?_;replace g1:=kw▸g1;obtain rfl:=aG g1;obtain⟨GM,eX⟩:=Fr.slots o agW g3 λZ=>by
   obtain⟨Y,P⟩:=(agn o Z).2 _ g3;refine gt bM X _ λahC ahC ahC KK ahC KM ahC agX=>?_;obtain⟨ahA,s,agY⟩:=agX;replace KK:=kw▸KK;obtain rfl:=aG KK;replace KM:=g3▸KM;obtain rfl:=aG KM;replace P:=agY▸P;exact nomatch P
  replace eX:=lo▸eX;obtain rfl:=aG eX;exact dM
 have agZ:∀r∈agp,a.get? r=M/\∀q,y.get? r=A q->∃Y,q.data=.fields Y:=λr x=>⟨A1.lq (mp r x).1,(mp r x).2⟩;refine as λahC s=>?_;obtain⟨of,ags⟩:=IO.zy (b:={af with heap:=y}) agq agZ agr;have KT:ay agp v v {af with heap:=y} {af with heap:=I}:=agq.step (TT:={af with heap:=y}) (i:=v) λo p=>(agr o p).2;have Ns:∀o∈B,∃q,C.heap.get? o=A q:=λo p=>(ST.t o p).2.2;have ag0:bK a v y u b.i R B:=B3.bm KB (λo p Z=>by obtain⟨q,F⟩:=Ns o p;rw[D5 o Z]at F;exact nomatch F) ago;have w:bK a v I u b.i R B:=bK.bm (b:={af with heap:=y}) ag0 KT (λo p Z=>by obtain⟨q,F⟩:=Ns o p;rw[(mp o Z).1]at F;exact nomatch F) ags;have ag1:∀o∈[D],o∉v:=λo p=>by rw[b2.mp p];exact agF
 have ag2:=of.ox ag1;have ag3:=W.ox of [D];refine agV.at _ λag4 ag5 ag6 ahB ag7 ag8 ahC=>s ?_;have ag9:bK (ir a I [D]) v I u b.i R B:=by
  refine⟨w.ns,λo p=>⟨(w.t o p).1,?_,(w.t o p).2.2⟩,w.own,w.cq,w.cells,w.inj,w.aeJ,w.len⟩;cases Id:(ir a I [D]).get? o with
  |none=>rfl
  |some q=>
   rcases(tJ Id).2 with t|⟨TE,t⟩
   .refine as λahC s=>?_;obtain⟨TE,L⟩:=Ns o p;refine s ?_;replace L:=TD▸(b2.mp t)▸L;exact nomatch L
   .rw[(w.t o p).2.1]at t;exact nomatch t
 have ag_:cC (ir a I [D]) d n (st.mark (A (.ref D))) u:=by
  refine⟨K.depth,K.units,λahC aha=>aha ff H B8 f2 agG agH agI Ch agJ λbM KF=>?_,K.guards,(λt=>by exact nomatch t),.inr ⟨D,ag4,ag5,G,(lU (.inl gZ)).trans ag6,ag7,ag8⟩⟩;refine as λahC s=>?_;obtain⟨ahb,ld,q,g1,g3,dM,eX⟩:=agK bM KF;obtain⟨GM,V⟩:=of.data ld q g3;exact s (⟨ahb,ld,_,g1,(lU (.inr ⟨q,g3⟩)).trans V,dM,eX⟩)
 have agt:=uE ad agA SZ;refine(agz _ ag3).bf (TI:={af with heap:=I}) S ag9 ag2 ag_ SZ (rQ agt) _ _ (λOn dD ge ahc ahd ahe z B2=>?_) λOn dD O B0=>pO agt B0;have mK:=((ai.trans KB λo p=>.inr (D5 o p)).trans KT λo p=>.inr (mp o p).1).eJ ahc;have ahf:=of.vK ahe;have ahg:bK a On dD.heap u b.i wp B:=by
  exact⟨z.ns,λo p=>⟨(z.t o p).1,((w.t o p).2.1),(z.t o p).2.2⟩,z.own,z.cq,z.cells,z.inj,z.aeJ,z.len⟩
 exact A5 On dD ge mK (agE.then ai (ago.then KB (ags.then KT ahd))) ahf ahg B2
def Vv(W:c1 a h)(K:js h e i j l m){s p:E c}{t:E cx}{u:cx}{v:E cx}{k:am}{L N O:dj}(w:hX a n f g e b s t)(P:∀x,c1 x h->hX x n f g e b p (u::v))(Q:hm p=J)
 (R:b.names.lookup k=A .globalImplicit) (S:bw.cB k=A (.ref e)) (T:(k==("__debug__":am))=d):
 ha a n f g e b (.try s 5 p) (.Try t [.ExceptHandler (A (.Name k L)) M (u::v) N] [] [] O):=by
 refine⟨λ{gt kw ld le lo mp of st wp A1 A5} y z B C q=>abM q (λB0 B2 U V X=>?_) λY q Z ad dl o B3=>K_ (w.bf y z B C q Z _ _ (λr af ge ai D F H I=>?_) λr af B8 go=>pO Y go)⟩
 .subst V;exact .mk λad dl o=>aag W K w P Q R S T y z B C U X o
 .cases ge with
  |next=>exact tg (o r af _ ai D F H I)
  |_=>exact o r af _ ai D F H I
end
end
section
def CW:∀(g:E (am×lD))(n:I)(a:E (am×Q))(b:aq),(∀h∈g,h.2≠.cell)->s5 n g a=a/\wL b g=b:=by
 intro f
 induction f with
 |nil=>
  intro o o o o;exact⟨G,G⟩
 |cons i m j=>
  obtain⟨h,c⟩:=i;intro n a b e;unfold s5 wL;rw[(nx.mpr (e (h,c) gZ):(c==oJ)=d)];exact j n a b λk l=>e k (lC _ l)
section
variable{f:aq}{h:bF}{i:U->k->Prop}{a:E Q}{g:N}{b:bL}
def Pa{scope:g5}{C:E am}{D:E L}{S:E U}{l:k}{F:I}{T:am}{func:j Q}{kP:U}{t:E (am×Q)}{V:b9->k->Prop}(ad:bw.ls<=l.heap.objs.size)(dl:scope.kind=.function)(Y:b.names=scope.names)(y:i0 b F C=J)
 (H:∀ge∈scope.names,ge.2≠.cell) (K:al f a g l) (gt:aC a l.heap D S) (kw:C.length=D.length)
 (ld:∀o r go,cV o b->o.scope=scope->o.frame=A o.locals->o.cells=t->o.func=func->o.code=kP->ay [] a a l r->al f a g r->bK f a r.heap o b.i (e3 F D) go->(∀p∈go,l.heap.get? p=M)->V o r):
 av aI h (tc scope eN t (C.zip S) T func kP M g6) V i l:=by
 have le:=y;unfold i0 at y;simp only[eB,j8,di,oP]at y;obtain⟨⟨⟨⟨lo,mp⟩,D5⟩,Fr⟩,of⟩:=y;have kinds:∀(n:I)(m:am),b.i[n]?=A (A m)->b.names.lookup m=A .local:=λn m N=>by
  have:=of _ (d7 N);have st:b.names.lookup m=A .local\/b.names.lookup m=A .cell:=by simpa using this
  refine st.resolve_right λW=>?_;rw[Y]at W;exact H _ (m3 W) G
 simp only[tc,j.isSome_none,j0,g7];refine e (La (e (Lk _ (λFB wp GM=>by cases A1:wp==oJ<;>simp[A1]) _ _ _ _ ?_)));obtain⟨A5,KK⟩:=CW scope.names ({l with heap:=l.heap.push {cls:=.type "frame",data:=.dict #[]}}:k).heap.objs.size t (l.heap.push {cls:=.type "frame",data:=.dict #[]}) H;have B0:=(CW scope.names 0 t (l.heap.push {cls:=.type "frame",data:=.dict #[]}) H).2;rw[A5];show av _ _ _ _ _ {l with heap:=wL (l.heap.push {cls:=.type "frame",data:=.dict #[]}) scope.names};rw[B0];have z:∀p,l.heap.objs.size<=p->l.heap.get? p=M:=λp q=>by
  cases u:l.heap.get? p with
  |none=>rfl
  |some s=>exact bC (du u) (hv.mpr q)
 have O:∀v s,l.heap.get? v=A s->(l.heap.push {cls:=.type "frame",data:=.dict #[]}).get? v=A s:=λv s u=>bU _ u;have X:(l.heap.push {cls:=.type "frame",data:=.dict #[]}).get? l.heap.objs.size=A {cls:=.type "frame",data:=.dict #[]}:=dt _ G;have B2:ay [] a a l {l with heap:=l.heap.push {cls:=.type "frame",data:=.dict #[]}}:=ay.bm a l l.toks O;have B3:al f a g {l with heap:=l.heap.push {cls:=.type "frame",data:=.dict #[]}}:=K.bm l.toks O;let o:b9:={scope:=scope,locals:=l.heap.objs.size,globals:=eN,cells:=t,qual:=T,func:=func,code:=kP,frame:=A l.heap.objs.size,builtins:=g6};have B:cV o b:=⟨dl,G,G,Y.symm⟩;have Z:∀(n:I)(m:am),b.i[n]?=A (A m)->o.kindOf m≠A .local->dT:=λn m N w=>w (by rw[B.kindOf];exact kinds n m N);have B8:bK f a (l.heap.push {cls:=.type "frame",data:=.dict #[]}) o b.i (hu F M) [l.heap.objs.size]:=by
  refine⟨λKK P=>P _ (Im l.heap (.type "frame")) λn m Ch x R=>?_,λp q=>?_,gZ,λKK P=>P _ _ G gZ X ⟨G,ad⟩ ⟨_,⟨_,G⟩⟩,λn m Cl x w Id=>(Z n m x w).elim,λn IO m ge Cl x KB w=>(Z n m x w).elim,t1 mp,by rw[An];exact lo⟩
  .have:Ch=M:=by
    have:=d7 R;exact(Ar.mp this).2
   subst this;exact .inl (by rw[B.kindOf];exact kinds n m x) (λKF R=>by cases R)
  .rw[b2.mp q];exact⟨K.nc (z _ (c_ _)),K.lq (z _ (c_ _)),_,X⟩
 exact e (Cn (s:=o) (a:=a) (g:=g) B _ (λKK KK KK=>rfl) le B8 B3 kw (gt.bm (bW.refl _) λv s KK u KK KK=>O v s u) λr c C9 Da KK=>aJ (ld o r _ B G rfl rfl rfl rfl (B2.trans c λp q=>.inr (by rw[b2.mp q];exact z _ (c_ _))) C9 Da λp q=>by rw[b2.mp q];exact z _ (c_ _)))
end
end
section
section
variable{a:sN}{b:bF}{c:U->k->Prop}{f:k}{g:b9}
def NR(n:o.all jL=J)
 (u:av a b (oW (ih p (hA o g))) (λq h=>(∀(r:oC->k->Prop),r .boundFrame h->av a b (mx s) r c h)/\av a b (eu s (first++q)) i c h) c f):
 av a b (wk p s first (ih p (hA o g)) []) i c f:=by
 refine e (fc (Dz n (fd u (λq h l=>e (kT ?_)) λy y j=>j)));have tail:∀{t:ef U},av a b t i c h->av a b (t>>=λm=>Bh [m] point>>=λy=>pure m) i c h:=
  λv=>e (fd v (λm x w=>e (fc (BG (aJ w)))) λy y j=>j)
 simp only[vq n,E.any_nil,ql];refine e (l.1 _ ?_);dsimp only
 split
 .exact tail l.2
 .exact tail (wpAny_keep l.2)
def S9{g h:Q}{l:U}{i:cn}{ax:j1}(m:f.heap.get? g=A {cls:=.type "method",dict:=M,data:=.fields #[.ref h,l],slots:=#[]})(n:f.heap.get? h=A i)(o:i.data=.func ax)(j:oC->k->Prop)(p:j .boundFrame f):
 av a b (mx (.ref g)) j c f:=by
 refine e (o0 m (e (o0 n ?_)));rw[o];exact aJ p
end
def Mk(a:dy)(k g c:Q)(ax:j1)(h:am)(f:Q)(i:Prop):Prop:=ax.scope.names.lookup ("super":am)=A .globalImplicit->ax.scope.names.lookup ("__class__":am)=A .free->(∀l∈ax.scope.names,l.2≠.cell)->ax.code=.ref c->(ax.params.posonlyargs++ax.params.args).head?.map (·.arg)=A h->∀b:aA (qZ a c),aA (tm a g (cX 0))->(f0.main.scope.names.lookup ("super":am)).isSome=d->(∃b,j7 a (cX 0)=A b/\wh a "__init__" ((b.mro.dropWhile (·!=.ref (cX 0))).drop 1)=A (A (.ref f)))->oV a (cX 0) (.ref (cX 0))=A J->(∃e j,a.lookup f=A e/\e.cls=.type "function"/\e.data=.func j)->j9 a s3 "thirdparty.any"=A M->bw.cB "super"=M->i
section
variable{f:aq}{n:I}{b:ah->cb}{e:ce}{g:Q}{a:dy}{b1:I->Q}
def ZO(g:bt h b e (.agk v::q) r o=A (s,t,u)):aA (tn (λi m p w l=>aA (j_ (r[0]?=A (A (.ref i))) (o[i]?=A (.c8 0 m)) (o[m]?=A (.afS p)) (b h v [.ref i] o=A (.ret w,l)) (bt h b e q r l=A (s,t,u))))):=by
 rcases y5 g with⟨f,l,j,a⟩|⟨k,a⟩
 .exact zv (u:=λE f l=>bt h b e q f l=A (s,t,u)->_) j (λi m p n x y z B C a=>λE c=>c i m p n x (λE c=>c y z B C a)) a
 .exact zv (u:=λD E E=>D.mg=d->_) a (λE E E E E E E E E h=>kG h) k
def RS{F S wp:Q}{q:bb}{r:I}{H:E c}{ax:j1}{V:E am}{A1:E cx}{K:bL}{Y:cn}{O:am}{TD TE A5 B0 TI:dj}(B2:c1 f a)(TT:∀o,c1 o a->mA o n b b1 g)(B3:a.lookup F=A Y)(B8:Y.data=.func ax)
 (l:o7 ax V (.Expr (.Call (.Attribute (.Call (.Name "super" TD) [] [] TE) "__init__" A5) [] [] B0) TI::A1) [("__class__",S)]) (XV:nz a ax.code ax.qualname=J) (abs:(A5.endLine==B0.line)=J)
 (agn:K.names=ax.scope.names) (ago:i0 K q.slots V=J) (Ch:V.length=q.params) (agp:q.body=.agk r::H) (agq:hm H=J) (agr:aA (Mk a F S wp ax O (b1 r))) (ags:K.i[0]?=A (A O)) (agt:(O==("__classdict__":am))=d)
 (agu:∀o,c1 o a->hX o n b e g K H A1)
 {y:ah} {z:bF} {s:E Q} {W Cl:N} {v:k} {Z:E L} {C9:E U} {Da:dW} (D5:mJ f y (n+1) z) (Fr:mD z s v.heap) (B:al f s W v) (bB:aC s v.heap Z C9) (FB:Z.length=q.params)
 (m:kl (bt y b e q.body (e3 q.slots Z) W)=A (Da,Cl)) (GM:iM->k->Prop)
 (agv:∀go T D ge,Da=.ret D->ay [] s go v T->al f go Cl T->aF go T.heap D ge->GM (.ok (.ret ge)) T):hx aI z (.call (.ref F) ⟨C9,[]⟩) GM v:=by
 refine agr _ λagw agx agy agz Id agA agB agC IO agD agE agF agG=>?_;refine as λahx j=>Fr _ λagH KB agI KF=>?_;clear Fr;refine j ?_;have X:=B.gd B2;have t:=B2.ox B (KB.filterMap (·.frame));refine Bb ((by have:=D5.depth;exact E1 this (G:hz=1000)):z.depth<hz) (X _ _ B3) B8 l.aeX l.gen l.body (wn X XV) ?_;rw[tM l (by rw[Ch,<-FB,bB.length])];refine aJ ?_;rw[l.afa,l.aga,l.ae_];refine Pa (F:=q.slots) agH l.kind agn ago agy (B.ox (λh o=>(xV KF o).1:∀h∈KB.filterMap (·.frame),h∉s)) bB (by rw[Ch,FB]) λP af agJ p R ahb agK agL agM ai u KK fresh=>⟨?_,ks_codeAny_funcAt ?_⟩
 .refine as λahx j=>?_;obtain⟨ahc,sub,agN,ahx⟩:=t.base.lu;exact j (agN.keeps λh i m=>u.bu h i (sub h i m).1 (sub h i m).2)
 .have ad:=DL (h:=P) D5 agI KF B (by rw[R];exact l.gen) (by rw[R];exact l.aeX) p.kind p.builtins p.globals;refine as λahx j=>?_;obtain⟨ahd,ahe,KM,agO⟩:=xL m;refine j ?_;rw[agp]at KM;refine as λahx j=>ZO KM _ λagP ahf ahg agQ agR KT=>KT _ λagS agT agU agV Ns=>?_;clear KT;have dl:=u.gd t;refine u.c8 agT agU _ λw ahh ahi ahj On=>On _ λOs ahk ahl ahm Pi=>?_;clear On;obtain⟨ahn,aho,agW,ahp⟩:=Y;obtain rfl:agW=.func ax:=B8;refine j ?_;have agX:aA (xc a P F S wp (cX 0) O):=by
   refineλahx gt=>gt p.kind (by unfold zR;rw[R];exact agw) (by unfold zR;rw[R];exact agx) p.globals p.builtins agL (agM.trans agz) (by rw[agK];rfl) ?_ agA agB ?_ agC
   .cases kw:(ax.params.posonlyargs++ax.params.args).head? with
    |none=>have:=Id;rw[kw]at this;cases this
    |some agY=>have:=Id;rw[kw]at this;exact⟨_,_,_,_,agY,B3,kw,aG this⟩
   .obtain⟨ld,agZ,ahx⟩:=IO;exact⟨ld,agZ⟩
  refine Bl (KJ (Et G (by simp) abs (GS dl (u.ns t.g) agG (u.ns t.b) ((t.ae9 _ (by decide)).trans CM) agX G Pi.at_ G (λag0 m=>by cases m) agD (λle lo=>x6 p KK ags agS agt le _ λge mp=>?_) λx ag1 Pv=>?_)) ((by unfold s7;rw[p.kind];rfl):s7 P=d) G)
  .rw[mp.mj Os];exact lo
  .refine as λahx j=>?_;obtain⟨ld,P3,ag2⟩:=IO;obtain⟨ahq,ahr,St,ag3,ag4⟩:=agE;refine j ?_;have C:a.In x:=dl.keeps Pv;refine ks_wpAny_getMethod_super (K:=a) ag1 (KQ C agF) (l₀:=ld.mro) ((s9 C P3).andThen .now) G C ag2 (C _ _ St) ag3 (ks_ne dl Pi P3) G ?_;have SB:∀h i,x.get? h=A i->(x.push {cls:=.type "method",data:=.fields #[.ref (b1 r),.ref w]}).get? h=A i:=λh i m=>bU _ m;have SC:(x.push {cls:=.type "method",data:=.fields #[.ref (b1 r),.ref w]}).get? x.objs.size=A {cls:=.type "method",dict:=M,data:=.fields #[.ref (b1 r),.ref w],slots:=#[]}:=zZ G rfl;have all:∀h i,af.heap.get? h=A i->(x.push {cls:=.type "method",data:=.fields #[.ref (b1 r),.ref w]}).get? h=A i:=λh i m=>SB h i (Pv h i m);have SL:=ay.bm s af (af.toks+1) all;have of:=u.bm (af.toks+1) all;have ST:=KK.quiet u SL;refine NR G (qX ⟨λle lo=>S9 SC (SB _ _ (C _ _ St)) ag4 le lo,(nC (ks_codeAny_call_bound SC (TT _ t y (z.deeper P) r s W agR _ [.ref agP] [.ref w] (.ret agQ) ad.zz (ad.sr of ST.cm) of (aC.mk (λahx gt=>gt w Os G) (aC.eY.mpr G)) agV (λag0 y=>by cases y) _ (λag5 bz D ge ahs SZ ag6 aht=>?_) λag5 bz ag7 st=>by cases st)))⟩);have Tm:=uE H agq Ns;refine qY ((agu _ t).bf p (ST.quiet of SZ) ag6 ad Ns (rQ Tm) _ _ (λTy dD ahu ag8 ahv ag9 ahw ag_=>as λahx j=>?_) λTy dD ag7 st=>pO Tm st);obtain⟨D,aha,mp⟩:=Dt agO ag_;exact j (agv Ty dD D _ aha (((ai.then SL).then SZ).trans ag8 (λh o=>.inr (fresh h o):∀h∈agJ,h∈([]:E Q)\/v.heap.get? h=M)) (B.vK ag9) mp)
end
end
noncomputable def Y:X:=.var 0
noncomputable def ac:X:=.var 1
noncomputable def ao:X:=.var 2
noncomputable def aS:X:=.var 3
noncomputable def bv:X:=.var 4
noncomputable def bN:X:=.var 5
noncomputable def bS:X:=.var 6
noncomputable def cI:X:=.var 7
noncomputable def cQ:X:=.var 8
noncomputable def ec:X:=.var 9
noncomputable def dR:X:=.var 10
noncomputable def fU:X:=.var 11
noncomputable def dJ:X:=.var 12
noncomputable def hN:X:=.var 13
noncomputable def iF:X:=.var 14
noncomputable def p8:X:=.var 15
noncomputable def jU:X:=.var 17
noncomputable def vF:X:=.var 18
noncomputable def Hn:X:=.var 19
noncomputable def Ho:X:=.var 20
noncomputable def Hp:X:=.var 21
noncomputable def aQ:X:=.lit (.int 0)
noncomputable def a0:X:=.lit (.int 1)
noncomputable def ct:X:=.lit (.int 2)
noncomputable def gL:X:=.lit (.int 3)
noncomputable def n_:X:=.lit (.int 4)
noncomputable def rJ:X:=.lit (.int 5)
noncomputable def Ee:X:=.lit (.int 6)
noncomputable def pM:X:=.lit (.int 7)
noncomputable def hh(a:O):X:=.lit (.int a)
noncomputable def aL(a:am):X:=.lit (.str a)
noncomputable def eQ:X:=.lit (.bool J)
noncomputable def i6:X:=.lit (.bool d)
noncomputable def h7:X:=.lit .none
noncomputable def dd(a b:X):X:=.af6 .add a b
noncomputable def hI(a b:X):X:=.af6 .sub a b
noncomputable def ep(a b:X):X:=.af6 .mul a b
noncomputable def mP(a b:X):X:=.af6 .fdiv a b
noncomputable def jC(a b:X):X:=.af6 .mod a b
noncomputable def tH(a b:X):X:=.af6 .shl a b
noncomputable def tI(a b:X):X:=.af6 .shr a b
noncomputable def iU(a b:X):X:=.af6 .band a b
noncomputable def Cx(a b:X):X:=.af6 .bor a b
noncomputable def Na(a b:X):X:=.af6 .bxor a b
noncomputable def Nb(a b:X):X:=.af6 .pow a b
noncomputable def ba(a b:X):X:=.af0 a .eq b
noncomputable def gl(a b:X):X:=.af0 a .af1 b
noncomputable def f6(a b:X):X:=.af0 a .lt b
noncomputable def NP(a b:X):X:=.af0 a .le b
noncomputable def iw(a b:X):X:=.af0 a .gt b
noncomputable def NN(a b:X):X:=.af0 a .ge b
noncomputable def gJ(a b:X):X:=.af0 a .agf b
noncomputable def pp(a b:X):X:=.af0 a .agh b
noncomputable def NO(a b:X):X:=.af0 a .agd b
noncomputable def ar(a b:X):X:=.agi a b
noncomputable def bE(a:X)(b:I):X:=.br a b
noncomputable def aV(a:I)(b:E X):X:=.call a b
noncomputable def aN(a:X)(b:I)(c:E X):X:=.agg 0 a b c
noncomputable def gU(a:X)(b:I)(c:E X):X:=.agg 1 a b c
noncomputable def et(a b:X):X:=.af_ a .append [b]
noncomputable def dm(a:X):X:=.afZ .len [a]
noncomputable def zt(a:X):X:=.afZ .abs [a]
noncomputable def gy(a:X):X:=.afZ .tuple [a]
noncomputable def abJ(a:X):X:=.afZ .list [a]
noncomputable def zu(a:X):X:=.afZ .all [a]
noncomputable def abI(a:X):X:=.afZ .any [a]
noncomputable def nb(a:X):X:=.afZ .agm [a]
noncomputable def vD(a:X):X:=.afZ .str [a]
noncomputable def aU(a:E X):X:=.ab a
noncomputable def bl(a:I)(b:X):c:=.agb (.aa a) b
noncomputable def d5(a:E I)(b:X):c:=.agb (.afQ a) b
noncomputable def aE(a:X):c:=.ret a
noncomputable def bR(a:X):c:=.expr a
noncomputable def cj(a:O):X:=.aga (.int a)
noncomputable def a9(a:X)(b:E c):c:=.ite a b []
noncomputable def pz:bb:=⟨1,18,[bl 1 (abJ (.slice Y h7 (hh 12))),a9 (f6 (dm ac) gL) [bl 1 (dd ac (.slice (.list [ct,hh 90210,hh 1298,hh 778,hh 41,hh 5003,hh 1729]) (dm ac) h7))],bl 2 (.new 0 []),bl 3 (.new 1 [ao]),bl 4 (aU [cj 0,cj 1,cj 2,aN ao 3 [aL "U"],aN ao 4 [dd a0 (jC (ar ac aQ) gL)]]),bl 5 (.list [ar ac a0]),bl 6 (aV 5 [ao,aS,bv,bN]),bl 7 (aV 6 [ao,aS,bv,bN]),.for (.aa 8) .val [.slice ac ct h7] [bR (et bS (aV 7 [ao,bS,cI,cQ]))],bl 9 (.comp (aV 8 [ao,dJ,hN]) (.afQ [11,12,13]) .val [bS] eQ),bl 10 (.comp iF (.afQ [14,15,16]) .val [bS] eQ),a9 (gl (nb (aV 9 [ao,aS,dR])) (nb ec)) [aE i6],a9 (gl (nb (.list [aV 10 [ao,aS,ar dR (.neg a0)],gU aS 11 [ar dR (.neg a0)]])) (nb (.list [ar ec (.neg a0),ar ec (.neg a0)]))) [aE i6],aE (zu (.comp (aV 12 [ao,aS,jU]) (.aa 17) .val [cI] eQ))]⟩
noncomputable def mZ:bb:=⟨1,1,[.agk 13,.afY Y 0 (.af7 d)]⟩
noncomputable def Qq:bb:=⟨2,2,[.afY Y 1 ac,.afY Y 2 (.af7 d),.afY Y 3 (.af7 d)]⟩
noncomputable def P0:bb:=⟨2,2,[bR (et (bE Y 4) ac),bR (et (bE Y 5) aQ),aE (hI (dm (bE Y 4)) a0)]⟩
noncomputable def QJ:bb:=⟨2,2,[a9 (f6 ac a0) [.raise 3 (aL ("a bit vector has one bit at least"))],a9 (iw ac (cj 4096)) [.raise 4 (.af3 [aL ("a bit vector has at most "),cj 4096,aL (" bits")])],a9 (pp ac (bE Y 0)) [bR (et (bE Y 4) (.af3 [aL ("(_ BitVec "),ac,aL ")"])),bR (et (bE Y 5) ac),.af9 (bE Y 0) ac (hI (dm (bE Y 4)) a0)],aE (ar (bE Y 0) ac)]⟩
noncomputable def Rb:bb:=⟨4,9,[bl 4 (.list []),.for (.aa 5) .val [ao] [.for (.aa 6) .range [gL] [bl 7 (aN Y 14 [dd (aL "c") (vD (dm bv)),aU [],bN]),bl 8 (.ite (f6 bS ct) (aV 15 [Y,bN,aS]) (aV 16 [Y,bN])),a9 (f6 bS ct) [bR (gU ac 17 [cI,aU [],aV 8 [Y,bN,cQ]])],bR (et bv (aU [aN Y 18 [cI,aU []],bN,cQ]))]],aE bv]⟩
noncomputable def Ro:bb:=⟨4,22,[d5 [4,5,6,7,8] ao,bl 9 (.list [aU [aU [cI],cI],aU [aU [bv],bN],aU [aU [bN,cQ],bv],aU [aU [cQ],bS]]),bl 10 (.list []),.for (.afQ [11,12]) .val [ec] [bl 13 (aN Y 14 [dd (aL "f") (vD (dm dR)),fU,dJ]),d5 [14,15] (aU [.af7 J,aV 16 [Y,dJ]]),.for (.aa 16) .range [ct] [bl 17 (gy (.comp (aV 15 [Y,Hn,aS]) (.aa 19) .val [fU] eQ)),a9 (pp jU iF) [.af9 iF jU (aV 15 [Y,dJ,aS]),bl 18 (gy (.comp (aV 8 [Y,Ho,Hp]) (.afQ [20,21]) .zip [fU,jU] eQ)),bR (gU ac 17 [hN,vF,aV 8 [Y,dJ,ar iF jU]])]],a9 (ba (aV 19 [aS,ct]) aQ) [bl 15 (aV 15 [Y,dJ,aS]),bR (gU ac 20 [hN,aV 8 [Y,dJ,p8]])],bR (et dR (aU [hN,fU,dJ,iF,p8]))],aE dR]⟩
noncomputable def Rn:bb:=⟨4,6,[bl 4 (.list [aS]),bl 5 (aV 19 [bv,Ee]),a9 (ba bN aQ) [aE (aV 21 [Y,ac,bv])],a9 (ba bN a0) [aE (aV 22 [Y,ac,bv,.ite (ba (aV 19 [bv,ct]) aQ) (cj 1) (cj 2)])],a9 (ba bN n_) [aE (aV 23 [Y,ac,bv])],a9 (ba bN rJ) [aE (aV 24 [Y,ac,ao,bv])],aE (aV 25 [Y,ac,bv])]⟩
noncomputable def Rp:bb:=⟨3,3,[a9 (iw (aN Y 26 [ac]) aQ) [aE (aU [aL "bv",aV 27 [ao],dm ao])],aE (.ite (aN Y 28 [ac]) (aU [aL "elem",ac,ao]) ao)]⟩
noncomputable def Q5:bb:=⟨3,8,[bl 3 (.af7 d),.for (.aa 4) .val [aN Y 29 [ao]] [bl 5 (.comp (ar aS bS) (.aa 6) .val [aN Y 30 [bv]] eQ),.ite (ba (aN Y 31 [bv]) (aL "app")) [.af9 aS bv (gU ac 32 [aN Y 33 [bv],gy bN])] [.af9 aS bv (aV 34 [Y,bv,bN])]],aE (.comp (ar aS cI) (.aa 7) .val [ao] eQ)]⟩
noncomputable def Q4:bb:=⟨3,3,[aE (ar (aV 9 [Y,ac,aU [ao]]) aQ)]⟩
noncomputable def Qv:bb:=⟨2,2,[aE (aV 10 [bE Y 1,Y,ac])]⟩
noncomputable def xP:bb:=⟨3,15,[d5 [3,4,5,6,7] ao,bl 8 (.list []),.for (.aa 9) .ie [bS] [bl 10 (gy (.comp (aV 8 [Y,hN,iF]) (.afQ [13,14]) .zip [bv,ec] eQ)),bR (et cQ (aU [dR,aV 8 [Y,bN,ar bS ec]]))],d5 [10,11] (ar cQ aQ),bR (gU ac 17 [aS,dR,fU]),bl 12 (.ite (aN Y 28 [bN]) (aU [aL "elem",bN,pM]) (.ite (gl bN (cj 0)) (aU [hh 9,a0]) (.not fU))),.try [.agl 1 ac 17 [aS,dR,dJ],aE i6] 5 [aE (.and [ba (gU ac 35 [aS]) cQ,gU ac 36 [aS,dR],ba (gU ac 32 [aS,dR]) fU])]]⟩
noncomputable def P4:bb:=⟨1,1,[.afY Y 4 (.list [aL "Bool",aL "Int",aL "Real"]),.afY Y 5 (.list [aQ,aQ,aQ]),.afY Y 6 (.list []),.afY Y 7 (.list []),.afY Y 8 (.list []),.afY Y 9 aQ,.afY Y 10 (.list [aL ""]),.afY Y 11 (.list [aU []]),.afY Y 12 (.list [cj 0]),.afY Y 13 (.list [aQ]),.afY Y 14 (.af7 J),.afY Y 15 (aN Y 37 [aL "true",aU [],cj 0,aQ]),.afY Y 16 (aN Y 37 [aL "false",aU [],cj 0,aQ])]⟩
noncomputable def PZ:bb:=⟨4,4,[bR (et (bE Y 6) ac),bR (et (bE Y 7) (gy ao)),bR (et (bE Y 8) aS),aE (hI (dm (bE Y 6)) a0)]⟩
noncomputable def Rm:bb:=⟨3,4,[a9 (ba ac (cj 0)) [aE (ba (aV 19 [ao,ct]) a0)],a9 (iw (aN Y 26 [ac]) aQ) [aE (aV 38 [aV 19 [ao,Nb ct (aN Y 26 [ac])],aN Y 26 [ac]])],a9 (aN Y 28 [ac]) [aE (aV 19 [ao,gL])],bl 3 (hI (aV 19 [ao,pM]) gL),aE (.ite (ba ac (cj 1)) (aU [aS,a0]) (aV 39 [aS,dd a0 (aV 19 [ao,gL])]))]⟩
noncomputable def Rk:bb:=⟨2,2,[a9 (ba ac (cj 0)) [aE i6],a9 (iw (aN Y 26 [ac]) aQ) [aE (ep (aU [aQ]) (aN Y 26 [ac]))],aE (.ite (aN Y 28 [ac]) aQ (aU [aQ,a0]))]⟩
noncomputable def Qu:bb:=⟨4,5,[bl 4 (.af_ (bE Y 2) .af5 [ac,.af7 J]),a9 (gl (.af_ bv .af5 [ao,aS]) aS) [.raise 5 (.af3 [aN (bE Y 1) 40 [ac],aL (" has two values for the same arguments")])]]⟩
noncomputable def Qf:bb:=⟨3,6,[bl 3 (ar (bE Y 7) ac),a9 (gl (dm ao) (dm aS)) [.raise 3 (.af3 [ar (bE Y 6) ac,aL (" has "),dm aS,aL (" arguments, not "),dm ao])],.for (.afQ [4,5]) .zip [ao,aS] [bR (aN Y 41 [bv,bN,ar (bE Y 6) ac])],aE (aN Y 37 [aL "app",gy ao,ar (bE Y 8) ac,ac])]⟩
noncomputable def Rd:bb:=⟨2,3,[bl 2 (jC (ar Y aQ) ac),.af9 Y aQ (mP (ar Y aQ) ac),aE ao]⟩
noncomputable def Qt:bb:=⟨3,3,[.af9 (bE Y 3) ac ao]⟩
noncomputable def t_:bb:=⟨3,14,[d5 [3,4,5] (.comp (aV 42 [ac,ao,cj 0]) (.aa 13) .range [gL] eQ),d5 [6,7,8,9,10,11] (aU [ar aS aQ,ar bv aQ,ar bN aQ,ar aS ct,ar bv ct,ar bN ct]),bl 12 (aV 19 [ao,pM]),a9 (ba dJ aQ) [aE (aU [aN Y 43 [bS],cj 0,.not ec])],a9 (ba dJ a0) [aE (aU [aN Y 44 [.list [bS,cI,cQ]],cj 0,.and [ec,dR,fU]])],a9 (ba dJ ct) [aE (aU [aN Y 45 [.list [bS,cI,cQ]],cj 0,.or [ec,dR,fU]])],a9 (ba dJ gL) [aE (aU [aN Y 46 [bS,cI],cj 0,gl ec dR])],a9 (ba dJ n_) [aE (aU [aN Y 47 [bS,cI],cj 0,.ite ec dR eQ])],a9 (ba dJ rJ) [aE (aU [aN Y 48 [bS,cI],cj 0,ba ec dR])],aE (aU [aN Y 49 [bS,cI,cQ],cj 0,.ite ec dR fU])]⟩
noncomputable def ua:bb:=⟨4,14,[d5 [4,5] (aU [aV 42 [ac,ao,aS],aV 42 [ac,ao,aS]]),d5 [6,7,8,9] (aU [ar bv aQ,ar bN aQ,ar bv ct,ar bN ct]),d5 [10,11] (aU [aV 19 [ao,pM],hI (aV 19 [ao,rJ]) ct]),bl 12 (.ite (ba aS (cj 1)) (aU [fU,a0]) (aV 39 [fU,ct])),bl 13 (aV 39 [ep (ar dJ aQ) (ar cQ aQ),ep (ar dJ a0) (ar cQ a0)]),a9 (ba dR aQ) [aE (aU [aN Y 50 [.list [bS,cI,aN Y 51 [dJ,aS]]],aS,aV 52 [aV 52 [cQ,ec],dJ]])],a9 (ba dR a0) [aE (aU [aN Y 53 [bS,cI],aS,aV 52 [cQ,aU [.neg (ar ec aQ),ar ec a0]]])],a9 (ba dR ct) [aE (aU [aN Y 54 [dJ,bS],aS,hN])],a9 (ba dR gL) [aE (aU [aN Y 55 [bS],aS,aU [.neg (ar cQ aQ),ar cQ a0]])],a9 (ba dR n_) [aE (aU [aN Y 56 [bS,cI],cj 0,.not (aV 57 [ec,cQ])])],a9 (ba dR rJ) [aE (aU [aN Y 58 [bS,cI],cj 0,aV 57 [cQ,ec]])],a9 (ba aS (cj 2)) [aE (aU [aN Y 59 [bS,aU [gL,ct]],aS,aV 39 [ep ct (ar cQ aQ),ep gL (ar cQ a0)]])],aE (aU [aN Y 60 [aN Y 51 [dJ,aS],cI],aS,aV 39 [ep (ar dJ aQ) (ar ec aQ),ep (ar dJ a0) (ar ec a0)]])]⟩
noncomputable def t8:bb:=⟨3,11,[bl 3 (ar (ar ac (aV 19 [ao,dm ac])) a0),d5 [4,5,6] (.comp (aV 42 [ac,ao,aS]) (.aa 10) .range [gL] eQ),bl 7 (aV 19 [ao,gL]),a9 (ba cI aQ) [aE (aU [aN Y 61 [ar bv aQ,ar bN aQ],cj 0,ba (ar bv ct) (ar bN ct)])],a9 (ba cI a0) [bl 8 (.and [gl (ar bv ct) (ar bN ct),gl (ar bv ct) (ar bS ct),gl (ar bN ct) (ar bS ct)]),aE (aU [aN Y 62 [.list [ar bv aQ,ar bN aQ,ar bS aQ]],cj 0,cQ])],bl 9 (aV 42 [ac,ao,cj 0]),aE (aU [aN Y 49 [ar ec aQ,ar bv aQ,ar bN aQ],aS,.ite (ar ec ct) (ar bv ct) (ar bN ct)])]⟩
noncomputable def xO:bb:=⟨4,14,[d5 [4,5,6,7,8] (ar ao (aV 19 [aS,dm ao])),bl 9 (.comp (aV 42 [ac,aS,fU]) (.aa 11) .val [bN] eQ),bl 10 (gy (.comp (ar dJ ct) (.aa 12) .val [ec] eQ)),aE (aU [aN Y 18 [bv,.comp (ar hN aQ) (.aa 13) .val [ec] eQ],bS,.af_ cI .get [dR,cQ]])]⟩
noncomputable def t9:bb:=⟨3,14,[bl 3 (.comp hN (.aa 13) .val [ac] (iw (aN Y 26 [ar hN a0]) aQ)),bl 4 (ar aS (aV 19 [ao,dm aS])),bl 5 (aV 42 [ac,ao,ar bv a0]),d5 [6,7,8,9,10] (aU [ar bv aQ,ar bN aQ,ar bv ct,ar bN ct,ar bv a0]),bl 11 (aV 19 [ao,gL]),a9 (ba fU aQ) [bl 12 (ar (.aga (.ab [.str "bvand",.str "bvor",.str "bvxor",.str "bvadd",.str "bvsub",.str "bvmul",.str "bvshl",.str "bvlshr",.str "bvudiv",.str "bvurem"])) (aV 19 [ao,hh 10])),aE (aU [aN Y 63 [dJ,bS,cI],dR,aV 64 [dJ,cQ,ec]])],a9 (ba fU a0) [bl 12 (ar (.aga (.ab [.str "bvult",.str "bvule",.str "bvslt",.str "bvsle"])) (aV 19 [ao,n_])),aE (aU [aN Y 63 [dJ,bS,cI],cj 0,aV 65 [dJ,cQ,ec]])],aE (aV 66 [Y,ao,bS,cI,cQ,ec])]⟩
noncomputable def Qd:bb:=⟨2,2,[aE (ar (bE Y 5) ac)]⟩
noncomputable def Rc:bb:=⟨1,3,[bl 1 aQ,.for (.aa 2) .lw [Y] [bl 1 (dd (ep ct ac) ao)],aE ac]⟩
noncomputable def P5:bb:=⟨2,2,[aE (.and [iw ac (cj 2),ba (ar (bE Y 5) ac) aQ])]⟩
noncomputable def P9:bb:=⟨2,9,[d5 [2,3] (aU [.list [],.af7 d]),.for (.aa 4) .val [ac] [bl 5 (.list [aU [bv,i6]]),.while (iw (dm bN) aQ) [d5 [6,7] (.af_ bN .pop []),a9 (gJ bS aS) [.cont],a9 cI [.af9 aS bS eQ,bR (et ao bS),.cont],bR (et bN (aU [bS,eQ])),.for (.aa 8) .lw [ar (bE Y 11) bS] [a9 (pp cQ aS) [bR (et bN (aU [cQ,i6]))]]]],aE ao]⟩
noncomputable def PX:bb:=⟨2,2,[aE (ar (bE Y 11) ac)]⟩
noncomputable def P8:bb:=⟨2,2,[aE (ar (bE Y 10) ac)]⟩
noncomputable def Qo:bb:=⟨3,3,[aE (.af_ (.af_ (bE Y 2) .get [ac,.af7 J]) .get [ao,gU Y 67 [ac]])]⟩
noncomputable def PY:bb:=⟨2,2,[aE (ar (bE Y 13) ac)]⟩
noncomputable def RE:bb:=⟨3,7,[bl 3 (aN Y 31 [ac]),a9 (gJ aS (aU [aL "true",aL "false"])) [aE (ba aS (aL "true"))],a9 (ba aS (aL "num")) [aE (aN Y 33 [ac])],a9 (ba aS (aL "bvnum")) [aE (aU [aL "bv",aN Y 33 [ac],aN Y 68 [ac]])],a9 (ba aS (aL "ite")) [aE (.ite (ar ao aQ) (ar ao a0) (ar ao ct))],a9 (iw (aN Y 68 [ac]) aQ) [aE (aV 69 [Y,ac,ao])],a9 (gl (aN Y 70 [ac]) (cj 0)) [aE (aV 71 [aS,ao])],a9 (ba aS (aL "=")) [aE (ba (ar ao aQ) (ar ao a0))],a9 (ba aS (aL "distinct")) [aE (ba (dm (.comp bS (.aa 6) .val [ao] (ba (.af_ ao .count [bS]) a0))) (dm ao))],a9 (gJ aS (aU [aL "<=",aL "<"])) [bl 4 (aV 72 [ar ao aQ,ar ao a0]),aE (.or [f6 bv aQ,.and [ba bv aQ,ba aS (aL "<=")]])],bl 5 (aV 73 [aS,ao]),aE (.ite (NO bN h7) (aV 74 [Y,ac,ao]) bN)]⟩
noncomputable def Qs:bb:=⟨2,2,[aE (.agj (.af_ (bE Y 2) .get [ac,.af7 J]))]⟩
noncomputable def Qp:bb:=⟨3,3,[aE (gJ ao (.af_ (bE Y 2) .get [ac,.af7 J]))]⟩
noncomputable def P7:bb:=⟨5,7,[bl 5 (aU [ac,ao,aS,bv]),bl 6 (.af_ (bE Y 14) .get [bN,aQ]),a9 (ba bS aQ) [bl 6 (dm (bE Y 10)),bR (et (bE Y 10) ac),bR (et (bE Y 11) ao),bR (et (bE Y 12) aS),bR (et (bE Y 13) bv),.af9 (bE Y 14) bN bS],aE bS]⟩
noncomputable def Ra:bb:=⟨2,4,[bl 2 (.list []),.for (.aa 3) .range [ac] [bR (et ao (jC Y ct)),bl 0 (mP Y ct)],aE (gy ao)]⟩
noncomputable def Ri:bb:=⟨2,4,[d5 [2,3] (aU [zt Y,ac]),.while (iw aS aQ) [d5 [2,3] (aU [aS,jC ao aS])],aE (aU [mP Y ao,mP ac ao])]⟩
noncomputable def P1:bb:=⟨2,2,[aE (ar (bE Y 6) ac)]⟩
noncomputable def Qa:bb:=⟨4,4,[a9 (gl (ar (bE Y 12) ac) ao) [.raise 3 (.af3 [aS,aL (": "),ar (bE Y 4) ao,aL (" is wanted, not "),ar (bE Y 4) (ar (bE Y 12) ac)])]]⟩
noncomputable def Rj:bb:=⟨3,5,[bl 3 (.comp bv (.aa 4) .val [Y] (ba (ar bv a0) ao)),aE (ar aS (aV 19 [ac,dm aS]))]⟩
noncomputable def Ql:bb:=⟨2,2,[bR (aN Y 41 [ac,cj 0,aL "not"]),a9 (ba (ar (bE Y 10) ac) (aL "not")) [aE (ar (ar (bE Y 11) ac) aQ)],a9 (ba ac (bE Y 15)) [aE (bE Y 16)],a9 (ba ac (bE Y 16)) [aE (bE Y 15)],aE (aN Y 37 [aL "not",aU [ac],cj 0,aQ])]⟩
noncomputable def Qe:bb:=⟨2,2,[bR (aN Y 75 [ac,cj 0,aL "and"]),a9 (ba (dm ac) aQ) [aE (bE Y 15)],aE (.ite (ba (dm ac) a0) (ar ac aQ) (aN Y 37 [aL "and",gy ac,cj 0,aQ]))]⟩
noncomputable def Qm:bb:=⟨2,2,[bR (aN Y 75 [ac,cj 0,aL "or"]),a9 (ba (dm ac) aQ) [aE (bE Y 16)],aE (.ite (ba (dm ac) a0) (ar ac aQ) (aN Y 37 [aL "or",gy ac,cj 0,aQ]))]⟩
noncomputable def Qn:bb:=⟨3,3,[bR (aN Y 75 [aU [ac,ao],cj 0,aL "xor"]),aE (aN Y 37 [aL "xor",aU [ac,ao],cj 0,aQ])]⟩
noncomputable def Qj:bb:=⟨3,3,[bR (aN Y 75 [aU [ac,ao],cj 0,aL "=>"]),aE (aN Y 37 [aL "=>",aU [ac,ao],cj 0,aQ])]⟩
noncomputable def Qi:bb:=⟨3,3,[bR (aN Y 75 [aU [ac,ao],cj 0,aL "="]),aE (aN Y 61 [ac,ao])]⟩
noncomputable def Qk:bb:=⟨4,4,[bR (aN Y 41 [ac,cj 0,aL "ite"]),bR (aN Y 41 [aS,ar (bE Y 12) ao,aL "ite"]),aE (aN Y 37 [aL "ite",aU [ac,ao,aS],ar (bE Y 12) ao,aQ])]⟩
noncomputable def QC:bb:=⟨2,2,[a9 (ba (dm ac) aQ) [.raise 3 (aL ("+ has one argument at least"))],bR (aN Y 76 [ar ac aQ,aL "+"]),bR (aN Y 75 [ac,ar (bE Y 12) (ar ac aQ),aL "+"]),aE (.ite (ba (dm ac) a0) (ar ac aQ) (aN Y 37 [aL "+",gy ac,ar (bE Y 12) (ar ac aQ),aQ]))]⟩
noncomputable def QA:bb:=⟨3,3,[a9 (.not (aN Y 77 [ao])) [.raise 3 (aL ("a number is of Int or Real"))],a9 (.and [ba ao (cj 1),.not (aV 78 [ac])]) [.raise 3 (aL ("a number of Int is whole"))],aE (aN Y 37 [aL "num",aU [],ao,ac])]⟩
noncomputable def Rh:bb:=⟨2,2,[aE (aV 39 [dd (ep (ar Y aQ) (ar ac a0)) (ep (ar ac aQ) (ar Y a0)),ep (ar Y a0) (ar ac a0)])]⟩
noncomputable def Qy:bb:=⟨3,3,[bR (aN Y 76 [ac,aL "-"]),bR (aN Y 41 [ao,ar (bE Y 12) ac,aL "-"]),aE (aN Y 50 [.list [ac,aN Y 55 [ao]]])]⟩
noncomputable def QE:bb:=⟨3,4,[bR (aN Y 76 [ao,aL "*"]),bl 3 (ar (bE Y 12) ao),a9 (ba (ar (bE Y 10) ao) (aL "num")) [aE (aN Y 51 [aV 79 [ac,ar (bE Y 13) ao],aS])],aE (.ite (ba ac (aU [a0,a0])) ao (aN Y 37 [aL "*",aU [aN Y 51 [ac,aS],ao],aS,aQ]))]⟩
noncomputable def Qz:bb:=⟨2,2,[aE (aN Y 54 [aU [.neg a0,a0],ac])]⟩
noncomputable def Qw:bb:=⟨3,3,[bR (aN Y 76 [ac,aL "<="]),bR (aN Y 41 [ao,ar (bE Y 12) ac,aL "<="]),aE (aN Y 37 [aL "<=",aU [ac,ao],cj 0,aQ])]⟩
noncomputable def Rg:bb:=⟨2,2,[aE (f6 (ep (ar Y aQ) (ar ac a0)) (ep (ar ac aQ) (ar Y a0)))]⟩
noncomputable def Qx:bb:=⟨3,3,[bR (aN Y 76 [ac,aL "<"]),bR (aN Y 41 [ao,ar (bE Y 12) ac,aL "<"]),aE (aN Y 37 [aL "<",aU [ac,ao],cj 0,aQ])]⟩
noncomputable def QB:bb:=⟨3,3,[bR (aN Y 41 [ac,cj 2,aL "/"]),a9 (ba (ar ao aQ) aQ) [.raise 3 (aL ("division by nought is not linear"))],aE (aN Y 54 [aV 80 [aU [a0,a0],ao],ac])]⟩
noncomputable def QD:bb:=⟨3,3,[bR (aN Y 76 [ac,aL "*"]),bR (aN Y 41 [ao,ar (bE Y 12) ac,aL "*"]),a9 (ba (ar (bE Y 10) ac) (aL "num")) [aE (aN Y 54 [ar (bE Y 13) ac,ao])],a9 (ba (ar (bE Y 10) ao) (aL "num")) [aE (aN Y 54 [ar (bE Y 13) ao,ac])],.raise 3 (aL ("a product has one number at least"))]⟩
noncomputable def Qh:bb:=⟨3,3,[bR (aN Y 41 [ao,ar (bE Y 12) ac,aL "="]),a9 (ba ac ao) [aE (bE Y 15)],aE (aN Y 37 [aL "=",aU [.afZ .min [ac,ao],.afZ .max [ac,ao]],cj 0,aQ])]⟩
noncomputable def Qg:bb:=⟨2,2,[a9 (f6 (dm ac) ct) [.raise 3 (aL ("distinct has two arguments at least"))],bR (aN Y 75 [ac,ar (bE Y 12) (ar ac aQ),aL "distinct"]),aE (aN Y 37 [aL "distinct",gy ac,cj 0,aQ])]⟩
noncomputable def QK:bb:=⟨4,4,[bR (aN Y 81 [ao,ac]),bR (aN Y 41 [aS,ar (bE Y 12) ao,ac]),a9 (gJ ac (.aga (.ab [.str "bvand",.str "bvor",.str "bvxor",.str "bvadd",.str "bvsub",.str "bvmul",.str "bvshl",.str "bvlshr",.str "bvudiv",.str "bvurem"]))) [aE (aN Y 37 [ac,aU [ao,aS],ar (bE Y 12) ao,aQ])],a9 (gJ ac (.aga (.ab [.str "bvult",.str "bvule",.str "bvslt",.str "bvsle"]))) [aE (aN Y 37 [ac,aU [ao,aS],cj 0,aQ])],.raise 3 (.af3 [ac,aL (" is no operation of two bit vectors")])]⟩
noncomputable def Rr:bb:=⟨3,9,[bl 3 (dm ac),a9 (gJ Y (aU [aL "bvand",aL "bvor",aL "bvxor"])) [bl 4 (.pick Y ["bvand","bvor","bvxor"] [aU [ct],aU [a0,ct],aU [a0]]),aE (gy (.comp (.ite (gJ (dd (ar ac cQ) (ar ao cQ)) bv) a0 aQ) (.aa 8) .range [aS] eQ))],a9 (ba Y (aL "bvadd")) [aE (ar (aV 82 [ac,ao,aQ]) aQ)],a9 (ba Y (aL "bvsub")) [aE (ar (aV 82 [ac,aV 83 [ao],a0]) aQ)],a9 (ba Y (aL "bvmul")) [bl 5 (ep (aU [aQ]) aS),.for (.aa 6) .range [aS] [a9 (ba (ar ao bS) a0) [bl 5 (ar (aV 82 [bN,.slice (dd (ep (aU [aQ]) bS) ac) h7 aS,aQ]) aQ)]],aE bN],a9 (.or [ba Y (aL "bvudiv"),ba Y (aL "bvurem")]) [aE (ar (aV 84 [ac,ao]) (.ite (ba Y (aL "bvudiv")) aQ a0))],bl 7 (.afZ .min [aV 27 [ao],aS]),a9 (ba Y (aL "bvshl")) [aE (.slice (dd (ep (aU [aQ]) cI) ac) h7 aS)],aE (dd (.slice ac cI h7) (ep (aU [aQ]) cI))]⟩
noncomputable def Q_:bb:=⟨3,3,[a9 (gJ Y (aU [aL "bvslt",aL "bvsle"])) [d5 [1,2] (aU [aV 85 [ac],aV 85 [ao]])],aE (.ite (gJ Y (aU [aL "bvult",aL "bvslt"])) (aV 86 [ac,ao]) (.not (aV 86 [ao,ac])))]⟩
noncomputable def ub:bb:=⟨6,11,[d5 [6,7] (aU [aV 19 [ac,hh 9],aV 19 [ac,dm bv]]),a9 (ba bS aQ) [aE (aU [aN Y 87 [aL "bvnot",ao],aN Y 70 [ao],aV 83 [bv]])],a9 (ba bS a0) [aE (aU [aN Y 87 [aL "bvneg",ao],aN Y 70 [ao],ar (aV 82 [aV 83 [bv],ep (aU [aQ]) (dm bv),a0]) aQ])],.ite (.and [ba bS ct,f6 (dm bv) gL]) [d5 [8,9] (aU [aN Y 88 [ao,aS],dd bN bv])] [.ite (.and [ba bS gL,f6 (dm bv) n_]) [d5 [8,9] (aU [aN Y 89 [a0,ao],dd bv (aU [aQ])])] [.ite (.and [ba bS n_,f6 (dm bv) n_]) [d5 [8,9] (aU [aN Y 90 [a0,ao],dd bv (aU [ar bv (.neg a0)])])] [.ite (ba bS rJ) [aE (aU [aN Y 91 [cI,ao],cj 0,ba (ar bv cI) a0])] [.ite (ba bS Ee) [aE (aU [aN Y 92 [dd cI a0,ao,aS],cj 0,ba (ar (ar (aV 82 [bv,bN,aQ]) a0) (dd cI a0)) a0])] [.ite (ba bS pM) [aE (aU [aN Y 93 [dd cI a0,ao,aS],cj 0,aV 86 [.slice bv h7 (dd cI a0),.slice bN h7 (dd cI a0)]])] [bl 10 (aV 19 [ac,dd cI a0]),d5 [8,9] (aU [aN Y 94 [cI,dR,ao],.slice bv dR (dd cI a0)])]]]]]],aE (aU [cQ,aN Y 70 [cQ],ec])]⟩
noncomputable def Qr:bb:=⟨2,2,[a9 (gJ ac (bE Y 3)) [aE (ar (bE Y 3) ac)],aE (aV 95 [bE Y 1,aN (bE Y 1) 96 [ac]])]⟩
noncomputable def Qc:bb:=⟨2,2,[aE (ar (bE Y 5) (ar (bE Y 12) ac))]⟩
noncomputable def QX:bb:=⟨3,7,[d5 [3,4] (aU [aN Y 31 [ac],aN Y 68 [ac]]),bl 5 (ar (ar ao aQ) a0),.ite (ba (dm ao) a0) [.ite (ba aS (aL "extract")) [bl 6 (aV 97 [bN,ar (aN Y 33 [ac]) aQ,ar (aN Y 33 [ac]) a0])] [.ite (ba aS (aL "zero_extend")) [bl 6 bN] [.ite (ba aS (aL "sign_extend")) [bl 6 (aV 98 [bN,ar (ar ao aQ) ct,aN Y 33 [ac]])] [bl 6 (aV 99 [aS,bN,bv])]]]] [.ite (ba aS (aL "concat")) [bl 6 (aV 100 [bN,ar (ar ao a0) a0,ar (ar ao a0) ct])] [.ite (gJ aS (.aga (.ab [.str "bvand",.str "bvor",.str "bvxor",.str "bvadd",.str "bvsub",.str "bvmul",.str "bvshl",.str "bvlshr",.str "bvudiv",.str "bvurem"]))) [bl 6 (aV 101 [aS,bN,ar (ar ao a0) a0,bv])] [.raise 5 (.af3 [aS,aL (" has no value")])]]],aE (aU [aL "bv",bS,bv])]⟩
noncomputable def P_:bb:=⟨2,2,[aE (ar (bE Y 12) ac)]⟩
noncomputable def Rv:bb:=⟨2,4,[bl 2 (ar ac aQ),.for (.aa 3) .val [.slice ac a0 h7] [bl 2 (.ite (ba Y (aL "+")) (aV 102 [ao,aS]) (aV 79 [ao,aS]))],aE ao]⟩
noncomputable def QZ:bb:=⟨2,4,[d5 [2,3] (aU [ep (ar Y aQ) (ar ac a0),ep (ar ac aQ) (ar Y a0)]),aE (hI (iw ao aS) (f6 ao aS))]⟩
noncomputable def Q1:bb:=⟨2,2,[a9 (ba Y (aL "not")) [aE (.not (ar ac aQ))],a9 (ba Y (aL "and")) [aE (zu ac)],a9 (ba Y (aL "or")) [aE (abI ac)],a9 (ba Y (aL "xor")) [aE (gl (ar ac aQ) (ar ac a0))],a9 (ba Y (aL "=>")) [aE (.or [.not (ar ac aQ),ar ac a0])],aE h7]⟩
noncomputable def QW:bb:=⟨3,6,[d5 [3,4,5] (aU [aN Y 31 [ac],ar (ar ao aQ) a0,ar (ar ao aQ) ct]),a9 (ba aS (aL "bit")) [aE (aV 103 [bv,aN Y 33 [ac]])],a9 (ba aS (aL "carry")) [aE (aV 104 [bv,ar (ar ao a0) a0,aN Y 33 [ac],aQ])],a9 (ba aS (aL "below")) [aE (aV 105 [bv,ar (ar ao a0) a0,aN Y 33 [ac]])],a9 (gJ aS (.aga (.ab [.str "bvult",.str "bvule",.str "bvslt",.str "bvsle"]))) [aE (aV 106 [aS,bv,ar (ar ao a0) a0,bN])],.raise 5 (.af3 [aS,aL (" has no value")])]⟩
noncomputable def Qb:bb:=⟨4,5,[.for (.aa 4) .val [ac] [bR (aN Y 41 [bv,ao,aS])]]⟩
noncomputable def QF:bb:=⟨3,3,[a9 (.not (aN Y 77 [ar (bE Y 12) ac])) [.raise 3 (.af3 [ao,aL (": Int or Real is wanted, not "),ar (bE Y 4) (ar (bE Y 12) ac)])]]⟩
noncomputable def P6:bb:=⟨2,2,[aE (.or [ba ac (cj 1),ba ac (cj 2)])]⟩
noncomputable def Q8:bb:=⟨1,1,[aE (ba (ar Y a0) a0)]⟩
noncomputable def Rt:bb:=⟨2,2,[a9 (.age (ar Y a0) [.eq,.eq] [ar ac a0,a0]) [aE (aU [ep (ar Y aQ) (ar ac aQ),a0])],aE (aV 107 [ep (ar Y aQ) (ar ac aQ),ep (ar Y a0) (ar ac a0)])]⟩
noncomputable def Q2:bb:=⟨2,2,[a9 (ba (ar ac aQ) aQ) [.raise 2 (aL ("division by 0"))],aE (aV 107 [ep (ar Y aQ) (ar ac a0),ep (ar Y a0) (ar ac aQ)])]⟩
noncomputable def QP:bb:=⟨3,3,[a9 (ba (aN Y 68 [ac]) aQ) [.raise 3 (.af3 [ao,aL (": a bit vector is wanted, not "),ar (bE Y 4) (ar (bE Y 12) ac)])]]⟩
noncomputable def Q9:bb:=⟨3,7,[d5 [3,4] (aU [.list [],.list [ao]]),.for (.aa 5) .range [dm Y] [bl 6 (dd (dd (ar Y bN) (ar ac bN)) (ar bv (.neg a0))),bR (et aS (jC bS ct)),bR (et bv (.ite (iw bS a0) a0 aQ))],aE (aU [gy aS,bv])]⟩
noncomputable def Rq:bb:=⟨1,2,[aE (gy (.comp (hI a0 ac) (.aa 1) .val [Y] eQ))]⟩
noncomputable def Re:bb:=⟨2,4,[a9 (pp a0 ac) [aE (aU [ep (aU [a0]) (dm Y),Y])],d5 [2,3] (aU [aQ,Y]),.while (.not (aV 86 [aS,ac])) [bl 3 (ar (aV 82 [aS,aV 83 [ac],a0]) aQ),bl 2 (dd ao a0)],aE (aU [aV 38 [ao,dm Y],aS])]⟩
noncomputable def Rl:bb:=⟨1,1,[aE (dd (.slice Y h7 (.neg a0)) (aU [hI a0 (ar Y (.neg a0))]))]⟩
noncomputable def Rf:bb:=⟨2,3,[.for (.aa 2) .range [hI (dm Y) a0,.neg a0,.neg a0] [a9 (gl (ar Y ao) (ar ac ao)) [aE (f6 (ar Y ao) (ar ac ao))]],aE i6]⟩
noncomputable def QI:bb:=⟨3,3,[bR (aN Y 81 [ao,ac]),a9 (.and [gl ac (aL "bvnot"),gl ac (aL "bvneg")]) [.raise 3 (.af3 [ac,aL (" is no operation of one bit vector")])],aE (aN Y 37 [ac,aU [ao],ar (bE Y 12) ao,aQ])]⟩
noncomputable def QM:bb:=⟨3,3,[bR (aN Y 81 [ac,aL "concat"]),bR (aN Y 81 [ao,aL "concat"]),aE (aN Y 37 [aL "concat",aU [ac,ao],aN Y 4 [dd (aN Y 68 [ac]) (aN Y 68 [ao])],aQ])]⟩
noncomputable def QR:bb:=⟨3,3,[bR (aN Y 81 [ao,aL "zero_extend"]),a9 (f6 ac aQ) [.raise 3 (aL ("zero_extend: a number is wanted"))],aE (.ite (ba ac aQ) ao (aN Y 37 [aL "zero_extend",aU [ao],aN Y 4 [dd (aN Y 68 [ao]) ac],ac]))]⟩
noncomputable def QO:bb:=⟨3,3,[bR (aN Y 81 [ao,aL "sign_extend"]),a9 (f6 ac aQ) [.raise 3 (aL ("sign_extend: a number is wanted"))],aE (.ite (ba ac aQ) ao (aN Y 37 [aL "sign_extend",aU [ao],aN Y 4 [dd (aN Y 68 [ao]) ac],ac]))]⟩
noncomputable def QH:bb:=⟨3,3,[bR (aN Y 81 [ao,aL "bit"]),a9 (.not (.age aQ [.le,.lt] [ac,aN Y 68 [ao]])) [.raise 3 (aL ("bit: no such place"))],aE (aN Y 37 [aL "bit",aU [ao],cj 0,ac])]⟩
noncomputable def QL:bb:=⟨4,4,[bR (aN Y 81 [ao,aL "carry"]),bR (aN Y 41 [aS,ar (bE Y 12) ao,aL "carry"]),bR (aN Y 108 [ac,ao,aL "carry"]),aE (aN Y 37 [aL "carry",aU [ao,aS],cj 0,ac])]⟩
noncomputable def QG:bb:=⟨4,4,[bR (aN Y 81 [ao,aL "below"]),bR (aN Y 41 [aS,ar (bE Y 12) ao,aL "below"]),bR (aN Y 108 [ac,ao,aL "below"]),aE (aN Y 37 [aL "below",aU [ao,aS],cj 0,ac])]⟩
noncomputable def QN:bb:=⟨4,4,[bR (aN Y 81 [aS,aL "extract"]),a9 (.not (.age aQ [.le,.le,.lt] [ao,ac,aN Y 68 [aS]])) [.raise 3 (aL ("extract: the places are not within the bit vector"))],aE (aN Y 37 [aL "extract",aU [aS],aN Y 4 [dd (hI ac ao) a0],aU [ac,ao]])]⟩
noncomputable def Rx:bb:=⟨2,2,[a9 (ba ac (cj 0)) [aE i6],a9 (aN Y 77 [ac]) [aE (.aga (.ab [.int 0,.int 1]))],a9 (iw (aN Y 26 [ac]) aQ) [aE (aU [aL "bv",aQ,aN Y 26 [ac]])],aE (aU [aL "elem",ac,aQ])]⟩
noncomputable def P2:bb:=⟨2,2,[aE (ar (bE Y 8) ac)]⟩
noncomputable def Q6:bb:=⟨3,3,[aE (iU (tI Y ao) (aV 109 [dd (hI ac ao) a0]))]⟩
noncomputable def RB:bb:=⟨3,3,[aE (iU (aV 110 [Y,ac]) (aV 109 [dd ac ao]))]⟩
noncomputable def Rw:bb:=⟨3,3,[a9 (ba Y (aL "bvnot")) [aE (hI (aV 109 [ao]) ac)],a9 (ba Y (aL "bvneg")) [aE (iU (.neg ac) (aV 109 [ao]))],.raise 5 (.af3 [Y,aL (" is no operation of one bit vector")])]⟩
noncomputable def Q0:bb:=⟨3,3,[aE (Cx (tH Y ao) ac)]⟩
noncomputable def RD:bb:=⟨4,4,[a9 (ba Y (aL "bvand")) [aE (iU ac ao)],a9 (ba Y (aL "bvor")) [aE (Cx ac ao)],a9 (ba Y (aL "bvxor")) [aE (Na ac ao)],a9 (ba Y (aL "bvadd")) [aE (iU (dd ac ao) (aV 109 [aS]))],a9 (ba Y (aL "bvsub")) [aE (iU (hI ac ao) (aV 109 [aS]))],a9 (ba Y (aL "bvmul")) [aE (iU (ep ac ao) (aV 109 [aS]))],a9 (gJ Y (aU [aL "bvshl",aL "bvlshr"])) [aE (aV 111 [Y,ac,ao,aS])],a9 (ba Y (aL "bvudiv")) [aE (aV 112 [ac,ao,aS])],a9 (ba Y (aL "bvurem")) [aE (aV 113 [ac,ao])],.raise 5 (.af3 [Y,aL (" is no operation of two bit vectors")])]⟩
noncomputable def QS:bb:=⟨2,2,[a9 (.age (ar Y a0) [.eq,.eq] [ar ac a0,a0]) [aE (aU [dd (ar Y aQ) (ar ac aQ),a0])],aE (aV 107 [dd (ep (ar Y aQ) (ar ac a0)) (ep (ar ac aQ) (ar Y a0)),ep (ar Y a0) (ar ac a0)])]⟩
noncomputable def QV:bb:=⟨2,2,[aE (ba (iU (tI Y ac) a0) a0)]⟩
noncomputable def QY:bb:=⟨4,5,[bl 4 (aV 109 [ao]),aE (iw (dd (dd (iU Y bv) (iU ac bv)) aS) bv)]⟩
noncomputable def QU:bb:=⟨3,3,[aE (f6 (iU Y (aV 109 [ao])) (iU ac (aV 109 [ao])))]⟩
noncomputable def QT:bb:=⟨4,4,[a9 (gJ Y (aU [aL "bvslt",aL "bvsle"])) [d5 [1,2] (aU [aV 110 [ac,aS],aV 110 [ao,aS]])],a9 (gJ Y (aU [aL "bvult",aL "bvslt"])) [aE (f6 ac ao)],a9 (gJ Y (aU [aL "bvule",aL "bvsle"])) [aE (NP ac ao)],.raise 5 (.af3 [Y,aL (" is no comparison of bit vectors")])]⟩
noncomputable def Ry:bb:=⟨2,3,[a9 (ba ac aQ) [.raise 2 (aL ("a ratio with 0 below"))],bl 2 (aV 114 [Y,ac]),a9 (f6 ac aQ) [bl 2 (.neg ao)],aE (aU [mP Y ao,mP ac ao])]⟩
noncomputable def QQ:bb:=⟨4,4,[a9 (.not (.age aQ [.le,.le] [ac,aN Y 68 [ao]])) [.raise 3 (.af3 [aS,aL (": no such place")])]]⟩
noncomputable def Rs:bb:=⟨1,1,[aE (hI (tH a0 Y) a0)]⟩
noncomputable def RC:bb:=⟨2,2,[aE (.ite (ba (tI Y (hI ac a0)) a0) (hI Y (tH a0 ac)) Y)]⟩
noncomputable def RA:bb:=⟨4,4,[a9 (NN ao aS) [aE aQ],aE (.ite (ba Y (aL "bvshl")) (iU (tH ac ao) (aV 109 [aS])) (tI ac ao))]⟩
noncomputable def Q3:bb:=⟨3,3,[aE (.ite (ba ac aQ) (aV 109 [ao]) (mP Y ac))]⟩
noncomputable def Rz:bb:=⟨2,2,[aE (.ite (ba ac aQ) Y (jC Y ac))]⟩
noncomputable def Q7:bb:=⟨2,2,[d5 [0,1] (aU [zt Y,zt ac]),.while (gl ac aQ) [d5 [0,1] (aU [ac,jC Y ac])],aE Y]⟩
noncomputable def LW:E bb:=[pz,mZ,Qq,P0,QJ,Rb,Ro,Rn,Rp,Q5,Q4,Qv,xP,P4,PZ,Rm,Rk,Qu,Qf,Rd,Qt,t_,ua,t8,xO,t9,Qd,Rc,P5,P9,PX,P8,Qo,PY,RE,Qs,Qp,P7,Ra,Ri,P1,Qa,Rj,Ql,Qe,Qm,Qn,Qj,Qi,Qk,QC,QA,Rh,Qy,QE,Qz,Qw,Rg,Qx,QB,QD,Qh,Qg,QK,Rr,Q_,ub,Qr,Qc,QX,P_,Rv,QZ,Q1,QW,Qb,QF,P6,Q8,Rt,Q2,QP,Q9,Rq,Re,Rl,Rf,QI,QM,QR,QO,QH,QL,QG,QN,Rx,P2,Q6,RB,Rw,Q0,RD,QS,QV,QY,QU,QT,Ry,QQ,Rs,RC,RA,Q3,Rz,Q7]
noncomputable def fp(a:I):j bb:=LW[a]?
noncomputable def gr:I->I
 |0=>1
 |_=>2
noncomputable def ad9(a:E O):j (dW×N):=h9 fp gr 20 J 0 [.ref 0] [.list (a.map .int)]
structure Mn where
 cl:E (am×I)
 aeC:E ((I×am)×I)
 aeY:E (am×L)
 aeQ:E (am×I)
noncomputable def RF:E I:=[1092,681,806,284,688,1031,1036,1082,1010,914,909,855,1087,270,312,1024,1017,813,550,923,834,1046,1053,1058,1075,1063,291,937,305,466,368,361,848,382,902,827,820,403,930,989,333,424,1041,487,494,501,508,515,522,543,604,590,996,639,611,632,646,1003,653,625,618,529,536,723,975,982,1070,841,389,876,375,883,149,897,890,431,597,298,156,135,142,702,944,949,970,963,956,716,730,744,751,765,772,779,737,792,347,219,233,177,226,205,128,240,247,254,212,121,758,163,170,198,184,191,114]
noncomputable def b1(a:I):I:=RF.getD a 0
noncomputable def bg(a:E eg)(n:I):E (j am):=a.map (λb=>A (bi b))++hu n M
noncomputable def sl:E (E (j am)):=[
 bg ["script","cells","bank","model","sorts","rest","pool","tables","number","due","terms_drawn"] 7,
 bg ["self"] 0,
 bg ["self","bank"] 0,
 bg ["self","name"] 0,
 bg ["self","width"] 0,
 bg ["bank","model","sorts","rest","pool","sort","lap","f","value"] 0,
 bg ["bank","model","sorts","rest","boolean","whole_sort","real","free","bits","shapes","tables","taken","given","f","rows","other","lap","some","shown"] 3,
 bg ["bank","pool","tables","number","rest","way"] 0,
 bg ["bank","sort","value"] 0,
 bg ["bank","model","some","known","part","values"] 2,
 bg ["bank","model","t"] 0,
 bg ["self","t"] 0,
 bg ["bank","model","table","f","taken","given","rows","other","due","some","shown","value","wrong"] 2,
 bg ["self"] 0,
 bg ["self","name","arg_sorts","result"] 0,
 bg ["bank","sort","rest","top"] 0,
 bg ["bank","sort"] 0,
 bg ["self","f","args","value","table"] 0,
 bg ["self","f","some","sorts","t","s"] 0,
 bg ["rest","many","found"] 0,
 bg ["self","f","value"] 0,
 bg ["bank","pool","rest","one","other","third","a","b","c","x","y","z","way"] 1,
 bg ["bank","pool","rest","sort","one","other","a","b","x","y","way","top","factor","product"] 0,
 bg ["bank","pool","rest","sort","one","other","third","way","unlike","choice"] 1,
 bg ["bank","pool","tables","rest","f","taken","given","rows","other","some","key"] 3,
 bg ["bank","pool","rest","some","one","other","a","b","x","y","sort","way","op"] 1,
 bg ["self","s"] 0,
 bg ["some","number","one"] 0,
 bg ["self","s"] 0,
 bg ["self","some","found","done","root","stack","t","is_open","part"] 0,
 bg ["self","t"] 0,
 bg ["self","t"] 0,
 bg ["self","f","args"] 0,
 bg ["self","t"] 0,
 bg ["bank","t","values","op","order","found"] 1,
 bg ["self","f"] 0,
 bg ["self","f","args"] 0,
 bg ["self","op","args","sort","data","key","found"] 0,
 bg ["number","width","found","k"] 0,
 bg ["top","bottom","a","b"] 0,
 bg ["self","f"] 0,
 bg ["self","t","s","where"] 0,
 bg ["pool","rest","sort","some"] 1,
 bg ["self","t"] 0,
 bg ["self","some"] 0,
 bg ["self","some"] 0,
 bg ["self","a","b"] 0,
 bg ["self","a","b"] 0,
 bg ["self","a","b"] 0,
 bg ["self","c","a","b"] 0,
 bg ["self","some"] 0,
 bg ["self","value","s"] 0,
 bg ["x","y"] 0,
 bg ["self","a","b"] 0,
 bg ["self","value","t","s"] 0,
 bg ["self","t"] 0,
 bg ["self","a","b"] 0,
 bg ["x","y"] 0,
 bg ["self","a","b"] 0,
 bg ["self","t","value"] 0,
 bg ["self","a","b"] 0,
 bg ["self","a","b"] 0,
 bg ["self","some"] 0,
 bg ["self","op","a","b"] 0,
 bg ["op","x","y","width","least","found","k","many"] 1,
 bg ["op","x","y"] 0,
 bg ["bank","rest","a","b","x","y","kind","place","found","value","low"] 0,
 bg ["self","f"] 0,
 bg ["self","t"] 0,
 bg ["bank","t","values","op","width","first","found"] 0,
 bg ["self","t"] 0,
 bg ["op","values","found","one"] 0,
 bg ["a","b","left","right"] 0,
 bg ["op","values"] 0,
 bg ["bank","t","values","op","first","width"] 0,
 bg ["self","some","s","where","t"] 0,
 bg ["self","t","where"] 0,
 bg ["self","s"] 0,
 bg ["a"] 0,
 bg ["a","b"] 0,
 bg ["a","b"] 0,
 bg ["self","t","where"] 0,
 bg ["x","y","carry","found","carries","k","many"] 0,
 bg ["x"] 1,
 bg ["x","y","many","left"] 0,
 bg ["x"] 0,
 bg ["x","y","k"] 0,
 bg ["self","op","t"] 0,
 bg ["self","a","b"] 0,
 bg ["self","many","t"] 0,
 bg ["self","many","t"] 0,
 bg ["self","i","t"] 0,
 bg ["self","i","a","b"] 0,
 bg ["self","i","a","b"] 0,
 bg ["self","high","low","t"] 0,
 bg ["bank","s"] 0,
 bg ["self","f"] 0,
 bg ["x","high","low"] 0,
 bg ["x","width","many"] 0,
 bg ["op","x","width"] 0,
 bg ["x","y","width_of_y"] 0,
 bg ["op","x","y","width"] 0,
 bg ["a","b"] 0,
 bg ["x","i"] 0,
 bg ["x","y","i","begin","low"] 0,
 bg ["x","y","i"] 0,
 bg ["op","x","y","width"] 0,
 bg ["top","bottom","common"] 0,
 bg ["self","i","t","where"] 0,
 bg ["width"] 0,
 bg ["x","width"] 0,
 bg ["op","x","y","width"] 0,
 bg ["x","y","width"] 0,
 bg ["x","y"] 0,
 bg ["a","b"] 0]
noncomputable def jb:Mn where
 cl:=[("law",0),("_law_constants",5),("_law_tables",6),("_law_step",7),("_law_told",8),("evaluate_all",9),("evaluate",10),("_law_rows_right",12),("_law_some",15),("_law_plain",16),("_law_digit",19),("_law_bool_step",21),("_law_number_step",22),("_law_any_step",23),("_law_call_step",24),("_law_bits_step",25),("_law_count",27),("worked_out",34),("_law_bits",38),("_law_pair",39),("_law_pick",42),("_law_number_sum",52),("_law_number_less",57),("_law_two",64),("_law_asked",65),("_law_wires_step",66),("bits_worked_out",69),("number_worked_out",71),("compare",72),("connected",73),("bits_asked",74),("is_whole",78),("mul",79),("div",80),("_law_added",82),("_law_turned",83),("_law_divided",84),("_law_signs",85),("_law_less",86),("plain_value",95),("extract_value",97),("sign_extended",98),("one_value",99),("concat_value",100),("two_value",101),("add",102),("bit_value",103),("carry_value",104),("below_value",105),("ask_value",106),("ratio",107),("mask_of",109),("signed_of",110),("shifted_value",111),("divided_value",112),("rest_value",113),("gcd_of",114)].map λa=>(bi a.1,a.2)
 aeC:=[((0,"declare_sort"),3),((0,"bv_sort"),4),((1,"value"),11),((0,"declare_fun"),14),((1,"set_row"),17),((0,"app"),18),((1,"set_other"),20),((0,"width_of"),26),((0,"is_free_sort"),28),((0,"parts_of_all"),29),((0,"args"),30),((0,"op"),31),((1,"call"),32),((0,"data"),33),((1,"rows"),35),((1,"has_row"),36),((0,"make"),37),((0,"fun_name"),40),((0,"want"),41),((0,"not_of"),43),((0,"and_of"),44),((0,"or_of"),45),((0,"xor_of"),46),((0,"implies_of"),47),((0,"iff"),48),((0,"ite"),49),((0,"plus"),50),((0,"num"),51),((0,"minus"),53),((0,"times_num"),54),((0,"negative"),55),((0,"le"),56),((0,"lt"),58),((0,"over_num"),59),((0,"times"),60),((0,"eq"),61),((0,"distinct"),62),((0,"bv_two"),63),((1,"other"),67),((0,"width"),68),((0,"sort"),70),((0,"want_all"),75),((0,"want_number"),76),((0,"is_number_sort"),77),((0,"want_bits"),81),((0,"bv_one"),87),((0,"concat"),88),((0,"zero_extend"),89),((0,"sign_extend"),90),((0,"bit"),91),((0,"carry"),92),((0,"below"),93),((0,"extract"),94),((0,"fun_result"),96),((0,"want_place"),108)].map λa=>((a.1.1,bi a.1.2),a.2)
 aeY:=([("BOOL",.int 0),("INT",.int 1),("REAL",.int 2),("WIDEST",.int 4096),("BV_SAME",.ab [.str "bvand",.str "bvor",.str "bvxor",.str "bvadd",.str "bvsub",.str "bvmul",.str "bvshl",.str "bvlshr",.str "bvudiv",.str "bvurem"]),("BV_ASK",.ab [.str "bvult",.str "bvule",.str "bvslt",.str "bvsle"]),("NOUGHT",.ab [.int 0,.int 1]),("_law_same",.ab [.str "bvand",.str "bvor",.str "bvxor",.str "bvadd",.str "bvsub",.str "bvmul",.str "bvshl",.str "bvlshr",.str "bvudiv",.str "bvurem"]),("_law_ask",.ab [.str "bvult",.str "bvule",.str "bvslt",.str "bvsle"])]:E (eg×L)).map λa=>(bi a.1,a.2)
 aeQ:=[("TermBank",0),("Model",1)].map λa=>(bi a.1,a.2)
inductive ae(P:Prop):Type
 |no
 |yes (a:P)
noncomputable def ae.is{P:Prop}(a:ae P):ah:=ae.casesOn (motive:=λb=>ah) a d λb=>J
def ae.at{P:Prop}{b:ae P}(a:b.is=J):P:=ae.casesOn (motive:=λb=>b.is=J->P) b (λa=>kG a) (λa c=>a) a
noncomputable def ae.bind{P a:Prop}(b:ae P)(c:P->ae a):ae a:=ae.casesOn (motive:=λe=>ae a) b .no c
noncomputable def af{a P:Prop}(b:ae a)(c:a->P):ae P:=b.bind λe=>.yes (c e)
noncomputable def be{a b P:Prop}(e:ae a)(c:ae b)(f:a->b->P):ae P:=e.bind λg=>af c (f g)
noncomputable def bz{a b c P:Prop}(e:ae a)(f:ae b)(g:ae c)(h:a->b->c->P):ae P:=e.bind λi=>be f g (h i)
noncomputable def dD{a b c e P:Prop}(f:ae a)(g:ae b)(h:ae c)(i:ae e)(j:a->b->c->e->P):ae P:=f.bind λk=>bz g h i (j k)
noncomputable def fS{a b c e f P:Prop}(g:ae a)(h:ae b)(i:ae c)(j:ae e)(k:ae f)(l:a->b->c->e->f->P):ae P:=g.bind λm=>dD h i j k (l m)
noncomputable def r1{a b c e f F P:Prop}(g:ae a)(h:ae b)(i:ae c)(j:ae e)(k:ae f)(l:ae F)(m:a->b->c->e->f->F->P):ae P:=g.bind λn=>fS h i j k l (m n)
noncomputable def po{a b c e f F:Prop}(g:ae a)(h:ae b)(i:ae c)(j:ae e)(k:ae f)(l:ae F):ae (a/\b/\c/\e/\f/\F):=r1 g h i j k l λm n o p q r=>⟨m,n,o,p,q,r⟩
noncomputable def gO{P:Prop}(a b:ae P):ae P:=ae.casesOn (motive:=λc=>ae P) a b .yes
noncomputable def b8(a:Prop)[oy a]:ae a:=if b:a then .yes b else .no
noncomputable def c6(a:ah):ae (a=J):=b8 _
noncomputable def iZ(a:ah):ae (a=d):=b8 _
noncomputable def dh{a:Type}[ly a](b:a){P:a->Prop}(e:ae (P b))(c:a):ae (P c):=(b8 (b=c)).bind λf=>af e λg=>f▸g
noncomputable def iC{b:Type}{P:E b->Prop}(c:ae (P []))(a:E b):ae (P a):=IQ (motive:=λa=>ae (P a)) a c λe e=>.no
noncomputable def pt{b:Type}{P:E b->Prop}(c:∀g a,ae (P (g::a)))(a:E b):ae (P a):=IQ (motive:=λa=>ae (P a)) a .no c
noncomputable def jO{b:Type}{P:E b->Prop}(c:∀a,ae (P [a])):∀(g:E b),ae (P g):=pt λa=>iC (c a)
noncomputable def oc{b:Type}{P:j b->Prop}(c:ae (P M))(a:j b):ae (P a):=AH (motive:=λa=>ae (P a)) a c λe=>.no
noncomputable def op{b:Type}{P:j b->Prop}(c:∀g,ae (P (A g)))(a:j b):ae (P a):=AH (motive:=λa=>ae (P a)) a .no c
noncomputable def PT{P:H3->Prop}(e:∀a b g,ae (P (.ExceptHandler (A a) M b g)))(c:H3):ae (P c):=acN (motive_4:=λc=>ae (P c)) c λa n b g=>op (P:=λa=>P (.ExceptHandler a n b g)) (λa=>oc (P:=λn=>P (.ExceptHandler (A a) n b g)) (e a b g) n) a
noncomputable def Sg{P:HZ->Prop}(c:∀b g h,ae (P ⟨b,g,h,0⟩))(a:HZ):ae (P a):=acG (motive_3:=λa=>ae (P a)) a λb g h=>dh 0 (c b g h)
noncomputable def gm{P:a6->Prop}(c:∀b g,ae (P (.Name g b)))(a:a6):ae (P a):=if e:a.ctorIdx=23 then acY (motive_1:=λa=>ae (P a)) a e (λg b=>c b g)else .no
noncomputable def t6{P:a6->Prop}(c:∀b g h,ae (P (.Constant h b g)))(a:a6):ae (P a):=if e:a.ctorIdx=19 then acR (motive_1:=λa=>ae (P a)) a e (λh b g=>c b g h)else .no
noncomputable def O1{P:a6->Prop}(c:∀b g h i,ae (P (.BinOp b i g h)))(a:a6):ae (P a):=if e:a.ctorIdx=2 then acO (motive_1:=λa=>ae (P a)) a e (λb i g h=>c b g h i)else .no
noncomputable def xK{P:a6->Prop}(c:∀b g h,ae (P (.UnaryOp h b g)))(a:a6):ae (P a):=if e:a.ctorIdx=3 then ac1 (motive_1:=λa=>ae (P a)) a e (λh b g=>c b g h)else .no
noncomputable def t5{P:a6->Prop}(c:∀b g h,ae (P (.BoolOp h b g)))(a:a6):ae (P a):=if e:a.ctorIdx=0 then acP (motive_1:=λa=>ae (P a)) a e (λh b g=>c b g h)else .no
noncomputable def Dm{P:a6->Prop}(c:∀b g h i,ae (P (.Compare b i h g)))(a:a6):ae (P a):=if e:a.ctorIdx=15 then acQ (motive_1:=λa=>ae (P a)) a e (λb i h g=>c b g h i)else .no
noncomputable def O3{P:a6->Prop}(b:∀g h i l,ae (P (.IfExp g h i l)))(a:a6):ae (P a):=if c:a.ctorIdx=5 then acU (motive_1:=λa=>ae (P a)) a c b else .no
noncomputable def rr{P:a6->Prop}(c:∀b g h,ae (P (.Tuple h b g)))(a:a6):ae (P a):=if e:a.ctorIdx=25 then H6 (motive_1:=λa=>ae (P a)) a e (λh b g=>c b g h)else .no
noncomputable def O5{P:a6->Prop}(b:∀g h,ae (P (.List g h)))(a:a6):ae (P a):=if c:a.ctorIdx=24 then acW (motive_1:=λa=>ae (P a)) a c b else .no
noncomputable def Dn{P:a6->Prop}(c:∀b g h,ae (P (.Dict h g b)))(a:a6):ae (P a):=if e:a.ctorIdx=6 then acS (motive_1:=λa=>ae (P a)) a e (λh g b=>c b g h)else .no
noncomputable def pw{P:a6->Prop}(c:∀b g h,ae (P (.Subscript h g b)))(a:a6):ae (P a):=if e:a.ctorIdx=21 then ac0 (motive_1:=λa=>ae (P a)) a e (λh g b=>c b g h)else .no
noncomputable def Do{P:a6->Prop}(e:∀b g h,ae (P (.Slice b g M h)))(a:a6):ae (P a):=if f:a.ctorIdx=26 then acZ (motive_1:=λa=>ae (P a)) a f (λb g c h=>oc (P:=λc=>P (.Slice b g c h)) (e b g h) c)else .no
noncomputable def mV{P:a6->Prop}(c:∀b g n,ae (P (.Attribute b n g)))(a:a6):ae (P a):=if e:a.ctorIdx=20 then H4 (motive_1:=λa=>ae (P a)) a e (λb n g=>c b g n)else .no
noncomputable def kk{P:a6->Prop}(e:∀b g h,ae (P (.Call h b [] g)))(a:a6):ae (P a):=if f:a.ctorIdx=16 then H5 (motive_1:=λa=>ae (P a)) a f (λh b c g=>iC (P:=λc=>P (.Call h b c g)) (e b g h) c)else .no
noncomputable def xJ{P:a6->Prop}(f:∀a h i l b g,ae (P (.ListComp a [⟨h,i,l,0⟩] b g)))(e:a6):ae (P e):=if j:e.ctorIdx=8 then acX (motive_1:=λe=>ae (P e)) e j (λa c b g=>jO (P:=λc=>P (.ListComp a c b g)) (Sg (P:=λc=>P (.ListComp a [c] b g)) λh i l=>f a h i l b g) c)else .no
noncomputable def O4{P:a6->Prop}(b:∀g h,ae (P (.JoinedStr g h)))(a:a6):ae (P a):=if c:a.ctorIdx=18 then acV (motive_1:=λa=>ae (P a)) a c b else .no
noncomputable def O2{P:a6->Prop}(g:∀a b,ae (P (.FormattedValue a (-1) M b)))(e:a6):ae (P e):=if h:e.ctorIdx=17 then acT (motive_1:=λe=>ae (P e)) e h (λa f c b=>dh (P:=λf=>P (.FormattedValue a f c b)) (-1) (oc (P:=λc=>P (.FormattedValue a (-1) c b)) (g a b) c) f)else .no
noncomputable def YW{P:cx->Prop}(e:∀g b,ae (P (.Return (A g) b)))(a:cx):ae (P a):=if f:a.ctorIdx=3 then adX (motive_2:=λa=>ae (P a)) a f (λc b=>op (P:=λc=>P (.Return c b)) (λg=>e g b) c)else .no
noncomputable def vb{P:cx->Prop}(c:∀b g,ae (P (.Expr g b)))(a:cx):ae (P a):=if e:a.ctorIdx=24 then adT (motive_2:=λa=>ae (P a)) a e (λg b=>c b g)else .no
noncomputable def YU{P:cx->Prop}(b:∀g h i l,ae (P (.If g h i l)))(a:cx):ae (P a):=if c:a.ctorIdx=12 then cx.If.elim (motive_2:=λa=>ae (P a)) a c b else .no
noncomputable def YY{P:cx->Prop}(e:∀b g h,ae (P (.While b g [] h)))(a:cx):ae (P a):=if f:a.ctorIdx=11 then adZ (motive_2:=λa=>ae (P a)) a f (λb g c h=>iC (P:=λc=>P (.While b g c h)) (e b g h) c)else .no
noncomputable def YT{P:cx->Prop}(e:∀b g h i,ae (P (.For b g h [] i)))(a:cx):ae (P a):=if f:a.ctorIdx=9 then adU (motive_2:=λa=>ae (P a)) a f (λb g h c i=>iC (P:=λc=>P (.For b g h c i)) (e b g h i) c)else .no
noncomputable def r2{P:cx->Prop}(c:∀g h a,ae (P (.Assign [a] g h)))(b:cx):ae (P b):=if e:b.ctorIdx=5 then adQ (motive_2:=λb=>ae (P b)) b e (λa g h=>jO (P:=λa=>P (.Assign a g h)) (c g h) a)else .no
noncomputable def YV{P:cx->Prop}(f:∀b a,ae (P (.Raise (A a) M b)))(e:cx):ae (P e):=if g:e.ctorIdx=16 then adW (motive_2:=λe=>ae (P e)) e g (λa c b=>op (P:=λa=>P (.Raise a c b)) (λa=>oc (P:=λc=>P (.Raise (A a) c b)) (f b a) c) a)else .no
noncomputable def YX{P:cx->Prop}(k:∀l g a b h,ae (P (.Try l [.ExceptHandler (A h) M b g] [] [] a)))(e:cx):ae (P e):=if b:e.ctorIdx=17 then adY (motive_2:=λe=>ae (P e)) e b (λf j i c a=>jO (P:=λj=>P (.Try f j i c a)) (PT (P:=λm=>P (.Try f [m] i c a)) λh b g=>iC (P:=λi=>P (.Try f [.ExceptHandler (A h) M b g] i c a)) (iC (P:=λc=>P (.Try f [.ExceptHandler (A h) M b g] [] c a)) (k f g a b h) c) i) j)else .no
noncomputable def YS{P:cx->Prop}(b:∀g,ae (P (.Continue g)))(a:cx):ae (P a):=if c:a.ctorIdx=27 then adS (motive_2:=λa=>ae (P a)) a c b else .no
noncomputable def GO{P:Const->Prop}(b:∀g,ae (P (.str g)))(a:Const):ae (P a):=if c:a.ctorIdx=5 then acH (motive:=λa=>ae (P a)) a c b else .no
noncomputable def yg{P:E a6->Prop}(b:∀g,ae (P (iB g)))(a:E a6):ae (P a):=np (motive:=λa=>∀P:E a6->Prop,(∀g,ae (P (iB g)))->ae (P a)) (λP b=>b []) (λc a h P b=>gm (P:=λc=>P (c::a)) (λe f=>h (λa=>P (.Name f e::a)) λg=>b ((f,e)::g)) c) a P b
noncomputable def Ta{P:E (j a6)->Prop}(b:∀g:E (am×I×dj),ae (P (g.map rL)))(a:E (j a6)):ae (P a):=np (motive:=λa=>∀P:E (j a6)->Prop,(∀g:E (am×I×dj),ae (P (g.map rL)))->ae (P a)) (λP b=>b []) (λc a i P b=>op (P:=λc=>P (c::a)) (t6 (P:=λc=>P (A c::a)) λe f=>GO λh=>i (λa=>P (A (.Constant (.str h) e f)::a)) λg=>b ((h,e,f)::g)) c) a P b
noncomputable def ph{e f:Type}{i:e->f->Prop}{c:E e->E f->Prop}(j:c [] [])(k:∀{g a h b},i g h->c a b->c (g::a) (h::b))(l:∀g h,ae (i g h))(a:E e):∀b,ae (c a b):=np (motive:=λa=>∀b,ae (c a b)) (iC (.yes j)) (λg a m=>pt λh b=>be (l g h) (m b) k) a
section
noncomputable def rl:kV->am
 |.len=>"len"|.abs=>"abs"|.min=>"min"|.max=>"max"|.tuple=>"tuple"|.list=>"list"|.all=>"all"|.any=>"any"|.agm=>"repr"|.str=>"str"
def Cz(a:kV):oQ (rl a)=A (tK a):=by cases a<;>kernel_rfl
def CB(a:kV):rl a≠"__name__":=by cases a<;>decide
def CA(a:kV):(rl a==("__debug__":am))=d:=by cases a<;>decide
noncomputable abbrev bT:dy:=g_ bw.w.params
noncomputable abbrev kd:am:="__debug__"
structure B9:Prop where
 afr:js bT 105 47 37 25 36
 cls:∀a,lN bT (cX a)
 afG:∀a,s_ bT (cX a)=J
 init:∀a,gD bT (.ref (cX a)) "__init__"=A (A (.ref (b1 (gr a))))
 afC:∀a,kR bT (.ref (b1 (gr a)))=A (.type "function")
 cl:∀b g,jb.cl.lookup b=A g->bw.cB b=A (.ref (b1 g))/\(b==kd)=d/\∃h ax,bT.lookup (b1 g)=A h/\h.data=.func ax
 aeC:∀a b g,jb.aeC.lookup (a,b)=A g->(∀o<17,(cL o==b)=d)/\gD bT (.ref (cX a)) b=A (A (.ref (b1 g)))/\kR bT (.ref (b1 g))=A (.type "function")/\∃h ax,bT.lookup (b1 g)=A h/\h.data=.func ax
 aeY:∀b i,jb.aeY.lookup b=A i->(b==kd)=d/\∃l,bw.cB b=A l/\∀m,bT.In m->aF [] m i l
 aeQ:∀b a,jb.aeQ.lookup b=A a->bw.cB b=A (.ref (cX a))/\(b==kd)=d/\oT bT (.ref (cX a))=J
 afq:bw.cB "ModelFault"=A (.ref 105)/\oT bT (.ref 105)=J
 afZ:∀p,bw.cB (rl p)=M
 aeL:bw.cB "range"=M/\bw.cB "reversed"=M/\bw.cB "zip"=M
structure d1 where
 n:I
 aeq:ah->cb
 u:B9
 code:∀a,c1 a bT->mA a n aeq b1 105
noncomputable def d1.jd(a:d1):ce:=rP (a.aeq J) gr
def d1.W(b:d1)(a:aq):Prop:=c1 a bT
def fz(a:d1)(c:bL)(e:X)(f:a6):Prop:=∀b,a.W b->b7 b a.n a.aeq a.jd c e f
def hC(a:d1)(c:bL)(e:X)(f:a6):Prop:=∀b,a.W b->ip b a.n a.aeq a.jd c e f
def tr(a:d1)(c:bL)(e:E X)(f:E a6):Prop:=∀b,a.W b->hD b a.n a.aeq a.jd c e f
def LZ(a:d1)(c:bL)(e:E X)(f:E a6):Prop:=∀b,a.W b->iP b a.n a.aeq a.jd c e f
def L1(a:d1)(c:bL)(e:E X)(f:E a6):Prop:=∀b,a.W b->lL b a.n a.aeq a.jd c e f
def L0(a:d1)(c:bL)(e:E X)(f:E a6):Prop:=∀b,a.W b->tk b a.n a.aeq a.jd c e f
def ts(a:d1)(c:bL)(e:X)(f:a6):Prop:=∀b,a.W b->tx b a.n a.aeq a.jd c e f
def tq(a:d1)(c:bL)(e:X)(f:j a6):Prop:=∀b,a.W b->q_ b a.n a.aeq a.jd c e f
def q6(a:d1)(c:bL)(e:X)(f:E a6):Prop:=∀b,a.W b->nN b a.n a.aeq a.jd c e f
def nJ(a:d1)(c:bL)(e:jA)(f:E X)(g h:a6):Prop:=∀b,a.W b->k1 b a.n a.aeq a.jd c e f h g
def iR(a:d1)(e:bL)(f:c)(g:cx):Prop:=∀b,a.W b->ha b a.n a.aeq a.jd 105 e f g
def BW(a:d1)(e:bL)(f:E c)(g:E cx):Prop:=∀b,a.W b->hX b a.n a.aeq a.jd 105 e f g
abbrev nQ(e:d1):Type:=(∀a b c,ae (fz e a b c))×(∀a b c,ae (hC e a b c))×(∀a b c,ae (iR e a b c))
abbrev kY(a:bL)(b:am):Prop:=a.names.lookup b=A .globalImplicit
noncomputable def us{P:X->Prop}(b:∀g,ae (P (.lit g)))(a:X):ae (P a):=X.casesOn (motive_1:=λa=>ae (P a)) a b (λc=>.no) (λc=>.no) (λc c c=>.no) (λc c c=>.no) (λc c c=>.no) (λc=>.no) (λc=>.no) (λc=>.no) (λc=>.no) (λc c c=>.no) (λc=>.no) (λc=>.no) (λc=>.no) (λc c c=>.no) (λc=>.no) (λc c=>.no) (λc c c=>.no) (λc c=>.no) (λc c=>.no) (λc c c c=>.no) (λc c=>.no) (λc c c=>.no) (λc c=>.no) (λc c c c c=>.no) (λc=>.no)
noncomputable def Gd(b:bL)(a:dw):∀g,ae (jw b a g):=dw.casesOn (motive:=λa=>∀g,ae (jw b a g)) a
 (λc=>gm λa e=>af (c6 (bound b c e)) uK)
 (λis=>rr λh a=>yg λf=>af (c6 (iu b is f)) yl)
noncomputable def X2{a:Prop}(b:dw)(c:∀g:E (I×am),hL b=g.map (·.1)->ae a)(e:a6):ae a:=dw.casesOn (motive:=λb=>(∀g:E (I×am),hL b=g.map (·.1)->ae a)->ae a) b
 (λh c=>gm (P:=λk=>a) (λb i=>c [(h,i)] rfl) e)
 (λis c=>rr (P:=λk=>a) (λj b=>yg (P:=λk=>a) λf=>(b8 (is.length=f.length)).bind λl=>c (is.zip (f.map JY)) (E.map_fst_zip (b3 (l.trans (bO JY).symm))).symm) e) c
section
variable{b:d1}(e:nQ b)(a:bL)
noncomputable def n0:∀i l,ae (tr b a i l):=ph (i:=λf c=>jL c=J/\fz b a f c) (λk k=>Ve) (λg j h W=>Vd (g.2 h W) (j h W) g.1) λf c=>be (c6 (jL c)) (e.1 a f c) .intro
noncomputable def lW:∀g h,ae (BW b a g h):=ph (λj j=>UK) (λf i c W=>UJ (f c W) (i c W)) (e.2.2 a)
noncomputable def tS:∀g h,ae (LZ b a g h):=ph (λj j=>trivial) (λf i c W=>⟨f c W,i c W⟩) (e.1 a)
noncomputable def C4:∀g h,ae (L1 b a g h):=ph (λj j=>trivial) (λf i c W=>⟨f c W,i c W⟩) (e.2.1 a)
noncomputable def Ob(c:X)(f:a6):ae (ts b a c f):=gO (O2 (P:=ts b a c) (λf g=>af (e.1 a c f) λi j W=>Vg (i j W)) f)
 (t6 (P:=ts b a c) (λk g=>GO λh=>us (P:=λc=>ts b a c (.Constant (.str h) k g)) (dh (.str h) (.yes λl l=>Vf)) c) f)
noncomputable def Oc:∀g h,ae (L0 b a g h):=ph (λj j=>trivial) (λf i c W=>⟨f c W,i c W⟩) (Ob e a)
noncomputable def N_(c:X)(f:E a6):ae (q6 b a c f):=gO (iC (P:=q6 b a c) (us (P:=λc=>q6 b a c []) (dh (.bool J) (.yes λj j=>.inl ⟨G,G⟩)) c) f) (jO (P:=q6 b a c) (λg=>af (e.2.1 a c g) λh i W=>.inr ⟨g,G,h i W⟩) f)
noncomputable def C2(c:X)(f:j a6):ae (tq b a c f):=gO (oc (P:=tq b a c) (us (P:=λc=>tq b a c M) (dh .none (.yes λk k=>UL)) c) f) (op (P:=tq b a c) (λg=>af (e.1 a c g) λh i W=>UM (h i W)) f)
noncomputable def tT(f:E X){P:a6->Prop}(c:am)(j:∀{g h i},tr b a f g->kY a c->P (.Call (.Name c h) g [] i)):∀l,ae (P l):=kk λg i=>gm λh=>dh c (be (n0 e a f g) (b8 (kY a c)) j)
noncomputable def C1(f:E X){P:a6->Prop}(c:am->Prop)[∀g,oy (c g)](j:∀{g h i l},tr b a f h->kY a g->c g->P (.Call (.Name g i) h [] l)):∀m,ae (P m):=kk λh l=>gm λi g=>bz (n0 e a f h) (b8 (kY a g)) (b8 (c g)) j
noncomputable def C3(k:jA)(c:E X)(j:a6):∀g,ae (nJ b a k c j g):=B7.casesOn (motive:=λk=>∀g,ae (nJ b a k c j g)) k
 (λg=>jO (P:=λc=>nJ b a .val c j g) (λl=>be (e.1 a l g) (c6 (rR g)) λf h i W=>Vw (f i W) h) c)
 (tT e a c "range" λf h i W=>Vs W (f i W) h b.u.aeL.1)
 (tT e a c "reversed" λf h i W=>Vu W (f i W) h b.u.aeL.2.1)
 (λg=>rr (P:=λj=>nJ b a .zip c j g) (λk m n=>tT e a c (P:=nJ b a .zip c (.Tuple n k m)) "zip" (λf h i W=>Vz W (f i W) h b.u.aeL.2.2) g) j)
 (λg=>jO (P:=λc=>nJ b a .ie c j g) (λl=>be (e.1 a l g) (c6 (rR g)) λf h i W=>Vp W (f i W) h) c)
noncomputable def CZ{P:Prop}(i:X)(h:dw)(j:jA)(k:E X)(l:X)(m f n:a6)(o:E a6)(c:g5)
 (p:∀g,lQ a c g->hL h=g.map (·.1)->nJ b a j k f n->fz b (gs a c g) i m->jw (gs a c g) h f->q6 b (gs a c g) l o->P):ae P:=
 X2 h (λg q=>fS (c6 (r3 a c g)) (C3 e a j k f n) (e.1 (gs a c g) i m) (Gd (gs a c g) h f) (N_ e (gs a c g) l o) λr=>p g (r3.at r) q) f
noncomputable def C0(c:I)(f:X)(j:I)(k:E X){P:a6->Prop}(n:∀{g i l h m},fz b a f g->tr b a k h->kx g=J->h.length<30->(i.endLine==m.line)=J->jb.aeC.lookup (c,l)=A j->P (.Call (.Attribute g l i) h [] m)):∀o,ae (P o):=
 kk λh m=>mV λg i l=>r1 (e.1 a f g) (n0 e a k h) (c6 (kx g)) (b8 (h.length<30)) (c6 (i.endLine==m.line)) (b8 (jb.aeC.lookup (c,l)=A j)) n
noncomputable def CY(k:X)(f:gE)(c:X){P:a6->Prop}(l:∀{h g i},fz b a k h->fz b a c g->wj (he f) g=d->(f=.agd->c=.lit .none)->P (.Compare h [he f] [g] i)):∀m,ae (P m):=
 Dm λh i j=>dh [he f] (jO (P:=λj=>P (.Compare h [he f] j i)) (λg=>dD (e.1 a k h) (e.1 a c g) (iZ (wj (he f) g)) (gO (af (c6 f.some) λn o=>bC o (o3.HH n)) (us (P:=λc=>f=.agd->c=.lit .none) (dh .none (.yes λp=>rfl)) c)) l) j)
end
def xT{f:d1}{e:aq}(W:f.W e){c:Q}(b:∃a ax,bT.lookup c=A a/\a.data=.func ax):∃a ax,e.get? c=A a/\a.data=.func ax:=
 b.elim λa b=>b.elim λax b=>⟨a,ax,c1.gd W _ _ b.1,b.2⟩
noncomputable def Oa{g:d1}(h:nQ g)(e:bL)(k:X):∀D,ae (fz g e k D):=X.casesOn (motive_1:=λk=>∀D,ae (fz g e k D)) k
 (λw=>t6 λo i=>L.casesOn (motive_1:=λw=>∀k,ae (fz g e (.lit w) (.Constant k o i))) w (dh .none (.yes λmp mp=>U7)) (λl=>dh (.bool l) (.yes λmp mp=>UR)) (λl=>dh (.int l) (.yes λmp mp=>U0)) (λl=>dh (.str l) (.yes λmp mp=>EX)) (λmp mp=>.no) (λmp mp=>.no))
 (λw=>gm λi k=>be (b8 (kY e k)) (b8 (jb.aeY.lookup k=A w)) λb c a W=>(g.u.aeY _ _ c).2.elim λle o=>UY W b o.1 (o.2 a (c1.gd W)) (g.u.aeY _ _ c).1)
 (λx=>gm λi k=>bz (b8 (e.i[x]?=A (A k))) (iZ (k==kd)) (iZ (k==("__classdict__":am))) λb c j mp mp=>Vc b c j)
 (λE n l=>O1 λp F i=>dh (pR E) (be (h.1 e n p) (h.1 e l F) λb c a W=>UP (c1.base W) (b a W) (c a W)))
 (λn E l=>CY h e n E l λb c j q a W=>UT (c1.base W) (b a W) (c a W) j q)
 (λmp mp mp mp=>.no)
 (λn=>xK λp i=>dh .USub (af (h.1 e n p) λb a W=>U5 (b a W)))
 (λn=>xK λp i=>dh .Not (af (h.1 e n p) λb a W=>U8 (b a W)))
 (λf=>t5 λm i=>dh .And (af (tS h e f m) λb a W=>UN (b a W)))
 (λf=>t5 λm i=>dh .Or (af (tS h e f m) λb a W=>U9 (b a W)))
 (λy n l=>O3 λS p F i=>bz (h.2.1 e y S) (h.1 e n p) (h.1 e l F) λb c j a W=>U1 (b a W) (c a W) (j a W))
 (λf=>rr λo i m=>be (n0 h e f m) (b8 (f.length<=1000)) λb c a W=>Vb (b a W) c)
 (λf=>O5 λm i=>be (n0 h e f m) (b8 (f.length<=1000)) λb c a W=>U3 (b a W) c)
 (λB=>Dn λi f o=>iC (P:=λf=>fz g e (.af7 B) (.Dict o f i)) (iC (P:=λo=>fz g e (.af7 B) (.Dict o [] i)) (.yes λmp mp=>UV) o) f)
 (λo H f=>pw λi I=>Dn λt m=>Ta λco=>dh (P:=λH=>fz g e (.pick o H f) (.Subscript (.Dict (co.map rL) m t) I i)) (co.map (·.1)) ((c6 (uF I)).bind λT=>r1 (h.1 e o I) (tS h e f m) (b8 (co.length=m.length)) (b8 (m≠[])) (b8 (m.length<=15)) (b8 (co.map (·.1)).Nodup) λb c j q z u a W=>U_ (b a W) (c a W) j q z u T) H)
 (λr=>kk λf i=>gm λt=>dh ("list":am) (jO (P:=λf=>fz g e (.agj r) (.Call (.Name "list" t) f [] i)) (kk λK N=>mV λs C=>dh ("items":am) (iC (P:=λK=>fz g e (.agj r) (.Call (.Name "list" t) [.Call (.Attribute s "items" C) K [] N] [] i)) (dD (h.1 e r s) (c6 (kx s)) (c6 (C.endLine==N.line)) (b8 (kY e "list")) λb c j q a W=>U2 W (b a W) c j q (g.u.afZ .list)) K)) f))
 (λn x=>pw λi v p=>bz (h.1 e n p) (h.1 e x v) (c6 (uF v)) λb c j a W=>UZ (b a W) (c a W) j)
 (λn P Q=>pw λi v p=>Do (P:=λv=>fz g e (.slice n P Q) (.Subscript p v i)) (λk U N=>bz (h.1 e n p) (C2 h e P k) (C2 h e Q U) λb c j a W=>Va (b a W) (c a W) (j a W)) v)
 (λr R=>mV λs i=>dh (cL R) (bz (h.1 e r s) (c6 (kx s)) (b8 (R<17)) λb c j a W=>UW W g.u.cls (b a W) c j))
 (λO f=>C1 h e f (λk=>jb.cl.lookup k=A O) λb c j a W=>US W (g.code a W).Hx (b a W) c (g.u.cl _ _ j).1 (g.u.cl _ _ j).2.1 (xT W (g.u.cl _ _ j).2.2))
 (λV r O f=>C0 h e V r O f λb c j q z u a W=>U4 W g.u.cls (g.code a W).Hx (b a W) (c a W) j q z (g.u.aeC _ _ _ u).1 (g.u.aeC _ _ _ u).2.1 (g.u.aeC _ _ _ u).2.2.1 (xT W (g.u.aeC _ _ _ u).2.2.2))
 (λl f=>tT h e f (rl l) λb c a W=>UO W (b a W) c (g.u.afZ l) (Cz l) (CB l) (CA l))
 (λr l f=>kk λm i=>mV λs C=>dh (xA l) (fS (h.1 e r s) (n0 h e f m) (c6 (kx s)) (b8 (m.length<30)) (c6 (C.endLine==i.line)) λb c j q z a W=>UQ W (b a W) (c a W) j q z))
 (λy f=>C1 h e f (λk=>jb.aeQ.lookup k=A y) λb c j a W=>U6 W (Uo W (g.code a W) g.u.afG g.u.init g.u.afC) (b a W) c (g.u.aeQ _ _ j).1 (g.u.aeQ _ _ j).2.1 (g.u.aeQ _ _ j).2.2)
 (λk t o f y=>xJ λY B x Z ad i=>CZ h e k t o f y Y B x Z ad λlo dl ge go gt kw ld a W=>UU dl ge (go a W) (gt a W) kw (ld a W))
 (λf=>O4 λm i=>be (Oc h e f m) (b8 (2<=m.length)) λb c a W=>UX (b a W) c)
end
noncomputable def SN{P:X->Prop}(b:∀g h i l m,ae (P (.comp g h i l m)))(a:X):ae (P a):=X.casesOn (motive_1:=λa=>ae (P a)) a (λc=>.no) (λc=>.no) (λc=>.no) (λc c c=>.no) (λc c c=>.no) (λc c c=>.no) (λc=>.no) (λc=>.no) (λc=>.no) (λc=>.no) (λc c c=>.no) (λc=>.no) (λc=>.no) (λc=>.no) (λc c c=>.no) (λc=>.no) (λc c=>.no) (λc c c=>.no) (λc c=>.no) (λc c=>.no) (λc c c c=>.no) (λc c=>.no) (λc c c=>.no) (λc c=>.no) b (λc=>.no)
noncomputable def Uw{P:X->Prop}(b:∀g,ae (P (.not g)))(a:X):ae (P a):=X.casesOn (motive_1:=λa=>ae (P a)) a (λc=>.no) (λc=>.no) (λc=>.no) (λc c c=>.no) (λc c c=>.no) (λc c c=>.no) (λc=>.no) b (λc=>.no) (λc=>.no) (λc c c=>.no) (λc=>.no) (λc=>.no) (λc=>.no) (λc c c=>.no) (λc=>.no) (λc c=>.no) (λc c c=>.no) (λc c=>.no) (λc c=>.no) (λc c c c=>.no) (λc c=>.no) (λc c c=>.no) (λc c=>.no) (λc c c c c=>.no) (λc=>.no)
noncomputable def MP{P:X->Prop}(b:∀g,ae (P (.and g)))(a:X):ae (P a):=X.casesOn (motive_1:=λa=>ae (P a)) a (λc=>.no) (λc=>.no) (λc=>.no) (λc c c=>.no) (λc c c=>.no) (λc c c=>.no) (λc=>.no) (λc=>.no) b (λc=>.no) (λc c c=>.no) (λc=>.no) (λc=>.no) (λc=>.no) (λc c c=>.no) (λc=>.no) (λc c=>.no) (λc c c=>.no) (λc c=>.no) (λc c=>.no) (λc c c c=>.no) (λc c=>.no) (λc c c=>.no) (λc c=>.no) (λc c c c c=>.no) (λc=>.no)
noncomputable def XQ{P:X->Prop}(b:∀g,ae (P (.or g)))(a:X):ae (P a):=X.casesOn (motive_1:=λa=>ae (P a)) a (λc=>.no) (λc=>.no) (λc=>.no) (λc c c=>.no) (λc c c=>.no) (λc c c=>.no) (λc=>.no) (λc=>.no) (λc=>.no) b (λc c c=>.no) (λc=>.no) (λc=>.no) (λc=>.no) (λc c c=>.no) (λc=>.no) (λc c=>.no) (λc c c=>.no) (λc c=>.no) (λc c=>.no) (λc c c c=>.no) (λc c=>.no) (λc c c=>.no) (λc c=>.no) (λc c c c c=>.no) (λc=>.no)
noncomputable def Oo{P:X->Prop}(b:∀g h i,ae (P (.af0 g h i)))(a:X):ae (P a):=X.casesOn (motive_1:=λa=>ae (P a)) a (λc=>.no) (λc=>.no) (λc=>.no) (λc c c=>.no) b (λc c c=>.no) (λc=>.no) (λc=>.no) (λc=>.no) (λc=>.no) (λc c c=>.no) (λc=>.no) (λc=>.no) (λc=>.no) (λc c c=>.no) (λc=>.no) (λc c=>.no) (λc c c=>.no) (λc c=>.no) (λc c=>.no) (λc c c c=>.no) (λc c=>.no) (λc c c=>.no) (λc c=>.no) (λc c c c c=>.no) (λc=>.no)
noncomputable def N4{P:X->Prop}(b:∀g h i,ae (P (.age g h i)))(a:X):ae (P a):=X.casesOn (motive_1:=λa=>ae (P a)) a (λc=>.no) (λc=>.no) (λc=>.no) (λc c c=>.no) (λc c c=>.no) b (λc=>.no) (λc=>.no) (λc=>.no) (λc=>.no) (λc c c=>.no) (λc=>.no) (λc=>.no) (λc=>.no) (λc c c=>.no) (λc=>.no) (λc c=>.no) (λc c c=>.no) (λc c=>.no) (λc c=>.no) (λc c c c=>.no) (λc c=>.no) (λc c c=>.no) (λc c=>.no) (λc c c c c=>.no) (λc=>.no)
noncomputable def Oe{e:d1}(l:nQ e)(b:bL)(c:X)(a:a6):ae (hC e b c a):=
 gO (be (l.1 b c a) (gO (gm (P:=λa=>fz e b c a->hC e b c a) (λv v=>.yes λf g W=>uL (f g W) λv v=>rfl) a)
  (gO (kk (P:=λa=>fz e b c a->hC e b c a) (λv v v=>.yes λf g W=>uL (f g W) λv v=>rfl) a)
  (gO (mV (P:=λa=>fz e b c a->hC e b c a) (λv v v=>.yes λf g W=>uL (f g W) λv v=>rfl) a)
  (pw (P:=λa=>fz e b c a->hC e b c a) (λv v v=>.yes λf g W=>uL (f g W) λv v=>rfl) a)))) λf t=>t f)
 (gO (Uw (P:=λc=>hC e b c a) (λi=>xK (P:=hC e b (.not i)) (λk n=>dh .Not (af (l.2.1 b i k) λf g W=>VD (f g W))) a) c)
 (gO (MP (P:=λc=>hC e b c a) (λh=>t5 (P:=hC e b (.and h)) (λj n=>dh .And (af (C4 l b h j) λf g W=>VA (f g W))) a) c)
 (gO (XQ (P:=λc=>hC e b c a) (λh=>t5 (P:=hC e b (.or h)) (λj n=>dh .Or (af (C4 l b h j) λf g W=>VE (f g W))) a) c)
 (gO (Oo (P:=λc=>hC e b c a) (λi r s=>CY l b i r s (P:=hC e b (.af0 i r s)) (λf o p q g W=>VC (c1.base W) (f g W) (o g W) p q) a) c)
 (N4 (P:=λc=>hC e b c a) (λi m h=>Dm (P:=hC e b (.age i m h)) (λk n j=>dh (m.map he) (fS (l.1 b i k) (tS l b h j) (c6 (ro m h)) (b8 (2<=h.length)) (iZ (lastMarks (m.map he) j)) λf o p q u g W=>VB (c1.base W) (f g W) (o g W) p q u)) a) c)))))
noncomputable def N9{g:d1}(s:nQ g)(b:bL)(e:X)(a:a6)(n:dj)(h:dw):∀i,ae (iR g b (.agb h e) (.Assign [i] a n)):=dw.casesOn (motive:=λh=>∀i,ae (iR g b (.agb h e) (.Assign [i] a n))) h
 (λr=>gm λo p=>gO
  (bz (c6 (bound b r p)) (c6 (ku a)) (s.1 b e a) λq f j c W=>yn (uK q) (j c W) (λt u=>p2 f _ t u) (λR R=>rfl) λR=>rfl)
  (SN (P:=λe=>iR g b (.agb (.aa r) e) (.Assign [.Name p o] a n)) (λC h l D E=>xJ (P:=λa=>iR g b (.agb (.aa r) (.comp C h l D E)) (.Assign [.Name p o] a n)) (λv i w x y z=>
   (c6 (bound b r p)).bind λF=>(b8 (b.names.lookup p=A .local)).bind λf=>(c6 (o.line==z.line)).bind λj=>(iZ _).bind λk=>
   CZ s b C h l D E v i w x y λQ H I K L N O c W=>Vh H I (K c W) (L c W) N (O c W) F f j k) a) e))
 (λis=>rr λl o=>yg λm=>(c6 (iu b is m)).bind λq=>(s.1 b e a).bind λf=>gO
  (be (c6 (ku a)) (b8 (p1 b (iB m) a=A M)) λj k c W=>yn (yl q) (f c W) (λt u=>p2 j _ t u) (λR B=>zd B k) λR=>rfl) (gO
  (xJ (P:=λa=>fz g b e a->iR g b (.agb (.afQ is) e) (.Assign [.Tuple (iB m) l o] a n)) (λv i w x y z=>af (b8 (p1 b (iB m) (.ListComp v [⟨i,w,x,0⟩] y z)=A M)) λk f c W=>yn (yl q) (f c W) (λR R=>rfl) (λR B=>zd B k) λR=>rfl) a|>.bind λl=>.yes (l f))
  (bz (c6 (ku a)) (b8 is.Nodup) (b8 (p1 b (iB m) a=A (A (m.map (·.1))))) λj k P c W=>Vk q k (f c W) j P)))
noncomputable def Od{f:d1}(g:nQ f)(a:bL)(t:c):∀h,ae (iR f a t h):=c.casesOn (motive_1:=λt=>∀h,ae (iR f a t h)) t
 (λp n=>r2 λh j=>N9 g a n h j p)
 (λs y n=>r2 λh j=>pw λp H z=>dD (g.1 a s z) (g.1 a y H) (g.1 a n h) (c6 (ku h)) λe i k q b W=>Vj (e b W) (i b W) (k b W) q)
 (λs I n=>r2 λh j=>mV λz p=>dh (cL I) (bz (g.1 a s z) (g.1 a n h) (c6 (ku h)) λe i k b W=>Vi W f.u.cls (e b W) (i b W) k))
 (λn=>vb λj h=>be (g.1 a n h) (c6 (ku h)) λe i b W=>Vm (e b W) i)
 (λK s L B=>vb λj=>C0 g a K s L B λe i k q N u b W=>Vy W f.u.cls (f.code b W) (e b W) (i b W) k q N (f.u.aeC _ _ _ u).1 (f.u.aeC _ _ _ u).2.1 (f.u.aeC _ _ _ u).2.2.1 (xT W (f.u.aeC _ _ _ u).2.2.2))
 (λn=>YW λh j=>af (g.1 a n h) λe b W=>Vt (e b W))
 (λl O m=>YU λC P o j=>bz (g.2.1 a l C) (lW g a O P) (lW g a m o) λe i k b W=>Vo (e b W) (i b W) (k b W))
 (λl m=>YY λC o j=>bz (g.2.1 a l C) (lW g a m o) (c6 (hm m)) λe i k b W=>Vx (e b W) (i b W) k)
 (λp Q B m=>YT λF y o j=>dD (C3 g a Q B F y) (Gd a p F) (lW g a m o) (c6 (hm m)) λe i k q b W=>Vn (e b W) i (k b W) q)
 (YS λj=>.yes λS S=>Vl)
 (λl v h=>gO (af (b8 (l≠5)) λe S S=>Vr e) (dh (P:=λl=>iR f a (.raise l v) h) 5 (YV (P:=iR f a (.raise 5 v)) (λj=>kk λD w=>gm λR=>dh ("ModelFault":am) (jO (P:=λD=>iR f a (.raise 5 v) (.Raise (A (.Call (.Name "ModelFault" R) D [] w)) M j)) (λE=>be (n0 g a [v] [E]) (b8 (kY a "ModelFault")) λe i b W=>Vq W f.u.afr (e b W) i f.u.afq.1 G f.u.afq.2) D)) h) l))
 (λm l x=>YX λo j p r=>gm λw=>dh ("ModelFault":am) (dh (P:=λl=>iR f a (.try m l x) (.Try o [.ExceptHandler (A (.Name "ModelFault" w)) M r j] [] [] p)) 5 (pt (P:=λr=>iR f a (.try m 5 x) (.Try o [.ExceptHandler (A (.Name "ModelFault" w)) M r j] [] [] p)) (λE r=>dD (lW g a m o) (lW g a x (E::r)) (c6 (hm x)) (b8 (kY a "ModelFault")) λe i k q b W=>Vv W f.u.afr (e b W) i k q f.u.afq.1 G) r) l))
 (λS S=>.no)
noncomputable def xD{b:d1}(n:I):nQ b:=I.rec (motive:=λc=>nQ b) (⟨λc c c=>.no,λc c c=>.no,λc c c=>.no⟩) (λc a=>⟨Oa a,Oe a,Od a⟩) n
section
section
variable{a:Prop}
noncomputable def m6{c:Type}(b:j c)(e:∀g,b=A g->ae a):ae a:=AH (motive:=λf=>b=f->ae a) b (λh=>.no) e G
noncomputable def uI(b:dy)(c:Q)(f:∀g h i l,b.lookup c=A ⟨g,h,i,l⟩->ae a):ae a:=m6 (b.lookup c) λe=>cn.casesOn (motive:=λe=>b.lookup c=A e->ae a) e f
noncomputable def ry(f:dy)(c:Q)(i:∀b g ax h,f.lookup c=A ⟨b,g,.func ax,h⟩->ae a):ae a:=uI f c λb g e h=>if j:e.ctorIdx=7 then acK (motive:=λe=>f.lookup c=A ⟨b,g,e,h⟩->ae a) e j λax=>i b g ax h elseλk=>.no
noncomputable def Za(f:dy)(c:Q)(j:∀b g i n h,f.lookup c=A ⟨b,g,.seq i n,h⟩->ae a):ae a:=uI f c λb g e h=>if k:e.ctorIdx=2 then acL (motive:=λe=>f.lookup c=A ⟨b,g,e,h⟩->ae a) e k λi n=>j b g i n h elseλl=>.no
noncomputable def N1(f:dy)(c:Q)(i:∀b g l h,f.lookup c=A ⟨b,g,.cell l,h⟩->ae a):ae a:=uI f c λb g e h=>if j:e.ctorIdx=6 then acI (motive:=λe=>f.lookup c=A ⟨b,g,e,h⟩->ae a) e j λax=>i b g ax h elseλk=>.no
noncomputable def RK(f:dy)(c:Q)(i:∀b g l h,f.lookup c=A ⟨b,g,.fields l,h⟩->ae a):ae a:=uI f c λb g e h=>if j:e.ctorIdx=9 then acJ (motive:=λe=>f.lookup c=A ⟨b,g,e,h⟩->ae a) e j λax=>i b g ax h elseλk=>.no
noncomputable def G_{P:U->Prop}(b:∀g h,ae (P (.str g h)))(a:U):ae (P a):=if c:a.ctorIdx=6 then ad3 (motive:=λa=>ae (P a)) a c b else .no
noncomputable def aaK{P:U->Prop}(c:∀b g,ae (P (.int g b)))(a:U):ae (P a):=if e:a.ctorIdx=4 then ad1 (motive:=λa=>ae (P a)) a e λg b=>c b g else .no
noncomputable def aaL{P:U->Prop}(b:∀g,ae (P (.ref g)))(a:U):ae (P a):=if c:a.ctorIdx=10 then ad2 (motive:=λa=>ae (P a)) a c b else .no
noncomputable def tN{P:zW->Prop}(b:∀g,ae (P (.stmts g)))(a:zW):ae (P a):=if c:a.ctorIdx=0 then ac2 (motive:=λa=>ae (P a)) a c b else .no
noncomputable def lc{e:Type}{c:e->Prop}(f:∀b,ae (c b))(a:E e):ae (∀b∈a,c b):=np (motive:=λa=>ae (∀b∈a,c b)) (.yes nofun) (λb a g=>be (f b) g λh i=>Af.mpr ⟨h,i⟩) a
noncomputable def ut{a c:Type}[BEq a][LawfulBEq a]{e:a->c->Prop}(f:E (a×c))(i:∀h:a×c,ae (e h.1 h.2)):ae (∀b g,f.lookup b=A g->e b g):=af (lc i f) λj b g k=>j (b,g) (m3 k)
noncomputable def Eo{a:I->Prop}(c:∀b,ae (a b)):ae (∀b<17,a b):=af (lc c (e9 17)) λe b f=>e b (ht.mpr f)
noncomputable def EE{b:Type}(a:E b):ae (a=[]):=iC (P:=λa=>a=[]) (.yes rfl) a
noncomputable def EJ{b:Type}(a:j b):ae (a=M):=oc (P:=λa=>a=M) (.yes rfl) a
noncomputable def u5(ax:j1)(c:E (am×Q)):ae (∀{b},ax.body=.stmts b->o7 ax (ax.params.args.map (·.arg)) b c):=
 (po (EE ax.params.posonlyargs) (EE ax.params.kwonlyargs) (EJ ax.params.vararg) (EJ ax.params.kwarg) (b8 (ax.params.args.map (·.arg)).Nodup) (b8 (ax.defaults=.none))).bind λa=>
 r1 (b8 (ax.closure=c)) (b8 (ax.globals=eN)) (b8 (ax.builtins=g6)) (b8 (ax.scope.kind=.function)) (iZ ax.scope.isCoroutine) (iZ ax.scope.isGenerator) λe f g h i j b k=>⟨a.1,a.2.1,a.2.2.1,a.2.2.2.1,G,a.2.2.2.2.1,a.2.2.2.2.2,k,e,f,g,h,i,j⟩
end
section
def kZ:Prop:=∀n a,j9 bT eN n=A a->bw.cB n=a
noncomputable def yW(c:kZ)(a:am)(b:Q):ae (bw.cB a=A (.ref b)):=af (b8 (j9 bT eN a=A (A (.ref b)))) (c _ _)
noncomputable def Uu(b:kZ)(a:am):ae (bw.cB a=M):=af (b8 (j9 bT eN a=A M)) (b _ _)
def w8(b:Q):Prop:=kR bT (.ref b)=A (.type "function")/\∃a ax,bT.lookup b=A a/\a.cls=.type "function"/\a.data=.func ax
def w8.sp(a:w8 g):∃b ax,bT.lookup g=A b/\b.data=.func ax:=a.2.elim λb a=>a.elim λax a=>⟨b,ax,a.1,a.2.2⟩
noncomputable def pJ(a:Q):ae (w8 a):=ry bT a λe f ax g b=>af (b8 (e=.type "function")) λc=>⟨(bj (j.map JV) b).trans (bj A c),_,ax,b,c,G⟩
abbrev kX(a:Q)(b:am)(c:j U):Prop:=gD bT (.ref a) b=A c
noncomputable def RP(f:kZ):=ut (e:=λb c=>bw.cB b=A (.ref (b1 c))/\(b==kd)=d/\∃e ax,bT.lookup (b1 c)=A e/\e.data=.func ax) jb.cl λa=>bz (yW f a.1 (b1 a.2)) (iZ (a.1==kd)) (pJ (b1 a.2)) λg h i=>⟨g,h,i.sp⟩
noncomputable def T8:=ut (e:=λ(b:I×am) c=>(∀e<17,(cL e==b.2)=d)/\gD bT (.ref (cX b.1)) b.2=A (A (.ref (b1 c)))/\kR bT (.ref (b1 c))=A (.type "function")/\∃f ax,bT.lookup (b1 c)=A f/\f.data=.func ax) jb.aeC
 λa=>bz (Eo λe=>iZ (cL e==a.1.2)) (b8 (kX (cX a.1.1) a.1.2 (A (.ref (b1 a.2))))) (pJ (b1 a.2)) λh i g=>⟨h,i,g.1,g.sp⟩
noncomputable def Gp(c:L):∀g,ae (∀a b,aF a b c g):=L.casesOn (motive_1:=λc=>∀g,ae (∀a b,aF a b c g)) c (λi=>.no) (λi i=>.no) (λe=>aaK λf=>dh e (.yes λi i=>⟨f,G⟩)) (λe=>G_ λh f=>dh (P:=λh=>∀a b,aF a b (.str e) (.str h f)) e (.yes λi i=>⟨f,G⟩) h) (λi i=>.no) (λi i=>.no)
noncomputable def Yx:∀g h,ae (∀a b,aC a b g h):=ph (λf f=>aC.eY.mpr G) (λb e a c=>aC.mk (b a c) (e a c)) Gp
noncomputable def Yw(b:L)(c:U):ae (∀a,bT.In a->aF [] a b c):=gO (af (Gp b c) λe a p=>e [] a)
 (if e:b.ctorIdx=4 then L.ab.elim (motive_1:=λb=>ae (∀a,bT.In a->aF [] a b c)) b e (λf=>aaL (P:=λc=>∀a,bT.In a->aF [] a (.ab f) c) (λg=>Za bT g λi m h n o e=>be (b8 (i=.type "tuple")) (Yx f h.toList) λj k a X=>λp l=>l g h.toList G ⟨_,X _ _ e,j,_,G⟩ (k [] a) As) c)else .no)
noncomputable def Sk(h:kZ):=ut (e:=λb i=>(b==kd)=d/\∃c,bw.cB b=A c/\∀e,bT.In e->aF [] e i c) jb.aeY λa=>m6 (j9 bT eN a.1) λf g=>op (P:=λf=>bw.cB a.1=f->(a.1==kd)=d/\∃c,bw.cB a.1=A c/\∀e,bT.In e->aF [] e a.2 c) (λb=>be (Yw a.2 b) (iZ (a.1==kd)) λg j k=>⟨j,b,k,g⟩) f|>.bind λl=>.yes (l (h _ _ g))
noncomputable def Op(e:kZ):=ut (e:=λb c=>bw.cB b=A (.ref (cX c))/\(b==kd)=d/\oT bT (.ref (cX c))=J) jb.aeQ λa=>bz (yW e a.1 (cX a.2)) (iZ (a.1==kd)) (c6 (oT bT (.ref (cX a.2)))) λf g h=>⟨f,g,h⟩
noncomputable def C6(a:Q):ae (lN bT a):=m6 (j7 bT a) λb c=>r1 (c6 b.hasDict) (b8 (kX a "__getattribute__" (A (.builtin "object.__getattribute__")))) (b8 (kX a "__getattr__" M)) (Eo λe=>b8 (kX a (cL e) M)) (c6 (plainOver bT a)) (b8 (kX a "__setattr__" (A (.builtin "object.__setattr__")))) λf g h i j k=>⟨⟨b,c,f⟩,g,h,i,j,k⟩
def vA{b:I->Prop}(c:b 0)(e:∀a,b (a+1))(a:I):b a:=Js a c e
end
def lO(h:d1)(u:Q)(l:bb):Prop:=∀f,h.W f->∀{p:ah}{j:bF}{g:E Q}{q m:N}{b:k}{o:E L}{r:E U}{i:dW},mJ f p (h.n+1) j->mD j g b.heap->al f g q b->aC g b.heap o r->o.length=l.params->
 kl (bt p h.aeq h.jd l.body (e3 l.slots o) q)=A (i,m)->(∀c,i=.afU c->c=5)->∀(n:iM->k->Prop),(∀e a s t,i=.ret s->ay [] g e b a->al f e m a->aF e a.heap s t->n (.ok (.ret t)) a)->
 (∀e a c,i=.afU 5->ay [] g e b a->al f e m a->jr 105 b.heap a.heap .none c->b.heap.get? c=M->¬c∈e->n (.error (.ref c)) a)->hx (aI) j (.call (.ref u) {pos:=r}) n b
noncomputable def OT(e:d1)(b:Q)(a:bb)(c:E (j am)):ae (lO e b a):=ry bT b λz B ax C g=>af (tN (P:=λh=>ax.body=h->lO e b a) (λbody=>
 fS (u5 ax []) (c6 (nz bT ax.code ax.qualname)) (c6 (i0 ⟨ax.scope.names,c⟩ a.slots (ax.params.args.map (·.arg)))) (b8 ((ax.params.args.map (·.arg)).length=a.params)) (lW (xD 60) ⟨ax.scope.names,c⟩ a.body body)
 λi k l m n o f W D D D D D D D D D p q r bB s t u v w x=>RR W g G (i o) k (H:=⟨ax.scope.names,c⟩) G l m (λf W=>n f W) p q r bB s t u v w x) ax.body) λy=>y G
noncomputable def GR{P:a6->Prop}(f:∀h i a b,(a.endLine==b.line)=J->∀g,ae (P (.Call (.Attribute (.Call (.Name "super" h) [] [] i) "__init__" a) g [] b))):∀l,ae (P l):=kk λg b=>mV λc a=>dh ("__init__":am) (kk (P:=λc=>P (.Call (.Attribute c "__init__" a) g [] b)) (λe i=>gm λh=>dh ("super":am) (iC (P:=λe=>P (.Call (.Attribute (.Call (.Name "super" h) e [] i) "__init__" a) g [] b)) ((c6 (a.endLine==b.line)).bind λj=>f h i a b j g) e)) c)
abbrev uC(ax:j1)(a:am)(b:lD):Prop:=ax.scope.names.lookup a=A b
def Ml(ax:j1):Prop:=uC ax "super" .globalImplicit/\uC ax "__class__" .free/\(∀a∈ax.scope.names,a.2≠.cell)/\(ax.params.posonlyargs++ax.params.args).head?.map (·.arg)=A "self"
noncomputable def GQ(ax:j1):ae (Ml ax):=dD (b8 _) (b8 _) (b8 _) (b8 _) λa b c e=>⟨a,b,c,e⟩
noncomputable def DH(a:Q):ae (aA (qZ bT a)):=RK bT a λf g b h i=>m6 b[2]? λc k=>af (G_ (P:=λc=>(b[2]?:j U)=A c->aA (qZ bT a)) (λe l=>af (c6 (f0.main.file==e)) λm n=>λq o=>o f g h b e l i n m) c) λp=>p k
noncomputable def CV(a b:Q):ae (aA (tm bT a b)):=N1 bT a λc e f g h=>af (b8 (f=A (.ref b))) λi=>λk j=>j c e g (i▸h)
noncomputable def OU(e:d1)(x:kZ)(no:bw.cB "super"=M):ae (lO e (b1 1) mZ):=ry bT (b1 1) λy z ax B h=>af (tN (P:=λi=>ax.body=i->lO e (b1 1) mZ) (pt λaf c=>vb (P:=λaf=>ax.body=.stmts (af::c)->lO e (b1 1) mZ) (λC=>GR λD E F H j=>iC
 ((po (u5 ax [("__class__",669)]) (c6 (nz bT ax.code ax.qualname)) (c6 (i0 ⟨ax.scope.names,sl.getD 1 []⟩ mZ.slots (ax.params.args.map (·.arg)))) (b8 ((ax.params.args.map (·.arg)).length=mZ.params)) (c6 (hm mZ.body.tail)) (lW (xD 60) ⟨ax.scope.names,sl.getD 1 []⟩ mZ.body.tail c)).bind λb=>
  (po (GQ ax) (b8 (ax.code=.ref 680)) (DH 680) (CV 669 782) (iZ (f0.main.scope.names.lookup ("super":am)).isSome) (b8 (j9 bT s3 "thirdparty.any"=A M))).bind λa=>m6 (j7 bT 782) λf k=>
  bz (b8 (wh bT "__init__" ((f.mro.dropWhile (·!=.ref 782)).drop 1)=A (A (.ref (b1 13))))) (b8 (oV bT 782 (.ref 782)=A J)) (pJ (b1 13)) λl m o n g W L L L L L L L L L p q r bB s t I u v K=>
   RS (r:=13) W e.code h G (b.1 n) b.2.1 j (K:=⟨ax.scope.names,sl.getD 1 []⟩) G b.2.2.1 b.2.2.2.1 G b.2.2.2.2.1 (λL w=>w a.1.1 a.1.2.1 a.1.2.2.1 a.2.1 a.1.2.2.2 a.2.2.1 a.2.2.2.1 a.2.2.2.2.1 ⟨f,k,l⟩ m o.2 a.2.2.2.2.2 no) G rfl (λg W=>b.2.2.2.2.2 g W) p q r bB s t u v)) af) ax.body) λa=>a G
end
section
set_option tactic.hygienic true
def PM(P:iL):(g_ P).lookup 105=A (wu "ModelFault" "ModelFault" 105 104 [.ref 47] (.ref 47::hf) J [] [] d M M (A (.ref 89)) M (A (.str "ModelFault" 280)) (A (.str "ModelFault" 288)) (A (.bool J)) "Exception.__new__"):=by kernel_rfl
noncomputable abbrev zc(a b c e f:dj)(g:E a6):cx:=.Expr (.Call (.Attribute (.Call (.Name "super" a) [] [] b) "__init__" c) g [] e) f
noncomputable def PO(no:bw.cB "super"=M):ae (js bT 105 47 37 25 36):=ry bT 37 λq r ax s t=>af (tN (P:=λu=>ax.body=u->js bT 105 47 37 25 36) (pt λaf c=>
 vb (P:=λaf=>ax.body=.stmts (af::c)->js bT 105 47 37 25 36) (λe=>GR λf g h i v=>jO (gm λj=>dh ("what":am) (jO (P:=λc=>ax.body=.stmts (zc f g h i e [.Name "what" j]::c)->js bT 105 47 37 25 36) (r2 λk l=>mV λm n=>dh ("what":am)
  (gm (P:=λm=>ax.body=.stmts [zc f g h i e [.Name "what" j],.Assign [.Attribute m "what" n] k l]->js bT 105 47 37 25 36) (λp=>dh ("self":am) (gm (P:=λk=>ax.body=.stmts [zc f g h i e [.Name "what" j],.Assign [.Attribute (.Name "self" p) "what" n] k l]->js bT 105 47 37 25 36) (λw=>dh ("what":am)
   ((po (u5 ax [("__class__",25)]) (b8 (ax.params.args.map (·.arg)=[("self":am),("what":am)])) (c6 (nz bT ax.code ax.qualname)) (b8 (ax.code=.ref 36)) (b8 (uC ax "self" .local)) (b8 (uC ax "what" .local))).bind λb=>
   (po (GQ ax) (DH 36) (CV 25 47) (iZ (f0.main.scope.names.lookup ("super":am)).isSome) (b8 (kX 105 "__setattr__" (A (.builtin "object.__setattr__")))) (b8 (kX 105 "what" M))).bind λa=>m6 (j7 bT 47) λx y=>
   bz (b8 (kX 105 "__init__" (A (.ref 37)))) (pJ 37) (b8 (j9 bT s3 "thirdparty.any"=A M)) λz B C D=>⟨λE o=>o _ _ _ _ _ _ _ _ _ _ _ _ _ _ (PM bw.w.params),z,B.1,
    λE o=>o q r s ax f g h j i e p n w l t (b.2.1▸b.1 D) b.2.2.1 b.2.2.2.1 b.2.2.2.2.1 b.2.2.2.2.2 a.1.1 a.1.2.1 a.1.2.2.1 a.1.2.2.2 v,a.2.1,a.2.2.1,⟨x,y⟩,a.2.2.2.1,by decide,a.2.2.2.2.1,a.2.2.2.2.2,C,no⟩)) k)) m)) c))) af) ax.body) λa=>a G
def yc{e:dy}{f:aq}{c:am->j U}{n:am}{g:j U}(X:e.In f)(h:f.Ns eN c)(a:j9 e eN n=A g):c n=g:=by
 obtain⟨o,p,q,i,k,x,l⟩:=h;unfold j9 at a
 split at a
 .rename_i r s t u v m
  have:=X _ _ m;rw[i]at this;cases this;cases k;rw[<-l];unfold nsFind findBy;rw[<-ch.find?_toList]
  split at a
  .rename_i w b
   rw[b];exact aG a
  .rename_i b
   rw[b]
   split at a
   .cases a
   .exact aG a
 .cases a
def DR(X:bT.In a)(b:a.Ns eN bw.cB):kZ:=λc c=>yc X b
section
variable(a:kZ)
def EH:(lc (c:=λb:am=>bw.cB b=M) (Uu a) ["len","abs","min","max","tuple","list","all","any","repr","str","range","reversed","zip","super"]).is=J:=by kernel_rfl
def Z5:(RP a).is=J:=by kernel_rfl
def Z6:(T8).is=J:=by kernel_rfl
def Z7:(Sk a).is=J:=by kernel_rfl
def Z8:(Op a).is=J:=by kernel_rfl
def Ok:(C6 782).is=J:=by kernel_rfl
def Ol:(C6 865).is=J:=by kernel_rfl
def PN(no:bw.cB "super"=M):(PO no).is=J:=by kernel_rfl
def SF:(dD (pJ (b1 1)) (pJ (b1 2)) (b8 (kX 782 "__init__" (A (.ref (b1 1))))) (b8 (kX 865 "__init__" (A (.ref (b1 2))))) λb g h i=>vP b (vP g (vP h i))).is=J:=by kernel_rfl
def TZ:s_ bT 782=J:=by kernel_rfl
def T0:s_ bT 865=J:=by kernel_rfl
def abK:(be (yW a "ModelFault" 105) (c6 (oT bT (.ref 105))) vP).is=J:=by kernel_rfl
end
def sd(a:kZ):B9:=by
 have no:=ae.at (EH a);have b:=ae.at (SF);exact⟨ae.at (PN (no _ (by decide))),vA (ae.at Ok) λg=>ae.at Ol,vA TZ λg=>T0,vA b.2.2.1 λg=>b.2.2.2,vA b.1.1 λg=>b.2.1.1,ae.at (Z5 a),λc e=>ae.at Z6 (c,e),ae.at (Z7 a),ae.at (Z8 a),ae.at (abK a),λf=>no _ (by cases f<;>decide),no _ (by decide),no _ (by decide),no _ (by decide)⟩
end
section
noncomputable def pD(f:d1)(a:I):ae (a≠1->∀b,fp a=A b->lO f (b1 a) b):=gO (af (b8 (a=1)) λe c=>bC e c) (m6 (fp a) λb e=>af (OT f (b1 a) b (sl.getD a [])) λc i h g=>aG (e.symm.trans g)▸c)
section
variable(a:d1)
def RU:(lc (pD a) (qx 0 20)).is=J:=by kernel_rfl
def RV:(lc (pD a) (qx 20 25)).is=J:=by kernel_rfl
def RW:(lc (pD a) (qx 45 25)).is=J:=by kernel_rfl
def RX:(lc (pD a) (qx 70 25)).is=J:=by kernel_rfl
def RY:(lc (pD a) (qx 95 20)).is=J:=by kernel_rfl
def RZ(b:kZ)(no:bw.cB "super"=M):(OU a b no).is=J:=by kernel_rfl
end
def RT(b:d1)(a:I)(h:a≠1)(e:bb)(g:fp a=A e):lO b (b1 a) e:=by
 have i:a<115:=(d6.mp g).1;have c:∀f n,(lc (pD b) (qx f n)).is=J->f<=a->a<f+n->lO b (b1 a) e:=λf n j k l=>ae.at j a (E.mem_range'_1.mpr ⟨k,l⟩) h e g;by_cases g1:a<20
 .exact c _ _ (RU b) (fY _) g1
 by_cases g2:a<45
 .exact c _ _ (RV b) (lE g1) g2
 by_cases g3:a<70
 .exact c _ _ (RW b) (lE g2) g3
 by_cases dM:a<95
 .exact c _ _ (RX b) (lE g3) dM
 .exact c _ _ (RY b) (lE dM) i
def Oq:∀(n:I)(a:aq),c1 a bT->mA a n (h9 fp gr n) b1 105:=by
 intro n
 induction n with
 |zero=>intro a W o p b q r s t u v w f g h bB c;cases c
 |succ n i=>
  intro a W o p b q r s t u v w f g h bB c x y z B;have e:=DR W.gd W.g;have bq:=sd e;refine bh c _ λj k C=>?_;have l:=cf C;have D:lO ⟨n,h9 fp gr n,bq,i⟩ (b1 b) j:=by
   by_cases m:b=1
   .subst m;cases k;exact ae.at (RZ ⟨n,h9 fp gr n,bq,i⟩ e (ae.at (EH e) _ (by decide)))
   .exact RT _ b m j k
  exact D a W f g h bB (dE l.1) l.2 x y z B
end
section
section
variable{b:bF}{c:U->k->Prop}{a:k}{e:b9}
def Zw{i:am}{h:Q}{aB:E U}{n:I}{s p t u:dj}{f:U->k->Prop}(v:(i==("__debug__":am))=d)(w:∀(f:U->k->Prop),f (.ref h) a->av aI b (Bn e i) f c a)
 (q:a.heap.IsList h aB.toArray) (x:aB.length<=1000)
 (y:∀l m z,(∀o g,a.heap.get? o=A g->l.get? o=A g)->a.heap.get? m=M->l.PlainList m (aB.take 12).toArray->f (.ref m) {a with heap:=l,toks:=z}):
 av aI b (eC (.Subscript (.Name i s) (.Slice M (A (.Constant (.int 12) n p)) M t) u) e) f c a:=by
 have B:cr=2^24:=G;refine wg (te (w _ (K9 (aJ (K7 (k:=n) (pos:=p) (aJ ?_))))) v);have L:({a with toks:=a.toks+1}:k).heap.IsList h aB.toArray:=q;have r:(a.heap.push {cls:=.type "slice",data:=.fields #[.none,.int 12 a.toks,.none]}).IsList h aB.toArray:=by
  obtain⟨g,C,D⟩:=q;exact⟨g,bU _ C,D⟩
 have F:(a.heap.push {cls:=.type "slice",data:=.fields #[.none,.int 12 a.toks,.none]}).IsSliceOf a.heap.objs.size .none (.int 12 a.toks) .none:=Il ..;refine zh r.typeIs KN (Lg (lo:=M) (hi:=A 12) r F .none (.int _ _) .none (by simp) ?_ (by rw[eV];exact FP x B)) G;rw[Gg];have H:(aB.take (gq (A 12) aB.length)).drop (ft M aB.length)=aB.take 12:=by
  show(aB.take (jQ 12 aB.length)).drop 0=_;rw[Ad,show jQ 12 aB.length=min 12 aB.length from Gk 12 _];by_cases j:aB.length<=12
  .rw[JD j,v7,Jm j]
  .rw[Ay (I.le_of_not_ge j)]
 rw[H];refine y _ _ _ (λo g K=>bU _ (bU _ K)) ?_ ⟨_,dt _ G⟩;exact Ip (by simp only[jf];exact E2)
end
end
noncomputable abbrev jI:E (j am):=sl.getD 0 []
noncomputable abbrev tP(a b c e f:dj)(g h:a6):cx:=.Assign [.Name "cells" a] (.Call (.Name "list" b) [.Subscript g h c] [] e) f
inductive mI(b:d1):Prop
 |mk {c e ax f g h i j k l m n o a} (p:bT.lookup (b1 0)=some ⟨c,e,.func ax,f⟩) (P:o7 ax [("script":am)] (tP g h m n o (.Name "script" i) (.Slice none (some (.Constant (.int 12) j k)) none l)::a) [])
  (q:nz bT ax.code ax.qualname=J) (a1:i0 ⟨ax.scope.names,jI⟩ 18 [("script":am)]=J) (r:bound ⟨ax.scope.names,jI⟩ 1 "cells"=J) (s:kY ⟨ax.scope.names,jI⟩ "list") (t:BW b ⟨ax.scope.names,jI⟩ (pz.body.drop 1) a)
noncomputable def To(a:d1):ae (mI a):=ry bT (b1 0) λv w ax g r=>af (tN (P:=λs=>ax.body=s->mI a) (pt λbq b=>
 r2 (P:=λbq=>ax.body=.stmts (bq::b)->mI a) (λk c=>gm λf=>dh ("cells":am) (kk (P:=λk=>ax.body=.stmts (.Assign [.Name "cells" f] k c::b)->mI a) (λl h=>gm λi=>dh ("list":am)
  (jO (P:=λl=>ax.body=.stmts (.Assign [.Name "cells" f] (.Call (.Name "list" i) l [] h) c::b)->mI a) (pw λm g=>gm λn=>dh ("script":am) (Do (P:=λg=>ax.body=.stmts (tP f i m h c (.Name "script" n) g::b)->mI a) (λo j p=>
   oc (P:=λo=>ax.body=.stmts (tP f i m h c (.Name "script" n) (.Slice o j M p)::b)->mI a) (op (P:=λj=>ax.body=.stmts (tP f i m h c (.Name "script" n) (.Slice M j M p)::b)->mI a) (t6 λq x=>dh (.int 12)
    ((po (u5 ax []) (b8 (ax.params.args.map (·.arg)=[("script":am)])) (c6 (nz bT ax.code ax.qualname)) (c6 (i0 ⟨ax.scope.names,jI⟩ 18 [("script":am)])) (c6 (bound ⟨ax.scope.names,jI⟩ 1 "cells")) (b8 (kY ⟨ax.scope.names,jI⟩ "list"))).bind λe=>
      af (lW (xD 60) ⟨ax.scope.names,jI⟩ (pz.body.drop 1) b) λt u=>⟨r,e.2.1▸e.1 u,e.2.2.1,e.2.2.2.1,e.2.2.2.2.1,e.2.2.2.2.2,t⟩)) j) o) g)) l)) k)) bq) ax.body) λq=>q G
def Tp(a:d1):(To a).is=J:=by kernel_rfl
noncomputable def ur(n:I)(a:E O):j (dW×N):=
 kl (bt J (h9 fp gr n) (rP (h9 fp gr n J) gr) (pz.body.drop 1) (M::A (.ref 1)::hu 16 M) [.list (a.map .int),.list (a.map .int)])
def ad4(a:aq):mJ a J 21 qL:=⟨by decide,by decide,G,λb=>rfl,.inl rfl⟩
theorem GW:∀(a:I){b:E O}{aB:E U},aC g h (b.map .int) aB->aC g h ((b.take a).map .int) (aB.take a)
 |0,_,_,_=>by simp[aC]
 |a+1,[],aB,c=>by
  have:aB=[]:=aC.eY.mp c;subst this;simp[aC]
 |a+1,i::b,aB,c=>by
  refine aC.gc.mp c _ λj k e bB f=>?_;subst e;exact aC.mk bB (GW a f)
theorem DX:∀{a:E O}{aB:E U},aC g h (a.map .int) aB->aC i l (a.map .int) aB
 |[],aB,b=>by
  have:aB=[]:=aC.eY.mp b;subst this;exact aC.eY.mpr G
 |f::a,aB,b=>by
  refine aC.gc.mp b _ λj k c bB e=>?_;subst c;exact aC.mk bB (DX e)
section
def Tr{e:k}{j:Q}{aB:E U}{i:E O}(R:bw.ls=e.heap.objs.size)(W:c1 e.heap bT)(S:e.heap.IsList j aB.toArray)(ld:aC [] e.heap (i.map .int) aB)(le:aB.length<=63)
 {lo:N} (plain:ur 20 (i.take 12)=A (.ret (.bool J),lo)) (T:iM->k->Prop)
 (mp:∀v,(∀a g,e.heap.get? a=A g->v.heap.get? a=A g)->v.gens=e.gens->v.os=e.os->T (.ok (.ret (.bool J))) v):
 hx aI qL (.call (.ref (b1 0)) ⟨[.ref j],[]⟩) T e:=by
 have X:bT.In e.heap:=W.gd;let l:d1:=⟨20,h9 fp gr 20,sd (DR X W.g),Oq 20⟩;obtain@⟨TT,XV,ax,abs,V,agn,ago,agp,agq,agr,ags,agt,agu,agv,of,P,st,wp,A1,A5,B0⟩:=ae.at (Tp l);have B2:qL.depth<hz:=by decide
 refine Bb B2 (X _ _ of) G P.aeX P.gen P.body (wn X st) ?_;rw[tM (a:=[.ref j]) P G];refine aJ ?_;rw[P.afa,P.aga,P.ae_];have y:∀a,({}:aq).get? a=M:=λa=>by unfold Io;rfl
 have B3:al {} [j] [.arg] e:=by
  refine⟨(λa g b=>bC b (by rw[y];simp)),(λa g b=>bC b (by rw[y];simp)),G,by simp,λm agJ=>y m,λr m g h B8=>?_⟩;cases r with
  |zero=>
   obtain rfl:=aG h;obtain rfl:=aG B8;obtain⟨z,B,agJ,n,w⟩:=S;exactλagJ c=>c z _ n B w
  |succ r=>simp at h
 refine Du (b:=⟨ax.scope.names,jI⟩) (T:=18) (S:=[.ref 0]) (b3 R) P.kind G wp B3 (aC.mk (λagJ c=>c j G rfl) (aC.eY.mpr G)) G λs af Ch o Y agw ai agx f fresh p=>⟨?_,KA ?_⟩
 .obtain⟨agy,sub,Cl,agJ⟩:=W.base.lu;exact Cl.keeps λa g b=>p a g (sub a g b).1
 have Z:cC e.heap J 20 (qL.deeper s) s:=⟨(by show qL.depth+1+5*20<=800;decide),(by show qL.units+3+200*20+2000<=cy;decide),λagJ c=>c s [] rfl (by rw[Y];exact P.gen) (by rw[Y];exact P.aeX) o.builtins o.globals G o.kind (λbM C=>nomatch C),G,λagJ=>rfl,.inl rfl⟩;have D:al e.heap [] [] af:=⟨λa g b agJ=>p a g b,λa g b=>⟨g.slots,p a g b⟩,G,by simp,by simp,by simp⟩;have C9:bK e.heap [] af.heap s jI (hu 18 M) Ch:=by
  refine f.ns _ λDa D5 Fr=>⟨λagJ c=>c Da D5 λr ad FB dl t=>?_,λm h=>⟨by simp,fresh m h,(f.t m h).2.2⟩,f.own,f.cq,f.cells,f.inj,f.aeJ,f.len.trans G⟩;have GM:FB=M:=(Ar.mp (d7 t)).2;subst GM;have Id:r<(e3 18 [L.ref 0]).length:=by rw[<-f.len];exact(d6.mp dl).1
  rcases Fr r ad _ dl (e8 Id)with⟨F,agJ⟩|⟨F,l,IO,KB,KF,agJ⟩
  .exact .inl F (λH t=>by exact nomatch t)
  .exact .inr F l IO KB KF (λH t=>by exact nomatch t)
 have KK:af.heap.IsList j aB.toArray:=by
  obtain⟨z,B,KM⟩:=S;exact⟨z,p _ _ B,KM⟩
 have KT:bV ((i.take 12).map L.int).length=J:=by
  unfold bV;rw[bO];have:=I8 12 i;exact cg (VQ this)
 refine Ld (K6 (qW (xB W o D A5 (l.u.afZ .list) (Cz .list) (CB .list) (CA .list) (kj G (wS (Zw (h:=j) (aB:=aB) G (λI K=>x6 o f (show jI[0]?=A (A ("script":am))from G) G rfl I _ λagz ge=>?_) KK (bG le (ap G)) λagA m Ns w h On=>qX ⟨λI K=>rF (CD .list) I K,?_⟩) G)))) G rfl)
 .refine ge _ λagB b Os=>?_;clear ge;subst Os;obtain rfl:=aG b;exact K
 have bq:=D.qe Ns (.list ((i.take 12).map .int)) h w (λagJ c=>c (aB.take 12) On (DX (GW 12 ld)));have Pi:=C9.quiet D bq.2;refine CC (t:=.list) (T:=[.ref 0]) (ge:=.ref 1) (go:=[.list ((i.take 12).map .int),.list ((i.take 12).map .int)]) bq.1 Z ?_ G (aC.mk (λagJ c=>c m G rfl) (aC.eY.mpr G)) _ _ λagC bz Pv go P3 St=>?_
 .show a4 (bV ((i.take 12).map L.int).length) (A _)=_;rw[KT];rfl
 have gt:=Pi.quiet bq.1 go;show av _ _ (j6 (.Name "cells" V) s Pv) _ _ _;refine(uK (r:=⟨ax.scope.names,jI⟩) (y:=V) A1).bf (TE:=M::A (.ref 1)::hu 16 M) (λu=>by exact nomatch u) o gt (gt.vO _) P3 G St _ _ λdD SB agD SC SL=>?_;obtain⟨kw,agE,C,q⟩:=xL plain;obtain rfl:kw=.ret (.bool J):=by
  cases kw with
  |ret H=>rw[dW.ret.inj (aG (show A (dW.ret H)=A (.ret (.bool J))from q))]
  |next=>have u:=dW.ret.inj (aG (show A (dW.ret .none)=A (.ret (.bool J))from q));exact nomatch u
  |afU l=>have u:=aG (show A (dW.afU l)=A (.ret (.bool J))from q);exact nomatch u
  |cont=>exact no q
 have ST:=B0 e.heap W;refine ST.bf o SL SC Z C (λl q=>by exact nomatch q) _ _ (λSZ fS agF Tm agG agH agI Ty=>?_) λSZ fS ad TD=>by cases TD
 have mK:=(go.gB.eJ SB).eJ Tm;obtain⟨TE,rfl,TI⟩:=Ty;obtain rfl:TE=.bool J:=TI;refine mp fS (λa g b=>mK.z a g (w a g (p a g b)) (.inr (by rw[R];exact du b)) (λx=>?_) λx=>?_) (mK.gens.trans ai.gens) (mK.os.trans ai.os)
 .rw[Jd,b2]at x;rw[x]at b;rw[p _ _ b]at h;exact nomatch h
 .rw[fresh a x]at b;exact nomatch b
end
section
open PySem.W.X
def Tf(P:iL):((g_ P).all λa=>!(a.2.cls==.type "frame"))=J:=by kernel_rfl
def Te(P:iL):(((g_ P).lookup s3).isSome&&((g_ P).lookup qT).isSome&&((g_ P).lookup g6).isSome&&((g_ P).lookup eN).isSome&&decide (j9 (g_ P) eN "__builtins__"=A (A (.ref 4)))&&((g_ P).lookup 4).isSome)=J:=by kernel_rfl
def Td(P:iL):j9 (g_ P) eN "law"=A (A (.ref (b1 0))):=by kernel_rfl
def D_{b:aq}{e:dy}(X:e.In b){a:Q}(c:(e.lookup a).isSome=J):(pu b λa=>(e.lookup a).isSome).get? a=b.get? a:=by
 rw[tY,cd c]
def aby(X:bT.In g)(s:g.Ns eN bw.cB)(j:g.Ns g6 bw.jY)(t:∀h:am,h≠"__name__"->bw.jY h=oQ h)(u:g.NoLimit)(ns:g.NoSeer):c1 g bT:=by
 have k:∀a e,(g_ bw.w.params).lookup a=A e->e.cls≠.type "frame":=λa e b v=>by
  have:=di.mp (Tf bw.w.params) (a,e) (m3 b);rw[v]at this;simp at this
 have l:=Te bw.w.params;simp only[eB]at l;obtain⟨⟨⟨⟨⟨m,w⟩,x⟩,y⟩,z⟩,B⟩:=l;have up:∀{a c},((g_ bw.w.params).lookup a).isSome=J->g.Ns a c->(pu g λa=>((g_ bw.w.params).lookup a).isSome).Ns a c:=λ{a c} f n=>by
  obtain⟨e,C,D,E,F⟩:=n;exact⟨e,C,D,(D_ X f).trans E,F⟩
 refine⟨⟨⟨pu g λa=>((g_ bw.w.params).lookup a).isSome,λj e b=>?_,?_,?_⟩,G⟩,s,k,j,t,X⟩
 .rw[tY]at b
  split at b
  .rename_i f
   obtain⟨Y,o⟩:=kO.mp f;have:=X _ _ o;rw[b]at this;obtain rfl:=aG this;exact⟨b,k _ _ o⟩
  .exact nomatch b
 .obtain⟨i,n,b⟩:=u;exact⟨i,up m n,b⟩
 .obtain⟨⟨i,H,I,K⟩,⟨L,N,O⟩,⟨P,Q,R⟩,⟨p,S,T,q,r,U,V,W⟩⟩:=ns;refine⟨⟨i,up m H,I,K⟩,⟨L,up w N,O⟩,⟨P,up x Q,R⟩,⟨p,S,T,up y q,r,?_,V,W⟩⟩;have:p "__builtins__"=A (.ref 4):=yc X q (dE z);rw[r]at this;cases this;exact(D_ X B).trans U
end
section
set_option tactic.hygienic true
open PySem.W.X
def SK{aB:E U}{a:E O}(b:IntsAre aB a):aB.length=a.length:=by
 induction b with
 |nil=>rfl
 |cons e e e c=>rw[gY,gY,c]
def Yz{b:E Q}{c:aq}{aB:E U}{a:E O}(e:IntsAre aB a):aC b c (a.map .int) aB:=by
 induction e with
 |nil=>exact aC.eY.mpr G
 |cons g g g f=>exact aC.mk ⟨_,G⟩ f
def Tt(plain:∀a:E O,a.length<=12->∃g,ur 20 a=A (.ret (.bool J),g)):tp pn:=by
 intro D F f H I e c h K L N P Q R S T U V l m W Y Z n o p q r;obtain⟨c,rfl,s⟩:=c;have X:bT.In f.heap:=kIn_of (e:=D8) c;have b:=e.T;obtain rfl:=e.X.2.1;obtain rfl:=e.X.2.2 _ b.b;have t:c1 f.heap bT:=aby X b.g b.b b.builtins b.nolimit (b.seer (by decide+kernel));have u:h=b1 0:=by
  have v:bw.cB "law"=A (.ref (b1 0)):=yc X b.g (Td bw.w.params);have i:bw.cB "law"=A (.ref h):=l;rw[v]at i;cases i;rfl
 subst u
 wrow_args n o p q r
 rename_i a _ _ _ _ _ _ _ w aB _ x _ _ _ j _ k _
 have y:aB.length=a.length:=SK j;have ad:a.length<=63:=(gW.mp (lA.mp k));obtain⟨g,z⟩:=plain (a.take 12) (I8 12 a);refine enter_call (Tr (j:=w) (aB:=aB) (i:=a) s t x (Yz j) (y▸gW.mp (lA.mp k)) z _ λdl B C os=>⟨.inl ⟨.bool J,.bool J,[],G,?_,.bool J,?_,λge=>⟨Je,by simp⟩⟩,.of_keep B,os,.of_eq (C.trans m)⟩)
 .intro cls;rfl
 .wrow_post
def YG(plain:∀a:E O,a.length<=12->∃b,ur 20 a=A (.ret (.bool J),b)):ej.Holds:=head (UI (Tt plain))
end
end
section
inductive a7
 |go
 |aa (c:L)
 |w (c:L) (a:N)
 |b (g:ah)
 |afO (a:N)
 |dK (h:E L) (a:N)
 |afV (e:aK)
 |af2 (i:da) (e:aK) (a:N)
 |af4 (f:dW) (a:N)
 |af8 (f:rf)
 |afN (j:L->ah) (k:L->L) (l:L->E a7)
noncomputable def aT:I->E a7->E a7
 |0,a=>a
 |n+1,a=>.go::aT n a
def ho{a:Type}(b:j a)(c:a->Prop):Prop:=match b with
 |some e=>c e
 |none=>dT
def zj{a:Type}(c e:j a)(f:a->Prop):Prop:=match c with
 |some b=>e=A b/\f b
 |none=>dT
noncomputable def a7.ab9:a7->ah
 |.go=>J
 |_=>d
noncomputable def a7.acn:a7->j L
 |.aa a=>A a
 |_=>M
noncomputable def a7.aco(c:N):a7->j (L×N)
 |.aa a=>A (a,c)
 |.w a e=>A (a,e)
 |_=>M
noncomputable def a7.abZ:a7->j ah
 |.b a=>A a
 |_=>M
noncomputable def a7.aci:a7->j N
 |.afO a=>A a
 |_=>M
noncomputable def a7.ace:a7->j rf
 |.af8 a=>A a
 |_=>M
noncomputable def a7.ab_:a7->j (E L×N)
 |.dK a c=>A (a,c)
 |_=>M
noncomputable def a7.ab2:a7->j aK
 |.afV a=>A a
 |_=>M
noncomputable def a7.ab1:a7->j (da×aK×N)
 |.af2 a c e=>A (a,c,e)
 |_=>M
def ask{c:Type}(get:a7->j c)(b:E a7)(e:j c)(f:c->E a7->Prop):Prop:=match b with
 |[]=>ho e λa=>f a []
 |a::b=>cU a.ab9 (ho e λa=>f a b) (zj (get a) e λa=>f a b)
def xu{a:Type}(get:a7->j a)(b:E a7)(e:j a)(f:a->E a7->Prop):Prop:=match b with
 |[]=>dT
 |c::b=>zj (get c) e λc=>f c b
abbrev pk(a:E a7)(b:j L)(c:L->E a7->Prop):Prop:=ask a7.acn a b c
abbrev mO(b:E a7)(c:N)(e:j (L×N))(f:L->N->E a7->Prop):Prop:=ask (a7.aco c) b e λa=>f a.1 a.2
abbrev rj(a:E a7)(b:j ah)(c:ah->E a7->Prop):Prop:=ask a7.abZ a b c
abbrev xt(a:E a7)(b:j N)(c:N->E a7->Prop):Prop:=ask a7.aci a b c
abbrev tD(a:E a7)(b:j rf)(c:rf->E a7->Prop):Prop:=ask a7.ace a b c
abbrev Ct(b:E a7)(c:j (E L×N))(e:E L->N->E a7->Prop):Prop:=xu a7.ab_ b c λa=>e a.1 a.2
def xr(a:E a7)(e:dw)(b:j aK)(c:aK->E a7->Prop):Prop:=match e with
 |.aa _=>ho b λf=>c f a
 |.afQ _=>ask a7.ab2 a b c
abbrev xq(b:E a7)(c:eE)(e:da->aK->N->E a7->Prop):Prop:=xu a7.ab1 b c λa=>e a.1 a.2.1 a.2.2
def na(b:E a7)(a:L)(c:ah->E a7->Prop):Prop:=match a with
 |.bool e=>c e b
 |a=>rj b (cN a) c
def f_(a:ah)(P b:Prop):Prop:=match a with
 |true=>P
 |false=>b
def l5(b:ho g h):∃a,g=A a/\h a:=by
 cases g with
 |some a=>exact⟨a,G,b⟩
 |none=>exact b.elim
section
variable{a:E a7}
def hn{a:ah}{P c b:Prop}(e:f_ a P c)(f:a=J->P->b)(g:a=d->c->b):b:=by
 cases a with
 |true=>exact f G e
 |false=>exact g G e
def kU{b:Type}(e:j b)(f:b->E a7->Prop)(g:Prop):Prop:=∀c:b,∀a:E a7,e=A c->f c a->g
def BP{b:Type}(f:j (b×N))(g:b->N->E a7->Prop)(h:Prop):Prop:=∀c:b,∀e:N,∀a:E a7,f=A (c,e)->g c e a->h
def LD(f:eE)(g:da->aK->N->E a7->Prop)(h:Prop):Prop:=∀b:da,∀c:aK,∀e:N,∀a:E a7,f=A (b,c,e)->g b c e a->h
section
variable{e:Type}{get:a7->j e}{b:j e}{c:e->E a7->Prop}
def yG(a:ho b λg=>c g h):aA (kU b c):=by
 cases b with
 |some g=>exactλf e=>e g h G a
 |none=>exact a.elim
def G2(a:zj h b λg=>c g i):aA (kU b c):=by
 cases h with
 |some g=>exactλf e=>e g i a.1 a.2
 |none=>exact a.elim
def OD{b:ah}{P c a:Prop}(e:cU b P c)(f:P->a)(g:c->a):a:=by
 cases b with
 |true=>exact f e
 |false=>exact g e
def pl(e:ask get a b c):aA (kU b c):=by
 cases a with
 |nil=>exact yG e
 |cons f g=>exact OD e yG G2
def Cv(e:xu get a b c):aA (kU b c):=by
 cases a with
 |nil=>exact e.elim
 |cons f g=>exact G2 e
end
def tF(b:pk a g h):aA (kU g h):=pl b
def M4(b:mO a l g h):aA (BP g h):=pl b _ λe c f b=>λj i=>i e.1 e.2 c f b
def Cp(b:rj a g h):aA (kU g h):=pl b
def xs(b:tD a g h):aA (kU g h):=pl b
def vw(b:na a g h):aA (kU (cN g) h):=by
 cases g with
 |bool c=>exactλf e=>e c a G b
 |_=>exact Cp b
def Cu(b:xt a g h):aA (kU g h):=pl b
def M3(b:Ct a g h):aA (BP g h):=Cv b _ λe c f b=>λj i=>i e.1 e.2 c f b
def Cr(b:xr a g h i):aA (kU h i):=by
 cases g with
 |aa c=>exact yG b
 |afQ c=>exact pl b
def Cq(b:xq a g h):aA (LD g h):=Cv b _ λe c f b=>λj i=>i e.1 e.2.1 e.2.2 c f b
end
noncomputable def e4(a:N)(b:L)(c:I):j L:=b.eT.bind λe=>a3 (hK a e) λh f=>(m0 a f).bind λg=>g.lookup c
noncomputable def fi(a:N)(e:L)(c:I):ah:=e.eT.any λf=>(hK a f).any λb=>decide (b.1=c)&&kp a b.2
noncomputable def Zc(a:N)(f:L)(b:I)(g:L):j N:=f.eT.bind λh=>a3 (hK a h) λi c=>(m0 a c).bind λe=>a4 (decide (e.length<500)&&decide (b<17)) (A (bd a c (.afS (ll b g e))))
noncomputable def D3(a:N)(f:L):j (L×N):=f.eT.bind λc=>(fB a c).bind λb=>a4 (bV b.length) (A (.ref a.length,a++[.list (b.map λe=>.ab [.ab e.1,e.2])]))
abbrev hW:=L->N->E a7->Prop
abbrev g8:=ah->I->E L->N->E a7->(dW->N->E a7->Prop)->Prop
def tE(a:E a7)(b:E a7->Prop)(c:Prop):Prop:=match a with
 |[]=>b []
 |.go::a=>b a
 |_=>c
def rX(a:E dp)(b:N)(P:Prop):Prop:=match a with
 |[]=>P
 |_=>d_ b a=J/\P
def Cs(a:E a7)(b:(L->ah)->(L->L)->(L->E a7)->E a7->Prop)(c:Prop):Prop:=match a with
 |.afN e f g::a=>b e f g a
 |_=>c
def Dp(i:E dp)(f:dw)(j:aK)(k l:aK->N->E a7->hW->Prop)(g:L->ah)(m:L->L)(n:L->E a7)(o:E L)(b:N):Prop:=
 d_ b i=J/\∀a,a∈o->xr (n a) f (it j f a) λh c=>k h b c λp e c=>cN p=A (g a)/\e=b/\(g a=J->l h b c λq e r=>q=m a/\e=b)
def tW(c:E dp)(f:dw)(g:aK)(h i:aK->N->E a7->hW->Prop):E L->N->E a7->(E L->N->E a7->Prop)->Prop
 |[],a,b,e=>rX c a (e [] a b)
 |l::j,a,b,e=>rX c a (ho (it g f l) λk=>h k a b λm a b=>na b m λn b=>f_ n
  (i k a b λo a b=>tW c f g h i j a b λp a b=>e (o::p) a b) (tW c f g h i j a b e))
mutual
def db(e:ah)(h:ah->cb)(g:ce)(i:g8)(j:aK):X->N->E a7->hW->Prop
 |.lit n,b,a,c=>c n b a
 |.aga n,b,a,c=>c n b a
 |.var w,b,a,c=>ho (j[w]?.bind id) λn=>c n b a
 |.af6 B p q,b,a,c=>db e h g i j p b a λl b a=>db e h g i j q b a λs b a=>mO a b (c2 b B l s) c
 |.af0 p B q,b,a,c=>db e h g i j p b a λl b a=>db e h g i j q b a λs b a=>rj a (bY b B l s) λt a=>c (.bool t) b a
 |.age p I k,b,a,c=>db e h g i j p b a λl b a=>w3 e h g i j k l I b a c
 |.neg p,b,a,c=>db e h g i j p b a λl b a=>ho l.fk λw=>c (.int (-w)) b a
 |.not p,b,a,c=>db e h g i j p b a λl b a=>na a l λt a=>c (.bool (!t)) b a
 |.and k,b,a,c=>w2 e h g i j k b a c
 |.or k,b,a,c=>w5 e h g i j k b a c
 |.ite x p q,b,a,c=>db e h g i j x b a λl b a=>na a l λt a=>f_ t (db e h g i j p b a c) (db e h g i j q b a c)
 |.ab k,b,a,c=>hU e h g i j k b a λm b a=>c (.ab m) b a
 |.list k,b,a,c=>hU e h g i j k b a λm b a=>c (.ref b.length) (b++[.list m]) a
 |.af7 t,b,a,c=>c (.ref b.length) (b++[t2 t]) a
 |.pick y K k,b,a,c=>hU e h g i j k b a λm b a=>db e h g i j y b a λl b a=>pk a (l.ng.bind λL=>(K.zip m).lookup L) λn a=>c n b a
 |.agj u,b,a,c=>db e h g i j u b a λl b a=>mO a b (D3 b l) c
 |.agi p w,b,a,c=>db e h g i j p b a λl b a=>db e h g i j w b a λs b a=>pk a (ck b l s) λn a=>c n b a
 |.slice p O P,b,a,c=>db e h g i j p b a λl b a=>db e h g i j O b a λs b a=>db e h g i j P b a λC b a=>mO a b ((l7 s).bind λs=>(l7 C).bind λC=>m9 b l s C) c
 |.br u z,b,a,c=>db e h g i j u b a λl b a=>pk a (e4 b l z) λn a=>c n b a
 |.call v k,b,a,c=>hU e h g i j k b a λm b a=>i e v m b a λo b a=>ho o.sw λn=>c n b a
 |.agg x u v k,b,a,c=>db e h g i j u b a λl b a=>fi b l x=J/\hU e h g i j k b a λm b a=>i e v (l::m) b a λo b a=>ho o.sw λn=>c n b a
 |.afZ q k,b,a,c=>hU e h g i j k b a λm b a=>f_ (q.plain||e) (mO a b (eW b q m) c) dT
 |.af_ u q k,b,a,c=>db e h g i j u b a λl b a=>kz b l q=J/\hU e h g i j k b a λm b a=>mO a b (hJ b l q m) c
 |.new x k,b,a,c=>hU e h g i j k b a λm b a=>f_ e (mO a b (g x m b) c) dT
 |.comp D F y k cU,b,a,c=>hU e h g i j k b a λm b a=>f_ e (tE a
  (λa=>tD a (eb b y m) λo a=>tW o.2.1 F j (λr=>db e h g i r cU) (λr=>db e h g i r D) o.1 o.2.2 a λf b a=>c (.ref b.length) (b++[.list f]) a)
  (Cs a (λv z Q a=>tD a (eb b y m) λo a=>Dp o.2.1 F j (λr=>db e h g i r cU) (λr=>db e h g i r D) v z Q o.1 o.2.2/\c (.ref o.2.2.length) (o.2.2++[.list ((o.1.filter v).map z)]) a)
  (Ct a ((eb b y m).bind λo=>e2 o.2.1 F j (λr H=>dQ (aR e h g r cU H)) (λr H=>aR e h g r D H) o.1 o.2.2) λf b a=>c (.ref b.length) (b++[.list f]) a))) dT
 |.af3 k,b,a,c=>hU e h g i j k b a λm b a=>pk a ((lZ oN m).map .str) λn a=>c n b a
def hU(e:ah)(g:ah->cb)(h:ce)(i:g8)(j:aK):E X->N->E a7->(E L->N->E a7->Prop)->Prop
 |[],a,b,c=>c [] a b
 |k::f,a,b,c=>db e g h i j k a b λl a b=>hU e g h i j f a b λm a b=>c (l::m) a b
def w3(c:ah)(f:ah->cb)(g:ce)(h:g8)(i:aK):E X->L->E gE->N->E a7->hW->Prop
 |[],_,_,_,_,_=>dT
 |n::l,o,e,b,a,j=>match e with
  |[]=>dT
  |p::e=>db c f g h i n b a λk b a=>rj a (bY b p o k) λm a=>f_ (m&&!(l.isEmpty&&e.isEmpty)) (w3 c f g h i l k e b a j) (j (.bool m) b a)
def w2(c:ah)(e:ah->cb)(g:ce)(h:g8)(i:aK):E X->N->E a7->hW->Prop
 |[],_,_,_=>dT
 |k::f,b,a,j=>match f.isEmpty with
  |true=>db c e g h i k b a j
  |false=>db c e g h i k b a λl b a=>na a l λm a=>f_ m (w2 c e g h i f b a j) (j l b a)
def w5(c:ah)(e:ah->cb)(g:ce)(h:g8)(i:aK):E X->N->E a7->hW->Prop
 |[],_,_,_=>dT
 |k::f,b,a,j=>match f.isEmpty with
  |true=>db c e g h i k b a j
  |false=>db c e g h i k b a λl b a=>na a l λm a=>f_ m (j l b a) (w5 c e g h i f b a j)
end
def LJ{a:Type}(e:j (a×N))(f:a->N->E a7->Prop)(g:Prop):Prop:=∀b:a,∀c:N,∀h:E a7,e=A (b,c)->f b c h->g
def dn{a:Type}(b:j (a×N))(c:a->N->E a7->Prop):Prop:=aA (LJ b c)
abbrev o2(g:ah->cb)(h:g8):Prop:=∀a b c e i f,h a b c e i f->dn (g a b c e) f
section
variable{a:ah}{b:ah->cb}{c:ce}{e:g8}
def dn.dS(a:dn T ge)(b:∀g B D,ge g B D->dn (gt g B) kw):dn (a3 T gt) kw:=by
 refine a _ λg B D c e=>?_;clear a;subst c;rw[fe];exact b g B D e
def dn.eq(a:dn g B)(b:g=D):dn D B:=b▸a
def dn.abY{a:E a7}{b:j L}{c:N}{e:hW}{f:Type}{h:L->j (f×N)}{i:f->N->E a7->Prop}(k:pk a b λg a=>e g c a)(l:∀g a,e g c a->dn (h g) i):dn (b.bind h) i:=by
 refine tF k _ λg m n o=>?_;subst n;exact l g m o
def dn.Hv(a:rj B D T)(b:∀g B,T g B->dn (ge g) gt):dn (D.bind ge) gt:=by
 refine Cp a _ λg c e f=>?_;subst e;exact b g c f
def dn.at(a:na B D T)(b:∀g B,T g B->dn (ge g) gt):dn ((cN D).bind ge) gt:=by
 refine vw a _ λg c e f=>?_;rw[e];exact b g c f
def dn.p_{c:E a7}{a:j (L×N)}{e:N}{b:hW}(f:mO c e a b):dn a b:=by
 refine M4 f _ λg h i k l=>?_;subst k;exactλn m=>m g h i G l
def dn.qh{b:j (dW×N)}{c:hW}(e:dn b λg B D=>ho g.sw λT=>c T B D):dn (Internal.bB b) c:=e.dS λg B D a=>by
 obtain⟨T,f,a⟩:=l5 a;rw[f];exactλi h=>h _ _ _ G a
def xv(a:tE g h i):(∃g,h g)\/i:=by
 cases g with
 |nil=>exact .inl ⟨_,a⟩
 |cons b g=>cases b with
  |go=>exact .inl ⟨_,a⟩
  |_=>exact .inr a
def pQ(a:rX g h P):d_ h g=J/\P:=by
 cases g with
 |nil=>exact⟨G,a⟩
 |cons b b=>exact a
def bH(a:g=J):a4 g h=h:=a▸G
def Ov(f:E dp)(k:dw)(n:aK){q r:aK->N->E a7->hW->Prop}{c e:aK->N->j (L×N)}(b:E L)(w:∀g h l i,q g h l i->dn (c g h) i)(x:∀g h l i,r g h l i->dn (e g h) i):
 ∀{h l} i,tW f k n q r b h l i->dn (e2 f k n (λg m=>dQ (c g m)) e b h) i:=by
 induction b with
 |nil=>intro h l i a;exactλQ o=>o _ _ _ (bH (pQ a).1) (pQ a).2
 |cons y b s=>
  intro h l i a;obtain⟨z,a⟩:=pQ a;obtain⟨g,B,a⟩:=l5 a;refine w _ _ _ _ a _ λK t O C a=>vw a _ λD P F a=>?_;have H:e2 f k n (λg m=>dQ (c g m)) e (y::b) h=cU D (a3 (e g t) λu m=>a3 (e2 f k n (λg m=>dQ (c g m)) e b m) λv I=>A (u::v,I)) (e2 f k n (λg m=>dQ (c g m)) e b t):=by
   refine(bH z).trans ?_;rw[B];show a3 (dQ (c g h)) _=_;rw[jc C F,fe]
  rw[H];exact hn a (λp a=>p▸(x _ _ _ _ a).dS λu h l a=>(s _ a).dS λv h l a=>λQ o=>o _ _ _ G a) (λp a=>p▸s _ a)
def M2(a:Cs g m o):(∃h i l p,m h i l p)\/o:=by
 cases g with
 |nil=>exact .inr a
 |cons b g=>cases b with
  |afN h i l=>exact .inl ⟨_,_,_,_,a⟩
  |_=>exact .inr a
def O6(o:E dp)(p:dw)(q:aK){r s:aK->N->E a7->hW->Prop}{k t:aK->N->j (L×N)}{l:L->ah}{u:L->L}{w:L->E a7}(e:E L){b:N}(x:∀g b h i,r g b h i->dn (k g b) i)(y:∀g b h i,s g b h i->dn (t g b) i)
 (a:Dp o p q r s l u w e b):e2 o p q (λg z=>dQ (k g z)) t e b=A ((e.filter l).map u,b):=by
 obtain⟨v,a⟩:=a
 induction e with
 |nil=>exact bH v
 |cons c e f=>
  refine Cr (a c (.head _)) _ λg h B m=>x _ _ _ _ m _ λP C h D F=>?_;obtain⟨H,rfl,m⟩:=F;refine(bH v).trans ?_;rw[B];show a3 (dQ (k g C)) _=_;have f:=f λc I=>a c (.tail _ I);rw[jc D H,fe];cases n:l c with
  |true=>
   refine y _ _ _ _ (m n) _ λQ R S K O=>?_;obtain⟨rfl,rfl⟩:=O;rw[K,cond_true,fe,f,fe,IY n];rfl
  |false=>rw[cond_false,f,IX (by rw[n];decide)]
def yT(a:fi g l m=J)(b:Q->j p):(l.eT.bind λh=>Internal.a3 (hK g h) λo i=>a4 (decide (o=m)&&kp g i) (b h))=l.eT.bind b:=by
 refine k5 a _ λh c a=>k5 a _ λe f a=>?_;obtain⟨k,i⟩:=e;rw[c,cJ,cJ,f,fe,show(decide (k=m)&&kp g i)=J from a];rfl
def w4(a:ah)(b:ah->cb)(c:ce)(e:g8)(f:X):Prop:=∀(g:aK){h:N}{j:E a7}{i:hW},db a b c e g f h j i->dn (aR a b c g f h) i
def LP(a:ah)(b:ah->cb)(c:ce)(e:g8)(i:E X)(m:Prop):Prop:=(∀(f:aK){g:N}{j:E a7}{h:E L->N->E a7->Prop},hU a b c e f i g j h->dn (dv a b c f i g) h)->(∀(f:aK){k:L}{l:E gE}{g:N}{j:E a7}{h:hW},w3 a b c e f i k l g j h->dn (lY a b c f i k l g) h)->(∀(f:aK){g:N}{j:E a7}{h:hW},w2 a b c e f i g j h->dn (n2 a b c f i g) h)->(∀(f:aK){g:N}{j:E a7}{h:hW},w5 a b c e f i g j h->dn (n3 a b c f i g) h)->m
def ik(a:ah)(b:ah->cb)(c:ce)(e:g8)(f:E X):Prop:=aA (LP a b c e f)
def ik.dK{f:E X}(j:ik a b c e f)(g:aK){h:N}{k:E a7}{i:E L->N->E a7->Prop}(l:hU a b c e g f h k i):dn (dv a b c g f h) i:=j _ λf m m m=>f g l
def ik.nil:ik a b c e []:=λn g=>g (λh i j k f=>λn g=>g _ _ _ G f) (λh l m i j k f=>f.elim) (λh i j k f=>f.elim) λh i j k f=>f.elim
def ik.cons{r:X}{f:E X}(n:w4 a b c e r)(l:ik a b c e f):ik a b c e (r::f):=by
 refineλD k=>k (λh j i t g=>(n h g).dS λm j i g=>(l.dK h g).dS λz j i g=>λD k=>k _ _ _ G g) (λh B v j i t g=>?_) (λh j i t g=>?_) λh j i t g=>?_
 .cases v with
  |nil=>exact g.elim
  |cons C v=>exact(n h g).dS λs j i g=>.Hv g λo i g=>hn g (λp g=>p▸l _ λD w D D=>w h g) (λl g=>by rw[l];exactλD k=>k _ _ _ G g)
 .cases f with
  |nil=>exact n h g
  |cons s u=>
   exact(dn.dS (T:=aR a b c h r j) (gt:=λm q=>(cN m).bind λo=>cU o (n2 a b c h (s::u) q) (A (m,q))) (n h g) λm j i g=>.at g λo i g=>hn g (λp g=>p▸l _ λD D x D=>x h g) (λl g=>l▸λD k=>k _ _ _ G g))
 .cases f with
  |nil=>exact n h g
  |cons s u=>
   exact(dn.dS (T:=aR a b c h r j) (gt:=λm q=>(cN m).bind λo=>cU o (A (m,q)) (n3 a b c h (s::u) q)) (n h g) λm j i g=>.at g λo i g=>hn g (λl g=>l▸λD k=>k _ _ _ G g) (λp g=>p▸l _ λD D D y=>y h g))
def il(L:o2 b e)(p:X):w4 a b c e p:=@X.rec (w4 a b c e) (ik a b c e)
 (λx h j i n g=>λle k=>k _ _ _ G g)
 (λx h j i n g=>λle k=>k _ _ _ G g)
 (λC h j i n g=>by
  obtain⟨x,m,g⟩:=l5 g;exactλle k=>k x j i (by show(h[C]?.bind id).bind _=_;rw[m];rfl) g)
 (λP s z l o h j i n g=>(l h g).dS λp j i g=>(o h g).dS λI j i g=>.p_ g)
 (λs P z l o h j i n g=>(l h g).dS λp j i g=>(o h g).dS λI j i g=>.Hv g λE i q=>λle k=>k _ _ _ G q)
 (λs W r l o h j i n g=>(l h g).dS λp j i g=>o _ λle w le le=>w h g)
 (λs l h j i n g=>(l h g).dS λp j i g=>by
  obtain⟨C,m,g⟩:=l5 g;rw[m];exactλle k=>k _ _ _ G g)
 (λs l h j i n g=>(l h g).dS λp j i g=>.at g λE i q=>λle k=>k _ _ _ G q)
 (λr l h j i n g=>l _ λle le s le=>s h g)
 (λr l h j i n g=>l _ λle le le D=>D h g)
 (λw s z t l o h j i n g=>by
  refine t h g _ λp K Y m g=>vw g _ λE Z u g=>?_;have F:aR a b c h (.ite w s z) j=cU E (aR a b c h s K) (aR a b c h z K):=by
   show a3 (dQ (aR a b c h w j)) _=_;rw[jc m u,fe]
  rw[F];exact hn g (λt g=>t▸l h g) (λt g=>t▸o h g))
 (λr l h j i n g=>(l.dK h g).dS λv j i g=>λle k=>k _ _ _ G g)
 (λr l h j i n g=>(l.dK h g).dS λv j i g=>λle k=>k _ _ _ G g)
 (λE h j i n g=>λle k=>k _ _ _ G g)
 (λq ad r l o h j i n g=>(o.dK h g).dS λv j i g=>(l h g).dS λp j i g=>by
  refine tF g _ λx H m q=>bh m _ λQ u B=>?_;dsimp only at B;rw[u,cJ,B];exactλle k=>k _ _ _ G q)
 (λD l h j i n g=>(l h g).dS λp j i g=>.p_ g)
 (λs C l o h j i n g=>(l h g).dS λp j i g=>(o h g).dS λI j i g=>.abY g λx i q=>λle k=>k _ _ _ G q)
 (λs dl ge l o t h j i n g=>(l h g).dS λp j i g=>(o h g).dS λI j i g=>(t h g).dS λgo j i g=>.p_ g)
 (λD R l h j i n g=>(l h g).dS λp j i g=>by
  refine tF g _ λx H m q=>bh m _ λC u m=>b0 m _ λw gt B m=>bh m _ λkw S m=>?_;dsimp only at m;rw[u,cJ,B,fe,S,cJ,m];exactλle k=>k _ _ _ G q)
 (λF r l h j i n g=>(l.dK h g).dS λv j i g=>dn.qh (L _ _ _ _ _ _ g))
 (λw D F r l o h j i n g=>(l h g).dS λp j i g=>by
  rw[yT g.1];refine k5 g.1 _ λC T le=>?_;obtain rfl:=kA T;exact(o.dK h g.2).dS λv j i g=>dn.qh (L _ _ _ _ _ _ g))
 (λz r l h j i n g=>(l.dK h g).dS λv j i g=>hn g (λo g=>by rw[bH ((HQ _ _).trans o)];exact .p_ g) λle=>nj)
 (λD z r l o h j i n g=>(l h g).dS λp j i g=>by
  rw[g.1];exact(o.dK h g.2).dS λv j i g=>.p_ g)
 (λw r l h j i n g=>(l.dK h g).dS λv j i g=>hn g (λo g=>o▸.p_ g) λle=>nj)
 (λp l q r w N V O h j i n g=>(V.dK h g).dS λv j i g=>hn g (λo g=>by
  rw[bH o];rcases xv g with⟨i,g⟩|g
  .refine xs g _ λt i m g=>?_;rw[m,cJ];exact(Ov _ _ _ _ (λy le le le g=>O y g) (λy le le le g=>N y g) _ g).dS λf j i g=>λle k=>k _ _ _ G g
  rcases M2 g with⟨F,R,ld,i,g⟩|g
  .refine xs g _ λt i m U=>?_;obtain⟨u,q⟩:=U;rw[m,cJ,O6 _ _ _ _ (λy le le le g=>O y g) (λy le le le g=>N y g) u,fe];exactλle k=>k _ _ _ G q
  .refine M3 g _ λf K H m q=>bh m _ λt B m=>?_;dsimp only at m;rw[B,cJ];exactλle k=>k _ _ H (by rw[m,fe]) q) λle=>nj)
 (λr l h j i n g=>(l.dK h g).dS λv j i g=>by
  refine tF g _ λx H m q=>?_;obtain⟨Q,u,rfl⟩:=jn.mp m;rw[u];exactλle k=>k _ _ _ G q)
 ik.nil (λp r l o=>ik.cons l o) p
def BS(g:o2 b e)(f:E X):ik a b c e f:=@np X (ik a b c e) ik.nil (λh f i=>ik.cons (il g h) i) f
end
end
section
noncomputable def va:E I:=[8,2,0,0,0,2,2,7,1,5,6,7,4,1,0,1,1,1,1,0,0,3,6,3,2,4,0,0,0,0,0,0,3,0,4,0,0,0,0,0,0,0,1,1,2,2,2,2,2,1,2,1,1,5,3,4,2,0,2,4,4,1,2,2,2,1,3,2,0,3,0,3,0,0,2,1,1,0,0,2,2,1,0,0,1,0,0,2,2,2,2,2,2,2,2,1,0,1,1,1,0,2,2,0,1,1,1,1,1,0,0,1,1,0,0]
noncomputable def gP(a:I):I:=va.getD a 99
noncomputable abbrev e5(a:ah->cb):ce:=rP (a J) gr
abbrev cR:=aK->N->j (L×N)
abbrev iS:=aK->N->j (E L×N)
abbrev f4:=aK->N->eE
def hG(F:h->i)(a:b=g):F b=F g:=a▸G
def gH(F:l->m->o)(a:b=g)(c:h=i):F b h=F g i:=a▸c▸G
def nV(F:o->p->q->r)(a:b=g)(c:h=i)(e:l=m):F b h l=F g i m:=a▸c▸e▸G
section
variable(b e:ah->cb)(g:I)
def o8(P:Prop):Prop:=(∀a,gP a<g->∀c,b c a=e c a)->P
abbrev B6(c:X):Prop:=o8 b e g (∀f,(λa=>aR f b (e5 b) a c)=λa=>aR f e (e5 e) a c)
abbrev xb(h:E X):Prop:=o8 b e g (∀c,∀f∈h,(λa=>aR c b (e5 b) a f)=λa=>aR c e (e5 e) a f)
abbrev mK(a:c):Prop:=o8 b e g (∀h,f h b (e5 b) a=f h e (e5 e) a)
abbrev tA(a:E c):Prop:=o8 b e g (∀f,bt f b (e5 b) a=bt f e (e5 e) a)
variable{b e g}
variable{a:ah}{h i:ce}
def jB(c:∀m∈o,(λl=>aR a b h l m)=λl=>aR a e i l m):(λl=>dv a b h l o)=λl=>dv a e i l o:=by
 induction o with
 |nil=>rfl
 |cons m o f=>exact gH (λ(g:cR)(j:iS) l k=>a3 (g l k) λn p=>a3 (j l p) λq r=>A (n::q,r)) (c m (.head _)) (f λs t=>c s (.tail _ t))
def MD(k:∀m∈o,(λl=>aR a b h l m)=λl=>aR a e i l m):(λl=>lY a b h l o)=λl=>lY a e i l o:=by
 induction o with
 |nil=>rfl
 |cons p q r=>exact gH (o:=aK->L->E gE->N->j (L×N)) (λ(s:cR)(t:aK->L->E gE->N->j (L×N)) l m f u=>match f with
  |[]=>M
  |v::f=>a3 (s l u) λc g=>(bY g v m c).bind λn=>cU (n&&!(q.isEmpty&&f.isEmpty)) (t l c f g) (A (.bool n,g))) (k p (.head _)) (r λc w=>k c (.tail _ w))
def MC(c:∀o∈m,(λl=>aR a b h l o)=λl=>aR a e i l o):(λl=>n2 a b h l m)=λl=>n2 a e i l m:=by
 induction m with
 |nil=>rfl
 |cons n p q=>exact gH (λ(f r:cR) l g=>match p.isEmpty with
  |true=>f l g
  |false=>a3 (f l g) λj k=>(cN j).bind λs=>cU s (r l k) (A (j,k))) (c n (.head _)) (q λt u=>c t (.tail _ u))
def MG(c:∀o∈m,(λl=>aR a b h l o)=λl=>aR a e i l o):(λl=>n3 a b h l m)=λl=>n3 a e i l m:=by
 induction m with
 |nil=>rfl
 |cons n p q=>exact gH (λ(f r:cR) l g=>match p.isEmpty with
  |true=>f l g
  |false=>a3 (f l g) λj k=>(cN j).bind λs=>cU s (A (j,k)) (r l k)) (c n (.head _)) (q λt u=>c t (.tail _ u))
variable(b e g)
noncomputable def rh(c:I):ae (o8 b e g (∀a,b a c=e a c)):=af (b8 (gP c<g)) λf h=>h c f
noncomputable def MF(a:I):ae (o8 b e g (e5 b a=e5 e a)):=af (rh b e g (gr a)) λc h=>hG (i:=E L->N->j (L×N)) (λ(b:E L->N->j (dW×N)) i f=>a3 (bB (b (.ref (f.length+1)::i) (f++[.afS [],.c8 a f.length]))) λk l=>match k with
 |.none=>A (.ref (f.length+1),l)
 |_=>M) (c h J)
noncomputable def iT(l:X):ae (B6 b e g l):=@X.rec (λl=>ae (B6 b e g l)) (λu=>ae (xb b e g u))
 (λA5=>.yes λA5 A5=>rfl)
 (λA5=>.yes λA5 A5=>rfl)
 (λA5=>.yes λA5 A5=>rfl)
 (λO o s v C=>be v C λdN x c a=>gH (o:=cR) (λ(o s:cR) h k=>a3 (o h k) λl i=>a3 (s h i) λz q=>c2 q O l z) (dN c a) (x c a))
 (λo O s v C=>be v C λdN x c a=>gH (o:=cR) (λ(o s:cR) h k=>a3 (o h k) λl i=>a3 (s h i) λz q=>(bY q O l z).bind λF=>A (.bool F,q)) (dN c a) (x c a))
 (λo W u v m=>be v m λdN x c a=>gH (o:=cR) (λ(o:cR)(w:aK->L->E gE->N->j (L×N)) h k=>a3 (o h k) λl i=>w h l W i) (dN c a) (MD (x c a)))
 (λo v=>af v λdN c a=>hG (i:=cR) (λ(o:cR) h k=>a3 (o h k) λl i=>l.fk.bind λB=>A (.int (-B),i)) (dN c a))
 (λo v=>af v λdN c a=>hG (i:=cR) (λ(o:cR) h k=>a3 (o h k) λl i=>(cN l).bind λF=>A (.bool (!F),i)) (dN c a))
 (λu m=>af m λr c a=>MC (r c a))
 (λu m=>af m λr c a=>MG (r c a))
 (λw o s P v C=>bz P v C λH dN x c a=>nV (r:=cR) (λ(w o s:cR) h k=>a3 (dQ (w h k)) λF i=>cU F (o h i) (s h i)) (H c a) (dN c a) (x c a))
 (λu m=>af m λr c a=>hG (i:=cR) (λ(p:iS) h k=>a3 (p h k) λt i=>A (.ab t,i)) (jB (r c a)))
 (λu m=>af m λr c a=>hG (i:=cR) (λ(p:iS) h k=>a3 (p h k) λt i=>A (.ref i.length,i++[aO.list t])) (jB (r c a)))
 (λA5=>.yes λA5 A5=>rfl)
 (λr Y u Z m=>be m Z λco ad c a=>gH (o:=cR) (λ(p:iS)(r:cR) h k=>a3 (p h k) λt i=>a3 (r h i) λl q=>l.ng.bind λdl=>((Y.zip t).lookup dl).bind λI=>A (I,q)) (jB (co c a)) (ad c a))
 (λy D=>af D λr c a=>hG (i:=cR) (λ(y:cR) h k=>a3 (y h k) λl i=>l.eT.bind λB=>(fB i B).bind λK=>a4 (bV K.length) (A (.ref i.length,i++[aO.list (K.map λp=>.ab [.ab p.1,p.2])]))) (r c a))
 (λo B v ge=>be v ge λdN x c a=>gH (o:=cR) (λ(o s:cR) h k=>a3 (o h k) λl i=>a3 (s h i) λz q=>(ck q l z).bind λI=>A (I,q)) (dN c a) (x c a))
 (λo s w v C P=>bz v C P λdN x H c a=>nV (r:=cR) (λ(o s w:cR) h k=>a3 (o h k) λl i=>a3 (s h i) λz q=>a3 (w h q) λQ go=>(l7 z).bind λz=>(l7 Q).bind λQ=>m9 go l z Q) (dN c a) (x c a) (H c a))
 (λy gt D=>af D λr c a=>hG (i:=cR) (λ(y:cR) h k=>a3 (y h k) λl i=>l.eT.bind λB=>a3 (hK i B) λA5 R=>(m0 i R).bind λK=>(K.lookup gt).bind λI=>A (I,i)) (r c a))
 (λS u m=>be m (rh b e g S) λco T c a=>gH (o:=cR) (λ(p:iS)(w:E L->N->j (dW×N)) h k=>a3 (p h k) λt i=>bB (w t i)) (jB (co c a)) (T c a))
 (λw y S u D m=>bz D m (rh b e g S) λU co T c a=>nV (r:=cR) (λ(y:cR)(p:iS)(kw:E L->N->j (dW×N)) h k=>a3 (y h k) λl i=>l.eT.bind λB=>a3 (hK i B) λld R=>a4 (decide (ld=w)&&kp i R) (a3 (p h i) λt q=>bB (kw (.ref B::t) q))) (U c a) (jB (co c a)) (T c a))
 (λs u m=>af m λr c a=>hG (i:=cR) (λ(p:iS) h k=>a3 (p h k) λt i=>a4 (a||s.plain) (eW i s t)) (jB (r c a)))
 (λy s u D m=>be D m λU co c a=>gH (o:=cR) (λ(y:cR)(p:iS) h k=>a3 (y h k) λl i=>a4 (kz i l s) (a3 (p h i) λt q=>hJ q l s t)) (U c a) (jB (co c a)))
 (λw u m=>be m (MF b e g w) λco le c a=>gH (o:=cR) (λ(p:iS)(n:E L->N->j (L×N)) h k=>a3 (p h k) λt i=>a4 a (n t i)) (jB (co c a)) (le c))
 (λp lo r u cU mp m of=>bz m of mp λco H st c a=>nV (r:=cR) (λ(u:iS)(w p:cR) h k=>a3 (u h k) λt i=>a4 a ((eb i r t).bind λg=>a3 (e2 g.2.1 lo h (λV q=>dQ (w V q)) (λV q=>p V q) g.1 g.2.2) λf q=>A (.ref q.length,q++[aO.list f]))) (jB (co c a)) (H c a) (st c a))
 (λu m=>af m λr c a=>hG (i:=cR) (λ(p:iS) h k=>a3 (p h k) λt i=>(lZ oN t).bind λl=>A (.str l,i)) (jB (r c a)))
 (.yes λA5 A5=>nofun)
 (λl u wp m=>be wp m λA1 co c a=>Af.mpr ⟨A1 c a,co c a⟩) l
noncomputable def Ce(c:E X):ae (xb b e g c):=@np X (λc=>ae (xb b e g c)) (.yes λk k=>nofun) (λh c i=>be (iT b e g h) i λj co f a=>Af.mpr ⟨j f a,co f a⟩) c
noncomputable def MH(o:c):ae (mK b e g o):=@c.rec (λo=>ae (mK b e g o)) (λt=>ae (tA b e g t))
 (λC p=>af (iT b e g p) λq h a=>hG (i:=f4) (λ(n:cR) f i=>a3 (n f i) λu k=>a4 (a||C.plain) ((k6 k f C u).bind λO=>A (.next,O,k))) (q h a))
 (λv s p=>bz (iT b e g p) (iT b e g v) (iT b e g s) λdN r z h a=>nV (r:=f4) (λ(n l m:cR) f i=>a3 (n f i) λu k=>a3 (l f k) λo w=>a3 (m f w) λP D=>(m8 D o P u).bind λQ=>A (.next,f,Q)) (dN h a) (r h a) (z h a))
 (λv I p=>be (iT b e g p) (iT b e g v) λdN r h a=>gH (o:=f4) (λ(n l:cR) f i=>a3 (n f i) λu k=>a3 (l f k) λo w=>o.eT.bind λs=>a3 (hK w s) λgt y=>(m0 w y).bind λK=>a4 (decide (K.length<500)&&decide (I<17)) (A (.next,f,bd w y (.afS (ll I u K))))) (dN h a) (r h a))
 (λp=>af (iT b e g p) λq h a=>hG (i:=f4) (λ(n:cR) f i=>a3 (n f i) λgt k=>A (.next,f,k)) (q h a))
 (λm v F t=>bz (iT b e g v) (Ce b e g t) (rh b e g F) λR co S h a=>nV (r:=f4) (λ(v:cR)(p:iS)(B:E L->N->j (dW×N)) f i=>a3 (v f i) λo k=>o.eT.bind λs=>a3 (hK k s) λT y=>a4 (decide (T=m)&&kp k y) (a3 (p f k) λH w=>a3 (B (.ref s::H) w) λg D=>A (g.vJ,f,D))) (R h a) (jB (co h a)) (S h a))
 (λp=>af (iT b e g p) λq h a=>hG (i:=f4) (λ(n:cR) f i=>a3 (n f i) λu k=>A (.ret u,f,k)) (q h a))
 (λm n l U x=>bz (iT b e g m) U x λz dN r h a=>nV (r:=f4) (λ(m:cR)(n l:f4) f i=>a3 (dQ (m f i)) λV k=>cU V (n f k) (l f k)) (z h a) (dN h a) (r h a))
 (λm l x=>be (iT b e g m) x λz r h a=>gH (o:=f4) (λ(m:cR)(l:f4) f i=>sm (λf i=>dQ (m f i)) (λf i=>l f i) f i) (z h a) (r h a))
 (λC q t l x=>be (Ce b e g t) x λco r h a=>gH (o:=f4) (λ(t:iS)(l:f4) f i=>a3 (t f i) λH k=>a4 a ((eb k q H).bind λg=>eP g.2.1 C (λf i=>l f i) g.1 f g.2.2)) (jB (co h a)) (r h a))
 (.yes λgt gt=>rfl)
 (λm W=>af (iT b e g W) λq h a=>hG (i:=f4) (λ(n:cR) f i=>a3 (n f i) λgt k=>a4 a (A (.afU m,f,k))) (q h a))
 (λl m ge x X=>be x X λr Y h a=>gH (o:=f4) (λ(l B:f4) f i=>(l f i).bind λg=>cU g.1.fw (a4 (tO g.1 m a) (B g.2.1 g.2.2)) (A g)) (r h a) (Y h d))
 (λF=>af (rh b e g F) λq h a=>hG (i:=f4) (λ(B:E L->N->j (dW×N))(f:E (j L)) i=>(f[0]?.bind id).bind λ(o:L)=>o.eT.bind λs=>a3 (hK i s) λm y=>a4 (decide (m=0)&&kp i y) (a3 (bB (B [L.ref s] i)) λgt k=>A (da.next,f,k))) (q h a))
 (.yes λgt gt=>rfl)
 (λgo t Z ad=>be Z ad λdl co h a=>gH (o:=f4) (λ(n l:f4) f i=>r4 (n f i) λf i=>l f i) (dl h a) (co h a)) o
noncomputable def MI(f:E c):ae (tA b e g f):=@np c (λf=>ae (tA b e g f)) (.yes λp p=>rfl) (λk f l=>be (MH b e g k) l λm co j a=>gH (o:=f4) (λ(n o:f4) h i=>r4 (n h i) λh i=>o h i) (m j a) (co j a)) f
noncomputable def ME(a:I):ae (∀l,fp a=A l->tA b e (gP a) l.body):=m6 (fp a) λl f=>af (MI b e (gP a) l.body) λc h g=>aG (f.symm.trans g)▸c
def Cf:(lc (ME b e) (e9 115)).is=J:=by kernel_rfl
end
def YR:∀n b,gP b<n->∀a,h9 fp gr n a b=h9 fp gr (n+1) a b:=by
 intro n
 induction n with
 |zero=>exactλb a=>bC a (JJ _)
 |succ n g=>
  intro b h a;refine funext λf=>funext λi=>JW λe c=>?_;have j:=ht.mpr ((d6.mp c).1:b<115);have k:=ae.at (Cf (h9 fp gr n) (h9 fp gr (n+1))) b j e c (λl m a=>g l (dz m (nu h)) a) a;exact hG (λ(o:aK->N->eE)=>a4 (decide (f.length=e.params)) (kl (o (e3 e.slots f) i))) k
noncomputable def bx:ah->cb:=h9 fp gr 20
noncomputable def bP:ce:=e5 bx
def YD:∀a b,fp a=A b->gP a<19:=λa b e=>by
 have c:a<va.length:=(d6.mp e).1;have f:va.all (λg=>decide (g<19))=J:=G;show(va[a]?.getD 99)<19;rw[e8 c];exact dE (di.mp f _ (qt c))
def B4(b:ah)(c:I)(e:E L)(f:N):bx b c e f=(fp c).bind λa=>a4 (decide (e.length=a.params)) (kl (bt b bx bP a.body (e3 a.slots e) f)):=by
 refine JW λa g=>?_;have h:=ht.mpr ((d6.mp g).1:c<115);have i:=ae.at (Cf (h9 fp gr 19) bx) c h a g (λj k b=>YR 19 j (gC k (YD c a g)) b) b;exact hG (λ(l:aK->N->eE)=>a4 (decide (e.length=a.params)) (kl (l (e3 a.slots e) f))) i
end
section
abbrev mH:=da->aK->N->E a7->Prop
def xU(f:E dp)(g:dw)(h:aK->N->E a7->mH->Prop):E L->aK->N->E a7->mH->Prop
 |[],b,a,c,e=>rX f a (e .next b a c)
 |j::k,b,a,c,e=>rX f a (ho (it b g j) λl=>h l a c λi b a c=>f_ i.jX (xU f g h k b a c e) (e i b a c))
mutual
def B5(h:ah->cb)(i:ce)(j:g8):ah->c->aK->N->E a7->mH->Prop
 |f,.agb q m,e,b,a,g=>db f h i j e m b a λp b a=>f_ (q.plain||f) (xr a q (k6 b e q p) λe a=>g .next e b a) dT
 |f,.af9 r x m,e,b,a,g=>db f h i j e m b a λp b a=>db f h i j e r b a λk b a=>db f h i j e x b a λy b a=>xt a (m8 b k y p) λb a=>g .next e b a
 |f,.afY r z m,e,b,a,g=>db f h i j e m b a λp b a=>db f h i j e r b a λk b a=>xt a (Zc b k z p) λb a=>g .next e b a
 |f,.expr m,e,b,a,g=>db f h i j e m b a λH b a=>g .next e b a
 |f,.agl n r t u,e,b,a,g=>db f h i j e r b a λk b a=>fi b k n=J/\hU f h i j e u b a λs b a=>j f t (k::s) b a λl b a=>g l.vJ e b a
 |f,.ret m,e,b,a,g=>db f h i j e m b a λp b a=>g (.ret p) e b a
 |f,.ite n B o,e,b,a,g=>db f h i j e n b a λk b a=>na a k λC a=>f_ C (k3 h i j f B e b a g) (k3 h i j f o e b a g)
 |f,.while n o,e,b,a,g=>xq a (sm (eO f h i n) (λe b=>bt f h i o e b) e b) g
 |f,.for q w u o,e,b,a,g=>hU f h i j e u b a λs b a=>f_ f (tE a
  (λa=>tD a (eb b w s) λl a=>xU l.2.1 q (λe=>k3 h i j f o e) l.1 e l.2.2 a g)
  (xq a ((eb b w s).bind λl=>eP l.2.1 q (λe b=>bt f h i o e b) l.1 e l.2.2) g)) dT
 |_,.cont,e,b,a,g=>g .cont e b a
 |f,.raise n D,e,b,a,g=>db f h i j e D b a λH b a=>f_ f (g (.afU n) e b a) dT
 |f,.try o n F,e,b,a,g=>k3 h i j f o e b a λv e b a=>f_ v.fw (f_ (tO v n f) (k3 h i j d F e b a g) dT) (g v e b a)
 |f,.agk t,e,b,a,g=>ho (e[0]?.bind id) λk=>fi b k 0=J/\j f t [k] b a λl b a=>ho l.sw λH=>g .next e b a
def k3(g:ah->cb)(h:ce)(i:g8):ah->E c->aK->N->E a7->mH->Prop
 |_,[],a,b,e,f=>f .next a b e
 |j,k::m,a,b,e,f=>B5 g h i j k a b e λl a b e=>f_ l.mg (k3 g h i j m a b e f) (f l a b e)
end
def pd(e:eE)(f:mH)(g:Prop):Prop:=∀a:da,∀b:aK,∀c:N,∀h:E a7,e=A (a,b,c)->f a b c h->g
section
variable{a:ah->cb}{b:ce}{e:g8}
def dn.go{a:Type}{b:j (a×N)}{c:a->N->E a7->Prop}(e:dn b c){f:a->N->eE}{h:mH}(i:∀g B D,c g B D->aA (pd (f g B) h)):aA (pd (Internal.a3 b f) h):=by
 refine e _ λg B D k l=>?_;clear e;subst k;rw[fe];exact i g B D l
def R5(c:E dp)(e:dw)(b:E L)(p:∀h g l i,q h g l i->aA (pd (m h g) i)):
 ∀{h g l} i,xU c e q b h g l i->aA (pd (eP c e m b h g) i):=by
 induction b with
 |nil=>intro h g l i a;exactλz f=>f _ _ _ _ (bH (pQ a).1) (pQ a).2
 |cons r b s=>
  intro h g l i a;obtain⟨t,a⟩:=pQ a;obtain⟨u,v,a⟩:=l5 a;refine p _ _ _ _ a _ λo k n y w a=>?_;have x:eP c e m (r::b) h g=cU o.jX (eP c e m b k n) (A (o,k,n)):=by
   refine(bH t).trans ?_;rw[v];show(m u g).bind _=_;rw[w];rfl
  rw[x];exact hn a (λj a=>j▸s _ a) (λj a=>j▸λz f=>f _ _ _ _ G a)
def xa(a:ah->cb)(b:ce)(e:g8)(g:c):Prop:=∀(h:ah){i:aK}{j:N}{l:E a7}{k:mH},B5 a b e h g i j l k->aA (pd (f h a b g i j) k)
def jy(a:ah->cb)(b:ce)(e:g8)(f:E c):Prop:=∀(g:ah){h:aK}{i:N}{k:E a7}{j:mH},k3 a b e g f h i k j->aA (pd (bt g a b f h i) j)
def jy.nil:jy a b e []:=λg h i j k c=>λl f=>f _ _ _ _ G c
def jy.cons{i:c}{j:E c}(q:xa a b e i)(k:jy a b e j):jy a b e (i::j):=λh l m v w g=>by
 refine q h g _ λo n p x r g=>?_;have s:bt h a b (i::j) l m=cU o.mg (bt h a b j n p) (A (o,n,p)):=by
  show(f h a b i l m).bind _=_;rw[r];rfl
 rw[s];exact hn g (λt g=>t▸k h g) (λk g=>k▸λy u=>u _ _ _ _ G g)
def Mf(n:o2 a e)(N:c):xa a b e N:=@c.rec (xa a b e) (jy a b e)
 (λv o k h i j q g=>(il n o h g).go λz i j g=>hn g (λr g=>by
  refine Cr g _ λB y m p=>?_;rw[bH ((HQ _ _).trans r),m];exactλge l=>l _ _ _ _ G p) λge=>nj)
 (λC D o k h i j q g=>(il n o h g).go λz i j g=>(il n C h g).go λE i j g=>(il n D h g).go λX i j g=>by
  refine Cu g _ λs y m p=>?_;rw[m];exactλge l=>l _ _ _ _ G p)
 (λC Y o k h i j q g=>(il n o h g).go λz i j g=>(il n C h g).go λE i j g=>by
  refine Cu g _ λs y m p=>bh m _ λD I m=>b0 m _ λt Z Q m=>bh m _ λad R m=>?_;obtain⟨S,m⟩:=cf m;rw[I,cJ,Q,fe,R,cJ,bH S];obtain rfl:=aG m;exactλge l=>l _ _ _ _ G p)
 (λo k h i j q g=>(il n o h g).go λz i j g=>λge l=>l _ _ _ _ G g)
 (λt C u H k h i j q g=>(il n C h g).go λE i j g=>by
  rw[yT g.1];refine k5 g.1 _ λD K ge=>?_;obtain rfl:=kA K;exact((BS n H).dK h g.2).go λT i j g=>(n _ _ _ _ _ _ g).go λF i j p=>λge l=>l _ _ _ _ G p)
 (λo k h i j q g=>(il n o h g).go λz i j g=>λge l=>l _ _ _ _ G g)
 (λt O w v r k h i j q g=>by
  refine il n t h g _ λE s y m g=>vw g _ λx dl I g=>?_;have u:f k a b (.ite t O w) h i=cU x (bt k a b O h s) (bt k a b w h s):=by
   show a3 (dQ (aR k a b h t i)) _=_;rw[jc m I,fe]
  rw[u];exact hn g (λF g=>F▸v k g) (λF g=>F▸r k g))
 (λt w v k h i j q g=>by
  exact Cq g _ λx B s y o p=>λge l=>l _ _ _ _ o p)
 (λv p H w L k h i j q g=>((BS n H).dK h g).go λT i j g=>hn g (λr g=>by
  rw[bH r];rcases xv g with⟨j,g⟩|g
  .refine xs g _ λF j m g=>?_;rw[m,cJ];exact R5 _ v _ (λh i j q g=>L k g) _ g
  .exact Cq g _ λx B s y o p=>λge l=>l _ _ _ _ o p) λge=>nj)
 (λk h i j q g=>λge l=>l _ _ _ _ G g)
 (λt U k h i j q g=>(il n U h g).go λz i j g=>hn g (λr g=>by rw[bH r];exactλge l=>l _ _ _ _ G g) λge=>nj)
 (λw t P L V k h i j q g=>by
  refine L k g _ λx B s y o g=>?_;have u:f k a b (.try w t P) h i=cU x.fw (a4 (tO x t k) (bt d a b P B s)) (A (x,B,s)):=by
   show(bt k a b w h i).bind _=_;rw[o];rfl
  rw[u];exact hn g (λr g=>hn g (λW g=>by rw[r,cond_true,bH W];exact V d g) λge=>nj) (λr g=>by rw[r];exactλge l=>l _ _ _ _ G g))
 (λu k h i j q g=>by
  obtain⟨E,m,g⟩:=l5 g;refine k5 g.1 _ λD K ge=>?_;obtain rfl:=kA K;have u:f k a b (.agk u) h i=a3 (bB (a k u [.ref D] i)) λge s=>A (.next,h,s):=by
   show(h[0]?.bind id).bind _=_;rw[m,cJ,yT g.1];rfl
  rw[u];exact(dn.qh (n _ _ _ _ _ _ g.2)).go λge i j p=>λge l=>l _ _ _ _ G p)
 jy.nil (λE H v r=>jy.cons v r) N
def w_(g:o2 a e)(f:E c):jy a b e f:=@np c (jy a b e) jy.nil (λh f i=>jy.cons (Mf g h) i) f
end
abbrev pb(a:ah)(b:I)(c:E L)(e:N)(f:dW)(g:N):Prop:=bx a b c e=A (f,g)
abbrev aX(a:ah)(b:I)(c:E L)(e:N)(f:L)(g:N):Prop:=bB (bx a b c e)=A (f,g)
def G1(e:j (dW×N))(g:N)(a:E a7)(f:dW->N->E a7->Prop):Prop:=match a with
 |.aa b::a=>bB e=A (b,g)/\f (.ret b) g a
 |.w b c::a=>bB e=A (b,c)/\f (.ret b) c a
 |.af4 h c::a=>e=A (h,c)/\f h c a
 |_=>dT
def y4:I->g8
 |0,_,_,_,_,_,_=>dT
 |i+1,c,g,e,b,a,h=>tE a
  (λa=>ho (fp g) λf=>f_ (decide (e.length=f.params)) (k3 bx bP (y4 i) c f.body (e3 f.slots e) b a λl k b a=>ho l.end λj=>h j b a) dT)
  (G1 (bx c g e b) b a h)
def o_:g8:=y4 9
def aad(a:G1 g i b h):dn g h:=by
 match b,a with
 |.aa e::b,a=>exactλk c=>c _ _ b (pV a.1) a.2
 |.w e f::b,a=>exactλk c=>c _ _ b (pV a.1) a.2
 |.af4 j f::b,a=>exactλk c=>c _ _ b a.1 a.2
def YP(c:I):o2 bx (y4 c):=by
 induction c with
 |zero=>intro b i e f j k a;exact a.elim
 |succ c l=>
  intro b i e f j k a;rcases xv a with⟨j,a⟩|a
  .obtain⟨g,m,a⟩:=l5 a;refine hn a (λn a=>w_ l g.body b a _ λu v o p q h=>?_) λw=>nj;obtain⟨r,s,h⟩:=l5 h;refineλw t=>t r o p ((B4 b i e f).trans ?_) h;rw[m,cJ,bH n];show(bt b bx bP g.body (e3 g.slots e) f).bind _=_;rw[q,cJ,s];rfl
  .exact aad a
def on:o2 bx o_:=YP 9
inductive nK{a:Type}(b:a)(c:N):a->N->Prop|mk:nK b c b c
inductive tt(a:da)(b:aK)(c:N):da->aK->N->Prop|mk:tt a b c a b c
def yk(a:ah)(b:I)(c:E L)(e:N)(f:E a7)(g:dW)(h:N):Prop:=
 o_ a b c e (.go::f) λi j k=>nK g h i j
def Gr(a:E a7)(b:yk g h i l a m o):pb g h i l m o:=by
 refine on _ _ _ _ _ _ b _ λf j k c e=>?_;cases e;exact c
def pb.qh(a:pb b g B D (.ret T) ge):aX b g B D T ge:=by
 show Internal.bB _=_;rw[a];unfold Internal.bB;rw[fe];rfl
def H(a:P)(b:g):P/\g:=⟨a,b⟩
def aj(a:L)(b:N):nK (dW.ret a) b (dW.ret a) b:=.mk
def rs(a:L)(b:N):nK a b a b:=.mk
def bM(a:aK)(b:N):tt .next a b .next a b:=.mk
def Dr(a:aK)(b:N):tt .cont a b .cont a b:=.mk
def az(a:E a7)(b:P)(c:P=yk g h i l a (.ret m) o:=by kernel_rfl):aX g h i l m o:=
 (Gr a (c▸b)).qh
end
section
structure gF where
 dg:am
 args:E I
 c9:I
 data:L
structure dr where
 afN:gF
 val:L
structure bp where
 a:E I
 names:E L
 p:E (E I×I)
 cl:E L
 h:E dr
noncomputable abbrev C(a:I):L:=.int a
noncomputable def gF.aa(a:gF):E L:=[.str a.dg,.ab (a.args.map C),C a.c9,a.data]
noncomputable def xx(a:I):E (I×L):=[(4,.ref (a+2)),(5,.ref (a+3)),(6,.ref (a+4)),(7,.ref (a+5)),(8,.ref (a+6)),(9,.int 0),(10,.ref (a+7)),(11,.ref (a+8)),(12,.ref (a+9)),(13,.ref (a+10)),(14,.ref (a+11)),(15,.int 1),(16,.int 2),(0,.ref (a+12))]
noncomputable def gK(a:I):E dr->E (E L×L)
 |[]=>[]
 |b::c=>(b.afN.aa,C a)::gK (a+1) c
noncomputable def h3(a:I):E I->E (O×L)
 |[]=>[]
 |b::c=>((b:O),C a)::h3 (a+1) c
structure Fl(a:I)(b:N):Prop where
 afS:b[a]?=A (.afS (xx a))
 c8:b[a+1]?=A (.c8 0 a)
structure bn(c:I)(b:bp)(e:N):Prop extends Fl c e where
 names:e[c+2]?=A (.list b.names)
 a:e[c+3]?=A (.list (b.a.map C))
 cl:e[c+4]?=A (.list b.cl)
 t:e[c+5]?=A (.list (b.p.map λh=>.ab (h.1.map C)))
 cq:e[c+6]?=A (.list (b.p.map λh=>C h.2))
 aes:e[c+7]?=A (.list (b.h.map λg=>.str g.afN.dg))
 args:e[c+8]?=A (.list (b.h.map λg=>.ab (g.afN.args.map C)))
 aex:e[c+9]?=A (.list (b.h.map λg=>C g.afN.c9))
 aeu:e[c+10]?=A (.list (b.h.map λg=>g.afN.data))
 aep:e[c+11]?=A (.afM (gK 1 (b.h.drop 1)))
 aer:e[c+12]?=A (.afP (h3 4 (b.a.drop 4)))
 bI:b.h.length<400
 aeF:b.a.length<400
 afW:b.names.length=b.a.length
 aen:b.p.length<400
 aek:b.cl.length=b.p.length
section
variable{c:I}{e:bp}{b:N}
def jK{P:I->Prop}(b:P 0)(a:I)(c:a<1):P a:=(I.lt_one_iff.mp c).symm▸b
def dk{P:I->Prop}{b:I}(c:P 0)(e:∀a,a<b->P (a+1))(a:I):a<b+1->P a:=Js (motive:=λa=>a<b+1->P a) a (λg=>c) λa f=>e a (I.lt_of_succ_lt_succ f)
def cD(a:g<400):bV g=J:=cg (gC a (ap G))
def vd{a:E L}{b:I}{c:L}(e:a[b]?=A c)(f:bV a.length=J):l_ a b=A c:=by
 show a4 _ ((l8 b a.length).bind _)=_;rw[bH f,show l8 b a.length=A b by
  unfold l8;rw[cd (hP _),cd (eU.mpr ((d6.mp e).1:b<a.length))];rfl]
 exact e
def hk(a:b[g]?=A (.list h)):ds b g=A h:=by unfold ds;rw[a];rfl
def gu{e:I}{a:E L}(g:b[e]?=A (.list a))(c:I){f:L}(h:a[c]?=A f)(i:bV a.length=J):ck b (.ref e) (C c)=A f:=by
 show(b[e]?.bind λj=>match j with|.list a=>l_ a c|.afP k=>dx c k|_=>M)=_;exact g.symm▸(vd h i)
def Fl.br(e:Fl c b)(a:I)(f:(xx c).lookup a=A g):e4 b (.ref (c+1)) a=A g:=by
 show(Internal.a3 ((b[c+1]?).bind aO.ss) λj h=>((b[h]?).bind aO.sq).bind λi=>i.lookup a)=_;refine e.c8.symm▸?_;show Internal.a3 (A (0,c)) _=_;exact fe.symm▸e.afS.symm▸f
def Fl.a2(a:Fl c b):fi b (.ref (c+1)) 0=J:=by
 show((b[c+1]?).bind aO.ss).any _=J;refine a.c8.symm▸?_;show(decide (0=0)&&(((b[c]?).bind aO.sq).isSome))=J;refine a.afS.symm▸?_;rfl
def jH{a g:Type}{b:E a}{c:I}{e:a}(h:b[c]?=A e)(f:a->g):(b.map f)[c]?=A (f e):=by rw[j3,h];rfl
def jG{a c:Type}{b:E a}(e:a->c)(f:b.length<400):bV (b.map e).length=J:=by rw[bO];exact cD f
def bn.dg(a:bn c e b)(f:e.h[g]?=A B):ck b (.ref (c+7)) (C g)=A (.str B.afN.dg):=gu a.aes g (jH f _) (jG _ a.bI)
def bn.arg(a:bn c e b)(f:e.h[g]?=A B):ck b (.ref (c+8)) (C g)=A (.ab (B.afN.args.map C)):=gu a.args g (jH f _) (jG _ a.bI)
def bn.c9(a:bn c e b)(f:e.h[g]?=A B):ck b (.ref (c+9)) (C g)=A (C B.afN.c9):=gu a.aex g (jH f _) (jG _ a.bI)
def bn.data(a:bn c e b)(f:e.h[g]?=A B):ck b (.ref (c+10)) (C g)=A B.afN.data:=gu a.aeu g (jH f _) (jG _ a.bI)
def bn.w(f:bn c e b){a g:I}(h:e.a[a]?=A g):ck b (.ref (c+3)) (C a)=A (C g):=gu f.a a (jH h _) (jG _ f.aeF)
abbrev bp.is(e:bp)(b c:I):Prop:=∃a,e.h[b]?=A a/\a.afN.c9=c
def bn.is(f:bn c e b)(a:e.is g B):ck b (.ref (c+9)) (C g)=A (C B):=by
 obtain⟨h,a,rfl⟩:=a;exact f.c9 a
def mW(a:L):a_ a a=J:=cg G
def EB(b:N)(a:I):bY b .af1 (C a) (C a)=A d:=by
 show A (!a_ _ _)=_;rw[mW];rfl
def ob(b:N)(c:a≠0):bY b .eq (C a) (.int 0)=A d:=by
 show A (a_ (.int a) (.int 0))=_;exact(show a_ (.int a) (.int 0)=d from dU λe=>c (fn (L.int.inj e))).symm▸G
def fT(f:bn c e b)(g:e.is h a)(i:L)(j:ah):aX j 41 [.ref (c+1),C h,C a,i] b .none b:=
 az [.aa (.ref (c+9)),.aa (C a),.b d] (H (f.br 12 rfl)<|H (f.is g)<|H (EB b a)<|aj .none b)
def c5(c:g≠a):(bd b g h)[a]?=b[a]?:=oD c
def ex(c:b[a]?=A h):(bd b a g)[a]?=A g:=v3 (d6.mp c).1
def bne(a:g≠h):c+g≠c+h:=λb=>a (qz b)
def Fl.fl(e:Fl c b)(f:2<=g):Fl c (bd b (c+g) B):=
 ⟨(c5 (bne (h:=0) (λa=>bC (a▸f) nofun))).trans e.afS,(c5 (bne (λa=>bC (a▸f) nofun))).trans e.c8⟩
def gw{a:I}{c:E L}(e:b[a]?=A (.list c)):kz b (.ref a) .append=J:=by
 show(b[a]?.any _)=J;rw[e];rfl
def l9{a:I}{c:E (E L×L)}(g:b[a]?=A (.afM c))(e:ka)(h:e.nf=d):kz b (.ref a) e=J:=by
 show(b[a]?.any λf=>cU e.nf f.qd.isSome (f.sn.isSome||f.so.isSome))=J;rw[g,h];rfl
def hi{c:I}{a:E L}(f:b[c]?=A (.list a))(g:a.length<400)(e:L):hJ b (.ref c) .append [e]=A (.none,bd b c (.list (a++[e]))):=by
 show(ds b c).bind (λa=>a4 (bV a.length) (A (L.none,bd b c (.list (a++[e])))))=_;rw[hk f,cJ,bH (cD g)]
def mU(a:b[g]?=A (.afM h)):fB b g=A h:=by unfold fB;rw[a];rfl
def rA{c:I}{f:E (E L×L)}(g:b[c]?=A (.afM f))(a:E L)(h:dH a=J)(e:L):hJ b (.ref c) .get [.ab a,e]=A ((c4 a f).getD e,b):=by
 show(fB b c).bind (λi=>a4 (dH a) (A ((c4 a i).getD e,b)))=_;rw[mU g,cJ,bH h]
def fb{c:I}{a:E L}(e:b[c]?=A (.list a))(f:a.length<400):eW b .len [.ref c]=A (C a.length,b):=by
 show(ds b c).bind (λa=>a4 (bV a.length) (A (L.int a.length,b)))=_;rw[hk e,cJ,bH (cD f)]
def Gy{a:I}{e:E (E L×L)}(h:b[a]?=A (.afM e))(c:E L)(i:dH c=J)(j:e.length<400)(f:L):m8 b (.ref a) (.ab c) f=A (bd b a (.afM (i7 c f e))):=by
 show(fB b a).bind (λg=>a4 (dH c&&bV g.length) (A (bd b a (.afM (i7 c f g)))))=_;rw[mU h,cJ,i,cD j];rfl
def Tg:∀(a:E dr)(g:I),(gK g a).length=a.length:=by
 intro b
 induction b with
 |nil=>
  intro e;exact G
 |cons e a c=>
  intro g;exact bj (·+1) (c (g+1))
def Tc(b:dr):∀(a:E dr)(g:I),gK g (a++[b])=gK g a++[(b.afN.aa,C (g+a.length))]:=by
 intro c
 induction c with
 |nil=>
  intro h;exact G
 |cons f a e=>
  intro g;show _::gK (g+1) (a++[b])=_::(gK (g+1) a++_);rw[e,gY,kJ,kK 1]
structure fA(c f:I)(b e:N):Prop where
 le:b.length<=e.length
 same:∀a,a<b.length->(a<c\/f<=a)->e[a]?=b[a]?
def fA.refl:fA c g b b:=⟨c_ _,λa a a=>rfl⟩
def fA.trans(a:fA c g b B)(e:fA c g B D):fA c g b D:=
 ⟨bG a.le e.le,λf h i=>(e.same f (dz h a.le) i).trans (a.same f h i)⟩
noncomputable def oh(c:I):E (I×aO)->N->N
 |[],b=>b
 |a::e,b=>oh c e (bd b (c+a.1) a.2)
def cu:∀{g:E (I×aO)}{b:N},g.all (λh=>h.1 !=i)=J->(oh c g b)[c+i]?=b[c+i]?:=by
 intro e
 induction e with
 |nil=>
  intro j j;exact G
 |cons h g f=>
  intro b a;have a:=e7.mp a;exact(f a.2).trans (c5 (bne (bne_iff_ne.mp a.1)))
def Fl.kF:∀{g:E (I×aO)}{b:N},g.all (λB=>decide (2<=B.1))=J->Fl c b->Fl c (Internal.oh c g b):=by
 intro f
 induction f with
 |nil=>
  intro i i e;exact e
 |cons B g h=>
  intro b a e;have a:=e7.mp a;exact h a.2 (e.fl (dE a.1))
def fA.kF:∀{g:E (I×aO)}{b:N},g.all (λB=>decide (B.1<13))=J->fA c (c+13) b (Internal.oh c g b):=by
 intro f
 induction f with
 |nil=>
  intro l l;exact .refl
 |cons B g h=>
  intro b a;have a:=e7.mp a;have j:B.1<13:=dE a.1;exact fA.trans ⟨b3 fJ.symm,λk l e=>c5 (λi=>by subst i;rcases e with e|e<;>omega)⟩ (h a.2)
noncomputable def bp.add(e:bp)(a:dr):bp:={e with h:=e.h++[a]}
def vl{a:Type}(e:E a)(f:a)(c:a->L){b:N}{g:I}(h:b[g]?=A (.list (e.map c++[c f]))):b[g]?=A (.list ((e++[f]).map c)):=by
 rw[h,el];rfl
noncomputable def iA(e:bp)(a:dr):E (I×aO):=[(7,.list ((e.h.map λa=>.str a.afN.dg)++[.str a.afN.dg])),(8,.list ((e.h.map λa=>.ab (a.afN.args.map C))++[.ab (a.afN.args.map C)])),(9,.list ((e.h.map λa=>C a.afN.c9)++[C a.afN.c9])),(10,.list ((e.h.map λa=>a.afN.data)++[a.afN.data])),(11,.afM (gK 1 (e.h.drop 1)++[(a.afN.aa,C e.h.length)]))]
noncomputable def kt(c:I)(e:bp)(a:dr)(b:N)(f:I):N:=oh c ((iA e a).take f) b
def yP(b:c4 a g=M):i7 a h g=g++[(a,h)]:=by
 unfold i7;refine b.symm▸?_;rfl
def TW(f:bn c e b)(a:dr)(s:1<=e.h.length)(i:dH a.afN.aa=J)(j:c4 a.afN.aa (gK 1 (e.h.drop 1))=M)(p:ah):
 aX p 37 [.ref (c+1),.str a.afN.dg,.ab (a.afN.args.map C),C a.afN.c9,a.afN.data] b (C e.h.length) (kt c e a b 5):=by
 have g (k:dr->L):(e.h.map k).length<400:=(bO k).symm▸f.bI;have h (l:I) (q:((iA e a).take l).all (λr=>decide (2<=r.1))=J):Fl c (kt c e a b l):=f.toFl.kF q;have m:=(cu (g:=(iA e a).take 1) G).trans f.args;have n:=(cu (g:=(iA e a).take 2) G).trans f.aex;have o:=(cu (g:=(iA e a).take 3) G).trans f.aeu;exact az [.aa (.ref (c+11)),.aa (.int 0),.go,.aa (.ref (c+7)),.aa (C e.h.length),.aa (.ref (c+7)),.w .none (kt c e a b 1),.aa (.ref (c+8)),.w .none (kt c e a b 2),.aa (.ref (c+9)),.w .none (kt c e a b 3),.aa (.ref (c+10)),.w .none (kt c e a b 4),.aa (.ref (c+11)),.afO (kt c e a b 5)]
  (H (f.br 14 rfl)<|H (l9 f.aep .get rfl)<|H ((rA f.aep a.afN.aa i (.int 0)).trans (by rw[j]))<|
   H (f.br 10 rfl)<|H ((fb f.aes (g _)).trans (by rw[bO]))<|
   H (f.br 10 rfl)<|H (gw f.aes)<|H (hi f.aes (g _) (.str a.afN.dg))<|
   H ((h 1 rfl).br 11 rfl)<|H (gw m)<|H (hi m (g _) (.ab (a.afN.args.map C)))<|
   H ((h 2 rfl).br 12 rfl)<|H (gw n)<|H (hi n (g _) (C a.afN.c9))<|
   H ((h 3 rfl).br 13 rfl)<|H (gw o)<|H (hi o (g _) a.afN.data)<|
   H ((h 4 rfl).br 14 rfl)<|H ((Gy ((cu (g:=(iA e a).take 4) G).trans f.aep) a.afN.aa i ((by rw[Tg,qu];exact c0 (oM _ _) f.bI):(gK 1 (e.h.drop 1)).length<400) (C e.h.length)).trans (by rw[yP j]))<|aj (C e.h.length) (kt c e a b 5)) (by kernel_rfl)
def TX(g:bn c e b){a:gF}{f:I}(h:f≠0)(i:dH a.aa=J)(j:c4 a.aa (gK 1 (e.h.drop 1))=A (C f))(k:ah):
 aX k 37 [.ref (c+1),.str a.dg,.ab (a.args.map C),C a.c9,a.data] b (C f) b:=
 az [.aa (.ref (c+11)),.aa (C f),.b d] (H (g.br 14 rfl)<|H (l9 g.aep .get rfl)<|H ((rA g.aep a.aa i (.int 0)).trans (by rw[j]))<|
  H (ob b h)<|aj (C f) b)
theorem TV(g:bn c e b)(f:dr)(h:1<=e.h.length)(i:e.h.length+1<400):bn c (e.add f) (kt c e f b 5)where
 toFl:=g.toFl.kF G
 names:=(cu G).trans g.names
 a:=(cu G).trans g.a
 cl:=(cu G).trans g.cl
 t:=(cu G).trans g.t
 cq:=(cu G).trans g.cq
 aes:=vl e.h f _ ((cu (g:=(iA e f).drop 1) G).trans (ex g.aes))
 args:=vl e.h f _ ((cu (g:=(iA e f).drop 2) G).trans (ex ((cu (g:=(iA e f).take 1) G).trans g.args)))
 aex:=vl e.h f _ ((cu (g:=(iA e f).drop 3) G).trans (ex ((cu (g:=(iA e f).take 2) G).trans g.aex)))
 aeu:=vl e.h f _ ((cu (g:=(iA e f).drop 4) G).trans (ex ((cu (g:=(iA e f).take 3) G).trans g.aeu)))
 aep:=by
  refine(show(kt c e f b 5)[c+11]?=A (.afM (gK 1 (e.h.drop 1)++[(f.afN.aa,C e.h.length)]))from ex ((cu (g:=(iA e f).take 4) G).trans g.aep)).symm▸?_;show _=A (aO.afM (gK 1 ((e.h++[f]).drop 1)));rw[Ab h,Tc,qu,v9 h]
 aer:=(cu G).trans g.aer
 bI:=by show(e.h++[f]).length<400;rw[bJ];exact i
 aeF:=g.aeF
 afW:=g.afW
 aen:=g.aen
 aek:=g.aek
end
end
section
structure bA where
 d0:j I
 q:E (E L×L)
 x:j L
noncomputable def dX(a:bA->j L)(b:I):E bA->E (O×L)
 |[]=>[]
 |c::e=>(match a c with|some f=>[((b:O),f)]|none=>[])++dX a (b+1) e
noncomputable def f5(a:bA):j L:=a.d0.map .ref
structure cA(a:I)(c:E bA)(b:N):Prop where
 ael:b[a+13]?=A (.afS [(1,.ref (a+1)),(2,.ref (a+15)),(3,.ref (a+16))])
 aem:b[a+14]?=A (.c8 1 (a+13))
 aee:b[a+15]?=A (.afP (dX f5 0 c))
 aej:b[a+16]?=A (.afP (dX bA.x 0 c))
 q:∀g∈c,∀h,g.d0=A h->b[h]?=A (.afM g.q)/\a+17<=h
 bare:∀g∈c,g.d0=M->g.q=[]
structure hV(b c:I)(e f:N):Prop where
 le:e.length<=f.length
 same:∀a,a<c->(a<b\/b+13<=a)->f[a]?=e[a]?
section
variable{b c:I}{g:E bA}{h:bp}{e f:N}
def hV.refl:hV b c e e:=⟨c_ _,λa a a=>rfl⟩
def hV.trans(a:hV b c e f)(g:hV b c f B):hV b c e B:=⟨bG a.le g.le,λh i j=>(g.same h i j).trans (a.same h i j)⟩
def fA.cq(g:c<=e.length)(a:fA b (b+13) e f):hV b c e f:=⟨a.le,λh i j=>a.same h (dz i g) j⟩
def b5{a:I}{b:aO}{f:N}(c:e[a]?=A b):(e++f)[a]?=A b:=by
 rw[eK (d6.mp c).1];exact c
theorem bn.c7(f:bn b h e)(c:N):bn b h (e++c)where
 afS:=b5 f.afS
 c8:=b5 f.c8
 names:=b5 f.names
 a:=b5 f.a
 cl:=b5 f.cl
 t:=b5 f.t
 cq:=b5 f.cq
 aes:=b5 f.aes
 args:=b5 f.args
 aex:=b5 f.aex
 aeu:=b5 f.aeu
 aep:=b5 f.aep
 aer:=b5 f.aer
 bI:=f.bI
 aeF:=f.aeF
 afW:=f.afW
 aen:=f.aen
 aek:=f.aek
theorem cA.c7(a:cA b g e)(j:N):cA b g (e++j)where
 ael:=b5 a.ael
 aem:=b5 a.aem
 aee:=b5 a.aee
 aej:=b5 a.aej
 q c f h i:=⟨b5 (a.q c f h i).1,(a.q c f h i).2⟩
 bare:=a.bare
theorem cA.cq(a:cA b g e)(i:b+17<=c)(l:∀D∈g,∀B,D.d0=A B->B<c)(h:hV b c e f):cA b g f where
 ael:=(h.same _ (E3 i) (.inr E4)).trans a.ael
 aem:=(h.same _ (E5 i) (.inr E6)).trans a.aem
 aee:=(h.same _ (E7 i) (.inr uM)).trans a.aee
 aej:=(h.same _ (E8 i) (.inr yo)).trans a.aej
 q D j B k:=⟨(h.same _ (l D j B k) (.inr (bG VR (a.q D j B k).2))).trans (a.q D j B k).1,(a.q D j B k).2⟩
 bare:=a.bare
end
noncomputable def h1:am:=bi "app"
def mC(e:bp)(a:gF):Prop:=a.dg=h1->∃b c,a.data=C b/\e.p[b]?=A (c,a.c9)
def bs(c:I)(l:E bA)(b:gF)(m:I)(g:E L)(h:L):Prop:=
 ∀i a e j k,l<+:i->bn c e a->cA c i a->(e.h[j]?.map dr.afN)=A b->mC e b->e.a[b.c9]?=A m->a[k]?=A (.list g)->
  ∃f,a<+:f/\if b.dg=h1 then aX J 32 [.ref (c+14),b.data,.ab g] a h f else aX J 34 [.ref (c+1),C j,.ref k] a h f
def nM(f:bp)(b:gF)(g:L):Prop:=b.dg=bi "not"->∃c a e,b.args=[c]/\f.h[c]?=A a/\a.afN.c9=0/\a.val=.bool e/\a.afN.dg≠bi "num"/\g=.bool (!e)
structure rc(c:I)(e:E bA)(b:bp)(f:I)(a:dr):Prop where
 lt:∀g∈a.afN.args,g≠0/\g<f
 aeN:a.afN.args.length<=3
 key:dH a.afN.aa=J
 mi:ci a.afN.aa=a.afN.aa
 afp:∃h i,b.a[a.afN.c9]?=A h/\a.afN.args.map (λg=>b.h[g]?.map dr.val)=i.map A/\bs c e a.afN h i a.val
 afu:nM b a.afN a.val
 cl:mC b a.afN
structure dL(c:I)(Ty:E bA)(a:bp):Prop where
 pos:1<=a.h.length
 row:∀b g,b≠0->a.h[b]?=A g->rc c Ty a b g
 aeV:a.a.take 4=[0,0,0,0]
 ae6:∀h∈a.a.drop 4,1<=h/\h<=4
 aeU:a.h[1]?=A ⟨⟨bi "true",[],0,.int 0⟩,.bool J⟩
 ae0:a.h[2]?=A ⟨⟨bi "false",[],0,.int 0⟩,.bool d⟩
structure ca(a b:I)(c:E bA)(f:bp)(e:N):Prop where
 an:bn a f e
 v:cA a c e
 s:dL a c f
 aet:a+17<=b
 l:b<=e.length
 aev:∀h∈c,∀g,h.d0=A g->g<b
structure bp.ic(c:I)(b e:bp):Prop where
 h:b.h<+:e.h
 a:b.a<+:e.a
 p:e.p=b.p
 cl:e.cl=b.cl
 aeE:e.h.length<=b.h.length+c
 ae5:e.a.length<=b.a.length+c
structure dc(a b:I)(f:E bA)(g:I)(h:bp)(i:N)(c:bp)(e:N):Prop where
 m:ca a b f c e
 le:h.ic g c
 cq:hV a b i e
section
variable{b f:I}{c:E bA}{a:bp}{e g:N}
def d4{a:Type}{b c:E a}(h:b<+:c){e:I}{f:a}(g:b[e]?=A f):c[e]?=A f:=by
 obtain⟨i,rfl⟩:=h;rw[eK (d6.mp g).1];exact g
def bp.ic.refl(a:bp):a.ic 0 a:=⟨b_ _,b_ _,G,G,c_ _,c_ _⟩
def bp.ic.trans(b:a.ic B D)(e:D.ic T ge):a.ic (B+T) ge:=
 ⟨b.h.trans e.h,b.a.trans e.a,e.p.trans b.p,e.cl.trans b.cl,by have:=b.aeE;have:=e.aeE;exact E9 this ‹_›,by have:=b.ae5;have:=e.ae5;exact E9 this ‹_›⟩
def dc.refl(g:ca b f c a e):dc b f c 0 a e a e:=⟨g,.refl a,.refl⟩
def dc.trans(h:dc b f c B a e D T)(g:dc b f c ge D T gt kw):dc b f c (B+ge) a e gt kw:=⟨g.m,h.le.trans g.le,h.cq.trans g.cq⟩
def nM.up(b:nM a B D)(c:a.h<+:T.h):nM T B D:=λe=>by
 refine as λm f=>?_;obtain⟨g,h,i,j,k,l⟩:=b e;exact f (⟨g,h,i,j,d4 c k,l⟩)
def mC.up(b:mC a B)(c:a.p<+:D.p):mC D B:=λe=>by
 obtain⟨f,g,h,i⟩:=b e;exact⟨f,g,h,d4 c i⟩
def rc.up(e:rc b c a T B)(g:a.h<+:D.h)(j:a.a<+:D.a)(k:a.p<+:D.p):rc b c D T B:=by
 obtain⟨l,m,n,h,o⟩:=e.afp;refine⟨e.lt,e.aeN,e.key,e.mi,⟨l,m,d4 j n,(h▸(Ap λf p=>?_)),o⟩,e.afu.up g,e.cl.up k⟩;have:A (a.h[f]?.map dr.val)∈(B.afN.args.map (λf=>a.h[f]?.map dr.val)).map A:=fx.mpr ⟨_,fx.mpr ⟨f,p,G⟩,G⟩;rw[h]at this;cases i:a.h[f]?with
 |none=>rw[i]at this;simp at this
 |some B=>rw[d4 g i]
def TK:∀(l:E dr)(h:I),c4 m (gK h l)=A p->aA (kW (λo i=>e1 (l[o]?=A i) (ci i.afN.aa=ci m) (p=C (h+o)))):=by
 intro f
 induction f with
 |nil=>
  intro h a;exact nomatch a
 |cons i l g=>
  intro h a;by_cases c:ci i.afN.aa=ci m
  .refineλs b=>b 0 i (λs b=>b G c ?_);have a:((((i.afN.aa,C h)::gK (h+1) l).find? λe=>decide (ci e.1=ci m)).map (·.2))=A p:=a;rw[I0 (by exact cg c)]at a;obtain rfl:=aG a;rfl
  .have a:((((i.afN.aa,C h)::gK (h+1) l).find? λe=>decide (ci e.1=ci m)).map (·.2))=A p:=a;rw[IZ (by simpa using c)]at a;exact g (h+1) a _ λo j k=>k _ λn q r=>λs b=>b (o+1) j (λs b=>b n q (by rw[r,kJ,kK 1]))
def ER{a e:E I}(c:a.map C=e.map C):a=e:=I_ (λg b f=>fn (L.int.inj f))|>.mp c
def gF.inj{b e:gF}(a:b.aa=e.aa):b=e:=by
 obtain⟨i,j,k,l⟩:=b;obtain⟨m,n,o,p⟩:=e;injection a with c a;injection a with f a;injection a with g a;injection a with h _;injection c with c;injection f with f;injection g with g;obtain rfl:=c;cases ER f;cases fn g;obtain rfl:=h;rfl
def LX(b:I)(c:E bA)(a:bp)(e:gF)(g:L)(j:Prop):Prop:=(∀f∈e.args,f≠0/\f<a.h.length)->e.args.length<=3->dH e.aa=J->ci e.aa=e.aa->(∃h i,a.a[e.c9]?=A h/\e.args.map (λf=>a.h[f]?.map dr.val)=i.map A/\bs b c e h i g)->nM a e g->mC a e->j
def ca.cq(h:ca b f c a e)(j:bn b a g)(i:hV b f e g):ca b f c a g:=
 ⟨j,h.v.cq h.aet h.aev i,h.s,h.aet,bG h.l i.le,h.aev⟩
def Gs(a:bB h=A (i,m))(b:bB h=A (l,o)):i=l:=(gv (a.symm.trans b)).1
def bs.eq{g:gF}{m n:I}{h o:E L}{p q:L}{l:I}(i:ca b f c a e)(r:(a.h[l]?.map dr.afN)=A g)(s:mC a g)(v:a.a[g.c9]?=A m)(w:a.a[g.c9]?=A n)(x:h=o)(X:bs b c g m h p)(y:bs b c g n o q):p=q:=by
 subst x;have t:(e++[aO.list h])[e.length]?=A (.list h):=kI;obtain⟨z,C,j⟩:=X c _ a l _ (b_ _) (i.an.c7 _) (i.v.c7 _) r s v t;obtain⟨B,C,k⟩:=y c _ a l _ (b_ _) (i.an.c7 _) (i.v.c7 _) r s w t;by_cases u:g.dg=h1
 .rw[cd u]at j k;exact Gs j k
 .rw[bZ u]at j k;exact Gs j k
def TY(h:ca b f c a e){i:gF}{j:L}(B:aA (LX b c a i j))(D:a.h.length+1<400):
 aA (gi (λl v g=>fL (aX J 37 [.ref (b+1),.str i.dg,.ab (i.args.map C),C i.c9,i.data] e (C l) g) (dc b f c 1 a e v g) (l≠0) (v.h[l]?=A ⟨i,j⟩))):=by
 refine B _ λE F s w x H I=>?_;cases t:c4 i.aa (gK 1 (a.h.drop 1))with
 |none=>
  have K:=TV h.an ⟨i,j⟩ h.s.pos D;have o:a.ic 1 (a.add ⟨i,j⟩):=⟨⟨_,G⟩,b_ _,G,G,b3 bJ,fo _⟩;have f1:hV b f e (kt b a ⟨i,j⟩ e 5):=fA.cq h.l (fA.kF G);have y:(a.h++[(⟨i,j⟩:dr)])[a.h.length]?=A ⟨i,j⟩:=kI;refineλgo n=>n a.h.length (a.add ⟨i,j⟩) _ (λgo n=>n (TW h.an ⟨i,j⟩ h.s.pos s t J) ⟨⟨K,h.v.cq h.aet h.aev f1,⟨?_,λl p N m=>?_,h.s.aeV,h.s.ae6,d4 o.h h.s.aeU,d4 o.h h.s.ae0⟩,h.aet,bG h.l f1.le,h.aev⟩,o,f1⟩ (fK h.s.pos) y)
  .exact bG h.s.pos (ac8 o.h)
  .rcases sS l a.h.length with k|k
   .have m:(a.h++[(⟨i,j⟩:dr)])[l]?=A p:=m;rw[eK k]at m;exact(h.s.row l p N m).up o.h o.a (b_ _)
   .have m:(a.h++[(⟨i,j⟩:dr)])[l]?=A p:=m;have q:=(d6.mp m).1;rw[bJ,v4]at q;refine as λgo u=>?_;obtain rfl:l=a.h.length:=VS q k;refine u ?_;rw[y]at m;obtain rfl:=aG m;exact rc.up (a:=a) ⟨E,F,s,w,x,H,I⟩ o.h o.a (b_ _)
 |some X=>
  refine as λgo u=>TK _ _ t _ λr p z=>z _ λk q O=>?_;clear z;subst O;have k:a.h[1+r]?=A p:=by rw[Ah]at k;exact k
  have ok:=h.s.row (1+r) p yp k;obtain rfl:p.afN=i:=gF.inj (by rw[<-ok.mi,q,w]);obtain⟨Y,Z,P,Q,R⟩:=ok.afp;obtain⟨ad,dl,S,T,U⟩:=x;obtain rfl:=bs.eq h (l:=1+r) (by rw[k];rfl) ok.cl P S (I_ (λge b V=>aG V)|>.mp (Q.symm.trans T)) R U;refine u ?_;have W:a.ic 1 a:=⟨b_ _,b_ _,G,G,fo _,fo _⟩;exactλgo n=>n (1+r) a e (λgo n=>n (TX h.an yp s t J) ⟨h,W,.refl⟩ yp k)
end
end
section
noncomputable def k4(a:I)(b:am)(c:E a7):E a7:=.go::.aa (.ref (a+7))::.aa (.str b)::c
noncomputable def tC(a b c:I)(e:E a7):E a7:=.go::.aa (.ref (a+3))::.aa (.ref (a+9))::.aa (C b)::.aa (C c)::e
noncomputable def Cc(a b:I)(c:E a7):E a7:=.go::.aa (.ref (a+9))::.aa (C b)::c
noncomputable def nT(a:I)(b:L)(c:E a7):E a7:=.go::.aa (.ref (a+10))::.aa b::c
section
variable{b:I}{k:E bA}{e:bp}{a:N}{c:I}{f:gF}
def uo(a:(e.h[c]?.map dr.afN)=A f):∃g,e.h[c]?=A g/\g.afN=f:=jn.mp a
def lS(g:bn b e a)(h:(e.h[c]?.map dr.afN)=A f)(i:P):fi a (.ref (b+1)) 0=J/\e4 a (.ref (b+1)) 10=A (.ref (b+7))/\ck a (.ref (b+7)) (C c)=A (.str f.dg)/\P:=by
 refine as λm j=>?_;obtain⟨l,k,rfl⟩:=uo h;exact j (⟨g.a2,g.br 10 rfl,g.dg k,i⟩)
def MO(g:bn b e a)(h:(e.h[c]?.map dr.afN)=A f)(i:P):fi a (.ref (b+1)) 0=J/\e4 a (.ref (b+1)) 12=A (.ref (b+9))/\ck a (.ref (b+9)) (C c)=A (C f.c9)/\P:=by
 refine as λm j=>?_;obtain⟨l,k,rfl⟩:=uo h;exact j (⟨g.a2,g.br 12 rfl,g.c9 k,i⟩)
def nW(g:bn b e a)(h:(e.h[c]?.map dr.afN)=A f)(i:P):fi a (.ref (b+1)) 0=J/\e4 a (.ref (b+1)) 13=A (.ref (b+10))/\ck a (.ref (b+10)) (C c)=A f.data/\P:=by
 refine as λm j=>?_;obtain⟨l,k,rfl⟩:=uo h;exact j (⟨g.a2,g.br 13 rfl,g.data k,i⟩)
def xm(g:bn b e a)(h:(e.h[c]?.map dr.afN)=A f)(i:e.a[f.c9]?=A l)(j:P):fi a (.ref (b+1)) 0=J/\e4 a (.ref (b+1)) 5=A (.ref (b+3))/\e4 a (.ref (b+1)) 12=A (.ref (b+9))/\ck a (.ref (b+9)) (C c)=A (C f.c9)/\ck a (.ref (b+3)) (C f.c9)=A (C l)/\P:=by
 obtain⟨m,k,rfl⟩:=uo h;exact⟨g.a2,g.br 5 rfl,g.br 12 rfl,g.c9 k,g.w i,j⟩
def cH{e:I}{b:E L}(g:a[e]?=A (.list b))(c:I){f:L}(h:bV b.length=J)(i:b[c]?=A f):ck a (.ref e) (C c)=A f:=gu g c i h
def bs.mk(h:decide (f.dg=h1)=d)(i:∀a e c g,bn b e a->(e.h[c]?.map dr.afN)=A f->e.a[f.c9]?=A D->a[g]?=A (.list T)->∃B,a<+:B/\aX J 34 [.ref (b+1),C c,.ref g] a ge B):bs b k f D T ge:=by
 intro q a e c g r j r l r m n;obtain⟨B,o,p⟩:=i a e c g j l m n;exact⟨B,o,by rw[bZ (of_decide_eq_false h)];exact p⟩
def iq(g:bn b e a)(h:(e.h[c]?.map dr.afN)=A f)(i:e.a[f.c9]?=A l)(j:P):
 fi a (.ref (b+1)) 0=J/\e4 a (.ref (b+1)) 10=A (.ref (b+7))/\ck a (.ref (b+7)) (C c)=A (.str f.dg)/\
 fi a (.ref (b+1)) 0=J/\e4 a (.ref (b+1)) 5=A (.ref (b+3))/\e4 a (.ref (b+1)) 12=A (.ref (b+9))/\ck a (.ref (b+9)) (C c)=A (C f.c9)/\ck a (.ref (b+3)) (C f.c9)=A (C l)/\
 fi a (.ref (b+1)) 0=J/\e4 a (.ref (b+1)) 12=A (.ref (b+9))/\ck a (.ref (b+9)) (C c)=A (C f.c9)/\P:=
 lS g h<|xm g h i<|MO g h j
noncomputable def h0(b:I)(a:am)(c:E a7):E a7:=k4 b a<|aT 4<|tC b 0 0<|aT 1<|Cc b 0<|aT 1 c
noncomputable def ki(a:eg)(b:E I):gF:=⟨bi a,b,0,.int 0⟩
def Cg{c:I}{e:E L}(f:a[c]?=A (.list e))(g:pi e=J):eW a .all [.ref c]=A (.bool (e.all λh=>(cN h).getD d),a):=by
 show((ds a c).bind λi=>(xk i).map λb=>(L.bool b,a))=_;rw[hk f];show(a4 (pi e) _).map _=_;rw[bH g];rfl
def MS{c:I}{e:E L}(f:a[c]?=A (.list e))(g:pi e=J):eW a .any [.ref c]=A (.bool (e.any λh=>(cN h).getD d),a):=by
 show((ds a c).bind λi=>(xo i).map λb=>(L.bool b,a))=_;rw[hk f];show(a4 (pi e) _).map _=_;rw[bH g];rfl
def px(a:N)(b:bk 8 g=J)(c:bk 8 h=J):bY a .eq g h=A (a_ g h):=by
 have e:a4 (bk 8 g&&bk 8 h) (A (a_ g h))=A (a_ g h):=bH (by rw[b,c];rfl);cases g with
 |ref f=>exact bC b (by unfold bk;decide)
 |_=>exact e
def gx{b:I}{e:E L}(c:a[b]?=A (.list e))(g:bV e.length=J):eb a .val [.ref b]=A (e,[A (b,.list e)],a):=by
 show(ds a b).bind (λf=>a4 (bV f.length) (A (f,[A (b,aO.list f)],a)))=_;rw[hk c,cJ,bH g]
def de(b:a[g]?=A h):d_ a [A (g,h)]=J:=by
 show(decide (a[g]?=A h)&&J)=J;rw[cg b];rfl
variable(m n o:I)(g h l:ah)
def abi:bs b k (ki "not" [m]) 0 [.bool g] (.bool (!g)):=
 bs.mk (by kernel_rfl) λa e c l f h i j=>⟨a,b_ a,az (h0 b (bi "not")<|aT 5 [.aa (.bool g)])
  (iq f h i<|H (cH j 0 rfl rfl)<|aj (.bool (!g)) a) (by kernel_rfl)⟩
def aaP:bs b k (ki "and" [m,n,o]) 0 [.bool g,.bool h,.bool l] (.bool (g&&(h&&(l&&J)))):=
 bs.mk (by kernel_rfl) λa e c q f i j p=>⟨a,b_ a,az (h0 b (bi "and")<|aT 6 [.aa (.bool (g&&(h&&(l&&J))))])
  (iq f i j<|H (Cg p G)<|aj (.bool (g&&(h&&(l&&J)))) a) (by kernel_rfl)⟩
def abk:bs b k (ki "or" [m,n,o]) 0 [.bool g,.bool h,.bool l] (.bool (g||(h||(l||d)))):=
 bs.mk (by kernel_rfl) λa e c q f i j p=>⟨a,b_ a,az (h0 b (bi "or")<|aT 7 [.aa (.bool (g||(h||(l||d))))])
  (iq f i j<|H (MS p G)<|aj (.bool (g||(h||(l||d)))) a) (by kernel_rfl)⟩
def abr:bs b k (ki "xor" [m,n]) 0 [.bool g,.bool h] (.bool (!a_ (.bool g) (.bool h))):=
 bs.mk (by kernel_rfl) λa e c o i j l f=>⟨a,b_ a,az (h0 b (bi "xor")<|aT 8 [.aa (.bool g),.aa (.bool h)])
  (iq i j l<|H (cH f 0 rfl rfl)<|H (cH f 1 rfl rfl)<|aj (.bool (!a_ (.bool g) (.bool h))) a) (by kernel_rfl)⟩
def abe:bs b k (ki "=>" [m,n]) 0 [.bool g,.bool h] (.bool (!g||h)):=
 bs.mk (by kernel_rfl) λa e c o i j l f=>⟨a,b_ a,by
  cases g with
  |false=>exact az (h0 b (bi "=>")<|aT 9 [.aa (.bool d)]) (iq i j l<|H (cH f 0 rfl rfl)<|aj (.bool J) a)
  |true=>exact az (h0 b (bi "=>")<|aT 9 [.aa (.bool J),.aa (.bool h)]) (iq i j l<|H (cH f 0 rfl rfl)<|H (cH f 1 rfl rfl)<|aj (.bool h) a)⟩
variable{i j p:L}
def Hc(g:bk 8 i=J)(h:bk 8 j=J):bs b k (ki "=" [m,n]) 0 [i,j] (.bool (a_ i j)):=
 bs.mk (by kernel_rfl) λa e c q l o p f=>⟨a,b_ a,az (h0 b (bi "=")<|aT 1 [.aa i,.aa j,.b (a_ i j)])
  (iq l o p<|H (cH f 0 rfl rfl)<|H (cH f 1 rfl rfl)<|H (px a g h)<|aj (.bool (a_ i j)) a) (by kernel_rfl)⟩
def abf:bs b k ⟨bi "ite",[m,n,o],q,.int 0⟩ r [.bool g,i,j] (if g then i else j):=
 bs.mk (by kernel_rfl) λa e c p h l s f=>⟨a,b_ a,by
  cases g with
  |false=>exact az (k4 b (bi "ite")<|aT 4 [.aa (.bool d),.aa j]) (lS h l<|H (cH f 0 rfl rfl)<|H (cH f 2 rfl rfl)<|aj j a)
  |true=>exact az (k4 b (bi "ite")<|aT 4 [.aa (.bool J),.aa i]) (lS h l<|H (cH f 0 rfl rfl)<|H (cH f 1 rfl rfl)<|aj i a)⟩
def Tv{c:I}{e:E L}(g:a[c]?=A (.list e))(h:e.all (bk 8)=J)(i:bV e.length=J)(b:L)(j:bk 8 b=J):hJ a (.ref c) .count [b]=A (.int (e.countP λq=>a_ q b),a):=by
 show((ds a c).bind λf=>a4 (bk 8 b&&f.all (bk 8)&&bV f.length) (A (L.int (f.countP λq=>a_ q b),a)))=_;rw[hk g,cJ,bH (by rw[j,h,i];rfl)]
def u8{b:I}{c:E L}(g:a[b]?=A (.list c))(e:ka)(h:e.nf=J):kz a (.ref b) e=J:=by
 show(a[b]?.any λf=>cU e.nf f.qd.isSome (f.sn.isSome||f.so.isSome))=J;rw[g,h];rfl
def cc(a:N)(b:aO):(a++[b])[a.length]?=A b:=kI
noncomputable def lg(a:E L)(b:L):ah:=a_ (.int (a.countP λc=>a_ c b)) (.int 1)
noncomputable def ri(a:E L):L:=.bool (a_ (C ((a.filter (lg a)).map id).length) (C a.length))
def abb(i:q.all (bk 8)=J)(h:q.length<400):bs b k (ki "distinct" r) 0 q (ri q):=
 bs.mk (by kernel_rfl) λa e c j l m n g=>by
  exact⟨a++[.list ((q.filter (lg q)).map id)],eZ _ _,az (h0 b (bi "distinct")<|aT 2 [.afN (lg q) id (λf=>[.aa (.int (q.countP λo=>a_ o f))]),.af8 (q,[A (j,.list q)],a),.aa (C ((q.filter (lg q)).map id).length),.aa (C q.length)])
   (iq l m n<|H (gx g (cD h))<|H (H (de g) λf p=>H (u8 g .count rfl)<|H (Tv g i (cD h) f (di.mp i f p))<|H (G:cN (.bool (lg q f))=A (lg q f))<|H (G:a=a) λs:lg q f=J=>H (G:f=id f) (G:a=a))<|
    H (fb (cc a _) (c0 (by rw[bO];exact sJ _ _) h:((q.filter (lg q)).map id).length<400))<|H (fb (b5 (f:=[.list ((q.filter (lg q)).map id)]) g) h)<|aj (ri q) (a++[.list ((q.filter (lg q)).map id)])) (by kernel_rfl)⟩
end
end
section
section
variable{e:ah}{a f:aK}{b c:N}
def ps(f:E a7)(j:P)(k:P=db e bx bP o_ a g b f λh i p=>cN h=A l/\i=c:=by kernel_rfl):eO e bx bP g a b=A (l,c):=by
 refine il on g a (k▸j) _ λh i p m n=>?_;obtain⟨o,rfl⟩:=n;exact jc m o
def cG(j:E a7)(k:P)(m:P=k3 bx bP o_ e g a b j λh i l q=>tt o f c h i l:=by kernel_rfl):bt e bx bP g a b=A (o,f,c):=by
 refine w_ on g e (m▸k) _ λh i l q n p=>?_;cases p;exact n
def vC(e:g a b=A (d,c)):iE g h (i+1) a b=A (.next,a,c):=by
 show Internal.a3 (g a b) _=_;rw[e,fe];rfl
def p7{e:aK->N->j (ah×N)}{g:aK->N->eE}{i:I}{h:da}{k:N}(l:e a b=A (J,k))(m:g a k=A (h,f,c))(o:h.jX=J):iE e g (i+1) a b=iE e g i f c:=by
 show Internal.a3 (e a b) _=_;refine l.symm▸fe.symm▸(m.symm▸?_);show cU h.jX _ _=_;refine o.symm▸?_;rfl
def ud(e:g<2^1000):∃h,n8=g+1+h:=⟨2^1000-(g+1),by unfold n8;exact((v9 e).symm)⟩
end
noncomputable def gp(a b:O):O:=(oA a b:I)
noncomputable def fv(a b:O):L:=.ab [.int (a.fdiv (gp a b)),.int (b.fdiv (gp a b))]
noncomputable def DP:X:=.af0 (.var 1) .af1 (.lit (.int 0))
noncomputable def DO:E c:=[d5 [0,1] (aU [ac,jC Y ac])]
def uA(c:N)(e:a≠b):bY c .af1 (.int a) (.int b)=A J:=by
 show A (!a_ (.int a) (.int b))=_;refine(show a_ (.int a) (.int b)=d from dU λf=>e (L.int.inj f)).symm▸?_;rfl
def km(c:N)(e:a≠b):bY c .eq (.int a) (.int b)=A d:=by
 show A (a_ (.int a) (.int b))=_;exact(show a_ (.int a) (.int b)=d from dU λf=>e (L.int.inj f)).symm▸G
def x_(c:N)(a b:O):bY c .lt (.int a) (.int b)=A (decide (a<b)):=G
def xX(c:N)(a b:O):bY c .gt (.int a) (.int b)=A (decide (a>b)):=G
def xi(b:N)(a:O):eW b .abs [.int a]=A (C a.natAbs,b):=by
 show A (L.int (if a<0 then-a else a),b)=_
 congr 3
 omega
def n7(c:N)(b:O)(e:a≠0):c2 c .fdiv (.int b) (.int a)=A (.int (b.fdiv a),c):=by
 show((a4 (decide (a≠0)) (A (qp b a))).map L.int).map _=_;refine(bH (cg e)).symm▸?_;rfl
def rM(b:I)(e:a≠0)(c:N):c2 c .mod (C b) (C a)=A (C (b%a),c):=by
 show((a4 (decide ((a:O)≠0)) (A (z2 b a))).map L.int).map _=_;rw[bH (cg (by exact_mod_cast e)),O.fmod_eq_emod_of_nonneg _ (hP a)];rfl
def Sd(b:N):∀(h g a:I),a<h->iE (eO J bx bP DP) (λi b=>bt J bx bP DO i b) h [A (C g),A (C a)] b=A (.next,[A (C (qA g a)),A (.int 0)],b):=by
 intro h
 induction h with
 |zero=>intro g a e;exact(yq e).elim
 |succ h f=>
  intro g a e;by_cases c:a=0
  .subst c;rw[Jv];exact vC (ps [] (H (G:cN (.bool d)=A d) (G:b=b)))
  .rw[p7 (k:=b) (h:=.next) (f:=[A (C a),A (C (g%a))]) (c:=b) ?_ ?_ G,f a (g%a) (dz (lF _ (qF c)) (nu e)),sQ a (g%a),<-Ju,sQ]
   .exact ps [.b J] (H (uA b (b:=0) (λj=>c (fn j)))<|H (G:cN (.bool J)=A J) (G:b=b))
   .exact cG [.aa (C (g%a))] (H (rM g c b)<|bM [A (C a),A (C (g%a))] b)
def Sf(a:N)(c:I)(e:b<2^1000):sm (eO J bx bP DP) (λg a=>bt J bx bP DO g a) [A (C c),A (C b)] a=A (.next,[A (C (qA c b)),A (.int 0)],a):=by
 obtain⟨f,h⟩:=ud e;show iE _ _ n8 _ _=_;exact h.symm▸(Sd a (b+1+f) c b E_)
def Se(a:N)(b:O)(c:g.natAbs<2^1000):aX J 114 [.int b,.int g] a (C (oA b g)) a:=
 az [.aa (C b.natAbs),.aa (C g.natAbs),.go,.af2 .next [A (C (qA b.natAbs g.natAbs)),A (.int 0)] a] (H (xi a b)<|H (xi a g)<|H (Sf a b.natAbs c)<|aj (C (oA b g)) a)
def uf(a:0<b):gp g b≠0:=by
 have:=Ix (a:=g) (kH a);exactλc=>this (fn c)
def yS(c:N)(a:O)(e:0<b)(f:b.natAbs<2^1000):aX J 107 [.int a,.int b] c (fv a b) c:=
 az [.b d,.aa (.int (gp a b)),.b d,.aa (.int (a.fdiv (gp a b))),.aa (.int (b.fdiv (gp a b)))]
  (H (km c (kH e))<|H (Se c a f)<|H ((x_ c b 0).trans (bj A (dU (lA.mpr (oB e)))))<|H (n7 c a (uf (g:=a) e))<|H (n7 c b (uf (g:=a) e))<|aj (fv a b) c) (by kernel_rfl)
noncomputable def F9:X:=.af0 (.var 3) .gt (.lit (.int 0))
noncomputable def F8:E c:=[d5 [2,3] (aU [aS,jC ao aS])]
def XW(b:N)(c e:L):∀(h g a:I),a<h->iE (eO J bx bP F9) (λl b=>bt J bx bP F8 l b) h [A c,A e,A (C g),A (C a)] b=A (.next,[A c,A e,A (C (qA g a)),A (.int 0)],b):=by
 intro h
 induction h with
 |zero=>intro g a i;exact(yq i).elim
 |succ h j=>
  intro g a i;by_cases f:a=0
  .subst f;rw[Jv];exact vC (ps [] (H (G:cN (.bool d)=A d) (G:b=b)))
  .rw[p7 (k:=b) (h:=.next) (f:=[A c,A e,A (C a),A (C (g%a))]) (c:=b) ?_ ?_ G,j a (g%a) (dz (lF _ (qF f)) (nu i)),sQ a (g%a),<-Ju,sQ]
   .exact ps [.b J] (H ((xX b a 0).trans (bj A (cg (j2.mpr (qF f)))))<|H (G:cN (.bool J)=A J) (G:b=b))
   .exact cG [.aa (C (g%a))] (H (rM g f b)<|bM [A c,A e,A (C a),A (C (g%a))] b)
def XY(a:N)(c e:L)(f:I)(g:b<2^1000):sm (eO J bx bP F9) (λh a=>bt J bx bP F8 h a) [A c,A e,A (C f),A (C b)] a=A (.next,[A c,A e,A (C (qA f b)),A (.int 0)],a):=by
 obtain⟨i,l⟩:=ud g;show iE _ _ n8 _ _=_;exact l.symm▸(XW a c e (b+1+i) f b E_)
def F_(c:N)(a:O)(f:0<b)(g:b<2^1000):aX J 39 [.int a,C b] c (fv a b) c:=
 have e:(0:O)<b:=j2.mpr f
 az [.aa (C a.natAbs),.go,.af2 .next [A (.int a),A (C b),A (C (qA a.natAbs b)),A (.int 0)] c,.aa (.int (a.fdiv (gp a b))),.aa (.int ((b:O).fdiv (gp a b)))] (H (xi c a)<|H (XY c (.int a) (C b) a.natAbs g)<|H (n7 c a (uf (g:=a) e))<|H (n7 c b (uf (g:=a) e))<|aj (fv a b) c)
def yK(a:N)(b:O)(c:0<g)(e:g.natAbs<2^1000):aX J 39 [.int b,.int g] a (fv b g) a:=by
 obtain⟨f,rfl⟩:=Iu (oB c);exact F_ a b (j2.mp c) e
end
section
abbrev hE(a:O):Prop:=a.natAbs<2^400
theorem GH(c:a.natAbs<2^1000):i9 a=J:=by
 refine cg ?_;by_cases b:a.natAbs=0
 .rw[b];decide
 .exact(Jy b).mpr c
theorem GG(a:hE b):i9 b=J:=GH (gC a (sV (ap G) (ap G)))
theorem fE(c:N)(e:hE a)(f:hE b):c2 c .mul (.int a) (.int b)=A (.int (a*b),c):=by
 show((a4 (i9 a&&i9 b) (A (a*b))).map L.int).map _=_;refine(GG e).symm▸(GG f).symm▸?_;rfl
theorem vk(a:hE b)(c:hE g):(b*g).natAbs<2^1000:=by
 rw[mn];exact c0 (wb (e_ a) (e_ c)) (by rw[<-JK];exact sV (ap G) (ap G))
noncomputable def a1(a b:O):L:=.ab [.int a,.int b]
theorem EO(a:O):fv a 1=a1 a 1:=by
 delta fv gp a1;rw[z3];show L.ab [.int (a.fdiv 1),.int (qp 1 1)]=_;rw[sA];rfl
theorem rv(b:N)(a:O):bY b .eq (.int a) (.int a)=A J:=by
 show A (a_ (.int a) (.int a))=_;rw[mW]
section
variable(c:N){e a f b:O}(k:0<a)(l:0<b)(i:hE e)(g:hE a)(j:hE f)(h:hE b)
include k l i g j h
theorem Mz:aX J 102 [a1 e a,a1 f b] c (fv (e*b+f*a) (a*b)) c:=by
 have n (p:a≠b\/b≠1):aX J 102 [a1 e a,a1 f b] c (fv (e*b+f*a) (a*b)) c:=by
  have cM:=H (fE c i h)<|H (fE c j g)<|H (fE c g h)<|H (yS c (e*b+f*a) (qq k l) (vk g h))<|aj (fv (e*b+f*a) (a*b)) c;by_cases m:a=b
  .subst m;exact az (aT 2 (.b J::.b d::aT 2 (.aa (.int (e*a))::aT 2 (.aa (.int (f*a))::aT 3 [.aa (.int (a*a)),.aa (fv (e*a+f*a) (a*a))])))) (H (rv c a)<|H (km c (p.resolve_left λq=>q G)) cM)
  .exact az (aT 2 (.b d::aT 2 (.aa (.int (e*b))::aT 2 (.aa (.int (f*a))::aT 3 [.aa (.int (a*b)),.aa (fv (e*b+f*a) (a*b))])))) (H (km c m) cM)
 by_cases m:a=b
 .by_cases o:b=1
  .subst m;subst o;rw[sB,sB,sB,EO];exact az [] (aj (a1 (e+f) 1) c)
  .exact n (.inr o)
 .exact n (.inl m)
theorem Uf:aX J 79 [a1 e a,a1 f b] c (fv (e*f) (a*b)) c:=by
 have n (p:a≠b\/b≠1):aX J 79 [a1 e a,a1 f b] c (fv (e*f) (a*b)) c:=by
  have cM:=H (fE c i j)<|H (fE c g h)<|H (yS c (e*f) (qq k l) (vk g h))<|aj (fv (e*f) (a*b)) c;by_cases m:a=b
  .subst m;exact az (aT 2 (.b J::.b d::aT 2 (.aa (.int (e*f))::aT 2 [.aa (.int (a*a)),.aa (fv (e*f) (a*a))]))) (H (rv c a)<|H (km c (p.resolve_left λq=>q G)) cM)
  .exact az (aT 2 (.b d::aT 2 (.aa (.int (e*f))::aT 2 [.aa (.int (a*b)),.aa (fv (e*f) (a*b))]))) (H (km c m) cM)
 by_cases m:a=b
 .by_cases o:b=1
  .subst m;subst o;rw[sB,EO];exact az (aT 6 [.aa (.int (e*f))]) (H (fE c i j)<|aj (a1 (e*f) 1) c)
  .exact n (.inr o)
 .exact n (.inl m)
theorem ZN:aX J 52 [a1 e a,a1 f b] c (fv (e*b+f*a) (a*b)) c:=
 az (aT 2 (.aa (.int (e*b))::aT 2 (.aa (.int (f*a))::aT 3 [.aa (.int (a*b)),.aa (fv (e*b+f*a) (a*b))]))) (H (fE c i h)<|H (fE c j g)<|H (fE c g h)<|H (yK c (e*b+f*a) (qq k l) (vk g h))<|aj (fv (e*b+f*a) (a*b)) c)
omit k l
theorem TA:aX J 57 [a1 e a,a1 f b] c (.bool (decide (e*b<f*a))) c:=
 az (aT 2 (.aa (.int (e*b))::aT 2 [.aa (.int (f*a))])) (H (fE c i h)<|H (fE c j g)<|aj (.bool (decide (e*b<f*a))) c)
noncomputable def ord(e a f b:O):O:=(if decide (e*b>f*a)then 1 else 0)-(if decide (e*b<f*a)then 1 else 0)
theorem OA:aX J 72 [a1 e a,a1 f b] c (.int (ord e a f b)) c:=
 az (aT 2 (.aa (.int (e*b))::aT 2 [.aa (.int (f*a))])) (H (fE c i h)<|H (fE c j g)<|aj (.int (ord e a f b)) c)
end
abbrev ew:=O×O
noncomputable def aD(a:ew):L:=a1 a.1 a.2
noncomputable def fF(a b:O):ew:=(a.fdiv (gp a b),b.fdiv (gp a b))
noncomputable def d3(a b:ew):ew:=fF (a.1*b.2+b.1*a.2) (a.2*b.2)
noncomputable def es(a b:ew):ew:=fF (a.1*b.1) (a.2*b.2)
structure cO(a:ew):Prop where
 pos:0<a.2
 y:hE a.1
 aei:hE a.2
section
variable{e a f:ew}(b:N)
theorem xj(f:cO e)(g:cO a):aX J 102 [aD e,aD a] b (aD (d3 e a)) b:=Mz b f.pos g.pos f.y f.aei g.y g.aei
theorem Ub(f:cO e)(g:cO a):aX J 79 [aD e,aD a] b (aD (es e a)) b:=Uf b f.pos g.pos f.y f.aei g.y g.aei
theorem zb(f:cO e)(g:cO a):aX J 52 [aD e,aD a] b (aD (d3 e a)) b:=ZN b f.pos g.pos f.y f.aei g.y g.aei
variable{c:I}{h:E bA}{i:bp}{j:I}{n:gF}
theorem x9{a:I}{e:E L}(c:b[a]?=A (.list e))(g:bV e.length=J):m9 b (.ref a) (A 1) M=A (.ref b.length,b++[.list (fh (A 1) M e)]):=by
 show(ds b a).bind (λf=>a4 (bV f.length) (A (L.ref b.length,b++[aO.list (fh (A 1) M f)])))=_;rw[hk c,cJ,bH g]
noncomputable def xh(c a:I)(b:am)(e:E a7):E a7:=k4 c b<|aT 4<|tC c a 0<|aT 1<|Cc c a<|.b J::.go::e
variable(k l m:I){g:I}
theorem abm(o:g≠0)(p:cO e)(q:cO a)(r:cO f)(s:cO (d3 e a)):bs c h ⟨bi "+",[k,l,m],g,.int 0⟩ 0 [aD e,aD a,aD f] (aD (d3 (d3 e a) f)):=
 bs.mk (by kernel_rfl) λb i j x t u v n=>⟨b++[.list [aD a,aD f]],eZ _ _,
  az (xh c g (bi "+") [.aa (aD e),.w (.ref b.length) (b++[.list [aD a,aD f]]),.go,.af8 ([aD a,aD f],[A (b.length,.list [aD a,aD f])],b++[.list [aD a,aD f]]),.go,.aa (aD (d3 e a)),.go,.aa (aD (d3 (d3 e a) f))])
   (iq t u v<|H (uA b (a:=g) (b:=0) λw=>o (fn w))<|H (cH n 0 rfl rfl)<|H (x9 b n G)<|H (gx (cc b (.list [aD a,aD f])) G)<|
    H (de (cc b (.list [aD a,aD f])))<|H (xj (b++[.list [aD a,aD f]]) p q)<|H (de (cc b (.list [aD a,aD f])))<|H (xj (b++[.list [aD a,aD f]]) s r)<|H (de (cc b (.list [aD a,aD f])))<|aj (aD (d3 (d3 e a) f)) (b++[.list [aD a,aD f]])) (by kernel_rfl)⟩
theorem abl(m:g≠0)(n:cO e)(o:cO a):bs c h ⟨bi "+",[k,l],g,.int 0⟩ 0 [aD e,aD a] (aD (d3 e a)):=
 bs.mk (by kernel_rfl) λb i j t p q r f=>⟨b++[.list [aD a]],eZ _ _,
  az (xh c g (bi "+") [.aa (aD e),.w (.ref b.length) (b++[.list [aD a]]),.go,.af8 ([aD a],[A (b.length,.list [aD a])],b++[.list [aD a]]),.go,.aa (aD (d3 e a))])
   (iq p q r<|H (uA b (a:=g) (b:=0) λs=>m (fn s))<|H (cH f 0 rfl rfl)<|H (x9 b f G)<|H (gx (cc b (.list [aD a])) G)<|
    H (de (cc b (.list [aD a])))<|H (xj (b++[.list [aD a]]) n o)<|H (de (cc b (.list [aD a])))<|aj (aD (d3 e a)) (b++[.list [aD a]])) (by kernel_rfl)⟩
theorem abp(m:g≠0)(n:cO e)(o:cO a):bs c h ⟨bi "*",[k,l],g,.int 0⟩ 0 [aD e,aD a] (aD (es e a)):=
 bs.mk (by kernel_rfl) λb i j t p q r f=>⟨b++[.list [aD a]],eZ _ _,
  az (xh c g (bi "*") [.aa (aD e),.w (.ref b.length) (b++[.list [aD a]]),.go,.af8 ([aD a],[A (b.length,.list [aD a])],b++[.list [aD a]]),.go,.aa (aD (es e a))])
   (iq p q r<|H (uA b (a:=g) (b:=0) λs=>m (fn s))<|H (cH f 0 rfl rfl)<|H (x9 b f G)<|H (gx (cc b (.list [aD a])) G)<|
    H (de (cc b (.list [aD a])))<|H (Ub (b++[.list [aD a]]) n o)<|H (de (cc b (.list [aD a])))<|aj (aD (es e a)) (b++[.list [aD a]])) (by kernel_rfl)⟩
theorem abj:bs c h ⟨bi "num",[],g,o⟩ 0 [] o:=
 bs.mk (by kernel_rfl) λb i j f a e k l=>⟨b,b_ b,az (k4 c (bi "num")<|aT 2<|nT c o []) (lS a e<|nW a e<|aj o b)⟩
noncomputable def gM(e a:ew):ah:=decide (e.1*a.2<a.1*e.2)
theorem Ed(f:cO e)(g:cO a):aX J 57 [aD e,aD a] b (.bool (gM e a)) b:=TA b f.y f.aei g.y g.aei
theorem F3(e a:ew):(gM e a=J/\gM a e=d/\ord e.1 e.2 a.1 a.2=-1)\/(gM e a=d/\gM a e=d/\ord e.1 e.2 a.1 a.2=0)\/(gM e a=d/\gM a e=J/\ord e.1 e.2 a.1 a.2=1):=by
 delta ord gM;rcases O.lt_trichotomy (e.1*a.2) (a.1*e.2)with b|b|b
 .have c:=Iz b;exact .inl ⟨cg b,dU c,by rw[cg b,dU c];rfl⟩
 .refine b.symm▸?_;have c:=dU (O.lt_irrefl (a.1*e.2));exact .inr (.inl ⟨c,c,by rw[show decide (a.1*e.2>a.1*e.2)=d from c];rfl⟩)
 .have c:=Iz b;exact .inr (.inr ⟨dU c,cg b,by rw[show decide (e.1*a.2>a.1*e.2)=J from cg b,dU c];rfl⟩)
theorem C8(f:cO e)(g:cO a)(c:ord e.1 e.2 a.1 a.2=o):aX J 72 [aD e,aD a] b (.int o) b:=c▸OA b f.y f.aei g.y g.aei
theorem abh(n:cO e)(o:cO a):bs c h (ki "<" [k,l]) 0 [aD e,aD a] (.bool (gM e a)):=
 bs.mk (by kernel_rfl) λb i j u p q r m=>⟨b,b_ b,by
  have aT {s:O} {P:Prop} (f:ord e.1 e.2 a.1 a.2=s) (t:P):=iq p q r<|H (cH m 0 rfl rfl)<|H (cH m 1 rfl rfl)<|H (C8 b n o f) t;rcases F3 e a with⟨g,v,f⟩|⟨g,v,f⟩|⟨g,v,f⟩<;>rw[g]
  .exact az (h0 c (bi "<")<|Internal.aT 3 [.aa (aD e),.aa (aD a),.aa (.int (-1))]) (aT f<|aj (.bool J) b)
  .exact az (h0 c (bi "<")<|Internal.aT 3 [.aa (aD e),.aa (aD a),.aa (.int 0)]) (aT f<|aj (.bool d) b)
  .exact az (h0 c (bi "<")<|Internal.aT 3 [.aa (aD e),.aa (aD a),.aa (.int 1)]) (aT f<|aj (.bool d) b)⟩
theorem abg(n:cO e)(o:cO a):bs c h (ki "<=" [k,l]) 0 [aD e,aD a] (.bool (!gM a e)):=
 bs.mk (by kernel_rfl) λb i j u p q r m=>⟨b,b_ b,by
  have aT {s:O} {P:Prop} (f:ord e.1 e.2 a.1 a.2=s) (t:P):=iq p q r<|H (cH m 0 rfl rfl)<|H (cH m 1 rfl rfl)<|H (C8 b n o f) t;rcases F3 e a with⟨v,g,f⟩|⟨v,g,f⟩|⟨v,g,f⟩<;>rw[g]
  .exact az (h0 c (bi "<=")<|Internal.aT 3 [.aa (aD e),.aa (aD a),.aa (.int (-1))]) (aT f<|aj (.bool J) b)
  .exact az (h0 c (bi "<=")<|Internal.aT 3 [.aa (aD e),.aa (aD a),.aa (.int 0)]) (aT f<|aj (.bool J) b)
  .exact az (h0 c (bi "<=")<|Internal.aT 3 [.aa (aD e),.aa (aD a),.aa (.int 1)]) (aT f<|aj (.bool d) b)⟩
end
end
section
noncomputable def aW(a:O)(b:I):L:=.ab [.str (bi "bv"),.int a,C b]
noncomputable def mk(a:I):O:=2^a-1
noncomputable def c3(a b:O):O:=HW a b
noncomputable def fj(a:O)(b:I):O:=if a_ (.int (a.fdiv (2^(b-1)))) (.int 1)then a-2^b else a
section
variable(a:N)(f h:O){b g:I}
def vi(b:f.natAbs<2^64)(c:g<=1000):c2 a .shl (.int f) (C g)=A (.int (f*2^g),a):=by
 show((a4 (decide (0<=(g:O)/\(g:O)<=1000/\f.natAbs<2^64)) (A (f*2^(g:O).toNat))).map L.int).map _=_;rw[bH (cg ⟨hP _,gW.mpr c,b⟩)];rfl
def r7(g:I):c2 a .shr (.int f) (C g)=A (.int (f.fdiv (2^g)),a):=by
 have b:ul .shr f g=A (f.fdiv (2^g)):=bH (cg (hP g));have e:c2 a .shr (.int f) (C g)=((ul .shr f g).map L.int).map (λc=>(c,a)):=by kernel_rfl
 refine e.symm▸b.symm▸?_;rfl
def jJ(e:b<=1000):aX J 109 [C b] a (.int (mk b)) a:=by
 have c:=vi a 1 (ap G) e;rw[sC]at c;exact az [.aa (.int (2^b))] (H c<|aj (.int (mk b)) a)
def vs(c:1<=b):c2 a .sub (C b) (.int 1)=A (C (b-1),a):=by
 show A (L.int ((b:O)-1),a)=_;exact O.natCast_one▸(vZ c)▸G
def r8(h:b<=1000)(e:1<=b):aX J 110 [.int f,C b] a (.int (fj f b)) a:=by
 have g:=vi a 1 (ap G) h;rw[sC]at g;cases c:a_ (.int (f.fdiv (2^(b-1)))) (.int 1)with
 |true=>
  rw[show fj f b=f-2^b from cd c];exact az [.aa (C (b-1)),.aa (.int (f.fdiv (2^(b-1)))),.b J,.aa (.int (2^b))] (H (vs a e)<|H (r7 a f (b-1))<|H (bj A c:bY a .eq (.int (f.fdiv (2^(b-1)))) (.int 1)=A J)<|H g<|aj (.int (f-2^b)) a)
 |false=>
  rw[show fj f b=f from bZ (by rw[c];decide)];exact az [.aa (C (b-1)),.aa (.int (f.fdiv (2^(b-1)))),.b d] (H (vs a e)<|H (r7 a f (b-1))<|H (bj A c:bY a .eq (.int (f.fdiv (2^(b-1)))) (.int 1)=A d)<|aj (.int f) a)
def PW(b:i<=l)(c:l<=900):aX J 97 [.int f,C l,C i] a (.int (c3 (f.fdiv (2^i)) (mk (l-i+1)))) a:=by
 have e:c2 a .sub (C l) (C i)=A (C (l-i),a):=by
  show A (L.int ((l:O)-i),a)=_;exact(vZ b)▸G
 exact az [.aa (.int (f.fdiv (2^i))),.aa (C (l-i)),.aa (C (l-i+1)),.aa (.int (mk (l-i+1)))] (H (r7 a f i)<|H e<|H (G:c2 a .add (C (l-i)) (.int 1)=A (C (l-i+1),a))<|H (jJ a (b:=l-i+1) (hw (bG (oM _ _) (bG c (ap G)))))<|aj (.int (c3 (f.fdiv (2^i)) (mk (l-i+1)))) a)
def Zu(e:1<=b)(c:b+i<=1000):aX J 98 [.int f,C b,C i] a (.int (c3 (fj f b) (mk (b+i)))) a:=
 az [.aa (.int (fj f b)),.aa (C (b+i)),.aa (.int (mk (b+i)))] (H (r8 a f (bG (d8 _ _) c) e)<|H (G:c2 a .add (C b) (C i)=A (C (b+i),a))<|H (jJ a c)<|aj (.int (c3 (fj f b) (mk (b+i)))) a)
def OC(c:f.natAbs<2^64)(e:b<=1000):aX J 100 [.int f,.int h,C b] a (.int (nh (f*2^b) h)) a:=
 az [.aa (.int (f*2^b))] (H (vi a f c e)<|aj (.int (nh (f*2^b) h)) a)
def NA(c:b<=1000):aX J 99 [.str (bi "bvnot"),.int f,C b] a (.int (mk b-f)) a:=
 az [.go,.aa (.int (mk b))] (H (jJ a c)<|aj (.int (mk b-f)) a)
def Nz(c:b<=1000):aX J 99 [.str (bi "bvneg"),.int f,C b] a (.int (c3 (-f) (mk b))) a:=
 az [.go,.go,.aa (.int (mk b))] (H (jJ a c)<|aj (.int (c3 (-f) (mk b))) a)
def Nt:aX J 103 [.int f,C g] a (.bool (a_ (.int (c3 (f.fdiv (2^g)) 1)) (.int 1))) a:=
 az [.aa (.int (f.fdiv (2^g)))] (H (r7 a f g)<|aj (.bool (a_ (.int (c3 (f.fdiv (2^g)) 1)) (.int 1))) a)
def NZ(b:g<=1000):aX J 104 [.int f,.int h,C g,.int 0] a (.bool (decide (c3 f (mk g)+c3 h (mk g)+0>mk g))) a:=
 az [.aa (.int (mk g))] (H (jJ a b)<|aj (.bool (decide (c3 f (mk g)+c3 h (mk g)+0>mk g))) a)
def Nf(b:g<=1000):aX J 105 [.int f,.int h,C g] a (.bool (decide (c3 f (mk g)<c3 h (mk g)))) a:=
 az [.aa (.int (mk g)),.go,.aa (.int (mk g))] (H (jJ a b)<|H (jJ a b)<|aj (.bool (decide (c3 f (mk g)<c3 h (mk g)))) a)
noncomputable def a5(a:eg):L:=.str (bi a)
variable(e c:I)
def ZU:aX J 101 [a5 "bvand",C e,C c,C b] a (.int (c3 e c)) a:=az [] (aj (.int (c3 e c)) a)
def ZX:aX J 101 [a5 "bvor",C e,C c,C b] a (.int (nh e c)) a:=az [] (aj (.int (nh e c)) a)
def Z2:aX J 101 [a5 "bvxor",C e,C c,C b] a (.int (vS e c)) a:=az [] (aj (.int (vS e c)) a)
def ZT(f:b<=1000):aX J 101 [a5 "bvadd",C e,C c,C b] a (.int (c3 ((e:O)+c) (mk b))) a:=az (aT 5 [.aa (.int (mk b))]) (H (jJ a f)<|aj (.int (c3 ((e:O)+c) (mk b))) a)
def Z1(f:b<=1000):aX J 101 [a5 "bvsub",C e,C c,C b] a (.int (c3 ((e:O)-c) (mk b))) a:=az (aT 6 [.aa (.int (mk b))]) (H (jJ a f)<|aj (.int (c3 ((e:O)-c) (mk b))) a)
def ZW(f:hE e)(g:hE c)(h:b<=1000):aX J 101 [a5 "bvmul",C e,C c,C b] a (.int (c3 ((e:O)*c) (mk b))) a:=az (aT 6 [.aa (.int ((e:O)*c)),.aa (.int (mk b))]) (H (fE a f g)<|H (jJ a h)<|aj (.int (c3 ((e:O)*c) (mk b))) a)
def ue(f h:O):bY a .ge (.int f) (.int h)=A (decide (f>=h)):=G
noncomputable def vt(e c b:I):O:=if b<=c then 0 else c3 ((e:O)*2^c) (mk b)
noncomputable def vu(e c b:I):O:=if b<=c then 0 else(e:O).fdiv (2^c)
noncomputable def ze(e c b:I):O:=if c=0 then mk b else(e:O).fdiv c
noncomputable def zf(e c:I):O:=if c=0 then e else(e%c:I)
def ZZ(h:(e:O).natAbs<2^64)(g:b<=1000):aX J 101 [a5 "bvshl",C e,C c,C b] a (.int (vt e c b)) a:=by
 by_cases f:b<=c
 .exact(show vt e c b=0 from cd f).symm▸(az (aT 8 [.b J]) (H ((ue a c b).trans (bj A (cg (gW.mpr f))))<|aj (.int 0) a))
 .exact(show vt e c b=c3 ((e:O)*2^c) (mk b)from bZ f).symm▸(az (aT 8 [.b d,.go,.aa (.int ((e:O)*2^c)),.aa (.int (mk b))]) (H ((ue a c b).trans (bj A (dU λi=>f (gW.mp i))))<|H (vi a e h (g:=c) (bG (I.le_of_not_le f) g))<|H (jJ a g)<|aj (.int (c3 ((e:O)*2^c) (mk b))) a))
def Z0:aX J 101 [a5 "bvlshr",C e,C c,C b] a (.int (vu e c b)) a:=by
 by_cases f:b<=c
 .exact(show vu e c b=0 from cd f).symm▸(az (aT 8 [.b J]) (H ((ue a c b).trans (bj A (cg (gW.mpr f))))<|aj (.int 0) a))
 .exact(show vu e c b=(e:O).fdiv (2^c)from bZ f).symm▸(az (aT 8 [.b d,.go,.aa (.int ((e:O).fdiv (2^c)))]) (H ((ue a c b).trans (bj A (dU λg=>f (gW.mp g))))<|H (r7 a e c)<|aj (.int ((e:O).fdiv (2^c))) a))
def ZV(g:b<=1000):aX J 101 [a5 "bvudiv",C e,C c,C b] a (.int (ze e c b)) a:=by
 by_cases f:c=0
 .subst f;exact az (aT 10 [.aa (.int (mk b))]) (H (jJ a g)<|aj (.int (mk b)) a)
 .exact(show ze e c b=(e:O).fdiv c from bZ f).symm▸(az (aT 9 [.b d,.aa (.int ((e:O).fdiv c))]) (H (ob a f)<|H (n7 a e (a:=c) λh=>f (fn h))<|aj (.int ((e:O).fdiv c)) a))
def ZY:aX J 101 [a5 "bvurem",C e,C c,C b] a (.int (zf e c)) a:=by
 by_cases f:c=0
 .subst f;exact az [] (aj (C e) a)
 .rw[show zf e c=(e%c:I)from bZ f];exact az (aT 10 [.b d,.aa (C (e%c))]) (H (ob a f)<|H (rM e f a)<|aj (C (e%c)) a)
def S7:aX J 106 [a5 "bvult",C e,C c,C b] a (.bool (decide ((e:O)<c))) a:=az [] (aj (.bool (decide ((e:O)<c))) a)
def S6:aX J 106 [a5 "bvule",C e,C c,C b] a (.bool (decide ((e:O)<=c))) a:=az [] (aj (.bool (decide ((e:O)<=c))) a)
def S5(f:b<=1000)(g:1<=b):aX J 106 [a5 "bvslt",C e,C c,C b] a (.bool (decide (fj e b<fj c b))) a:=
 az [.go,.aa (.int (fj e b)),.aa (.int (fj c b))] (H (r8 a e f g)<|H (r8 a c f g)<|aj (.bool (decide (fj e b<fj c b))) a)
def S4(f:b<=1000)(g:1<=b):aX J 106 [a5 "bvsle",C e,C c,C b] a (.bool (decide (fj e b<=fj c b))) a:=
 az [.go,.aa (.int (fj e b)),.aa (.int (fj c b))] (H (r8 a e f g)<|H (r8 a c f g)<|aj (.bool (decide (fj e b<=fj c b))) a)
end
end
section
section
variable{e:I}{p:E bA}{o:bp}{a:N}{l:I}{q:gF}
noncomputable def hF(e a b:I)(c:am)(f:L)(g:I)(h:E a7):E a7:=
 k4 e c<|aT 4<|tC e a b<|.b J::.go::k4 e c (tC e a b<|.go::.aa f::.go::.aa (C g)::.go::h)
def rC(a:N)(b:0<g):bY a .gt (C g) (.int 0)=A J:=bj A (cg (j2.mpr b))
def hH{P:Prop}(c:bn e o a)(f:(o.h[l]?.map dr.afN)=A q){b:I}(j:o.a[q.c9]?=A b)(n:0<b){h:I}{g:L}{i:E L}(k:a[h]?=A (.list (g::i)))(m:(g::i).length<400)(p:P):
 fi a (.ref (e+1)) 0=J/\e4 a (.ref (e+1)) 10=A (.ref (e+7))/\ck a (.ref (e+7)) (C l)=A (.str q.dg)/\
 fi a (.ref (e+1)) 0=J/\e4 a (.ref (e+1)) 5=A (.ref (e+3))/\e4 a (.ref (e+1)) 12=A (.ref (e+9))/\ck a (.ref (e+9)) (C l)=A (C q.c9)/\ck a (.ref (e+3)) (C q.c9)=A (C b)/\bY a .gt (C b) (.int 0)=A J/\
 fi a (.ref (e+1)) 0=J/\e4 a (.ref (e+1)) 10=A (.ref (e+7))/\ck a (.ref (e+7)) (C l)=A (.str q.dg)/\
 fi a (.ref (e+1)) 0=J/\e4 a (.ref (e+1)) 5=A (.ref (e+3))/\e4 a (.ref (e+1)) 12=A (.ref (e+9))/\ck a (.ref (e+9)) (C l)=A (C q.c9)/\ck a (.ref (e+3)) (C q.c9)=A (C b)/\
 ck a (.ref h) (C 0)=A g/\eW a .len [.ref h]=A (C (g::i).length,a)/\P:=
 lS c f<|xm c f j<|H (rC a n)<|lS c f<|xm c f j<|H (cH k 0 (cD m) G)<|H (fb k m) p
variable(i m:I){k b h j:I}{c f:I}{g:O}{n:ah}
noncomputable def ea(a:eg)(b:E I)(k:I)(c:L):gF:=⟨bi a,b,k,c⟩
def abc(m:0<b)(n:∀a,aX J 97 [C c,C r,C s] a (.int g) a):bs e p (ea "extract" [i] k (.ab [C r,C s])) b [aW c h] (aW g b):=
 bs.mk (by kernel_rfl) λa o l u f j q t=>⟨a,b_ a,az (hF e k b (bi "extract") (aW c h) 1<|.go::nT e (.ab [C r,C s]) (.go::nT e (.ab [C r,C s]) [.go,.aa (.int g)]))
  (hH f j q m t (by show 1<400;decide)<|nW f j<|nW f j<|H (n a)<|aj (aW g b) a) (by kernel_rfl)⟩
def abt(f:0<b):bs e p (ea "zero_extend" [i] k r) b [aW c h] (aW c b):=
 bs.mk (by kernel_rfl) λa o l q g j m n=>⟨a,b_ a,az (hF e k b (bi "zero_extend") (aW c h) 1 [])
  (hH g j m f n (by show 1<400;decide)<|aj (aW c b) a) (by kernel_rfl)⟩
def abo(n:0<b)(q:∀a,aX J 98 [C c,C h,C r] a (.int g) a):bs e p (ea "sign_extend" [i] k (C r)) b [aW c h] (aW g b):=
 bs.mk (by kernel_rfl) λa o l t f j s m=>⟨a,b_ a,az (hF e k b (bi "sign_extend") (aW c h) 1<|aT 3<|.aa (aW c h)::.go::nT e (C r) [.aa (.int g)])
  (hH f j s n m (by show 1<400;decide)<|H (cH m 0 rfl rfl)<|nW f j<|H (q a)<|aj (aW g b) a) (by kernel_rfl)⟩
def aaZ(f:0<b)(j:∀a,aX J 99 [a5 "bvnot",C c,C b] a (.int g) a):bs e p (ea "bvnot" [i] k (.int 0)) b [aW c h] (aW g b):=
 bs.mk (by kernel_rfl) λa o l s m n q r=>⟨a,b_ a,az (hF e k b (bi "bvnot") (aW c h) 1<|aT 3 [.aa (.int g)])
  (hH m n q f r (by show 1<400;decide)<|H (j a)<|aj (aW g b) a) (by kernel_rfl)⟩
def aaY(f:0<b)(j:∀a,aX J 99 [a5 "bvneg",C c,C b] a (.int g) a):bs e p (ea "bvneg" [i] k (.int 0)) b [aW c h] (aW g b):=
 bs.mk (by kernel_rfl) λa o l s m n q r=>⟨a,b_ a,az (hF e k b (bi "bvneg") (aW c h) 1<|aT 3 [.aa (.int g)])
  (hH m n q f r (by show 1<400;decide)<|H (j a)<|aj (aW g b) a) (by kernel_rfl)⟩
def aba(q:0<b)(r:∀a,aX J 100 [C c,C f,C j] a (.int g) a):bs e p (ea "concat" [i,m] k (.int 0)) b [aW c h,aW f j] (aW g b):=
 bs.mk (by kernel_rfl) λa o l v s t u n=>⟨a,b_ a,az (hF e k b (bi "concat") (aW c h) 2<|.go::.aa (aW f j)::.go::.aa (aW f j)::.go::[.aa (.int g)])
  (hH s t u q n (by show 2<400;decide)<|H (cH n 1 rfl rfl)<|H (cH n 1 rfl rfl)<|H (r a)<|aj (aW g b) a) (by kernel_rfl)⟩
def aaV(q:0<b)(r:∀a,aX J 101 [a5 "bvand",C c,C f,C b] a (.int g) a):bs e p (ea "bvand" [i,m] k (.int 0)) b [aW c h,aW f j] (aW g b):=
 bs.mk (by kernel_rfl) λa o l v s t u n=>⟨a,b_ a,az (hF e k b (bi "bvand") (aW c h) 2<|.go::.go::.aa (aW f j)::.go::[.aa (.int g)])
  (hH s t u q n (by show 2<400;decide)<|H (cH n 1 rfl rfl)<|H (r a)<|aj (aW g b) a) (by kernel_rfl)⟩
def aa0(q:0<b)(r:∀a,aX J 101 [a5 "bvor",C c,C f,C b] a (.int g) a):bs e p (ea "bvor" [i,m] k (.int 0)) b [aW c h,aW f j] (aW g b):=
 bs.mk (by kernel_rfl) λa o l v s t u n=>⟨a,b_ a,az (hF e k b (bi "bvor") (aW c h) 2<|.go::.go::.aa (aW f j)::.go::[.aa (.int g)])
  (hH s t u q n (by show 2<400;decide)<|H (cH n 1 rfl rfl)<|H (r a)<|aj (aW g b) a) (by kernel_rfl)⟩
def aa9(q:0<b)(r:∀a,aX J 101 [a5 "bvxor",C c,C f,C b] a (.int g) a):bs e p (ea "bvxor" [i,m] k (.int 0)) b [aW c h,aW f j] (aW g b):=
 bs.mk (by kernel_rfl) λa o l v s t u n=>⟨a,b_ a,az (hF e k b (bi "bvxor") (aW c h) 2<|.go::.go::.aa (aW f j)::.go::[.aa (.int g)])
  (hH s t u q n (by show 2<400;decide)<|H (cH n 1 rfl rfl)<|H (r a)<|aj (aW g b) a) (by kernel_rfl)⟩
def aaU(q:0<b)(r:∀a,aX J 101 [a5 "bvadd",C c,C f,C b] a (.int g) a):bs e p (ea "bvadd" [i,m] k (.int 0)) b [aW c h,aW f j] (aW g b):=
 bs.mk (by kernel_rfl) λa o l v s t u n=>⟨a,b_ a,az (hF e k b (bi "bvadd") (aW c h) 2<|.go::.go::.aa (aW f j)::.go::[.aa (.int g)])
  (hH s t u q n (by show 2<400;decide)<|H (cH n 1 rfl rfl)<|H (r a)<|aj (aW g b) a) (by kernel_rfl)⟩
def aa4(q:0<b)(r:∀a,aX J 101 [a5 "bvsub",C c,C f,C b] a (.int g) a):bs e p (ea "bvsub" [i,m] k (.int 0)) b [aW c h,aW f j] (aW g b):=
 bs.mk (by kernel_rfl) λa o l v s t u n=>⟨a,b_ a,az (hF e k b (bi "bvsub") (aW c h) 2<|.go::.go::.aa (aW f j)::.go::[.aa (.int g)])
  (hH s t u q n (by show 2<400;decide)<|H (cH n 1 rfl rfl)<|H (r a)<|aj (aW g b) a) (by kernel_rfl)⟩
def aaX(q:0<b)(r:∀a,aX J 101 [a5 "bvmul",C c,C f,C b] a (.int g) a):bs e p (ea "bvmul" [i,m] k (.int 0)) b [aW c h,aW f j] (aW g b):=
 bs.mk (by kernel_rfl) λa o l v s t u n=>⟨a,b_ a,az (hF e k b (bi "bvmul") (aW c h) 2<|.go::.go::.aa (aW f j)::.go::[.aa (.int g)])
  (hH s t u q n (by show 2<400;decide)<|H (cH n 1 rfl rfl)<|H (r a)<|aj (aW g b) a) (by kernel_rfl)⟩
def aa1(q:0<b)(r:∀a,aX J 101 [a5 "bvshl",C c,C f,C b] a (.int g) a):bs e p (ea "bvshl" [i,m] k (.int 0)) b [aW c h,aW f j] (aW g b):=
 bs.mk (by kernel_rfl) λa o l v s t u n=>⟨a,b_ a,az (hF e k b (bi "bvshl") (aW c h) 2<|.go::.go::.aa (aW f j)::.go::[.aa (.int g)])
  (hH s t u q n (by show 2<400;decide)<|H (cH n 1 rfl rfl)<|H (r a)<|aj (aW g b) a) (by kernel_rfl)⟩
def aaW(q:0<b)(r:∀a,aX J 101 [a5 "bvlshr",C c,C f,C b] a (.int g) a):bs e p (ea "bvlshr" [i,m] k (.int 0)) b [aW c h,aW f j] (aW g b):=
 bs.mk (by kernel_rfl) λa o l v s t u n=>⟨a,b_ a,az (hF e k b (bi "bvlshr") (aW c h) 2<|.go::.go::.aa (aW f j)::.go::[.aa (.int g)])
  (hH s t u q n (by show 2<400;decide)<|H (cH n 1 rfl rfl)<|H (r a)<|aj (aW g b) a) (by kernel_rfl)⟩
def aa5(q:0<b)(r:∀a,aX J 101 [a5 "bvudiv",C c,C f,C b] a (.int g) a):bs e p (ea "bvudiv" [i,m] k (.int 0)) b [aW c h,aW f j] (aW g b):=
 bs.mk (by kernel_rfl) λa o l v s t u n=>⟨a,b_ a,az (hF e k b (bi "bvudiv") (aW c h) 2<|.go::.go::.aa (aW f j)::.go::[.aa (.int g)])
  (hH s t u q n (by show 2<400;decide)<|H (cH n 1 rfl rfl)<|H (r a)<|aj (aW g b) a) (by kernel_rfl)⟩
def aa8(q:0<b)(r:∀a,aX J 101 [a5 "bvurem",C c,C f,C b] a (.int g) a):bs e p (ea "bvurem" [i,m] k (.int 0)) b [aW c h,aW f j] (aW g b):=
 bs.mk (by kernel_rfl) λa o l v s t u n=>⟨a,b_ a,az (hF e k b (bi "bvurem") (aW c h) 2<|.go::.go::.aa (aW f j)::.go::[.aa (.int g)])
  (hH s t u q n (by show 2<400;decide)<|H (cH n 1 rfl rfl)<|H (r a)<|aj (aW g b) a) (by kernel_rfl)⟩
noncomputable def dI(c f b:I):I->O
 |0=>c3 c f
 |1=>nh c f
 |2=>vS c f
 |3=>c3 ((c:O)+f) (mk b)
 |4=>c3 ((c:O)-f) (mk b)
 |5=>c3 ((c:O)*f) (mk b)
 |6=>vt c f b
 |7=>vu c f b
 |8=>ze c f b
 |9=>zf c f
 |_=>0
noncomputable def i8:E eg:=["bvand","bvor","bvxor","bvadd","bvsub","bvmul","bvshl","bvlshr","bvudiv","bvurem"]
def abn(g:i8[r]?=A s)(l:0<b)(n:b<=1000)(o:hE c)(q:hE f)(t:(c:O).natAbs<2^64):bs e p (ea s [i,m] k (.int 0)) b [aW c h,aW f j] (aW (dI c f b r) b):=by
 match r,g with
 |0,g=>obtain rfl:=aG g;exact aaV i m l λa=>ZU a c f
 |1,g=>obtain rfl:=aG g;exact aa0 i m l λa=>ZX a c f
 |2,g=>obtain rfl:=aG g;exact aa9 i m l λa=>Z2 a c f
 |3,g=>obtain rfl:=aG g;exact aaU i m l λa=>ZT a c f n
 |4,g=>obtain rfl:=aG g;exact aa4 i m l λa=>Z1 a c f n
 |5,g=>obtain rfl:=aG g;exact aaX i m l λa=>ZW a c f o q n
 |6,g=>obtain rfl:=aG g;exact aa1 i m l λa=>ZZ a c f t n
 |7,g=>obtain rfl:=aG g;exact aaW i m l λa=>Z0 a c f
 |8,g=>obtain rfl:=aG g;exact aa5 i m l λa=>ZV a c f n
 |9,g=>obtain rfl:=aG g;exact aa8 i m l λa=>ZY a c f
noncomputable def nU(e:I)(a:am)(c:L)(b:E a7):E a7:=h0 e a<|aT 11<|k4 e a<|.aa c::.go::.aa c::.go::.go::b
def nX{P:Prop}(g:bn e o a)(h:(o.h[l]?.map dr.afN)=A q){b:I}(m:o.a[q.c9]?=A b){f:I}{c:L}{i:E L}(j:a[f]?=A (.list (c::i)))(k:(c::i).length<400)(n:P):
 fi a (.ref (e+1)) 0=J/\e4 a (.ref (e+1)) 10=A (.ref (e+7))/\ck a (.ref (e+7)) (C l)=A (.str q.dg)/\
 fi a (.ref (e+1)) 0=J/\e4 a (.ref (e+1)) 5=A (.ref (e+3))/\e4 a (.ref (e+1)) 12=A (.ref (e+9))/\ck a (.ref (e+9)) (C l)=A (C q.c9)/\ck a (.ref (e+3)) (C q.c9)=A (C b)/\
 fi a (.ref (e+1)) 0=J/\e4 a (.ref (e+1)) 12=A (.ref (e+9))/\ck a (.ref (e+9)) (C l)=A (C q.c9)/\
 fi a (.ref (e+1)) 0=J/\e4 a (.ref (e+1)) 10=A (.ref (e+7))/\ck a (.ref (e+7)) (C l)=A (.str q.dg)/\
 ck a (.ref f) (C 0)=A c/\ck a (.ref f) (C 0)=A c/\P:=
 iq g h m<|lS g h<|H (cH j 0 (cD k) G)<|H (cH j 0 (cD k) G) n
def aaT{b:I}(j:∀a,aX J 103 [C c,C b] a (.bool n) a):bs e p (ea "bit" [i] 0 (C b)) 0 [aW c h] (.bool n):=
 bs.mk (by kernel_rfl) λa o l q f g k m=>⟨a,b_ a,az (nU e (bi "bit") (aW c h)<|.go::nT e (C b) [.aa (.bool n)])
  (nX f g k m (by show 1<400;decide)<|nW f g<|H (j a)<|aj (.bool n) a) (by kernel_rfl)⟩
def aa_{b:I}(r:∀a,aX J 104 [C c,C f,C b,.int 0] a (.bool n) a):bs e p (ea "carry" [i,m] 0 (C b)) 0 [aW c h,aW f j] (.bool n):=
 bs.mk (by kernel_rfl) λa o l t g k s q=>⟨a,b_ a,az (nU e (bi "carry") (aW c h)<|.go::.go::.aa (aW f j)::.go::nT e (C b) [.aa (.bool n)])
  (nX g k s q (by show 2<400;decide)<|H (cH q 1 rfl rfl)<|nW g k<|H (r a)<|aj (.bool n) a) (by kernel_rfl)⟩
def aaS{b:I}(r:∀a,aX J 105 [C c,C f,C b] a (.bool n) a):bs e p (ea "below" [i,m] 0 (C b)) 0 [aW c h,aW f j] (.bool n):=
 bs.mk (by kernel_rfl) λa o l t g k s q=>⟨a,b_ a,az (nU e (bi "below") (aW c h)<|aT 3<|.aa (aW f j)::.go::nT e (C b) [.aa (.bool n)])
  (nX g k s q (by show 2<400;decide)<|H (cH q 1 rfl rfl)<|nW g k<|H (r a)<|aj (.bool n) a) (by kernel_rfl)⟩
def aa7(g:∀a,aX J 106 [a5 "bvult",C c,C f,C h] a (.bool n) a):bs e p (ea "bvult" [i,m] 0 (.int 0)) 0 [aW c h,aW f j] (.bool n):=
 bs.mk (by kernel_rfl) λa o l s k q r b=>⟨a,b_ a,az (nU e (bi "bvult") (aW c h)<|aT 4<|.aa (aW f j)::.go::[.aa (.bool n)])
  (nX k q r b (by show 2<400;decide)<|H (cH b 1 rfl rfl)<|H (g a)<|aj (.bool n) a) (by kernel_rfl)⟩
def aa6(g:∀a,aX J 106 [a5 "bvule",C c,C f,C h] a (.bool n) a):bs e p (ea "bvule" [i,m] 0 (.int 0)) 0 [aW c h,aW f j] (.bool n):=
 bs.mk (by kernel_rfl) λa o l s k q r b=>⟨a,b_ a,az (nU e (bi "bvule") (aW c h)<|aT 4<|.aa (aW f j)::.go::[.aa (.bool n)])
  (nX k q r b (by show 2<400;decide)<|H (cH b 1 rfl rfl)<|H (g a)<|aj (.bool n) a) (by kernel_rfl)⟩
def aa3(g:∀a,aX J 106 [a5 "bvslt",C c,C f,C h] a (.bool n) a):bs e p (ea "bvslt" [i,m] 0 (.int 0)) 0 [aW c h,aW f j] (.bool n):=
 bs.mk (by kernel_rfl) λa o l s k q r b=>⟨a,b_ a,az (nU e (bi "bvslt") (aW c h)<|aT 4<|.aa (aW f j)::.go::[.aa (.bool n)])
  (nX k q r b (by show 2<400;decide)<|H (cH b 1 rfl rfl)<|H (g a)<|aj (.bool n) a) (by kernel_rfl)⟩
def aa2(g:∀a,aX J 106 [a5 "bvsle",C c,C f,C h] a (.bool n) a):bs e p (ea "bvsle" [i,m] 0 (.int 0)) 0 [aW c h,aW f j] (.bool n):=
 bs.mk (by kernel_rfl) λa o l s k q r b=>⟨a,b_ a,az (nU e (bi "bvsle") (aW c h)<|aT 4<|.aa (aW f j)::.go::[.aa (.bool n)])
  (nX k q r b (by show 2<400;decide)<|H (cH b 1 rfl rfl)<|H (g a)<|aj (.bool n) a) (by kernel_rfl)⟩
noncomputable def n9(c f b:I):I->ah
 |0=>decide ((c:O)<f)
 |1=>decide ((c:O)<=f)
 |2=>decide (fj c b<fj f b)
 |3=>decide (fj c b<=fj f b)
 |_=>d
noncomputable def lT:E eg:=["bvult","bvule","bvslt","bvsle"]
def aaR(g:lT[r]?=A s)(h:0<b)(k:b<=1000):bs e p (ea s [i,m] 0 (.int 0)) 0 [aW c b,aW f j] (.bool (n9 c f b r)):=by
 match r,g with
 |0,g=>obtain rfl:=aG g;exact aa7 i m λa=>S7 a c f
 |1,g=>obtain rfl:=aG g;exact aa6 i m λa=>S6 a c f
 |2,g=>obtain rfl:=aG g;exact aa3 i m λa=>S5 a c f k h
 |3,g=>obtain rfl:=aG g;exact aa2 i m λa=>S4 a c f k h
end
end
section
structure bX(e:bp)(b c:I)(f:L):Prop where
 aew:b≠0
 row:∃a,e.h[b]?=A a/\a.afN.c9=c/\a.val=f/\a.afN.dg≠bi "num"
structure hb(e:bp)(b c:I)(f:L):Prop where
 aew:b≠0
 row:∃a,e.h[b]?=A a/\a.afN.c9=c/\a.val=f
section
variable{e j:I}{h:E bA}{a:bp}{c:N}
theorem bX.bI(b:bX a g B D):hb a g B D:=by obtain⟨c,e,f,h,i⟩:=b.row;exact⟨b.aew,c,e,f,h⟩
theorem hb.is(b:hb a g B D):a.is g B:=by obtain⟨c,b,e,f⟩:=b.row;exact⟨c,b,e⟩
theorem hb.lt(b:hb a g B D):g<a.h.length:=by obtain⟨c,b,e⟩:=b.row;exact(d6.mp b).1
theorem hb.val(b:hb a g D B):a.h[g]?.map dr.val=A B:=by obtain⟨e,b,f,c⟩:=b.row;rw[b,<-c];rfl
theorem hb.up(b:hb a g B D)(e:a.ic ge T):hb T g B D:=by obtain⟨c,f,h⟩:=b.row;exact⟨b.aew,c,d4 e.h f,h⟩
theorem bX.is(b:bX a g B D):a.is g B:=b.bI.is
theorem bX.val(b:bX a g D B):a.h[g]?.map dr.val=A B:=b.bI.val
theorem bX.up(b:bX a g B D)(e:a.ic ge T):bX T g B D:=by obtain⟨c,f,h⟩:=b.row;exact⟨b.aew,c,d4 e.h f,h⟩
theorem Th:∀b:E I,(b.map C).all (fD 5)=J:=by
 intro a
 induction a with
 |nil=>
  exact G
 |cons e b c=>
  exact c
theorem EN:∀b:E I,ci (b.map C)=b.map C:=by
 intro a
 induction a with
 |nil=>
  exact G
 |cons c b e=>
  exact bj (C c::·) (e)
theorem yb(f:ca e j h a c)(k:∀g∈b.args,g≠0/\g<a.h.length)(n:b.args.length<=3)(r:j4 b.dg=J)(s:fD 6 b.data=J)(t:dC b.data=b.data)
 (u:a.a[b.c9]?=A l) (v:b.args.map (λg=>a.h[g]?.map dr.val)=m.map A) (W:bs e h b l m o) (w:nM a b o) (x:mC a b) (y:a.h.length+1<400):
 aA (gi (λi p q=>fL (aX J 37 [.ref (e+1),.str b.dg,.ab (b.args.map C),C b.c9,b.data] c (C i) q) (dc e j h 1 a c p q) (i≠0) (p.h[i]?=A ⟨b,o⟩))):=
 TY f (λB z=>z k n (by
  show(j4 b.dg&&((b.args.map C).all (fD 5)&&(J&&(fD 6 b.data&&J))))=J;rw[r,Th,s];rfl) (by
  show L.str b.dg::L.ab (ci (b.args.map C))::C b.c9::dC b.data::[]=_;rw[EN,t];rfl) ⟨l,m,u,v,W⟩ w x) y
inductive kh(a:bp):E I->E L->Prop
 |nil:kh a [] []
 |cons {b g:I} {c:L} {e:E I} {f:E L} (h:hb a b g c) (i:kh a e f):kh a (b::e) (c::f)
theorem kh.lt(e:kh a g B):∀b∈g,b≠0/\b<a.h.length:=by
 induction e with
 |nil=>intro b c;cases c
 |cons e h f=>intro b c;cases c with
  |head=>exact⟨e.aew,e.lt⟩
  |tail h c=>exact f b c
theorem kh.val(b:kh a g B):g.map (λD=>a.h[D]?.map dr.val)=B.map A:=by
 induction b with
 |nil=>rfl
 |cons b e c=>rw[qv,qv,b.val,c]
noncomputable def EW(a:eg):ah:=j4 (bi a)&&(decide (bi a≠bi "num")&&decide (bi a≠h1))
noncomputable def oe(a:eg):ah:=EW a&&decide (bi a≠bi "not")
def L4(e j:I)(h:E bA)(i:I)(a:bp)(c:N)(k:I)(l:E L)(m:I)(n:L)(o:Prop):Prop:=∀b:I,∀f:bp,∀g:N,aX J k l c (C b) g->dc e j h i a c f g->bX f b m n->o
def ei(e j:I)(h:E bA)(b:I)(a:bp)(c:N)(f:I)(g:E L)(i:I)(k:L):Prop:=aA (L4 e j h b a c f g i k)
theorem ei.fm(f:ei e j h B a c D T ge gt)(i:∀b g,aX J D T c (C b) g->aX J kw le c (C b) g):ei e j h B a c kw le ge gt:=by
 exact f _ λb k g l m f=>λo n=>n b k g (i b g l) m f
theorem Ep(n:ca e j h a c)(m:kh a g q)(r:Jq g.length 3=J)(f:EW l=J)(s:nM a (ea l g i b) o)(t:fD 6 b=J)(u:dC b=b)
 (v:a.a[i]?=A w) (W:bs e h (ea l g i b) w q o) (x:a.h.length+1<400):
 ei e j h 1 a c 37 [.ref (e+1),.str (bi l),.ab (g.map C),C i,b] i o:=by
 have f:=e7.mp f;have p:=e7.mp f.2;refine yb n (b:=ea l g i b) m.lt (ap r) f.1 t u v m.val W s (λy=>bC y (dE p.2)) x _ λz B D k=>k _ λE F H I=>?_;clear k;exactλL K=>K z B D E F ⟨H,⟨_,⟨I,⟨G,⟨G,dE p.1⟩⟩⟩⟩⟩
theorem fg(f:ca e j h a c)(k:kh a i o)(n:Jq i.length 3=J)(b:oe m=J)(p:fD 6 g=J)(q:dC g=g)
 (r:a.a[l]?=A s) (W:bs e h (ea m i l g) s o t) (u:a.h.length+1<400):
 ei e j h 1 a c 37 [.ref (e+1),.str (bi m),.ab (i.map C),C l,g] l t:=
 have b:=e7.mp b
 Ep f k n b.1 (λv=>bC v (dE b.2)) p q r W u
theorem ca.cT(i:ca e j h a c)(f:b<4):a.a[b]?=A 0:=by
 have g:(a.a.take 4)[b]?=A 0:=by
  rw[i.s.aeV];exact@dk (λb=>(_:E I)[b]?=A 0) _ G (dk G (dk G (jK G))) b f
 rw[Ai f]at g;exact g
theorem vB(b:bn e a c){g h i j:I}{l:I}(m:a.is h g)(n:a.is i g)(o:a.is j g)(f:c[l]?=A (.list [C h,C i,C j]))(k:L):aX J 75 [.ref (e+1),.ref l,C g,k] c .none c:=
 az [.go,.af8 ([C h,C i,C j],[A (l,.list [C h,C i,C j])],c),.aa .none,.aa .none,.aa .none]
  (H (gx f G)<|H (de f)<|H b.a2<|H (fT b m k J)<|H (de f)<|H b.a2<|H (fT b n k J)<|H (de f)<|H b.a2<|H (fT b o k J)<|H (de f)<|aj .none c) (by kernel_rfl)
theorem zp(b:bn e a c)(h:a.is i g)(j:a.is l g)(f:L):aX J 75 [.ref (e+1),.ab [C i,C l],C g,f] c .none c:=
 az [.go,.go,.aa .none,.aa .none] (H b.a2<|H (fT b h f J)<|H b.a2<|H (fT b j f J)<|aj .none c)
theorem t7(a b:L):a_ a b=a_ b a:=@lH _ _ (L.fV _ _) (L.fV _ _)|>.mpr ⟨ni,ni⟩
theorem gR{b:I}{a:E L}(e:c[b]?=A (.list a))(f:bV a.length=J):eW c .tuple [.ref b]=A (.ab a,c):=by
 show(ds c b).bind (λa=>a4 (bV a.length) (A (L.ab a,c)))=_;rw[hk e,cJ,bH f]
section
variable(b:ca e j h a c)(n:a.h.length+1<400){f g k s:I}{i q l:ah}
include b n
theorem abL(l:bX a f 0 (.bool i))(m:bX a g 0 (.bool q)):ei e j h 1 a c 46 [.ref (e+1),C f,C g] 0 (.bool (!a_ (.bool i) (.bool q))):=by
 exact(fg b (.cons l.bI (.cons m.bI .nil)) G (by kernel_rfl) G rfl (b.cT (ap G)) (abr f g i q) n).fm λk o p=>az [.aa .none,.w (C k) o] (H b.an.a2<|H (zp b.an l.is m.is (a5 "xor"))<|H b.an.a2<|H p<|aj (C k) o)
theorem SD(l:bX a f 0 (.bool i))(m:bX a g 0 (.bool q)):ei e j h 1 a c 47 [.ref (e+1),C f,C g] 0 (.bool (!i||q)):=by
 exact(fg b (.cons l.bI (.cons m.bI .nil)) G (by kernel_rfl) G rfl (b.cT (ap G)) (abe f g i q) n).fm λk o p=>az [.aa .none,.w (C k) o] (H b.an.a2<|H (zp b.an l.is m.is (a5 "=>"))<|H b.an.a2<|H p<|aj (C k) o)
theorem MQ(o:bX a f 0 (.bool i))(p:bX a g 0 (.bool q))(r:bX a k 0 (.bool l))(m:c[s]?=A (.list [C f,C g,C k])):ei e j h 1 a c 44 [.ref (e+1),.ref s] 0 (.bool (i&&(q&&(l&&J)))):=by
 exact(fg b (.cons o.bI (.cons p.bI (.cons r.bI .nil))) G (by kernel_rfl) G rfl (b.cT (ap G)) (aaP f g k i q l) n).fm λt u v=>az [.aa .none,.aa (C 3),.go,.aa (C 3),.go,.aa (.ab [C f,C g,C k]),.w (C t) u] (H b.an.a2<|H (vB b.an o.is p.is r.is m (a5 "and"))<|H (fb m (by show 3<400;decide))<|H (fb m (by show 3<400;decide))<|H b.an.a2<|H (gR m G)<|H v<|aj (C t) u)
theorem XR(o:bX a f 0 (.bool i))(p:bX a g 0 (.bool q))(r:bX a k 0 (.bool l))(m:c[s]?=A (.list [C f,C g,C k])):ei e j h 1 a c 45 [.ref (e+1),.ref s] 0 (.bool (i||(q||(l||d)))):=by
 exact(fg b (.cons o.bI (.cons p.bI (.cons r.bI .nil))) G (by kernel_rfl) G rfl (b.cT (ap G)) (abk f g k i q l) n).fm λt u v=>az [.aa .none,.aa (C 3),.go,.aa (C 3),.go,.aa (.ab [C f,C g,C k]),.w (C t) u] (H b.an.a2<|H (vB b.an o.is p.is r.is m (a5 "or"))<|H (fb m (by show 3<400;decide))<|H (fb m (by show 3<400;decide))<|H b.an.a2<|H (gR m G)<|H v<|aj (C t) u)
variable{m t:I}{o p r:L}
theorem D2(v:a.a[m]?=A t)(q:bX a f 0 (.bool i))(l:bX a g m o)(r:bX a k m p):ei e j h 1 a c 49 [.ref (e+1),C f,C g,C k] m (if i then o else p):=by
 exact(fg b (.cons q.bI (.cons l.bI (.cons r.bI .nil))) G (by kernel_rfl) G rfl v (abf f g k i) n).fm λs u w=>az [.aa .none,.aa (.ref (e+9)),.aa (C m),.aa .none,.aa (.ref (e+9)),.aa (C m),.w (C s) u] (H b.an.a2<|H (fT b.an q.is (a5 "ite") J)<|H b.an.a2<|H (b.an.br 12 rfl)<|H (b.an.is l.is)<|H (fT b.an r.is (a5 "ite") J)<|H b.an.a2<|H (b.an.br 12 rfl)<|H (b.an.is l.is)<|H w<|aj (C s) u)
theorem OQ(l:bX a f m o)(q:bX a g m p)(t:bX a k m r)(w:bk 8 o=J)(x:bk 8 p=J)(y:bk 8 r=J)(i:c[s]?=A (.list [C f,C g,C k])):ei e j h 1 a c 62 [.ref (e+1),.ref s] 0 (ri [o,p,r]):=by
 exact(fg b (.cons l.bI (.cons q.bI (.cons t.bI .nil))) G (by kernel_rfl) G rfl (b.cT (ap G)) (abb (r:=[f,g,k]) (by show(bk 8 o&&(bk 8 p&&(bk 8 r&&J)))=J;rw[w,x,y];rfl) (by show 3<400;decide)) n).fm λu v z=>az [.aa (C 3),.go,.aa (.ref (e+9)),.aa (C f),.aa (C m),.aa .none,.aa (.ab [C f,C g,C k]),.w (C u) v] (H (fb i (by show 3<400;decide))<|H b.an.a2<|H (b.an.br 12 rfl)<|H (cH i 0 rfl rfl)<|H (b.an.is l.is)<|H (vB b.an l.is q.is t.is i (a5 "distinct"))<|H b.an.a2<|H (gR i G)<|H z<|aj (C u) v)
theorem Dy(s:bX a f m o)(t:bX a g m p)(z:bk 8 o=J)(B:bk 8 p=J):ei e j h 1 a c 61 [.ref (e+1),C f,C g] 0 (.bool (a_ o p)):=by
 have v {P:Prop} (i:P):=H b.an.a2<|H (b.an.br 12 rfl)<|H (b.an.is s.is)<|H (fT b.an t.is (a5 "=") J) i;by_cases w:f=g
 .subst w;obtain rfl:o=p:=aG (s.val.symm.trans t.val);rw[mW];exactλF E=>E 1 a c (az [.aa (.ref (e+9)),.aa (C m),.aa .none,.b J,.aa (.int 1)] (v<|H (rv c f)<|H (b.an.br 15 rfl)<|aj (C 1) c)) ⟨b,⟨b_ _,b_ _,G,G,fo _,fo _⟩,.refl⟩ ⟨by decide,⟨_,⟨b.s.aeU,⟨G,⟨G,by decide⟩⟩⟩⟩⟩
 .have D:bY c .eq (C f) (C g)=A d:=km c λk=>w (fn k);by_cases u:g<f
  .have x:eW c .min [C f,C g]=A (C g,c):=bj (λl=>A (L.int l,c)) (cd (eU.mpr u));have y:eW c .max [C f,C g]=A (C f,c):=bj (λl=>A (L.int l,c)) (bZ (λk=>I.lt_asymm u (eU.mp k)));rw[t7];exact(fg b (.cons t.bI (.cons s.bI .nil)) G (by kernel_rfl) G rfl (b.cT (ap G)) (Hc g f B z) n).fm λq r k=>az [.aa (.ref (e+9)),.aa (C m),.aa .none,.b d,.aa (C g),.aa (C f),.w (C q) r] (v<|H D<|H b.an.a2<|H x<|H y<|H k<|aj (C q) r)
  .have x:eW c .min [C f,C g]=A (C f,c):=bj (λl=>A (L.int l,c)) (bZ (λk=>u (eU.mp k)));have y:eW c .max [C f,C g]=A (C g,c):=bj (λl=>A (L.int l,c)) (cd (eU.mpr (JC (hv.mp u) w)));exact(fg b (.cons s.bI (.cons t.bI .nil)) G (by kernel_rfl) G rfl (b.cT (ap G)) (Hc f g z B) n).fm λq r k=>az [.aa (.ref (e+9)),.aa (C m),.aa .none,.b d,.aa (C f),.aa (C g),.w (C q) r] (v<|H D<|H b.an.a2<|H x<|H y<|H k<|aj (C q) r)
theorem SA(i:bX a f 0 o)(l:bX a g 0 p)(q:bk 8 o=J)(r:bk 8 p=J):ei e j h 1 a c 48 [.ref (e+1),C f,C g] 0 (.bool (a_ o p)):=by
 exact(Dy b n i l q r).fm λk m s=>az [.aa .none,.w (C k) m] (H b.an.a2<|H (zp b.an i.is l.is (a5 "="))<|H b.an.a2<|H s<|aj (C k) m)
omit b n in
theorem sf(c:N)(b:j4 u=J)(e:j4 v=J)(a:decide (u=v)=w):bY c .eq (.str u) (.str v)=A w:=by
 exact(px c (g:=.str u) (h:=.str v) b e).symm▸a▸(bj A (@lH _ _ (L.fV _ _) _|>.mpr ⟨λa=>L.str.inj a,λa=>bj L.str a⟩))
omit n in
theorem bX.strOk{c:I}{l:dr}(e:c≠0)(f:a.h[c]?=A l):j4 l.afN.dg=J:=
 (e7.mp (b.s.row c l e f).key).1
theorem Ux(m:bX a f 0 (.bool i)):ei e j h 1 a c 43 [.ref (e+1),C f] 0 (.bool (!i)):=by
 obtain⟨l,g,z,p,B⟩:=m.row;have v:=bX.strOk b m.aew g;have r:a.ic 1 a:=⟨b_ _,b_ _,G,G,fo _,fo _⟩;have q {P:Prop} (i:P):=H b.an.a2<|H (fT b.an m.is (a5 "not") J)<|H (b.an.br 10 rfl)<|H (b.an.dg g) i;by_cases t:l.afN.dg=bi "not"
 .obtain⟨s,D,O,f1,f2,E,F,I,K⟩:=(b.s.row f l m.aew g).afu t;have N:=(b.s.row f l m.aew g).lt s (by rw[f1];exact .head _);have w:=b.an.arg g;rw[f1]at w;refineλQ k=>k s a c (az [.aa .none,.aa (.ref (e+7)),.aa (.str l.afN.dg),.b J,.aa (.ref (e+8)),.aa (.ab [C s])] (q<|H (sf c v (by kernel_rfl) (cg t))<|H (b.an.br 11 rfl)<|H w<|aj (C s) c)) ⟨b,r,.refl⟩ ⟨N.1,⟨D,⟨f2,⟨E,⟨?_,I⟩⟩⟩⟩⟩;rw[F,L.bool.inj (p.symm.trans K),ah.not_not]
 .have u:=sf c v (v:=bi "not") (by kernel_rfl) (dU t);by_cases g1:f=1
  .subst g1;have:i=J:=L.bool.inj (p.symm.trans (by rw[aG (g.symm.trans b.s.aeU)]));subst this;exactλQ k=>k 2 a c (az [.aa .none,.aa (.ref (e+7)),.aa (.str l.afN.dg),.b d,.aa (.int 1),.go,.aa (.int 2)] (q<|H u<|H (b.an.br 15 rfl)<|H (b.an.br 16 rfl)<|aj (C 2) c)) ⟨b,r,.refl⟩ ⟨by decide,⟨_,⟨b.s.ae0,⟨G,⟨G,by decide⟩⟩⟩⟩⟩
  .by_cases g2:f=2
   .subst g2;have:i=d:=L.bool.inj (p.symm.trans (by rw[aG (g.symm.trans b.s.ae0)]));subst this;exactλQ k=>k 1 a c (az [.aa .none,.aa (.ref (e+7)),.aa (.str l.afN.dg),.b d,.aa (.int 1),.go,.aa (.int 2),.go,.aa (.int 1)] (q<|H u<|H (b.an.br 15 rfl)<|H (b.an.br 16 rfl)<|H (b.an.br 15 rfl)<|aj (C 1) c)) ⟨b,r,.refl⟩ ⟨by decide,⟨_,⟨b.s.aeU,⟨G,⟨G,by decide⟩⟩⟩⟩⟩
   .exact(Ep b (.cons m.bI .nil) G (by kernel_rfl) (λQ=>⟨f,l,i,G,g,z,p,B,G⟩) G rfl (b.cT (ap G)) (abi f i) n).fm λx y o=>az [.aa .none,.aa (.ref (e+7)),.aa (.str l.afN.dg),.b d,.aa (.int 1),.b d,.aa (.int 2),.b d,.w (C x) y] (q<|H u<|H (b.an.br 15 rfl)<|H (km c (a:=f) (b:=1) λo=>g1 (fn o))<|H (b.an.br 16 rfl)<|H (km c (a:=f) (b:=2) λo=>g2 (fn o))<|H b.an.a2<|H o<|aj (C x) y)
end
end
end
section
section
variable{c l:I}{Ty:E bA}{f:bp}{e:N}(a:ca c l Ty f e)(j:f.h.length+1<400){g k o n b:I}{h i p:ew}
theorem rE(a:b=1\/b=2)(h:bn c f e)(g:ah:=J):aX g 77 [.ref (c+1),C b] e (.bool J) e:=by
 rcases a with rfl|rfl<;>exact az [] (aj (.bool J) e)
theorem ov(h:b=1\/b=2)(a:bn c f e)(i:f.is g b)(j:L):aX J 76 [.ref (c+1),C g,j] e .none e:=
 az [.aa (.ref (c+9)),.aa (C b),.aa (.bool J)] (H a.a2<|H (a.br 12 rfl)<|H (a.is i)<|H (rE h a)<|aj .none e)
include a j
theorem TP(q:b=1\/b=2)(m:bX f g b (aD h))(o:bX f k b (aD i))(r:cO h)(s:cO i):ei c l Ty 1 f e 58 [.ref (c+1),C g,C k] 0 (.bool (gM h i)):=by
 exact(fg a (.cons m.bI (.cons o.bI .nil)) G (by kernel_rfl) G rfl (a.cT (ap G)) (abh g k r s) j).fm λn p t=>az [.aa .none,.aa (.ref (c+9)),.aa (C b),.aa .none,.w (C n) p] (H a.an.a2<|H (ov q a.an m.is (a5 "<"))<|H a.an.a2<|H (a.an.br 12 rfl)<|H (a.an.is m.is)<|H (fT a.an o.is (a5 "<") J)<|H a.an.a2<|H t<|aj (C n) p)
theorem Tw(q:b=1\/b=2)(m:bX f g b (aD h))(o:bX f k b (aD i))(r:cO h)(s:cO i):ei c l Ty 1 f e 56 [.ref (c+1),C g,C k] 0 (.bool (!gM i h)):=by
 exact(fg a (.cons m.bI (.cons o.bI .nil)) G (by kernel_rfl) G rfl (a.cT (ap G)) (abg g k r s) j).fm λn p t=>az [.aa .none,.aa (.ref (c+9)),.aa (C b),.aa .none,.w (C n) p] (H a.an.a2<|H (ov q a.an m.is (a5 "<="))<|H a.an.a2<|H (a.an.br 12 rfl)<|H (a.an.is m.is)<|H (fT a.an o.is (a5 "<=") J)<|H a.an.a2<|H t<|aj (C n) p)
structure tw(f:bp)(a b:I)(h:ew):Prop where
 aew:a≠0
 row:∃m,f.h[a]?=A m/\m.afN=ea "num" [] b (aD h)/\m.val=aD h
omit a j in
theorem tw.bI(a:tw f B b h):hb f B b (aD h):=by obtain⟨c,e,g,i⟩:=a.row;exact⟨a.aew,c,e,by rw[g];rfl,i⟩
theorem yj(n:b=1\/b=2)(p:b=1->h.2=1):aA (gi (λm r q=>e1 (aX J 51 [.ref (c+1),aD h,C b] e (C m) q) (dc c l Ty 1 f e r q) (tw r m b h))):=by
 refine yb a (b:=ea "num" [] b (aD h)) (λu i=>by cases i) (fY _) (by kernel_rfl) G rfl (a.cT (by rcases n with rfl|rfl<;>decide):f.a[b]?=A 0) (m:=[]) rfl (abj (o:=aD h)) (λg=>bC g (by show bi "num"≠bi "not";decide)) (λg=>bC g (by show bi "num"≠h1;decide)) j _ λm r q o=>?_;refine o _ λg s t i=>?_;clear o;refineλv k=>k m r q (λv k=>k ?_ s ⟨t,⟨_,⟨i,⟨G,G⟩⟩⟩⟩);rcases n with rfl|rfl
 .exact az [.aa (.bool J),.go,.go,.go,.b J,.w (C m) q] (H a.an.a2<|H (rE (.inl rfl) a.an)<|H (by rw[p G];exact rv e 1:bY e .eq (.int h.2) (.int 1)=A J)<|H a.an.a2<|H g<|aj (C m) q)
 .exact az [.aa (.bool J),.go,.w (C m) q] (H a.an.a2<|H (rE (.inr rfl) a.an)<|H a.an.a2<|H g<|aj (C m) q)
omit j in
theorem vv(j:f.h.length+2<400)(k:b=1\/b=2)(w:b=1->i.2=1)(m:bX f g b (aD h))(x:cO i)(y:cO h):ei c l Ty 2 f e 54 [.ref (c+1),aD i,C g] b (if a_ (aD i) (aD (1,1))then aD h else aD (es i h)):=by
 obtain⟨r,s,L,N,z⟩:=m.row;have t {P:Prop} (B:P):=H a.an.a2<|H (ov k a.an m.is (a5 "*"))<|H (a.an.br 12 rfl)<|H (a.an.is m.is)<|H (a.an.br 10 rfl)<|H (a.an.dg s)<|H (sf e (bX.strOk a m.aew s) (v:=bi "num") (by kernel_rfl) (dU z)) B;cases u:a_ (aD i) (aD (1,1))with
 |true=>
  exactλQ n=>n g f e (az [.aa .none,.aa (.ref (c+9)),.aa (C b),.aa (.ref (c+7)),.aa (.str r.afN.dg),.b d,.b J] (t<|H ((px e (g:=aD i) (h:=aD (1,1)) G rfl).trans (bj A u):bY e .eq (aD i) (aD (1,1))=A J)<|aj (C g) e)) ⟨a,⟨b_ _,b_ _,G,G,d8 _ _,d8 _ _⟩,.refl⟩ m
 |false=>
  refine yj a (ms j) k w _ λv O D E=>E _ λf1 o K=>fg o.m (.cons K.bI (.cons (m.up o.le).bI .nil)) G (by kernel_rfl) G rfl (o.m.cT (b:=b) (by rcases k with rfl|rfl<;>decide)) (abp v g ((by rcases k with rfl|rfl<;>decide):b≠0) x y) (rT j o.le.aeE) _ λp F q f2 I ez=>?_;exactλQ n=>n p F q (az [.aa .none,.aa (.ref (c+9)),.aa (C b),.aa (.ref (c+7)),.aa (.str r.afN.dg),.b d,.b d,.w (C v) D,.w (C p) q] (t<|H ((px e (g:=aD i) (h:=aD (1,1)) G rfl).trans (bj A u):bY e .eq (aD i) (aD (1,1))=A d)<|H a.an.a2<|H a.an.a2<|H f1<|H f2<|aj (C p) q)) (o.trans I) ez
omit a j in
theorem r_(a:m.natAbs<=64):hE m:=by
 exact c0 a (sV (ap G) (ap G):2^6<2^400)
omit a j in
theorem ym(a:0<m)(b:q.natAbs<=64)(c:m.natAbs<=64):cO (q,m):=⟨a,r_ b,r_ c⟩
omit j in
theorem ED(j:f.h.length+2<400)(n:b=1\/b=2)(o:bX f g b (aD h))(p:cO h):ei c l Ty 2 f e 55 [.ref (c+1),C g] b (aD (es (-1,1) h)):=by
 have i:=vv a j n (i:=(-1,1)) (λr=>rfl) o (ym (by decide) (ap G) (ap G)) p;rw[show a_ (aD (-1,1)) (aD (1,1))=d by kernel_rfl]at i;exact(i).fm λk m q=>az [.w (C k) m] (H a.an.a2<|H q<|aj (C k) m)
omit a j in
theorem abu(a:bn c f e)(j:f.is g b)(l:f.is k b)(h:e[n]?=A (.list [C g,C k]))(i:L):aX J 75 [.ref (c+1),.ref n,C b,i] e .none e:=
 az [.go,.af8 ([C g,C k],[A (n,.list [C g,C k])],e),.aa .none,.aa .none]
  (H (gx h G)<|H (de h)<|H a.a2<|H (fT a j i J)<|H (de h)<|H a.a2<|H (fT a l i J)<|H (de h)<|aj .none e) (by kernel_rfl)
theorem Yb(r:b=1\/b=2)(q:hb f g b (aD h))(s:hb f k b (aD i))(t:hb f o b (aD p))(w:cO h)(x:cO i)(y:cO p)(z:cO (d3 h i))(m:e[n]?=A (.list [C g,C k,C o])):ei c l Ty 1 f e 50 [.ref (c+1),.ref n] b (aD (d3 (d3 h i) p)):=by
 exact(fg a (.cons q (.cons s (.cons t .nil))) G (by kernel_rfl) G rfl (a.cT (b:=b) (by rcases r with rfl|rfl<;>decide)) (abm g k o (by rcases r with rfl|rfl<;>decide) w x y z) j).fm λu v B=>az [.aa (C 3),.go,.aa (C g),.aa .none,.aa (.ref (c+9)),.aa (C g),.aa (C b),.aa .none,.aa (C 3),.go,.aa (.ab [C g,C k,C o]),.aa (.ref (c+9)),.aa (C g),.aa (C b),.w (C u) v]
  (H (fb m (by show 3<400;decide))<|H a.an.a2<|H (cH m 0 rfl rfl)<|H (ov r a.an q.is (a5 "+"))<|H a.an.a2<|H (a.an.br 12 rfl)<|H (cH m 0 rfl rfl)<|H (a.an.is q.is)<|H (vB a.an q.is s.is t.is m (a5 "+"))<|
   H (fb m (by show 3<400;decide))<|H a.an.a2<|H (gR m G)<|H (a.an.br 12 rfl)<|H (cH m 0 rfl rfl)<|H (a.an.is q.is)<|H B<|aj (C u) v) (by kernel_rfl)
theorem Ya(p:b=1\/b=2)(o:hb f g b (aD h))(q:hb f k b (aD i))(t:cO h)(u:cO i)(m:e[n]?=A (.list [C g,C k])):ei c l Ty 1 f e 50 [.ref (c+1),.ref n] b (aD (d3 h i)):=by
 exact(fg a (.cons o (.cons q .nil)) G (by kernel_rfl) G rfl (a.cT (b:=b) (by rcases p with rfl|rfl<;>decide)) (abl g k (by rcases p with rfl|rfl<;>decide) t u) j).fm λr s v=>az [.aa (C 2),.go,.aa (C g),.aa .none,.aa (.ref (c+9)),.aa (C g),.aa (C b),.aa .none,.aa (C 2),.go,.aa (.ab [C g,C k]),.aa (.ref (c+9)),.aa (C g),.aa (C b),.w (C r) s]
  (H (fb m (by show 2<400;decide))<|H a.an.a2<|H (cH m 0 rfl rfl)<|H (ov p a.an o.is (a5 "+"))<|H a.an.a2<|H (a.an.br 12 rfl)<|H (cH m 0 rfl rfl)<|H (a.an.is o.is)<|H (abu a.an o.is q.is m (a5 "+"))<|
   H (fb m (by show 2<400;decide))<|H a.an.a2<|H (gR m G)<|H (a.an.br 12 rfl)<|H (cH m 0 rfl rfl)<|H (a.an.is o.is)<|H v<|aj (C r) s) (by kernel_rfl)
omit a j in
theorem bn.more(b:bn c f e)(a:aO):bn c f (e++[a]):=b.c7 [a]
omit a j in
theorem ca.more(a:ca c l Ty f e)(b:aO):ca c l Ty f (e++[b]):=⟨a.an.c7 _,a.v.c7 _,a.s,a.aet,bG a.l (by rw[bJ];exact d8 _ _),a.aev⟩
omit a j in
theorem hV.more(a:l<=e.length)(b:aO):hV c l e (e++[b]):=⟨by rw[bJ];exact d8 _ _,λn f g=>eK (dz f a)⟩
omit j in
theorem T7(j:f.h.length+3<400)(p:b=1\/b=2)(q:bX f g b (aD h))(t:bX f k b (aD i))(w:cO h)(x:cO i)(y:cO (es (-1,1) i)):ei c l Ty 3 f e 53 [.ref (c+1),C g,C k] b (aD (d3 h (es (-1,1) i))):=by
 refine ED a (ms j) p t x _ λn u o f1 m z=>?_;have v:=m.m.more (.list [C g,C n]);exact Ya v (VT j m.le.aeE) p (q.up m.le).bI z.bI w y (cc o (.list [C g,C n])) _ λr B s f2 D ez=>λF E=>E r B s (az [.aa .none,.aa (.ref (c+9)),.aa (C b),.aa .none,.w (C n) o,.w (C r) s] (H a.an.a2<|H (ov p a.an q.is (a5 "-"))<|H a.an.a2<|H (a.an.br 12 rfl)<|H (a.an.is q.is)<|H (fT a.an t.is (a5 "-") J)<|H a.an.a2<|H a.an.a2<|H f1<|H f2<|aj (C r) s)) ((m.trans (⟨v,.refl _,.more m.m.l _⟩:dc c l Ty 0 u o u (o++[.list [C g,C n]]))).trans D) ez
omit a j in
theorem aab(e:N):aX J 80 [aD (1,1),aD (3,2)] e (aD (2,3)) e:=
 az (aT 8 [.aa (aD (2,3))]) (H (show aX J 107 [.int 2,.int 3] e (aD (2,3)) e from(show fv 2 3=aD (2,3) by kernel_rfl)▸yS e 2 (b:=3) (by decide) (ap G))<|aj (aD (2,3)) e)
omit j in
theorem XU(j:f.h.length+2<400)(i:bX f g 2 (aD h))(o:cO h):ei c l Ty 2 f e 59 [.ref (c+1),C g,aD (3,2)] 2 (aD (es (2,3) h)):=by
 have k:=vv a j (.inr rfl) (i:=(2,3)) (λb=>by cases b) i (ym (by decide) (ap G) (ap G)) o;rw[show a_ (aD (2,3)) (aD (1,1))=d by kernel_rfl]at k;exact(k).fm λm n b=>az [.aa .none,.go,.go,.aa (aD (2,3)),.w (C m) n] (H a.an.a2<|H (fT a.an i.is (a5 "/") J)<|H a.an.a2<|H (aab e)<|H b<|aj (C m) n)
omit j in
theorem aac(j:f.h.length+2<400)(n:b=1\/b=2)(u:b=1->i.2=1)(m:tw f k b i)(o:bX f g b (aD h))(v:cO i)(w:cO h):ei c l Ty 2 f e 60 [.ref (c+1),C k,C g] b (if a_ (aD i) (aD (1,1))then aD h else aD (es i h)):=by
 refine as λE x=>?_;obtain⟨B,p,y,D⟩:=m.row;refine x ?_;have q:=a.an.dg p;have r:=a.an.data p;rw[y]at q r;exact(vv a j n u o v w).fm λs t z=>az [.aa .none,.aa (.ref (c+9)),.aa (C b),.aa .none,.aa (.ref (c+7)),.aa (a5 "num"),.go,.aa (.ref (c+10)),.aa (aD i),.w (C s) t] (H a.an.a2<|H (ov n a.an m.bI.is (a5 "*"))<|H a.an.a2<|H (a.an.br 12 rfl)<|H (a.an.is m.bI.is)<|H (fT a.an o.is (a5 "*") J)<|H (a.an.br 10 rfl)<|H q<|H a.an.a2<|H (a.an.br 13 rfl)<|H r<|H z<|aj (C s) t)
end
end
section
section
variable{e m:I}{k:E bA}{g:bp}{c:N}(a:ca e m k g c)(l:g.h.length+1<400){h j q f b:I}{i n:I}{o:ah}
noncomputable def mM(e f b:I)(a:E a7):E a7:=.go::.aa (.ref (e+3))::.aa (.ref (e+9))::.aa (C f)::.aa (C b)::a
theorem mN(a:bn e g c)(h:g.is p f)(i:g.a[f]?=A b)(j:P):fi c (.ref (e+1)) 0=J/\e4 c (.ref (e+1)) 5=A (.ref (e+3))/\e4 c (.ref (e+1)) 12=A (.ref (e+9))/\ck c (.ref (e+9)) (C p)=A (C f)/\ck c (.ref (e+3)) (C f)=A (C b)/\P:=
 ⟨a.a2,a.br 5 rfl,a.br 12 rfl,a.is h,a.w i,j⟩
theorem jT(a:bn e g c)(i:g.is h f)(j:g.a[f]?=A b)(k:0<b)(l:L):aX J 81 [.ref (e+1),C h,l] c .none c:=
 az (mM e f b [.b d]) (mN a i j<|H (ob c (fK k))<|aj .none c)
include a l
theorem Nr(j:g.a[f]?=A b)(q:bX g h f (aW i b))(n:p<b)(t:∀c,aX J 103 [C i,C p] c (.bool o) c):ei e m k 1 g c 91 [.ref (e+1),C p,C h] 0 (.bool o):=by
 exact(fg a (.cons q.bI .nil) G (by kernel_rfl) (g:=C p) G rfl (a.cT (ap G)) (aaT h t) l).fm λr s u=>az (.aa .none::.b J::mM e f b [.b J,.w (C r) s]) (H a.an.a2<|H (jT a.an q.is j (c0 (fY _) n) (a5 "bit"))<|H (bj A (cg (hP p)):bY c .le (.int 0) (C p)=A J)<|mN a.an q.is j<|H (bj A (cg (eU.mpr n)):bY c .lt (C p) (C b)=A J)<|H a.an.a2<|H u<|aj (C r) s)
omit a l in
theorem Hd(a:bn e g c)(i:g.is h f)(j:g.a[f]?=A b)(k:p<=b)(l:L):aX J 108 [.ref (e+1),C p,C h,l] c .none c:=
 az (.b J::mM e f b [.b J]) (H (bj A (cg (hP p)):bY c .le (.int 0) (C p)=A J)<|mN a i j<|H (bj A (cg (gW.mpr k)):bY c .le (C p) (C b)=A J)<|aj .none c)
theorem NY(q:g.a[f]?=A b)(v:0<b)(p:bX g h f (aW i b))(s:bX g j f (aW n b))(w:r<=b)(x:∀c,aX J 104 [C i,C n,C r,.int 0] c (.bool o) c):ei e m k 1 g c 92 [.ref (e+1),C r,C h,C j] 0 (.bool o):=by
 exact(fg a (.cons p.bI (.cons s.bI .nil)) G (by kernel_rfl) (g:=C r) G rfl (a.cT (ap G)) (aa_ h j x) l).fm λt u y=>az [.aa .none,.aa (.ref (e+9)),.aa (C f),.aa .none,.aa .none,.w (C t) u] (H a.an.a2<|H (jT a.an p.is q v (a5 "carry"))<|H a.an.a2<|H (a.an.br 12 rfl)<|H (a.an.is p.is)<|H (fT a.an s.is (a5 "carry") J)<|H a.an.a2<|H (Hd a.an p.is q w (a5 "carry"))<|H a.an.a2<|H y<|aj (C t) u)
theorem Nd(q:g.a[f]?=A b)(v:0<b)(p:bX g h f (aW i b))(s:bX g j f (aW n b))(w:r<=b)(x:∀c,aX J 105 [C i,C n,C r] c (.bool o) c):ei e m k 1 g c 93 [.ref (e+1),C r,C h,C j] 0 (.bool o):=by
 exact(fg a (.cons p.bI (.cons s.bI .nil)) G (by kernel_rfl) (g:=C r) G rfl (a.cT (ap G)) (aaS h j x) l).fm λt u y=>az [.aa .none,.aa (.ref (e+9)),.aa (C f),.aa .none,.aa .none,.w (C t) u] (H a.an.a2<|H (jT a.an p.is q v (a5 "below"))<|H a.an.a2<|H (a.an.br 12 rfl)<|H (a.an.is p.is)<|H (fT a.an s.is (a5 "below") J)<|H a.an.a2<|H (Hd a.an p.is q w (a5 "below"))<|H a.an.a2<|H y<|aj (C t) u)
variable{p:O}
theorem NM(j:g.a[f]?=A b)(n:0<b)(o:bX g h f (aW i b))(s:∀c,aX J 99 [a5 "bvnot",C i,C b] c (.int p) c):ei e m k 1 g c 87 [.ref (e+1),a5 "bvnot",C h] f (aW p b):=by
 exact(fg a (.cons o.bI .nil) G (by kernel_rfl) G rfl j (aaZ h n s) l).fm λq r t=>az [.aa .none,.go,.aa (.ref (e+9)),.aa (C f),.w (C q) r] (H a.an.a2<|H (jT a.an o.is j n (a5 "bvnot"))<|H a.an.a2<|H (a.an.br 12 rfl)<|H (a.an.is o.is)<|H t<|aj (C q) r)
theorem NL(j:g.a[f]?=A b)(n:0<b)(o:bX g h f (aW i b))(s:∀c,aX J 99 [a5 "bvneg",C i,C b] c (.int p) c):ei e m k 1 g c 87 [.ref (e+1),a5 "bvneg",C h] f (aW p b):=by
 exact(fg a (.cons o.bI .nil) G (by kernel_rfl) G rfl j (aaY h n s) l).fm λq r t=>az [.aa .none,.go,.go,.aa (.ref (e+9)),.aa (C f),.w (C q) r] (H a.an.a2<|H (jT a.an o.is j n (a5 "bvneg"))<|H a.an.a2<|H (a.an.br 12 rfl)<|H (a.an.is o.is)<|H t<|aj (C q) r)
theorem aaA(v:oe r=J)(w:i5 [] (a5 r) (.ab (i8.map a5))=A J)(q:g.a[f]?=A b)(x:0<b)(o:bX g h f (aW i b))(s:bX g j f (aW n b))
 (W:bs e k (ea r [h,j] f (.int 0)) b [aW i b,aW n b] (aW p b)):ei e m k 1 g c 63 [.ref (e+1),a5 r,C h,C j] f (aW p b):=by
 exact(fg a (.cons o.bI (.cons s.bI .nil)) G v G rfl q W l).fm λt u y=>az [.aa .none,.aa (.ref (e+9)),.aa (C f),.aa .none,.b J,.aa (.ref (e+9)),.aa (C f),.w (C t) u] (H a.an.a2<|H (jT a.an o.is q x (a5 r))<|H a.an.a2<|H (a.an.br 12 rfl)<|H (a.an.is o.is)<|H (fT a.an s.is (a5 r) J)<|H (w:bY c .agf (a5 r) (.ab (i8.map a5))=A J)<|H a.an.a2<|H (a.an.br 12 rfl)<|H (a.an.is o.is)<|H y<|aj (C t) u)
theorem M5(u:oe r=J)(v:i5 [] (a5 r) (.ab (i8.map a5))=A d)(w:i5 [] (a5 r) (.ab (lT.map a5))=A J)(x:g.a[f]?=A b)(y:0<b)(p:bX g h f (aW i b))(q:bX g j f (aW n b))
 (W:bs e k (ea r [h,j] 0 (.int 0)) 0 [aW i b,aW n b] (.bool o)):ei e m k 1 g c 63 [.ref (e+1),a5 r,C h,C j] 0 (.bool o):=by
 exact(fg a (.cons p.bI (.cons q.bI .nil)) G u G rfl (a.cT (ap G)) W l).fm λs t z=>az [.aa .none,.aa (.ref (e+9)),.aa (C f),.aa .none,.b d,.b J,.w (C s) t] (H a.an.a2<|H (jT a.an p.is x y (a5 r))<|H a.an.a2<|H (a.an.br 12 rfl)<|H (a.an.is p.is)<|H (fT a.an q.is (a5 r) J)<|H (v:bY c .agf (a5 r) (.ab (i8.map a5))=A d)<|H (w:bY c .agf (a5 r) (.ab (lT.map a5))=A J)<|H a.an.a2<|H z<|aj (C s) t)
end
end
section
def NG{c:I}{e:L}:∀(g:E I)(b:I),dx c (h3 b g)=A e->∃h,g[h]?=A c/\e=C (b+h):=by
 intro j
 induction j with
 |nil=>
  intro b a;exact nomatch a
 |cons i g k=>
  intro b a;have a:jh (c:O) (((i:O),C b)::h3 (b+1) g)=A e:=a;rw[fX]at a;cases f:((c:O)==(i:O))with
  |true=>
   rw[f]at a;obtain rfl:=aG a;exact⟨0,bj A (fn (eq_of_beq f)).symm,G⟩
  |false=>
   rw[f]at a;obtain⟨h,l,m⟩:=k (b+1) a;exact⟨h+1,l,by rw[m,kJ,kK 1]⟩
def NK(c:I):∀(a:E I)(b:I),h3 b (a++[c])=h3 b a++[((c:O),C (b+a.length))]:=by
 intro e
 induction e with
 |nil=>
  intro h;exact G
 |cons g a f=>
  intro b;show _::h3 (b+1) (a++[c])=_::(h3 (b+1) a++_);rw[f,gY,kJ,kK 1]
section
variable{e f:I}{g:E bA}{b:bp}{c:N}
def TM{a:I}{c:L}:∀(h:E (O×L)),dx a h=M->dx a (h++[((a:O),c)])=A c:=by
 intro g
 induction g with
 |nil=>
  intro l;show jh (a:O) [((a:O),c)]=_;rw[fX,ny]
 |cons e h i=>
  intro b;have b:jh (a:O) (e::h)=M:=b;show jh (a:O) (e::(h++_))=_;obtain⟨j,k⟩:=e;rw[fX]at b⊢;cases f:((a:O)==j)with
  |true=>rw[f]at b;exact nomatch b
  |false=>rw[f]at b;exact i b
def t0(a:c[h]?=A (.afP i)):jE c h=A i:=by unfold jE;rw[a];rfl
def um{a:I}{e:E (O×L)}(g:c[a]?=A (.afP e))(b:I){f:ah}(h:(dx b e).isSome=f):bY c .agh (C b) (.ref a)=A (!f):=by
 show((jE c a).bind λi=>A (dx (b:O) i).isSome).map not=_;rw[t0 g,cJ,h];rfl
def ui{e:I}{a:E (O×L)}(g:c[e]?=A (.afP a))(b:I){f:L}(h:dx b a=A f):ck c (.ref e) (C b)=A f:=by
 show(c[e]?.bind λi=>match i with|.list a=>l_ a b|.afP j=>dx b j|_=>M)=_;exact g.symm▸h
def NJ(f:bn e b c){a:I}{g:L}(h:1<=a)(i:a<=4)(j:dx a (h3 4 (b.a.drop 4))=A g):aX J 4 [.ref (e+1),C a] c g c:=
 az [.b d,.b d,.aa (.ref (e+12)),.b d,.aa (.ref (e+12)),.aa g]
  (H ((x_ c a 1).trans (bj A (dU (Fa h i))))<|H ((xX c a 4096).trans (bj A (dU (Fb h i))))<|H (f.br 0 rfl)<|H (um f.aer a (f:=J) (by rw[j];rfl))<|H (f.br 0 rfl)<|H (ui f.aer a j)<|aj g c) (by kernel_rfl)
noncomputable def lV(b:bp)(c:L)(a:I):E (I×aO):=[(2,.list (b.names++[c])),(3,.list (b.a.map C++[C a])),(12,.afP (h3 4 (b.a.drop 4)++[((a:O),C b.a.length)]))]
noncomputable def jD(e:I)(b:bp)(a:L)(f:I)(c:N)(g:I):N:=oh e ((lV b a f).take g) c
def ve{e:I}{a:E (O×L)}(h:c[e]?=A (.afP a))(b:I)(i:a.length<400)(f:L)(l:dx b a=M):m8 c (.ref e) (C b) f=A (bd c e (.afP (a++[((b:O),f)]))):=by
 show(c[e]?.bind λj=>match j with|.list a=>a4 (decide (0<=(b:O)/\(b:O)<a.length)&&bV a.length) (A (bd c e (.list (a.set (b:O).toNat f))))|.afP g=>a4 (bV g.length) (A (bd c e (.afP (h8 b f g))))|_=>M)=_;refine h.symm▸?_;show a4 (bV a.length) (A (bd c e (.afP (h8 b f a))))=_;refine(bH (cD i)).symm▸?_;unfold h8;refine l.symm▸?_;rfl
def NH(b:a<=4):∃h,(lZ oN [a5 "(_ BitVec ",C a,a5 ")"]).map L.str=A h:=by
 refine kO.mp ?_
 match a,b with
 |0,_=>kernel_rfl
 |1,_=>kernel_rfl
 |2,_=>kernel_rfl
 |3,_=>kernel_rfl
 |4,_=>kernel_rfl
theorem CP:∀(a:E I)(h:I),(h3 h a).length=a.length
 |[],_=>rfl
 |_::a,h=>bj (·+1) (CP a (h+1))
def NI(f:bn e b c)(l:1<=a)(m:a<=4)(q:(lZ oN [a5 "(_ BitVec ",C a,a5 ")"]).map L.str=A h)(k:dx a (h3 4 (b.a.drop 4))=M)(g:b.a.length+1<400):aX J 4 [.ref (e+1),C a] c (C b.a.length) (jD e b h a c 3):=by
 have i (n:I) (r:((lV b h a).take n).all (λs=>decide (2<=s.1))=J):Fl e (jD e b h a c n):=f.toFl.kF r;have o:=(cu (g:=(lV b h a).take 1) G).trans f.a;have p:=(cu (g:=(lV b h a).take 2) G).trans f.aer;have j:(b.names++[h]).length=b.a.length+1:=by rw[bJ,f.afW];rfl
 exact az [.b d,.b d,.aa (.ref (e+12)),.b J,.aa (.ref (e+2)),.aa h,.w .none (jD e b h a c 1),.aa (.ref (e+3)),.w .none (jD e b h a c 2),.aa (.ref (e+2)),.aa (C (b.a.length+1)),.aa (C b.a.length),.aa (.ref (e+12)),.afO (jD e b h a c 3),.aa (.ref (e+12)),.aa (C b.a.length)]
  (H ((x_ c a 1).trans (bj A (dU (Fa l m))))<|H ((xX c a 4096).trans (bj A (dU (Fb l m))))<|H (f.br 0 rfl)<|H (um f.aer a (f:=d) (by rw[k];rfl))<|
   H (f.br 4 rfl)<|H (gw f.names)<|H q<|H (hi f.names (by rw[f.afW];exact Fc g j) h)<|H ((i 1 rfl).br 5 rfl)<|H (gw o)<|H (hi o (by rw[bO];exact Fc g j) (C a))<|
   H ((i 2 rfl).br 4 rfl)<|H ((fb ((cu (g:=((lV b h a).take 2).drop 1) G).trans (ex f.names):(jD e b h a c 2)[e+2]?=A (.list (b.names++[h]))) (lt_of_eq_of_lt j g)).trans (by rw[j]))<|H (vs _ (gg _):c2 (jD e b h a c 2) .sub (C (b.a.length+1)) (.int 1)=A (C b.a.length,jD e b h a c 2))<|H ((i 2 rfl).br 0 rfl)<|H (ve p a (by rw[CP,qu];exact(c0 (oM _ 4) (ms g))) (C b.a.length) k)<|H ((i 3 rfl).br 0 rfl)<|H (ui (ex p:(jD e b h a c 3)[e+12]?=A (.afP (h3 4 (b.a.drop 4)++[((a:O),C b.a.length)]))) a (TM _ k))<|aj (C b.a.length) (jD e b h a c 3)) (by kernel_rfl)
noncomputable def bp.gB(b:bp)(c:L)(e:I):bp:={b with a:=b.a++[e],names:=b.names++[c]}
theorem NF(f:bn e b c)(g:4<=b.a.length)(j:b.a.length+1<400):bn e (b.gB i h) (jD e b i h c 3)where
 toFl:=f.toFl.kF G
 names:=(cu (g:=(lV b i h).drop 1) G).trans (ex f.names)
 a:=by
  show _=A (aO.list ((b.a++[h]).map C));rw[el];exact(cu (g:=(lV b i h).drop 2) G).trans (ex ((cu (g:=(lV b i h).take 1) G).trans f.a))
 cl:=(cu G).trans f.cl
 t:=(cu G).trans f.t
 cq:=(cu G).trans f.cq
 aes:=(cu G).trans f.aes
 args:=(cu G).trans f.args
 aex:=(cu G).trans f.aex
 aeu:=(cu G).trans f.aeu
 aep:=(cu G).trans f.aep
 aer:=by
  show _=A (aO.afP (h3 4 ((b.a++[h]).drop 4)));rw[Ab g,NK,qu,v9 g];exact ex ((cu (g:=(lV b i h).take 2) G).trans f.aer)
 bI:=f.bI
 aeF:=by show(b.a++[h]).length<400;rw[bJ];exact j
 afW:=by show(b.names++[i]).length=(b.a++[h]).length;rw[bJ,bJ,f.afW];rfl
 aen:=f.aen
 aek:=f.aek
def ca.qk(h:ca e f g b c):4<=b.a.length:=by
 have a:=bj I6 h.s.aeV;rw[I7]at a;exact VU (a:min 4 b.a.length=4) ‹_›
def rn(a:ca e f g b c){h:I}(l:1<=h)(k:h<=4)(s:b.a.length+1<400):aA (gi (λt u v=>e1 (aX J 4 [.ref (e+1),C h] c (C t) v) (dc e f g 1 b c u v) (u.a[t]?=A h))):=by
 have m:=a.qk;cases n:dx h (h3 4 (b.a.drop 4))with
 |some H=>
  refine as λK o=>?_;obtain⟨x,f1,rfl⟩:=NG _ _ n;refine o ?_;rw[Ah]at f1;exactλK j=>j (4+x) b c (λK j=>j (NJ a.an l k n) ⟨a,⟨b_ _,b_ _,G,G,fo _,fo _⟩,.refl⟩ f1)
 |none=>
  refine as λK o=>?_;obtain⟨p,y⟩:=NH k;refine o ?_;have q:b.ic 1 (b.gB p h):=⟨b_ _,⟨_,G⟩,G,G,fo _,b3 bJ⟩;have r:hV e f c (jD e b p h c 3):=fA.cq a.l (fA.kF G);refineλK j=>j _ (b.gB p h) _ (λK j=>j (NI a.an l k y n s) ⟨⟨NF a.an m s,a.v.cq a.aet a.aev r,⟨a.s.pos,λz B D F=>(a.s.row z B D F).up q.h q.a (b_ _),?_,?_,a.s.aeU,a.s.ae0⟩,a.aet,bG a.l r.le,a.aev⟩,q,r⟩ kI)
  .exact(E.take_append_of_le_length m).trans a.s.aeV
  .intro w i;have i:w∈(b.a++[h]).drop 4:=i;rw[Ab m]at i;rcases cE.mp i with i|i
   .exact a.s.ae6 w i
   .rw[b2.mp i];exact⟨l,k⟩
end
end
section
section
variable{c k:I}{l:E bA}{f:bp}{b:N}(e:ca c k l f b)(n:f.h.length+2<400)(o:f.a.length+1<400){h p g q a i af be:I}{j r:I}{m:O}
abbrev tv(c k:I)(l:E bA)(i:I)(f:bp)(b:N)(m:I)(n:E L)(q:I)(j:L):Prop:=
 ∃e g a h,aX J m n b (C e) h/\dc c k l i f b a h/\a.a[g]?=A q/\bX a e g j
include e n o
theorem OB(w:f.a[af]?=A a)(x:f.a[be]?=A i)(y:0<a)(z:0<i)(E:a+i<=4)(s:bX f h af (aW j a))(t:bX f p be (aW r i))(F:∀b,aX J 100 [C j,C r,C i] b (.int m) b):tv c k l 2 f b 88 [.ref (c+1),C h,C p] (a+i) (aW m (a+i)):=by
 exact as λP I=>rn e (h:=a+i) (Av y) E o _ λg O K L=>L _ λf1 q B=>fg q.m (.cons (s.up q.le).bI (.cons (t.up q.le).bI .nil)) G (by kernel_rfl) G rfl B (aba h p (Jp _ z) F) (rT n q.le.aeE) _ λu N v f2 D ez=>I (⟨u,g,N,v,az (.aa .none::.aa .none::mM c af a (mM c be i [.aa (C (a+i)),.w (C g) K,.w (C u) v])) (H e.an.a2<|H (jT e.an s.is w y (a5 "concat"))<|H e.an.a2<|H (jT e.an t.is x z (a5 "concat"))<|H e.an.a2<|H e.an.a2<|mN e.an s.is w<|mN e.an t.is x<|H (G:c2 b .add (C a) (C i)=A (C (a+i),b))<|H f1<|H f2<|aj (C u) v),q.trans D,d4 D.le.a B,ez⟩)
theorem abP(r:f.a[af]?=A a)(u:0<a)(v:a+1<=4)(m:bX f h af (aW j a)):tv c k l 2 f b 89 [.ref (c+1),C 1,C h] (a+1) (aW j (a+1)):=by
 exact as λD w=>rn e (h:=a+1) (gg _) v o _ λg B x y=>y _ λf1 i s=>fg i.m (.cons (m.up i.le).bI .nil) G (by kernel_rfl) (g:=C 1) G rfl s (abt h (gg _)) (rT n i.le.aeE) _ λp z q f2 t ez=>w (⟨p,g,z,q,az (.aa .none::aT 2 (mM c af a [.aa (C (a+1)),.w (C g) x,.w (C p) q])) (H e.an.a2<|H (jT e.an m.is r u (a5 "zero_extend"))<|H e.an.a2<|H e.an.a2<|mN e.an m.is r<|H (G:c2 b .add (C a) (C 1)=A (C (a+1),b))<|H f1<|H f2<|aj (C p) q),i.trans t,d4 t.le.a s,ez⟩)
theorem Zp(s:f.a[af]?=A a)(v:0<a)(w:a+1<=4)(p:bX f h af (aW j a))(x:∀b,aX J 98 [C j,C a,C 1] b (.int m) b):tv c k l 2 f b 90 [.ref (c+1),C 1,C h] (a+1) (aW m (a+1)):=by
 exact as λF y=>rn e (h:=a+1) (gg _) w o _ λg E z B=>B _ λf1 i t=>fg i.m (.cons (p.up i.le).bI .nil) G (by kernel_rfl) (g:=C 1) G rfl t (abo h (gg _) x) (rT n i.le.aeE) _ λq D r f2 u ez=>y (⟨q,g,D,r,az (.aa .none::aT 2 (mM c af a [.aa (C (a+1)),.w (C g) z,.w (C q) r])) (H e.an.a2<|H (jT e.an p.is s v (a5 "sign_extend"))<|H e.an.a2<|H e.an.a2<|mN e.an p.is s<|H (G:c2 b .add (C a) (C 1)=A (C (a+1),b))<|H f1<|H f2<|aj (C q) r),i.trans u,d4 u.le.a t,ez⟩)
theorem PV(v:f.a[af]?=A a)(w:s<=t)(p:t<a)(z:a<=4)(q:bX f h af (aW j a))(B:∀b,aX J 97 [C j,C t,C s] b (.int m) b):tv c k l 2 f b 94 [.ref (c+1),C t,C s,C h] (t-s+1) (aW m (t-s+1)):=by
 refine rn e (h:=t-s+1) (gg _) (bG (hw (oM _ _)) (bG p z)) o _ λg K D E=>E _ λf1 i x=>fg i.m (.cons (q.up i.le).bI .nil) G (by kernel_rfl) (g:=.ab [C t,C s]) G rfl x (abc h (gg _) B) (rT n i.le.aeE) _ λr F u f2 y ez=>?_;have I:c2 b .sub (C t) (C s)=A (C (t-s),b):=by
  show A (L.int ((t:O)-s),b)=_;exact(vZ w)▸G
 exact⟨r,g,F,u,az (.aa .none::.b J::.b J::mM c af a [.b J,.aa (C (t-s)),.aa (C (t-s+1)),.w (C g) D,.w (C r) u]) (H e.an.a2<|H (jT e.an q.is v (JU p) (a5 "extract"))<|H (bj A (cg (hP s)):bY b .le (.int 0) (C s)=A J)<|H (bj A (cg (gW.mpr w)):bY b .le (C s) (C t)=A J)<|mN e.an q.is v<|H (bj A (cg (eU.mpr p)):bY b .lt (C t) (C a)=A J)<|H e.an.a2<|H e.an.a2<|H I<|H (G:c2 b .add (C (t-s)) (C 1)=A (C (t-s+1),b))<|H f1<|H f2<|aj (C r) u),i.trans y,d4 y.le.a x,ez⟩
end
end
section
noncomputable def k9(a b:I):L:=.ab [.str (bi "elem"),C a,C b]
noncomputable def jP(a b:I):L:=match a with
 |0=>.bool d
 |1=>aD (0,1)
 |2=>aD (0,1)
 |a=>if 0<b then aW 0 b else k9 a 0
section
variable{e k:I}{i:E bA}{h:bp}{a:N}{f g b:I}
def gT(b:bn e h a)(c:h.a[f]?=A g)(i:ah:=J):aX i 26 [.ref (e+1),C f] a (C g) a:=
 az [.aa (.ref (e+3)),.aa (C g)] (H (b.br 5 rfl)<|H (b.w c)<|aj (C g) a)
def X9(b:bn e h a)(c:h.a[f]?=A g)(i:ah:=J):aX i 95 [.ref (e+1),C f] a (jP f g) a:=by
 match f,c with
 |0,c=>exact az [] (aj (.bool d) a)
 |1,c=>exact az [.go,.aa (.bool J)] (H b.a2<|H (rE (.inl rfl) b i)<|aj (aD (0,1)) a)
 |2,c=>exact az [.go,.aa (.bool J)] (H b.a2<|H (rE (.inr rfl) b i)<|aj (aD (0,1)) a)
 |f+3,c=>
  have l:aX i 77 [.ref (e+1),C (f+3)] a (.bool d) a:=az [.b d,.b d] (H (km a (a:=(f+3:I)) (b:=1) VW)<|H (km a (a:=(f+3:I)) (b:=2) VX)<|aj (.bool d) a);have m:bY a .eq (C (f+3)) (.int 0)=A d:=ob a (AE _);have j:fi a (.ref (e+1)) 0=J:=b.a2;have W:=gT b c i;by_cases k:0<g
  .exact(show jP (f+3) g=aW 0 g from cd k).symm▸(az [.b d,.aa (.bool d),.aa (C g),.b J,.aa (C g)] (H m<|H j<|H l<|H j<|H W<|H (rC a k)<|H j<|H W<|aj (aW 0 g) a))
  .exact(show jP (f+3) g=k9 (f+3) 0 from bZ k).symm▸(az [.b d,.aa (.bool d),.aa (C g),.b d] (H m<|H j<|H l<|H j<|H W<|H (bj A (dU λn=>k (j2.mp n)):bY a .gt (C g) (.int 0)=A d)<|aj (k9 (f+3) 0) a))
def cA.br(f:cA e i a)(b:I)(c:[(1,L.ref (e+1)),(2,.ref (e+15)),(3,.ref (e+16))].lookup b=A B):e4 a (.ref (e+14)) b=A B:=by
 show(Internal.a3 ((a[e+14]?).bind aO.ss) λj g=>((a[g]?).bind aO.sq).bind λh=>h.lookup b)=_;rw[f.aem];show Internal.a3 (A (1,e+13)) _=_;rw[fe,f.ael];exact c
def cA.a2(b:cA e i a):fi a (.ref (e+14)) 1=J:=by
 show((a[e+14]?).bind aO.ss).any _=J;rw[b.aem];show(decide (1=1)&&(((a[e+13]?).bind aO.sq).isSome))=J;rw[b.ael];rfl
def TL(a:bA->j L):∀(i:E bA)(l m:I),m<l->dx m (dX a l i)=M:=by
 intro g
 induction g with
 |nil=>
  intro k k k;exact G
 |cons b h c=>
  intro l m f;have c:=c (l+1) m (sT f);show jh (m:O) ((match a b with|some e=>[((l:O),e)]|none=>[])++dX a (l+1) h)=M;cases a b with
  |none=>exact c
  |some e=>
   show jh (m:O) (((l:O),e)::_)=M;rw[fX,show((m:O)==(l:O))=d from nx.mpr λb=>ee f (fn b)];exact c
def Ei(a:bA->j L):∀(i:E bA)(l b:I),dx (l+b:I) (dX a l i)=(i[b]?).bind a:=by
 intro h
 induction h with
 |nil=>
  intro m m;exact G
 |cons c e f=>
  intro l b;show jh ((l+b:I):O) ((match a c with|some g=>[((l:O),g)]|none=>[])++dX a (l+1) e)=_
  match b with
  |0=>
   have k:jh ((l+0:I):O) (dX a (l+1) e)=M:=TL a e (l+1) l (jl l);show _=a c;cases a c with
   |none=>exact k
   |some g=>rw[v6,fX,I.add_zero,ny]
  |b+1=>
   have f:jh ((l+(b+1):I):O) (dX a (l+1) e)=(e[b]?).bind a:=by
    rw[show l+(b+1)=l+1+b by exact uZ];exact f (l+1) b
   show _=(e[b]?).bind a;cases a c with
   |none=>exact f
   |some g=>
    rw[v6,fX,show(((l+(b+1):I):O)==(l:O))=d from nx.mpr λc=>VY c];exact f
def rK(a:bA->j L)(e:i[b]?=A l):dx b (dX a 0 i)=a l:=by
 have c:=Ei a i 0 b;rw[g4,e]at c;exact c
def bn.ab3(g:bn e h a)(c:h.p[b]?=A (B,f)):ck a (.ref (e+5)) (C b)=A (.ab (B.map C)):=gu g.t b (jH c _) (jG _ g.aen)
def bn.HA(g:bn e h a)(c:h.p[b]?=A (B,f)):ck a (.ref (e+6)) (C b)=A (C f):=gu g.cq b (jH c _) (jG _ g.aen)
def bn.ab5(g:bn e h a)(c:h.p[b]?=A (D,f)):∃B,ck a (.ref (e+4)) (C b)=A B:=by
 exact⟨_,gu g.cl b (e8 ((by rw[g.aek];exact(d6.mp c).1):b<h.cl.length)) (cD (by rw[g.aek];exact g.aen))⟩
def rD{b:I}{c:E (O×L)}(f:a[b]?=A (.afP c))(g:I){e:ah}(h:(dx g c).isSome=e):bY a .agf (C g) (.ref b)=A e:=by
 show((jE a b).bind λi=>A (dx (g:O) i).isSome)=_;rw[t0 f,cJ,h]
def XT(m:bn e h a)(l:cA e i a)(p:i[b]?=A o)(q:h.p[b]?=A (s,f))(r:h.a[f]?=A g)(j:ah:=J):aX j 67 [.ref (e+14),C b] a (o.x.getD (jP f g)) a:=by
 have c:=rK bA.x p;cases k:o.x with
 |some n=>
  rw[k]at c;exact az [.aa (.ref (e+16)),.b J,.aa (.ref (e+16)),.aa n] (H (l.br 3 rfl)<|H (rD l.aej b (e:=J) (by rw[c];rfl))<|H (l.br 3 rfl)<|H (ui l.aej b c)<|aj n a)
 |none=>
  rw[k]at c;exact az [.aa (.ref (e+16)),.b d,.aa (.ref (e+1)),.aa (.ref (e+1)),.go,.aa (.ref (e+6)),.aa (C f),.aa (jP f g)] (H (l.br 3 rfl)<|H (rD l.aej b (e:=d) (by rw[c];rfl))<|H (l.br 1 rfl)<|H (l.br 1 rfl)<|H m.a2<|H (m.br 8 rfl)<|H (m.HA q)<|H (X9 m r j)<|aj (jP f g) a)
noncomputable def h_(a:bA)(f g:I)(b:E L):L:=(c4 b a.q).getD (a.x.getD (jP f g))
def Si{b:I}{f:E (O×L)}(g:a[b]?=A (.afP f))(c:I)(e:L):hJ a (.ref b) .get [C c,e]=A ((dx c f).getD e,a):=by
 show(jE a b).bind (λh=>A ((dx (c:O) h).getD e,a))=_;rw[t0 g,cJ]
def oi{b:I}{c:E (O×L)}(g:a[b]?=A (.afP c))(e:ka)(h:e.nf=d):kz a (.ref b) e=J:=by
 show(a[b]?.any λf=>cU e.nf f.qd.isSome (f.sn.isSome||f.so.isSome))=J;rw[g,h];rfl
def cA.zC(f:cA e i a)(g:i[b]?=A B):∃D,hJ (a++[.afM []]) (.ref (e+15)) .get [C b,.ref a.length]=A (.ref D,a++[.afM []])/\(a++[aO.afM []])[D]?=A (.afM B.q):=by
 have h:=Si (f.c7 [.afM []]).aee b (.ref a.length);rw[rK f5 g]at h;cases c:B.d0 with
 |none=>exact⟨a.length,by rw[h];unfold f5;rw[c];rfl,by rw[f.bare B (d7 g) c];exact cc a _⟩
 |some j=>exact⟨j,by rw[h];unfold f5;rw[c];rfl,b5 (f.q B (d7 g) j c).1⟩
def CT(q:bn e h a)(o:cA e i a)(c:i[b]?=A l)(n:h.p[b]?=A (v,f))(r:h.a[f]?=A g)(s:dH m=J)(j:ah:=J):
 aX j 32 [.ref (e+14),C b,.ab m] a (h_ l f g m) (a++[.afM []]):=by
 obtain⟨t,u,k⟩:=o.zC c;have p:=o.c7 [.afM []];exact az [.aa (.ref (e+15)),.aa (.ref t),.aa (l.x.getD (jP f g)),.aa (h_ l f g m)]
  (H (o.br 2 rfl)<|H (oi o.aee .get rfl)<|H u<|H (l9 k .get rfl)<|H p.a2<|H (XT (q.c7 _) p c n r j)<|H (rA k m s (l.x.getD (jP f g)))<|aj (h_ l f g m) (a++[.afM []])) (by kernel_rfl)
def aaQ(c:i[b]?=A m)(j:dH l=J):bs e i ⟨h1,v,f,C b⟩ g l (h_ m f g l):=by
 intro w a h x y k n o B p q B;refine as λB r=>?_;obtain⟨s,z,t,u⟩:=p G;obtain rfl:b=s:=fn (L.int.inj t);exact r (⟨_,eZ _ _,by rw[cd G];exact CT n o (d4 k c) u q j⟩)
def i_(b:eb a m o=A (p,q,r))(c:eP q s t p u r=A l):((eb a m o).bind λl=>eP l.2.1 s t l.1 u l.2.2)=A l:=by
 rw[b];exact c
noncomputable def xp:E c:=[bR (aN Y 41 [bv,bN,ar (bE Y 6) ac])]
def MX(q:bn e h a){a1:L}(v:ck a (.ref (e+4)) (C b)=A a1)(n:E dp)(j:d_ a n=J)(c g:L):∀(r o:E I),(∀p∈r.zip o,h.is p.1 p.2)->∀l m,∃s t,eP n (.afQ [4,5]) (λw a=>bt J bx bP xp w a) (gz (r.map C) (o.map C)) [A (.ref (e+1)),A (C b),A c,A g,l,m] a=A (.next,[A (.ref (e+1)),A (C b),A c,A g,s,t],a):=by
 intro x
 induction x with
 |nil=>
  intro D D l m;exact⟨l,m,bH j⟩
 |cons i r k=>
  intro y;cases y with
  |nil=>
   intro D l m;exact⟨l,m,bH j⟩
  |cons f o=>
   intro u l m;obtain⟨s,t,k⟩:=k o (λp z=>u p (.tail _ z)) (A (C i)) (A (C f));refine⟨s,t,(bH j).trans ?_⟩;have B:bt J bx bP xp [A (.ref (e+1)),A (C b),A c,A g,A (C i),A (C f)] a=A (.next,[A (.ref (e+1)),A (C b),A c,A g,A (C i),A (C f)],a):=
    cG [.aa (.ref (e+4)),.aa a1,.aa .none] (H q.a2<|H (q.br 6 rfl)<|H v<|H (fT q (u (i,f) (.head _)) a1 J)<|bM [A (L.ref (e+1)),A (C b),A c,A g,A (C i),A (C f)] a)
   show ko (bt J bx bP xp [A (.ref (e+1)),A (C b),A c,A g,A (C i),A (C f)] a) _=_;rw[B];exact k
def Cm(p:ca e k i h a)(z:h.h.length+1<400){l m:E I}{q:E L}{j:bA}(B:i[b]?=A j)(n:h.p[b]?=A (m,f))(D:h.a[f]?=A g)(F:∀v∈l.zip m,h.is v.1 v.2)(K:l.length=m.length)(w:l.length<=3)(x:kh h l q)(N:dH q=J)
 {c:L} {r:E dp} (O:eW a .len [c]=A (C l.length,a)) (P:eb a .zip [c,.ab (m.map C)]=A (gz (l.map C) (m.map C),r,a++[.afT])) (Q:d_ (a++[.afT]) r=J) (R:eW (a++[.afT]) .tuple [c]=A (.ab (l.map C),a++[.afT])):
 ei e k i 1 h a 18 [.ref (e+1),C b,c] f (h_ j f g q):=by
 have o:=p.more .afT;refine as λgo S=>?_;obtain⟨a1,T⟩:=o.an.ab5 n;obtain⟨U,V,W⟩:=MX o.an T r Q c (.ab (m.map C)) l m F M M;refine yb o (b:=⟨h1,l,f,C b⟩) x.lt w (by kernel_rfl) G rfl D x.val (aaQ B N) (λj=>bC j (by show h1≠bi "not";decide)) (λgo=>⟨b,m,G,n⟩) z _ λs X t y=>y _ λY u Z ad=>?_;clear y;refine S ?_;have dl:eW a .len [.ab (m.map C)]=A (C l.length,a):=by
  show a4 (bV (m.map C).length) (A (L.int (m.map C).length,a))=_;rw[bO,<-K,bH (cD (c0 w (ap G)))]
 refineλgo ge=>ge s X t (az [.aa (.ref (e+5)),.aa (.ab (m.map C)),.aa (C l.length),.aa (C l.length),.b d,.af2 .next [A (.ref (e+1)),A (C b),A c,A (.ab (m.map C)),U,V] (a++[.afT]),.aa (.ab (l.map C)),.aa (.ref (e+6)),.aa (C f),.w (C s) t]
  (H (p.an.br 7 rfl)<|H (p.an.ab3 n)<|H O<|H dl<|H (EB a l.length)<|H (i_ P W)<|H o.an.a2<|H R<|H (o.an.br 8 rfl)<|H (o.an.HA n)<|H Y<|aj (C s) t) (by kernel_rfl)) ⟨u.m,u.le,(hV.more p.l .afT).trans u.cq⟩ ⟨Z,⟨_,⟨ad,⟨G,⟨G,by show h1≠bi "num";decide⟩⟩⟩⟩⟩
end
end
section
noncomputable def bo(a b:I):E I:=(e9 b).map λc=>a/2^c%2
noncomputable def aM(a b:I):L:=.ab ((bo a b).map C)
noncomputable def rY:E (I×I):=[1,2,3,4].flatMap λa=>(e9 (2^a)).map λb=>(a,b)
noncomputable def m7:E (I×I×I):=[1,2,3,4].flatMap λa=>(e9 (2^a)).flatMap λb=>(e9 (2^a)).map λc=>(a,b,c)
section
variable{a b c:I}
theorem DW(c:0<a)(e:a<=4):a∈[1,2,3,4]:=(by decide:∀b,b<5->0<b->b∈[1,2,3,4]) a (Ax e) c
theorem SE(c:0<a)(e:a<=4)(f:b<2^a):(a,b)∈rY:=Aq.mpr ⟨a,DW c e,fx.mpr ⟨b,ht.mpr f,G⟩⟩
theorem x0(e:0<a)(f:a<=4)(g:b<2^a)(h:c<2^a):(a,b,c)∈m7:=Aq.mpr ⟨a,DW e f,Aq.mpr ⟨b,ht.mpr g,fx.mpr ⟨c,ht.mpr h,G⟩⟩⟩
theorem k7{g:Type}{e f:I×I×I->g}(h:m7.map e=m7.map f)(i:0<a)(j:a<=4)(k:b<2^a)(l:c<2^a):e (a,b,c)=f (a,b,c):=oF.mp h _ (x0 i j k l)
theorem iv{f:Type}{c e:I×I->f}(g:rY.map c=rY.map e)(h:0<a)(i:a<=4)(j:b<2^a):c (a,b)=e (a,b):=oF.mp g _ (SE h i j)
variable(e:N)(g:0<a)(f:a<=4)(i:b<2^a)(h:c<2^a)
include g f i
theorem xF:aX J 27 [aM b a] e (C b) e:=
 iv (c:=λh=>bB (bx J 27 [aM h.2 h.1] e)) (e:=λh=>A (C h.2,e)) (by kernel_rfl) g f i
include h
theorem pL:aX J 86 [aM b a,aM c a] e (.bool (decide (b<c))) e:=
 k7 (e:=λl=>bB (bx J 86 [aM l.2.1 l.1,aM l.2.2 l.1] e)) (f:=λl=>A (.bool (decide (l.2.1<l.2.2)),e)) (by kernel_rfl) g f i h
noncomputable def gn(b a:I):I:=(b+2^(a-1))%2^a
omit h in
theorem GC:aX J 85 [aM b a] e (aM (gn b a) a) e:=
 iv (c:=λh=>bB (bx J 85 [aM h.2 h.1] e)) (e:=λh=>A (aM (gn h.2 h.1) h.1,e)) (by kernel_rfl) g f i
noncomputable def D7(b c a:I):I->ah
 |0=>decide (b<c)
 |1=>!decide (c<b)
 |2=>decide (gn b a<gn c a)
 |_=>!decide (gn c a<gn b a)
theorem tG(j:l<4):n9 b c a l=D7 b c a l:=by
 exact oF.mp (oF.mp ((by kernel_rfl):m7.map (λe=>(e9 4).map λl=>n9 e.2.1 e.2.2 e.1 l)=m7.map λe=>(e9 4).map λl=>D7 e.2.1 e.2.2 e.1 l) _ (x0 g f i h)) l (ht.mpr j)
omit g f i h in
theorem uc(b:I):gn b a<2^a:=lF _ (jm a)
theorem M6(j:lT[l]?=A o):aX J 65 [a5 o,aM b a,aM c a] e (.bool (n9 b c a l)) e:=by
 have k:=GC e g f i;have m:=GC e g f h
 match l,j with
 |0,j=>obtain rfl:=aG j;rw[tG g f i h (l:=0) (ap G)];exact az [.go,.go,.aa (.bool (decide (b<c)))] (H (pL e g f i h)<|aj (.bool (decide (b<c))) e)
 |1,j=>obtain rfl:=aG j;rw[tG g f i h (l:=1) (ap G)];exact az [.go,.go,.aa (.bool (decide (c<b)))] (H (pL e g f h i)<|aj (.bool (!decide (c<b))) e)
 |2,j=>obtain rfl:=aG j;rw[tG g f i h (l:=2) (ap G)];exact az [.go,.aa (aM (gn b a) a),.aa (aM (gn c a) a),.go,.go,.aa (.bool (decide (gn b a<gn c a)))] (H k<|H m<|H (pL e g f (uc b) (uc c))<|aj (.bool (decide (gn b a<gn c a))) e)
 |3,j=>obtain rfl:=aG j;rw[tG g f i h (l:=3) (ap G)];exact az [.go,.aa (aM (gn b a) a),.aa (aM (gn c a) a),.go,.go,.aa (.bool (decide (gn c a<gn b a)))] (H k<|H m<|H (pL e g f (uc c) (uc b))<|aj (.bool (!decide (gn c a<gn b a))) e)
theorem aas(j:l<10):∃o:I,dI b c a l=o/\o<2^a:=by
 have m:(m7.all λe=>(e9 10).all λl=>decide (0<=dI e.2.1 e.2.2 e.1 l/\(dI e.2.1 e.2.2 e.1 l).toNat<2^e.1))=J:=by kernel_rfl
 have m:=dE (di.mp (di.mp m _ (x0 g f i h)) l (ht.mpr j));exact⟨_,(sE m.1).symm,m.2⟩
noncomputable def eM(a:I):E L:=hM a [.int 0]
theorem Zs:fh M (A a) (eM (min c a)++(bo b a).map C)=(bo (dI b c a 6).toNat a).map C:=
 k7 (e:=λe=>fh M (A (e.1:O)) (eM (min e.2.2 e.1)++(bo e.2.1 e.1).map C)) (f:=λe=>(bo (dI e.2.1 e.2.2 e.1 6).toNat e.1).map C) (by kernel_rfl) g f i h
theorem Zt:fh (A (min c a:I)) M ((bo b a).map C)++eM (min c a)=(bo (dI b c a 7).toNat a).map C:=
 k7 (e:=λe=>fh (A (min e.2.2 e.1:I)) M ((bo e.2.1 e.1).map C)++eM (min e.2.2 e.1)) (f:=λe=>(bo (dI e.2.1 e.2.2 e.1 7).toNat e.1).map C) (by kernel_rfl) g f i h
omit g i h f in
theorem CI:(bo b a).length=a:=by unfold bo;rw[bO,Am]
omit g i h f in
theorem iz(f:a<=4):eW e .len [aM b a]=A (C a,e):=by
 show a4 (bV ((bo b a).map C).length) (A (L.int ((bo b a).map C).length,e))=_;rw[bO,CI,bH (cD (c0 f (ap G)))]
omit g i h f in
theorem Ev(a b:I):eW e .min [C a,C b]=A (C (min a b),e):=by
 show A (L.int (if(b:O)<a then b else a),e)=_
 congr 3
 omega
omit g i h f in
theorem oj(b:l<=4)(a:L):c2 e .mul (.ab [a]) (C l)=A (.ab (hM l [a]),e):=by
 show((a4 (decide (0<=(l:O)/\(l:O)<=1000/\[a].length=1)) (A (L.ab (hM (l:O).toNat [a])))).map λc=>(c,e))=_;rw[bH (cg ⟨hP _,(gW.mpr (bG b (ap G))),G⟩)];rfl
omit g i h f in
theorem yZ(a:L):∀l,(hM l [a]).length=l:=by
 intro b
 induction b with
 |zero=>
  exact G
 |succ l e=>
  show([a]++hM l [a]).length=_;exact bJ.symm▸e.symm▸(kK _ _)
omit g i h f in
theorem pq(a:l.length+m.length<=8):c2 e .add (.ab l) (.ab m)=A (.ab (l++m),e):=by
 show((a4 (bV (l.length+m.length)) (A (L.ab (l++m)))).map λb=>(b,e))=_;rw[bH (cD (c0 a (ap G)))];rfl
omit g i h f in
theorem p3(c:l.length<=8)(a b:j O):m9 e (.ab l) a b=A (.ab (fh a b l),e):=bH (cD (c0 c (ap G)))
omit g i h f in
theorem gb(a:I):((bo b a).map C).length=a:=by rw[bO,CI]
theorem aaF:aX J 64 [a5 "bvshl",aM b a,aM c a] e (aM (dI b c a 6).toNat a) e:=by
 have j:min c a<=4:=bG (qB _ _) f;have k:(eM (min c a)).length+((bo b a).map C).length<=8:=by rw[gb];unfold eM;rw[yZ];exact(sO j f)
 have l:=p3 e (l:=eM (min c a)++(bo b a).map C) (by rw[bJ];exact k) M (A a);rw[Zs g f i h]at l;exact az (.aa (C a)::aT 6 [.aa (C c),.aa (C (min c a)),.go,.aa (.ab (eM (min c a))),.aa (.ab (eM (min c a)++(bo b a).map C)),.aa (aM (dI b c a 6).toNat a)]) (H (iz (b:=b) e f)<|H (xF e g f h)<|H (Ev e c a)<|H (oj e j (.int 0))<|H (pq e k)<|H l<|aj (aM (dI b c a 6).toNat a) e)
theorem aaG:aX J 64 [a5 "bvlshr",aM b a,aM c a] e (aM (dI b c a 7).toNat a) e:=by
 have l:min c a<=4:=bG (qB _ _) f;have j:=Zt g f i h;have m:(fh (A (min c a:I)) M ((bo b a).map C)).length+(eM (min c a)).length<=8:=by rw[<-bJ,j,gb];exact uN g f
 have k:=pq e m;rw[j]at k;exact az (.aa (C a)::aT 6 [.aa (C c),.aa (C (min c a)),.go,.aa (.ab (fh (A (min c a:I)) M ((bo b a).map C))),.aa (.ab (eM (min c a))),.aa (aM (dI b c a 7).toNat a)]) (H (iz (b:=b) e f)<|H (xF e g f h)<|H (Ev e c a)<|H (p3 e (l:=(bo b a).map C) (by rw[gb];exact uN g f) (A (min c a:I)) M)<|H (oj e l (.int 0))<|H k<|aj (aM (dI b c a 7).toNat a) e)
end
end
section
def pA{j k:I}{n:aK->N->eE}{e:I->aK->N->Prop}(step:∀a b g,a<k->e a b g->aA (gi (λm h i=>e1 (n (b.set j (A (C a))) g=A (m,h,i)) (m.jX=J) (e (a+1) h i)))):
 ∀l a b g,a+l=k->e a b g->∃h i,eP [] (.aa j) n (ga a l) b g=A (.next,h,i)/\e k h i:=by
 intro l
 induction l with
 |zero=>intro a b g f c;exact⟨b,g,G,by rw[<-f];exact c⟩
 |succ l o=>
  intro a b g f c;refine as λw p=>step a b g (Fd f) c _ λm q r s=>s _ λt u c=>?_;obtain⟨h,i,v,c⟩:=o (a+1) q r ((JR _ _).trans f) c;refine p (⟨h,i,?_,c⟩);show(n (b.set j (A (C a))) g).bind _=_;refine t.symm▸?_;show cU m.jX _ _=_;exact u.symm▸v
def p0(a:N)(c:b<=400):eb a .range [C b]=A (ga 0 b,[],a):=
 bH (cg ⟨(IF 1000000 _),(gW.mpr (bG c (ap G)))⟩)
section
variable(a:N){f b e:I}
def yQ(a:N)(c b:aO):bd (a++[c]) a.length b=a++[b]:=by
 show(a++[c]).set a.length b=_;rw[E.set_append_right _ _ (c_ _),JP];rfl
def RH(a:N)(b:I)(c:g≠0):c2 a .fdiv (C b) (C g)=A (C (b/g),a):=by
 rw[n7 a b (a:=g) λe=>c (fn e),z1 _ (hP g)];rfl
def Nu(a b:I):(bo a (b+1)).map C=(bo a b).map C++[C (a/2^b%2)]:=by
 unfold bo;refine Jg.symm▸el.symm▸el.symm▸?_;rfl
noncomputable def CG:E c:=[bR (et ao (jC Y ct)),bl 0 (mP Y ct)]
noncomputable def gI(a:N)(b c:I):N:=a++[.list ((bo b c).map C)]
noncomputable def mR(a:N)(b f c:I)(e:j L):aK:=[A (C (b/2^c)),A (C f),A (.ref a.length),e]
def Nw(c f b:I)(h:b<4)(i:j L):bt J bx bP CG ((mR a c f b i).set 3 (A (C b))) (gI a c b)=A (.next,mR a c f (b+1) (A (C b)),gI a c (b+1)):=by
 have e:=hi (cc a (.list ((bo c b).map C))) (by rw[gb];exact yr h) (C (c/2^b%2));rw[yQ,<-Nu]at e;have g:=RH (gI a c (b+1)) (c/2^b) (g:=2) (g0 G);rw[I.div_div_eq_div_mul,<-kM]at g;exact cG [.aa (C (c/2^b%2)),.w .none (gI a c (b+1)),.aa (C (c/2^(b+1)))]
  (H (gw (cc a (.list ((bo c b).map C))))<|H (rM (c/2^b) (a:=2) (g0 G) (gI a c b))<|H e<|H g<|bM (mR a c f (b+1) (A (C b))) (gI a c (b+1))) (by kernel_rfl)
def CJ(b:I)(h:f<=4):aX J 38 [C b,C f] a (aM b f) (gI a b f):=by
 obtain⟨n,o,j,⟨c,rfl⟩,rfl⟩:=pA (j:=3) (k:=f) (n:=λe a=>bt J bx bP CG e a)
  (e:=λg e k=>(∃c,e=mR a b f g c)/\k=gI a b g) (λg e k l m=>by
   obtain⟨⟨c,rfl⟩,rfl⟩:=m;exactλp i=>i _ _ _ (λp i=>i (Nw a b f g (dz l h) c) G ⟨⟨_,G⟩,G⟩))
  f 0 (mR a b f 0 M) (gI a b 0) (g4 f) ⟨⟨M,G⟩,G⟩
 rw[((by unfold mR;rw[I.pow_zero,I.div_one]):mR a b f 0 M=[A (C b),A (C f),A (.ref a.length),M])]at j;exact az [.af2 .next (mR a b f f c) (gI a b f),.aa (aM b f)]
  (H (i_ (p0 (gI a b 0) (b:=f) (Ff h)) j)<|H (gR (cc a (.list ((bo b f).map C))) (cD (by rw[gb];exact Fg h)))<|aj (aM b f) (gI a b f)) (by kernel_rfl)
noncomputable def eH(b e c:I):I->I
 |0=>c
 |a+1=>if b/2^a%2+e/2^a%2+eH b e c a>1 then 1 else 0
noncomputable def hp(b e c a:I):I:=(b/2^a%2+e/2^a%2+eH b e c a)%2
noncomputable def ey(a:I->I)(b:I):E L:=((e9 b).map a).map C
def y2(a:I->I)(b:I):ey a (b+1)=ey a b++[C (a b)]:=by
 unfold ey;rw[Jg,el,el];rfl
def r0(b:I->I)(a:I):(ey b a).length=a:=by unfold ey;rw[bO,bO,Am]
noncomputable def cW(a:N)(b e c f:I):N:=a++[.list (ey (hp b e c) f)]++[.list (ey (eH b e c) (f+1))]
def xw(a:N)(b c e:aO):(a++[b]++[c])[(a++[e]).length]?=A c:=by
 exact(show(a++[e]).length=(a++[b]).length by rw[bJ,bJ];rfl).symm▸(cc _ _)
def Yk(a:N)(b f c e:aO):bd (a++[b]++[f]) (a++[c]).length e=a++[b]++[e]:=by
 rw[show(a++[c]).length=(a++[b]).length by rw[bJ,bJ];rfl];exact yQ _ _ _
def Yj(a:N)(e b c:aO):bd (a++[e]++[b]) a.length c=a++[c]++[b]:=by
 show(a++[e]++[b]).set a.length c=_;rw[E.set_append_left _ _ (by rw[bJ];exact jl _)];exact bj (·++[b]) (yQ a e c)
def sh(a:N)(b:g[h]?=A i)(c:g.length<=8):ck a (.ab g) (C h)=A i:=vd b (cD (c0 c (ap G)))
def Zb(b:g.length<100):l_ (g++[h]) (-1)=A h:=by
 have a:(g++[h]).length=g.length+1:=bJ;show a4 _ ((l8 (-1) (g++[h]).length).bind _)=_;rw[bH (cD (VZ b a)),a,show l8 (-1) (g.length+1)=A g.length by
  unfold l8;rw[bZ (by decide),cd (V0 b a)]
  congr 1
  exact V1 b a]
 exact kI
def uj{b:I}{a:E L}{e:L}{c:N}(f:c[b]?=A (.list (a++[e])))(g:a.length<100):ck c (.ref b) (.int (-1))=A e:=by
 show(c[b]?.bind λh=>match h with|.list a=>l_ a (-1)|.afP i=>dx (-1) i|_=>M)=_;exact f.symm▸(Zb g)
def rm(a:g<f):((bo b f).map C)[g]?=A (C (b/2^g%2)):=by
 unfold bo;rw[j3,j3,I4 a];rfl
def M_(a:N)(b e c f:I):(cW a b e c f)[(a++[aO.list []]).length]?=A (.list (ey (eH b e c) f++[C (eH b e c f)])):=by
 rw[<-y2];exact xw a _ _ _
noncomputable def pj(a:N)(b e f c:I)(g h:j L):aK:=[A (aM b f),A (aM e f),A (C c),A (.ref a.length),A (.ref (a++[aO.list []]).length),g,h]
noncomputable def Cd:E c:=[bl 6 (dd (dd (ar Y bN) (ar ac bN)) (ar bv (.neg a0))),bR (et aS (jC bS ct)),bR (et bv (.ite (iw bS a0) a0 aQ))]
def MA(c:I)(l:g<f)(m:f<=4)(z B:j L):∃D,bt J bx bP Cd ((pj a b e f c z B).set 5 (A (C g))) (cW a b e c g)=A (.next,pj a b e f c (A (C g)) D,cW a b e c (g+1)):=by
 generalize p:b/2^g%2=i;generalize q:e/2^g%2=k;generalize r:i+k+eH b e c g=h;have t:hp b e c g=h%2:=by unfold hp;rw[p,q,r]
 have u:eH b e c (g+1)=if h>1 then 1 else 0:=by rw[<-r,<-p,<-q];rfl
 have v:=sh (cW a b e c g) (rm (b:=b) l) (by rw[gb];exact uO m);have w:=sh (cW a b e c g) (rm (b:=e) l) (by rw[gb];exact uO m);rw[p]at v;rw[q]at w;have f1:(cW a b e c g)[a.length]?=A (.list (ey (hp b e c) g)):=b5 (cc a _);have x:=hi f1 (by rw[r0];exact V4 l m) (C (h%2));rw[<-t,<-y2,show bd (cW a b e c g) a.length (.list (ey (hp b e c) (g+1)))=a++[.list (ey (hp b e c) (g+1))]++[.list (ey (eH b e c) (g+1))]from Yj a _ _ _,t]at x;have f2:=xw a (.list (ey (hp b e c) (g+1))) (.list (ey (eH b e c) (g+1))) (.list []);have n:=hi f2 (by rw[r0];exact V5 l m) (C (eH b e c (g+1)));rw[Yk,<-y2]at n;refine⟨A (C h),?_⟩;have y {P:Prop} (s:P):=H v<|H w<|H (G:c2 (cW a b e c g) .add (C i) (C k)=A (C (i+k),cW a b e c g))<|H (uj (M_ a b e c g) (by rw[r0];exact V3 l m))<|H (bj (λE:I=>A (C E,cW a b e c g)) r:c2 (cW a b e c g) .add (C (i+k)) (C (eH b e c g))=A (C h,cW a b e c g))<|H (gw f1)<|H (rM h (a:=2) (g0 G) (cW a b e c g))<|H x<|H (gw f2) s;have cM {P:Prop} (s:P):=H s<|bM (pj a b e f c (A (C g)) (A (C h))) (cW a b e c (g+1));by_cases o:h>1
 .rw[u,cd o]at n;exact cG [.aa (C i),.aa (C k),.aa (C (i+k)),.aa (C (eH b e c g)),.aa (C h),.aa (C (h%2)),.w .none (a++[.list (ey (hp b e c) (g+1))]++[.list (ey (eH b e c) (g+1))]),.b J,.w .none (cW a b e c (g+1))]
   (y<|H (bj A (cg (O.lt_of_toNat_lt o)):bY (a++[.list (ey (hp b e c) (g+1))]++[.list (ey (eH b e c) (g+1))]) .gt (C h) (.int 1)=A J)<|cM n) (by kernel_rfl)
 .rw[u,bZ o]at n;exact cG [.aa (C i),.aa (C k),.aa (C (i+k)),.aa (C (eH b e c g)),.aa (C h),.aa (C (h%2)),.w .none (a++[.list (ey (hp b e c) (g+1))]++[.list (ey (eH b e c) (g+1))]),.b d,.w .none (cW a b e c (g+1))]
   (y<|H (bj A (dU (λF=>o (eU.mp F))):bY (a++[.list (ey (hp b e c) (g+1))]++[.list (ey (eH b e c) (g+1))]) .gt (C h) (.int 1)=A d)<|cM n) (by kernel_rfl)
def GP(h:0<f)(i:f<=4)(j:b<2^f)(k:e<2^f)(l:g<2):ey (hp b e g) f=(bo ((b+e+g)%2^f) f).map C:=by
 have c:m7.map (λa=>[(e9 a.1).map (hp a.2.1 a.2.2 0),(e9 a.1).map (hp a.2.1 a.2.2 1)])=m7.map λa=>[bo ((a.2.1+a.2.2+0)%2^a.1) a.1,bo ((a.2.1+a.2.2+1)%2^a.1) a.1]:=by kernel_rfl
 have c:=k7 c h i j k;injection c with m c;injection c with n _;exact@dk (λg=>ey (hp b e g) f=(bo ((b+e+g)%2^f) f).map C) _ (bj (Ao C) m) (jK (bj (Ao C) n)) g l
def pe{c:I}(j:0<f)(g:f<=4)(n:b<2^f)(o:e<2^f)(p:c<2):aX J 82 [aM b f,aM e f,C c] a (.ab [aM ((b+e+c)%2^f) f,.ref (a++[aO.list []]).length]) (cW a b e c f):=by
 obtain⟨u,v,l,⟨h,i,rfl⟩,rfl⟩:=pA (j:=5) (k:=f) (n:=λk a=>bt J bx bP Cd k a)
  (e:=λq k r=>(∃h i,k=pj a b e f c h i)/\r=cW a b e c q) (λq k r s t=>by
   obtain⟨⟨h,i,rfl⟩,rfl⟩:=t;obtain⟨w,l⟩:=MA a (b:=b) (e:=e) c s g h i;exactλx m=>m _ _ _ (λx m=>m l G ⟨⟨_,_,G⟩,G⟩))
  f 0 (pj a b e f c M M) (cW a b e c 0) (g4 f) ⟨⟨M,M,G⟩,G⟩
 have cM:=gR (b5 (f:=[aO.list (ey (eH b e c) (f+1))]) (cc a (.list (ey (hp b e c) f)))) (cD (by rw[r0];exact rU j g));rw[GP j g n o p]at cM;rw[show a++[aO.list ((bo ((b+e+c)%2^f) f).map C)]++[.list (ey (eH b e c) (f+1))]=cW a b e c f by unfold cW;rw[GP j g n o p]]at cM;exact az [.go,.aa (C f),.af2 .next (pj a b e f c h i) (cW a b e c f),.aa (aM ((b+e+c)%2^f) f)]
  (H (iz (b:=b) (cW a b e c 0) g)<|H (i_ (p0 (cW a b e c 0) (b:=f) (Fh j g)) l)<|H cM<|aj (.ab [aM ((b+e+c)%2^f) f,.ref (a++[aO.list []]).length]) (cW a b e c f)) (by kernel_rfl)
end
end
section
noncomputable def C7(e:jA)(f:dw)(g h:X)(i:aK)(k:N)(l:E L):j (E L×N):=(eb k e l).bind λa=>e2 a.2.1 f i (λb c=>dQ (aR J bx bP b h c)) (λb c=>aR J bx bP b g c) a.1 a.2.2
section
variable(c:N){a b h:I}(e:0<a)(f:a<=4)(g:b<2^a)(i:h<2^a)
include e f g
theorem aao:C7 .val (.aa 1) (.af6 .sub (.lit (.int 1)) (.var 1)) (.lit (.bool J)) [A (aM b a),M] c [aM b a]=A ((bo (2^a-1-b) a).map C,c):=
 iv (c:=λh=>C7 .val (.aa 1) (.af6 .sub (.lit (.int 1)) (.var 1)) (.lit (.bool J)) [A (aM h.2 h.1),M] c [aM h.2 h.1]) (e:=λh=>A ((bo (2^h.1-1-h.2) h.1).map C,c)) (by kernel_rfl) e f g
theorem vz:aX J 83 [aM b a] c (aM (2^a-1-b) a) (c++[.list ((bo (2^a-1-b) a).map C)]):=
 az [.dK ((bo (2^a-1-b) a).map C) c,.aa (aM (2^a-1-b) a)]
  (H (aao c e f g)<|H (gR (cc c (.list ((bo (2^a-1-b) a).map C))) (cD (by rw[gb];exact rU e f)))<|aj (aM (2^a-1-b) a) (c++[.list ((bo (2^a-1-b) a).map C)])) (by kernel_rfl)
end
theorem Er:∀{g a:I},h∈ga a g->∃b:I,a<=b/\b<a+g/\h=C b
 |g+1,a,c=>by
  rcases em.mp c with c|c
  .exact⟨a,c_ _,V6,c⟩
  .refine as λk e=>?_;obtain⟨b,f,i,j⟩:=Er (a:=a+1) c;exact e (⟨b,FR f,V7 i,j⟩)
noncomputable def h2(a:I)(b:L):I:=a/2^(b.fk.getD 0).toNat%2
noncomputable def pG(b:E L)(c e:I)(a:L):ah:=b.any λf=>a_ (C (h2 c a+h2 e a)) f
noncomputable def iV(a:E L)(b c:I)(e:L):L:=if pG a b c e then .int 1 else .int 0
section
variable(g:N){a b e:I}
theorem DV(b:I)(c:a<=4)(e:h∈ga 0 a):ck g (aM b a) h=A (C (h2 b h)):=by
 refine as λk f=>?_;obtain⟨j,k,i,rfl⟩:=Er (a:=0) e;exact f (sh g (rm (b:=b) (V8 i)) (by rw[gb];exact uO c))
theorem Np(a:E L)(c:L):f_ (pG a b e c) (L.int 1=iV a b e c/\g=g) (L.int 0=iV a b e c/\g=g):=by
 unfold iV;cases pG a b e c<;>exact⟨G,G⟩
noncomputable def zo(h:E L)(b e a:I)(g:N)(f:E L):E a7:=[.afN (λi=>J) (iV h b e) (λc=>[.aa (C (h2 b c)),.aa (C (h2 e c)),.aa (C (h2 b c+h2 e c)),.b (pG h b e c)]),.af8 (ga 0 a,[],g),.aa (.ab f)]
theorem xl(c:a<=4)(f:E L)(k:∀i:I,i5 g (C i) (.ab f)=A (f.any λl=>a_ (C i) l))(m:P):eW g .len [aM b a]=A (C a,g)/\eb g .range [C a]=A (ga 0 a,[],g)/\(d_ g []=J/\∀h,h∈ga 0 a->cN (.bool J)=A J/\g=g/\(J=J->ck g (aM b a) h=A (C (h2 b h))/\ck g (aM e a) h=A (C (h2 e h))/\c2 g .add (C (h2 b h)) (C (h2 e h))=A (C (h2 b h+h2 e h),g)/\bY g .agf (C (h2 b h+h2 e h)) (.ab f)=A (pG f b e h)/\
 f_ (pG f b e h) (L.int 1=iV f b e h/\g=g) (L.int 0=iV f b e h/\g=g)))/\P:=
 ⟨iz (b:=b) g c,p0 g (b:=a) (Ff c),⟨G,λh j=>⟨G,G,λn=>⟨DV g b c j,DV g e c j,G,k _,Np g f h⟩⟩⟩,m⟩
variable(h:0<a)(f:a<=4)(i:b<2^a)(k:e<2^a)
include h f i k
theorem Nv:((ga 0 a).map (iV [.int 2] b e)=(bo (dI b e a 0).toNat a).map C/\(ga 0 a).map (iV [.int 1,.int 2] b e)=(bo (dI b e a 1).toNat a).map C)/\(ga 0 a).map (iV [.int 1] b e)=(bo (dI b e a 2).toNat a).map C:=by
 have c:=k7 (e:=λg=>(((ga 0 g.1).map (iV [.int 2] g.2.1 g.2.2),(ga 0 g.1).map (iV [.int 1,.int 2] g.2.1 g.2.2)),(ga 0 g.1).map (iV [.int 1] g.2.1 g.2.2)))
  (f:=λg=>(((bo (dI g.2.1 g.2.2 g.1 0).toNat g.1).map C,(bo (dI g.2.1 g.2.2 g.1 1).toNat g.1).map C),(bo (dI g.2.1 g.2.2 g.1 2).toNat g.1).map C)) (by kernel_rfl) h f i k
 exact⟨jo (jo c).1,(jo c).2⟩
omit h f i k in
abbrev k2(b:I)(c:E L)(g:N)(e:L):Prop:=∃a,g<+:a/\aX J b c g e a
omit h f i k in
theorem x4(a:E L):a.filter (λb=>J)=a:=E.filter_eq_self.mpr λb b=>rfl
omit h f i k in
theorem pm(g:N)(b e a c:I):g<+:cW g b e a c:=(eZ g _).trans (eZ _ _)
omit h f i k in
noncomputable def fH(c:E L)(b e a:I):E L:=((ga 0 a).filter λf=>J).map (iV c b e)
theorem pT:(fH [.int 2] b e a=(bo (dI b e a 0).toNat a).map C/\fH [.int 1,.int 2] b e a=(bo (dI b e a 1).toNat a).map C)/\fH [.int 1] b e a=(bo (dI b e a 2).toNat a).map C:=by
 unfold fH;rw[x4];exact Nv h f i k
theorem aav:k2 64 [a5 "bvand",aM b a,aM e a] g (aM (dI b e a 0).toNat a):=by
 have c:aX J 64 [a5 "bvand",aM b a,aM e a] g (.ab (fH [.int 2] b e a)) (g++[.list (fH [.int 2] b e a)]):=az (.aa (C a)::aT 2 (zo [.int 2] b e a g (fH [.int 2] b e a)))
  (xl g (b:=b) (e:=e) f [.int 2] (λj=>rfl)<|H (gR (cc g (.list (fH [.int 2] b e a))) (cD (by rw[(pT h f i k).1.1,gb];exact rU h f)))<|aj (.ab (fH [.int 2] b e a)) (g++[.list (fH [.int 2] b e a)])) (by kernel_rfl)
 rw[(pT h f i k).1.1]at c;exact⟨_,eZ _ _,c⟩
theorem aaD:k2 64 [a5 "bvor",aM b a,aM e a] g (aM (dI b e a 1).toNat a):=by
 have c:aX J 64 [a5 "bvor",aM b a,aM e a] g (.ab (fH [.int 1,.int 2] b e a)) (g++[.list (fH [.int 1,.int 2] b e a)]):=az (.aa (C a)::aT 2 (zo [.int 1,.int 2] b e a g (fH [.int 1,.int 2] b e a)))
  (xl g (b:=b) (e:=e) f [.int 1,.int 2] (λj=>rfl)<|H (gR (cc g (.list (fH [.int 1,.int 2] b e a))) (cD (by rw[(pT h f i k).1.2,gb];exact rU h f)))<|aj (.ab (fH [.int 1,.int 2] b e a)) (g++[.list (fH [.int 1,.int 2] b e a)])) (by kernel_rfl)
 rw[(pT h f i k).1.2]at c;exact⟨_,eZ _ _,c⟩
theorem aaI:k2 64 [a5 "bvxor",aM b a,aM e a] g (aM (dI b e a 2).toNat a):=by
 have c:aX J 64 [a5 "bvxor",aM b a,aM e a] g (.ab (fH [.int 1] b e a)) (g++[.list (fH [.int 1] b e a)]):=az (.aa (C a)::aT 2 (zo [.int 1] b e a g (fH [.int 1] b e a)))
  (xl g (b:=b) (e:=e) f [.int 1] (λj=>rfl)<|H (gR (cc g (.list (fH [.int 1] b e a))) (cD (by rw[(pT h f i k).2,gb];exact rU h f)))<|aj (.ab (fH [.int 1] b e a)) (g++[.list (fH [.int 1] b e a)])) (by kernel_rfl)
 rw[(pT h f i k).2]at c;exact⟨_,eZ _ _,c⟩
omit h f i k in
noncomputable def f8(b e a:I):I->I
 |0=>0
 |c+1=>if e/2^c%2=1 then(f8 b e a c+b*2^c%2^a+0)%2^a else f8 b e a c
omit h f i k in
noncomputable def F4(b e a:I):E I:=[(b+e+0)%2^a,(b+(2^a-1-e)+1)%2^a,f8 b e a a,if e=0 then 2^a-1 else b/e,if e=0 then b else b%e]
theorem XS:[(dI b e a 3).toNat,(dI b e a 4).toNat,(dI b e a 5).toNat,(dI b e a 8).toNat,(dI b e a 9).toNat]=F4 b e a:=
 k7 (e:=λg=>[(dI g.2.1 g.2.2 g.1 3).toNat,(dI g.2.1 g.2.2 g.1 4).toNat,(dI g.2.1 g.2.2 g.1 5).toNat,(dI g.2.1 g.2.2 g.1 8).toNat,(dI g.2.1 g.2.2 g.1 9).toNat]) (f:=λg=>F4 g.2.1 g.2.2 g.1) (by kernel_rfl) h f i k
theorem aau:k2 64 [a5 "bvadd",aM b a,aM e a] g (aM ((b+e+0)%2^a) a):=
 ⟨_,pm g b e 0 a,az (.aa (C a)::aT 2 [.w (.ab [aM ((b+e+0)%2^a) a,.ref (g++[aO.list []]).length]) (cW g b e 0 a)]) (H (iz (b:=b) g f)<|H (pe g h f i k (c:=0) (ap G))<|aj (aM ((b+e+0)%2^a) a) (cW g b e 0 a))⟩
omit h f i k in
noncomputable def eS(g:N)(e a:I):N:=g++[.list ((bo (2^a-1-e) a).map C)]
omit h f i k in
theorem uG:2^a-1-e<2^a:=by have:=jm a;exact(c0 (oM _ _) (JN this (ap G)))
theorem aaH:k2 64 [a5 "bvsub",aM b a,aM e a] g (aM ((b+(2^a-1-e)+1)%2^a) a):=
 ⟨_,(eZ g _).trans (pm (eS g e a) b (2^a-1-e) 1 a),az (.aa (C a)::aT 3 [.w (aM (2^a-1-e) a) (eS g e a),.w (.ab [aM ((b+(2^a-1-e)+1)%2^a) a,.ref (eS g e a++[aO.list []]).length]) (cW (eS g e a) b (2^a-1-e) 1 a)])
  (H (iz (b:=b) g f)<|H (vz g h f k)<|H (pe (eS g e a) h f i (uG (e:=e)) (c:=1) (ap G))<|aj (aM ((b+(2^a-1-e)+1)%2^a) a) (cW (eS g e a) b (2^a-1-e) 1 a)) (by kernel_rfl)⟩
omit k in
theorem Zr(c:l<a):fh M (A a) (eM l++(bo b a).map C)=(bo (b*2^l%2^a) a).map C:=
 k7 (e:=λe=>fh M (A (e.1:O)) (eM e.2.2++(bo e.2.1 e.1).map C)) (f:=λe=>(bo (e.2.1*2^e.2.2%2^e.1) e.1).map C) (by kernel_rfl) h f i (gC c I.lt_two_pow_self)
omit h f i k in
noncomputable def Ew:E c:=[a9 (ba (ar ao bS) a0) [bl 5 (ar (aV 82 [bN,.slice (dd (ep (aU [aQ]) bS) ac) h7 aS,aQ]) aQ)]]
omit h f i k in
noncomputable def l2(b e a c:I)(f:j L):aK:=[A (a5 "bvmul"),A (aM b a),A (aM e a),A (C a),M,A (aM c a),f,M,M]
omit h f i k in
theorem Uc:∀l,f8 b e a l<2^a:=by
 intro c
 induction c with
 |zero=>
  exact jm a
 |succ l f=>
  show(if _ then _ else _)<_
  split
  .exact lF _ (jm a)
  .exact f
theorem Uh(g:l<a)(q:j L)(c:N):∃o,c<+:o/\bt J bx bP Ew ((l2 b e a (f8 b e a l) q).set 6 (A (C l))) c=A (.next,l2 b e a (f8 b e a (l+1)) (A (C l)),o):=by
 have m:=sh c (rm (b:=e) g) (by rw[gb];exact uN h f);by_cases k:e/2^l%2=1
 .rw[k]at m;have n:f8 b e a (l+1)=(f8 b e a l+b*2^l%2^a+0)%2^a:=cd k;rw[n];have p:=p3 c (l:=eM l++(bo b a).map C) (by rw[bJ,gb];unfold eM;rw[yZ];exact Fi h f g) M (A a);rw[Zr h f i g]at p;exact⟨_,pm c (f8 b e a l) (b*2^l%2^a) 0 a,cG [.aa (C 1),.b J,.aa (.ab (eM l)),.aa (.ab (eM l++(bo b a).map C)),.aa (aM (b*2^l%2^a) a),.w (.ab [aM ((f8 b e a l+b*2^l%2^a+0)%2^a) a,.ref (c++[aO.list []]).length]) (cW c (f8 b e a l) (b*2^l%2^a) 0 a)]
   (H m<|H (rv c 1)<|H (oj c (l:=l) (V9 h f g) (.int 0))<|H (pq c (l:=eM l) (m:=(bo b a).map C) (by rw[gb];unfold eM;rw[yZ];exact Fi h f g))<|H p<|H (pe c h f (Uc (b:=b) (e:=e) l) (lF (b*2^l) (jm a)) (c:=0) (ap G))<|bM (l2 b e a ((f8 b e a l+b*2^l%2^a+0)%2^a) (A (C l))) (cW c (f8 b e a l) (b*2^l%2^a) 0 a)) (by kernel_rfl)⟩
 .have n:f8 b e a (l+1)=f8 b e a l:=bZ k;rw[n];exact⟨c,b_ c,cG [.aa (C (e/2^l%2)),.b d] (H m<|H (km c (a:=(e/2^l%2:I)) (b:=1) λr=>k (fn r))<|bM (l2 b e a (f8 b e a l) (A (C l))) c)⟩
theorem aaB:k2 64 [a5 "bvmul",aM b a,aM e a] g (aM (f8 b e a a) a):=by
 obtain⟨w,l,m,⟨c,rfl⟩,o⟩:=pA (j:=6) (k:=a) (n:=λj g=>bt J bx bP Ew j g)
  (e:=λr j n=>(∃c,j=l2 b e a (f8 b e a r) c)/\g<+:n) (λr j n t u=>by
   obtain⟨⟨c,rfl⟩,o⟩:=u;obtain⟨x,v,m⟩:=Uh h f i k t c n;exactλy p=>p _ _ _ (λy p=>p m G ⟨⟨_,G⟩,o.trans v⟩))
  a 0 (l2 b e a 0 M) g (g4 a) ⟨⟨M,G⟩,b_ g⟩
 have s:=oj g f (.int 0);rw[show hM a [.int 0]=eM a from G,((iv (c:=λq=>eM q.1) (e:=λq=>(bo 0 q.1).map C) (by kernel_rfl) h f i):eM a=(bo 0 a).map C)]at s;exact⟨l,o,az (.aa (C a)::aT 4 [.aa (aM 0 a),.af2 .next (l2 b e a (f8 b e a a) c) l]) (H (iz (b:=b) g f)<|H s<|H (i_ (p0 g (b:=a) (Fh h f)) m)<|aj (aM (f8 b e a a) a) l)⟩
end
end
section
section
variable(f:N){a e b:I}(i:0<a)(g:a<=4)(j:e<2^a)(h:b<2^a)
include i g h
noncomputable def Di:X:=.not (.call 86 [(.var 3),(.var 1)])
noncomputable def Dh:E c:=[bl 3 (ar (aV 82 [aS,aV 83 [ac],a0]) aQ),bl 2 (dd ao a0)]
noncomputable def n1(c:L)(b a e f:I):aK:=[A c,A (aM b a),A (C e),A (aM f a)]
omit h in
theorem TB(e:L)(f:I)(j:l<2^a)(h:b<2^a)(c:N):eO J bx bP Di (n1 e b a f l) c=A (!decide (l<b),c):=
 ps [.aa (.bool (decide (l<b)))] (H (pL c i g j h)<|H (G:cN (.bool (!decide (l<b)))=A (!decide (l<b))) (G:c=c))
theorem OR(f:L)(e:I)(j:l<2^a)(c:N):bt J bx bP Dh (n1 f b a e l) c=A (.next,n1 f b a (e+1) ((l+(2^a-1-b)+1)%2^a),cW (eS c b a) l (2^a-1-b) 1 a):=
 cG [.w (aM (2^a-1-b) a) (eS c b a),.w (.ab [aM ((l+(2^a-1-b)+1)%2^a) a,.ref (eS c b a++[aO.list []]).length]) (cW (eS c b a) l (2^a-1-b) 1 a),.go,.aa (C (e+1))]
  (H (vz c i g h)<|H (pe (eS c b a) i g j (uG (e:=b)) (c:=1) (ap G))<|H (G:c2 (cW (eS c b a) l (2^a-1-b) 1 a) .add (C e) (.int 1)=A (C (e+1),cW (eS c b a) l (2^a-1-b) 1 a))<|bM (n1 f b a (e+1) ((l+(2^a-1-b)+1)%2^a)) (cW (eS c b a) l (2^a-1-b) 1 a)) (by kernel_rfl)
theorem OS(e:L)(k:0<b):∀(p o l:I)(m:N),l<p->l<2^a->∃q,m<+:q/\iE (eO J bx bP Di) (λt f=>bt J bx bP Dh t f) p (n1 e b a o l) m=A (.next,n1 e b a (o+l/b) (l%b),q):=by
 intro p
 induction p with
 |zero=>intro o l m n;exact(yq n).elim
 |succ p u=>
  intro o l m n r;have j:=TB i g e o r h m;by_cases c:l<b
  .rw[cg c]at j;exact⟨m,b_ m,by rw[I.div_eq_of_lt c,JF c];exact vC j⟩
  .rw[dU c]at j;have v:(l+(2^a-1-b)+1)%2^a=l-b:=by
    rw[show l+(2^a-1-b)+1=l-b+2^a by exact V_ h c,I.add_mod_right];exact JF (I.sub_lt_of_lt r)
   have s:=OR i g h e o r m;rw[v]at s;obtain⟨q,w,x⟩:=u (o+1) (l-b) (cW (eS m b a) l (2^a-1-b) 1 a) (dz (JN (dz k (lE c)) k) (nu n)) (by omega);refine⟨q,((eZ m _).trans (pm (eS m b a) l (2^a-1-b) 1 a)).trans w,?_⟩;rw[p7 j s G,x,I.div_eq_sub_div k (hv.mp c),I.mod_eq_sub_mod (hv.mp c),kJ,kK 1]
include j
theorem Dj:k2 84 [aM e a,aM b a] f (.ab [aM (if b=0 then 2^a-1 else e/b) a,aM (if b=0 then e else e%b) a]):=by
 have n:bY f .agh (.int 1) (aM b a)=A (decide (b=0)):=iv (c:=λl=>bY f .agh (.int 1) (aM l.2 l.1)) (e:=λl=>A (decide (l.2=0))) (by kernel_rfl) i g h;by_cases c:b=0
 .rw[cg c]at n;refine(cd c).symm▸(cd c).symm▸?_;have m:=oj f g (.int 1);rw[show hM a [.int 1]=(bo (2^a-1) a).map C from iv (c:=λl=>hM l.1 [.int 1]) (e:=λl=>(bo (2^l.1-1) l.1).map C) (by kernel_rfl) i g j]at m;exact⟨f,b_ f,az [.b J,.aa (C a),.aa (aM (2^a-1) a)] (H n<|H (iz (b:=e) f g)<|H m<|aj (.ab [aM (2^a-1) a,aM e a]) f)⟩
 .rw[dU c]at n;refine(bZ c).symm▸(bZ c).symm▸?_;obtain⟨o,p⟩:=ud (g:=e+1) (dz (m:=17) (by have:2^a<=2^4:=hQ (ap G) g;exact Wa j this) (bG (by decide:17<=2^5) (hQ (ap G) (ap G))));obtain⟨k,q,m⟩:=OS i g h (aM e a) (qF c) (e+1+1+o) 0 e f (dz (Jz (by decide:0<2)) (d8 _ _)) j;rw[g4,<-p]at m;exact⟨gI k (e/b) a,q.trans (eZ k _),az [.b d,.go,.af2 .next (n1 (aM e a) b a (e/b) (e%b)) k,.aa (C a),.w (aM (e/b) a) (gI k (e/b) a)] (H n<|H m<|H (iz (b:=e) k g)<|H (CJ k (e/b) g)<|aj (.ab [aM (e/b) a,aM (e%b) a]) (gI k (e/b) a))⟩
theorem aax:k2 64 [a5 "bvudiv",aM e a,aM b a] f (aM (if b=0 then 2^a-1 else e/b) a):=by
 obtain⟨c,k,l⟩:=Dj f i g j h;exact⟨c,k,az (.aa (C a)::aT 5 [.w (.ab [aM (if b=0 then 2^a-1 else e/b) a,aM (if b=0 then e else e%b) a]) c]) (H (iz (b:=e) f g)<|H l<|aj (aM (if b=0 then 2^a-1 else e/b) a) c)⟩
theorem aaE:k2 64 [a5 "bvurem",aM e a,aM b a] f (aM (if b=0 then e else e%b) a):=by
 obtain⟨c,k,l⟩:=Dj f i g j h;exact⟨c,k,az (.aa (C a)::aT 6 [.w (.ab [aM (if b=0 then 2^a-1 else e/b) a,aM (if b=0 then e else e%b) a]) c]) (H (iz (b:=e) f g)<|H l<|aj (aM (if b=0 then e else e%b) a) c)⟩
theorem aaw(c:i8[l]?=A m):k2 64 [a5 m,aM e a,aM b a] f (aM (dI e b a l).toNat a):=by
 have k:=XS i g j h;injection k with n k;injection k with o k;injection k with p k;injection k with q k;injection k with r k
 match l,c with
 |0,c=>obtain rfl:=aG c;exact aav f i g j h
 |1,c=>obtain rfl:=aG c;exact aaD f i g j h
 |2,c=>obtain rfl:=aG c;exact aaI f i g j h
 |3,c=>obtain rfl:=aG c;rw[n];exact aau f i g j h
 |4,c=>obtain rfl:=aG c;rw[o];exact aaH f i g j h
 |5,c=>obtain rfl:=aG c;rw[p];exact aaB f i g j h
 |6,c=>obtain rfl:=aG c;exact⟨f,b_ f,aaF f i g j h⟩
 |7,c=>obtain rfl:=aG c;exact⟨f,b_ f,aaG f i g j h⟩
 |8,c=>obtain rfl:=aG c;rw[q];exact aax f i g j h
 |9,c=>obtain rfl:=aG c;rw[r];exact aaE f i g j h
end
end
section
structure cv(b c:I)(a:ew):Prop where
 pos:0<a.2
 afe:oA a.1 a.2=1
 div:a.2∣(b:O)
 y:a.1.natAbs<=c*a.2.natAbs
section
variable{b g c e:I}{a f:ew}
def cv.up(f:cv b c a)(h:b∣g)(i:c<=e):cv g e a:=⟨f.pos,f.afe,O.dvd_trans f.div (O.ofNat_dvd.mpr h),bG f.y (qE _ i)⟩
def Yd{c a:O}(e:0<c)(f:0<c*a):0<a:=by
 rcases O.lt_or_le 0 a with b|b
 .exact b
 .exact bC f (lA.mpr (O.mul_nonpos_of_nonneg_of_nonpos (oB e) b))
def cv.of{a f e:O}(g:0<a)(n:0<a*e)(h:oA (a*f) (a*e)=a.natAbs)(i:a*e∣b*(a*f))(j:(a*f).natAbs<=c*(a*e).natAbs):cv b c ((a*f).fdiv a,(a*e).fdiv a):=by
 refine(z1 _ (oB g)).symm▸(z1 _ (oB g)).symm▸(ID _ (kH g)).symm▸(ID _ (kH g)).symm▸?_;have k:0<a.natAbs:=IE.mpr (kH g);rw[O.gcd_mul_left]at h;have l:oA f e=1:=I.eq_of_mul_eq_mul_left k (h.trans (I.mul_one _).symm);refine⟨Yd g n,l,?_,?_⟩
 .rw[z6]at i;have m:=O.natAbs_dvd_natAbs.mpr (O.dvd_of_mul_dvd_mul_left (kH g) i);rw[mn]at m;exact IG.mpr (ade (k:=e.natAbs) (n:=f.natAbs) ((sQ e.natAbs f.natAbs).trans l) m)
 .rw[mn,mn,JH]at j;exact I.le_of_mul_le_mul_left j k
def cv.mi{e a:O}(j:0<a)(k:a∣b*e)(l:e.natAbs<=c*a.natAbs):cv b c (fF e a):=by
 have f:(0:O)<gp e a:=j2.mpr (qF (Ix (kH j)));obtain⟨m,g⟩:gp e a∣e:=O.gcd_dvd_left ..;obtain⟨n,h⟩:gp e a∣a:=O.gcd_dvd_right ..;have i:oA e a=(gp e a).natAbs:=G;unfold fF;revert i g h f;generalize gp e a=o;intro f g h i;subst g;subst h;exact cv.of f j i k l
def cv.add(g:cv b c a)(h:cv b e f):cv b (c+e) (d3 a f):=by
 obtain⟨i,j⟩:=g.div;obtain⟨k,l⟩:=h.div;refine cv.mi (qq g.pos h.pos) ⟨i*a.1+k*f.1,?_⟩ ?_
 .rw[IB,IB]
  congr 1
  .rw[j];simp only[O.mul_assoc,IC,z6]
  .rw[l];simp only[O.mul_assoc,IC,z6]
 .refine bG (O.natAbs_add_le _ _) ?_;rw[mn,mn,mn,I.add_mul];refine sO ?_ ?_
  .rw[<-Az];exact qE _ g.y
  .rw[qC a.2.natAbs,<-Az];exact qE _ h.y
def cv.mul(h:cv b c a)(i:cv g e f):cv (b*g) (c*e) (es a f):=by
 refine cv.mi (qq h.pos i.pos) ?_ ?_
 .rw[O.natCast_mul];exact z0 (O.mul_dvd_mul h.div i.div)
 .rw[mn,mn];refine bG (wb h.y i.y) (b3 ?_);simp only[Az,JH]
def cv.same(e:cv b c a):fF a.1 a.2=a:=by
 delta fF gp;refine e.afe.symm▸?_;show(a.1.fdiv 1,a.2.fdiv 1)=a;rw[sA,sA]
def cv.one_mul(e:cv b c a):es (1,1) a=a:=by
 show fF (1*a.1) (1*a.2)=a;rw[sC,sC];exact e.same
def cv.neg(e:cv b c a):cv b c (-a.1,a.2):=⟨e.pos,by rw[O.neg_gcd];exact e.afe,e.div,by rw[O.natAbs_neg];exact e.y⟩
def cv.zA(e:cv b c a):es (-1,1) a=(-a.1,a.2):=by
 show fF (-1*a.1) (1*a.2)=_;rw[sC,O.neg_one_mul];exact e.neg.same
end
abbrev ev(a:I)(b:ew):Prop:=cv (6^(a+1)) (3^(a+1)) b
section
variable{a e:I}{b c f:ew}
def ev.up(f:ev a b)(c:a<=e):ev e b:=cv.up f (AC 6 (hw c)) (hQ (ap G) (hw c))
def cv.hO(a:cv g B b)(f:0<g)(h:0<B)(c:B*g<2^400):cO b:=by
 have e:b.2.natAbs<=g:=I.le_of_dvd f (IG.mp a.div);exact⟨a.pos,c0 a.y (c0 (qD B e) c),c0 e (c0 (Jx g h) c)⟩
def ev.hO(e:ev a b)(c:a<=40):cO b:=
 cv.hO e (oL (ap G)) (oL (ap G)) (c0 (wb (hQ (ap G) (hw c)) (hQ (ap G) (hw c))) (ap G))
def cv.num(c:cv g B b)(e:g∣6^(a+1))(f:B<=3^(a+1)):ev a b:=cv.up c e f
def NQ(a:I):3<=3^(a+1):=by rw[kM];have:=oL (n:=a) (by decide:0<3);exact(Jx 3 this)
def aay(a:I):2∣6^(a+1):=by rw[kM];exact I.dvd_mul_left_of_dvd (by decide) _
abbrev jt(a:ew):Prop:=cv 2 2 a
def ev.sum(e:ev a b)(f:ev a c):ev (a+1) (d3 b c):=
 cv.up (cv.add e f) (AC 6 (fo _)) (by rw[kM 3 (a+1)];exact(bG (b3 (JI _).symm) (qD _ (ap G))))
def ev.ack(e:ev a b)(g:ev a c)(h:jt f):ev (a+1) (d3 (d3 b c) f):=
 cv.up (cv.add (cv.add e g) (cv.up h (aay a) (c_ _))) (AC 6 (fo _)) (by rw[kM 3 (a+1)];have:=NQ a;exact Wc this)
def ev.HE(e:ev a b)(f:jt c):ev (a+1) (es c b):=
 cv.up (cv.mul f e) (by rw[kM 6 (a+1),qC];exact JG _ (by decide)) (by rw[kM 3 (a+1)];exact(bG (b3 (qC 2 _)) (qD _ (ap G))))
def ev.acl(c:ev a b):ev (a+1) (es (2,3) b):=
 cv.up (cv.mul (b:=3) (c:=1) (a:=(2,3)) ⟨by decide,by decide,by decide,by decide⟩ c) (by rw[kM 6 (a+1),qC];exact JG _ (by decide)) (by rw[kM 3 (a+1)];exact(bG (b3 (qC 1 _)) (qD _ (ap G))))
end
end
section
inductive bD where
 |b (a:ah)
 |afX (c:ew)
 |afV (e:I)
 |aa (f g:I)
noncomputable def bD.bc:bD->L
 |.b a=>.bool a
 |.afX c=>aD c
 |.afV e=>C e
 |.aa f g=>aM f g
noncomputable def bD.aP(a:I):bD->L
 |.b c=>.bool c
 |.afX e=>aD e
 |.afV f=>k9 a f
 |.aa g h=>aW g h
inductive dq(aB:E I)(a:I):I->bD->Prop
 |b (i:ah):dq aB a 0 (.b i)
 |agc (e:ew) (j:ev a e) (k:e.2=1):dq aB a 1 (.afX e)
 |af4 (e:ew) (j:ev a e):dq aB a 2 (.afX e)
 |afV (g:I) (l:g<3):dq aB a 3 (.afV g)
 |aa (f h c:I) (m:4<=f) (n:aB[f]?=some c) (o:0<c) (p:c<=4) (q:h<2^c):dq aB a f (.aa h c)
def dq.up{aB f:E I}{g h c:I}{a:bD}(e:dq aB g c a)(j:aB<+:f)(i:g<=h):dq f h c a:=by
 cases e with
 |b k=>exact .b k
 |agc a e l=>exact .agc a (e.up i) l
 |af4 a e=>exact .af4 a (e.up i)
 |afV m n=>exact .afV m n
 |aa c o p q r s t u=>exact .aa c o p q (d4 j r) s t u
structure eh(c:I)(b e:N):Prop where
 le:b.length<=e.length
 same:∀a,a<b.length->a≠c->e[a]?=b[a]?
 aeg:∃g,e[c]?=A (.list [.int g])
abbrev fr(a:I)(b:N):Prop:=∃c,b[a]?=A (.list [.int c])
section
variable{g j f:I}{i:E bA}{h:bp}{c e k:N}
def eh.refl(a:fr f c):eh f c c:=⟨c_ _,λb b b=>rfl,a⟩
def eh.trans(a:eh f c e)(b:eh f e k):eh f c k:=⟨bG a.le b.le,λg h i=>(b.same g (dz h a.le) i).trans (a.same g h i),b.aeg⟩
def eh.pre(a:fr f c)(b:c<+:e):eh f c e:=⟨b.length_le,λh a k=>by obtain⟨i,rfl⟩:=b;exact eK a,a.imp λj g=>d4 b g⟩
def eh.bu(g:eh f c e)(a:c[b]?=A B)(h:b≠f):e[b]?=A B:=(g.same b (d6.mp a).1 h).trans a
theorem bn.ed(b:bn g h c)(i:eh f c e)(j:g+13<=f):bn g h e where
 afS:=i.bu b.afS (h5 (b:=0) j (ap G))
 c8:=i.bu b.c8 (h5 j (ap G))
 names:=i.bu b.names (h5 j (ap G))
 a:=i.bu b.a (h5 j (ap G))
 cl:=i.bu b.cl (h5 j (ap G))
 t:=i.bu b.t (h5 j (ap G))
 cq:=i.bu b.cq (h5 j (ap G))
 aes:=i.bu b.aes (h5 j (ap G))
 args:=i.bu b.args (Wd j)
 aex:=i.bu b.aex (h5 j (ap G))
 aeu:=i.bu b.aeu (h5 j (ap G))
 aep:=i.bu b.aep (h5 j (ap G))
 aer:=i.bu b.aer (ee j)
 bI:=b.bI
 aeF:=b.aeF
 afW:=b.afW
 aen:=b.aen
 aek:=b.aek
theorem cA.ed(a:cA g i c)(b:eh f c e)(h:g+17<=f)(m:∀B∈i,B.d0≠A f):cA g i e where
 ael:=b.bu a.ael (Fj h)
 aem:=b.bu a.aem (Fk h)
 aee:=b.bu a.aee (uP h)
 aej:=b.bu a.aej (ys h)
 q B j l k:=⟨b.bu (a.q B j l k).1 (λn=>m B j (n▸k)),(a.q B j l k).2⟩
 bare:=a.bare
def ca.ed(a:ca g j i h c)(b:eh f c e)(k:g+17<=f)(l:∀B∈i,B.d0≠A f):ca g j i h e:=
 ⟨a.an.ed b (fG k),a.v.ed b k l,a.s,a.aet,bG a.l b.le,a.aev⟩
def fs(g:fr f c)(k:0<a):aA (kW (λl e=>e1 (l<a) (aX J 19 [.ref f,C a] c (C l) e) (eh f c e))):=by
 obtain⟨b,g⟩:=g;have h:(0:O)<a:=j2.mpr k;have m:=sE (Iw b h);have n:c2 c .mod (.int b) (C a)=A (C (b.fmod a).toNat,c):=by
  show((a4 (decide ((a:O)≠0)) (A (z2 b a))).map L.int).map _=_;exact(bH (cg (kH h))).symm▸(bj (λp=>A (L.int p,c)) m.symm)
 have bq:m8 c (.ref f) (.int 0) (.int (b.fdiv a))=A (bd c f (.list [.int (b.fdiv a)])):=by
  show(c[f]?.bind λq=>match q with|.list i=>a4 (decide (0<=(0:O)/\(0:O)<i.length)&&bV i.length) (A (bd c f (.list (i.set (0:O).toNat (.int (b.fdiv a))))))|.afP o=>a4 (bV o.length) (A (bd c f (.afP (h8 0 (.int (b.fdiv a)) o))))|_=>M)=_;refine g.symm▸?_;rfl
 exactλt j=>j (b.fmod a).toNat (bd c f (.list [.int (b.fdiv a)])) (λt j=>j (Fm m (Iv b h)) (az [.aa (.int b),.aa (C (b.fmod a).toNat),.aa (.int b),.aa (.int (b.fdiv a)),.afO (bd c f (.list [.int (b.fdiv a)]))] (H (cH g 0 rfl rfl)<|H n<|H (cH g 0 rfl rfl)<|H (n7 c b (a:=a) (kH h))<|H bq<|aj (C (b.fmod a).toNat) (bd c f (.list [.int (b.fdiv a)])))) ⟨b3 fJ.symm,λs t r=>c5 (dA r),_,ex g⟩)
def dL.cT(e:dL g i h)(a:b<4):h.a[b]?=A 0:=by
 have c:(h.a.take 4)[b]?=A 0:=by
  rw[e.aeV]
  match b,a with
  |0,_=>rfl
  |1,_=>rfl
  |2,_=>rfl
  |3,_=>rfl
 rw[Ai a]at c;exact c
def iy(b:bn g h c)(f:a<4)(e:h.a[a]?=A 0):aX J 28 [.ref (g+1),C a] c (.bool (decide (a=3))) c:=by
 revert a;refine@dk _ _ (λi=>?_) (dk (λi=>?_) (dk (λi=>?_) (jK λe=>?_)))
 .exact az [] (aj (.bool d) c)
 .exact az [] (aj (.bool d) c)
 .exact az [] (aj (.bool d) c)
 .exact az [.go,.aa (.ref (g+3)),.aa (C 0)] (H (b.br 5 rfl)<|H (b.w e)<|aj (.bool J) c)
def oq(a:bn g h c)(l:dL g i h)(j:dq h.a u o m):aX J 8 [.ref (g+1),C o,m.bc] c (m.aP o) c:=by
 have e:=a.a2;cases j with
 |b r=>exact az [.aa (C 0),.go,.aa (.bool d)] (H e<|H (gT a (l.cT (b:=0) (ap G)))<|H e<|H (iy a (a:=0) (ap G) (l.cT (ap G)))<|aj (.bool r) c)
 |agc m j v=>exact az [.aa (C 0),.go,.aa (.bool d)] (H e<|H (gT a (l.cT (b:=1) (ap G)))<|H e<|H (iy a (a:=1) (ap G) (l.cT (ap G)))<|aj (aD m) c)
 |af4 m j=>exact az [.aa (C 0),.go,.aa (.bool d)] (H e<|H (gT a (l.cT (b:=2) (ap G)))<|H e<|H (iy a (a:=2) (ap G) (l.cT (ap G)))<|aj (aD m) c)
 |afV f=>exact az [.aa (C 0),.go,.aa (.bool J)] (H e<|H (gT a (l.cT (b:=3) (ap G)))<|H e<|H (iy a (a:=3) (ap G) (l.cT (ap G)))<|aj (k9 3 f) c)
 |aa o k n w s p q t=>exact az [.aa (C n),.b J,.aa (C k),.aa (C n)] (H e<|H (gT a s)<|H (rC c p)<|H (xF c p q t)<|H (iz (b:=k) c q)<|aj (aW k n) c)
def dL.qk(a:dL g i h)(c:4<=B)(e:h.a[B]?=A b):0<b/\b<=4:=by
 refine a.ae6 b (d7 (i:=B-4) ((Ah).symm▸(v9 c).symm▸?_));exact e
def Ye(c:N)(b:a<=4):c2 c .pow (.int 2) (C a)=A (C (2^a),c):=
 @dk (λa=>c2 c .pow (.int 2) (C a)=A (C (2^a),c)) _ (by kernel_rfl) (dk (by kernel_rfl) (dk (by kernel_rfl) (dk (by kernel_rfl) (jK (by kernel_rfl))))) a (Ax b)
def EP{b a:I}(e:b<7)(c:a<3):ev 0 (fF ((b:O)-3) (1+a:I)):=by
 refine cv.mi (j2.mpr (yt c)) ?_ ?_
 .refine z0 ?_;revert a;exact@dk _ _ (by decide) (dk (by decide) (jK (by decide)))
 .show((b:O)-3).natAbs<=3*(1+a);omega
def UD{a:I}(c:a<7):ev 0 ((a:O)-3,1):=by
 have b:=EP c (a:=0) (ap G);rw[show fF ((a:O)-3) (1+0:I)=((a:O)-3,1)from by
  delta fF gp;rw[show((1+0:I):O)=1 from G,z3];show(qp _ 1,qp 1 1)=_;rw[sA];rfl]at b
 exact b
def vm(m:bn g h c)(r:dL g i h)(t:fr f c)(D:g+13<=f){n k:I}(l:h.a[n]?=A k):aA (kW (λx e=>e1 (aX J 15 [.ref (g+1),C n,.ref f] c (bD.bc x) e) (eh f c e) (dq h.a 0 n x))):=by
 have p:=m.a2
 match n,l with
 |0,l=>
  exact fs t (a:=2) (ap G) _ λa e E=>E _ λq j o=>λT b=>b (.b (a_ (C a) (.int 1))) e (λT b=>b (az [.go,.w (C a) e,.b (a_ (C a) (.int 1))] (H j<|H (G:bY e .eq (C a) (.int 1)=A (a_ (C a) (.int 1)))<|aj (.bool (a_ (C a) (.int 1))) e)) o (.b _))
 |1,l=>
  exact fs t (a:=7) (ap G) _ λa e F=>F _ λq j o=>λT b=>b (.afX ((a:O)-3,1)) e (λT b=>b (az [.go,.aa (C 0),.go,.aa (.bool d),.w (C a) e] (H p<|H (gT m (r.cT (b:=1) (ap G)))<|H p<|H (iy m (a:=1) (ap G) (r.cT (ap G)))<|H j<|aj (aD ((a:O)-3,1)) e)) o (.agc _ (UD q) G))
 |2,l=>
  exact fs t (a:=7) (ap G) _ λa u K=>K _ λq L y=>fs y.aeg (a:=3) (ap G) _ λj s N=>N _ λv P Q=>λT b=>b (.afX (fF ((a:O)-3) (1+j:I))) s (λT b=>b (az [.go,.aa (C 0),.go,.aa (.bool d),.w (C a) u,.aa (.int ((a:O)-3)),.go,.w (C j) s,.aa (C (1+j)),.aa (fv ((a:O)-3) (1+j:I))]
   (H p<|H (gT m (r.cT (b:=2) (ap G)))<|H p<|H (iy m (a:=2) (ap G) (r.cT (ap G)))<|H L<|H (G:c2 u .sub (C a) (.int 3)=A (.int ((a:O)-3),u))<|H P<|H (G:c2 s .add (.int 1) (C j)=A (C (1+j),s))<|
    H (F_ s ((a:O)-3) (b:=1+j) (yt v) (dz ((I.add_lt_of_lt_sub' v):1+j<2^2) (hQ (ap G) (ap G))))<|aj (fv ((a:O)-3) (1+j:I)) s) (by kernel_rfl)) (y.trans Q) (.af4 _ (EP q v)))
 |3,l=>
  exact fs t (a:=3) (ap G) _ λa e R=>R _ λq j o=>λT b=>b (.afV a) e (λT b=>b (az [.go,.aa (C 0),.go,.aa (.bool J),.w (C a) e] (H p<|H (gT m (r.cT (b:=3) (ap G)))<|H p<|H (iy m (a:=3) (ap G) (r.cT (ap G)))<|H j<|aj (C a) e)) o (.afV a q))
 |n+4,l=>
  obtain⟨z,w⟩:=r.qk (mr 4 n) l;refine fs t (a:=2^k) (jm k) _ λa e S=>S _ λq j o=>?_;have B:=m.ed o D;exactλT b=>b (.aa a k) (gI e a k) (λT b=>b (az [.b d,.aa (C k),.b J,.aa (C k),.aa (C (2^k)),.w (C a) e,.aa (C k),.w (aM a k) (gI e a k)]
   (H (ob c (AE (n+3)))<|H p<|H (gT m l)<|H (rC c z)<|H p<|H (gT m l)<|H (Ye c w)<|H j<|H B.a2<|H (gT B l)<|H (CJ e a w)<|aj (aM a k) (gI e a k)) (by kernel_rfl)) (o.trans (.pre o.aeg (eZ e _))) (.aa (n+4) a k (mr 4 n) l z w q))
noncomputable def fQ(a b:I):bD:=match a with
 |0=>.b d
 |1=>.afX (0,1)
 |2=>.afX (0,1)
 |3=>.afV 0
 |_=>.aa 0 b
def Gh(e:dL g i h)(b:h.a[a]?=A l):dq h.a m a (fQ a l)/\(fQ a l).aP a=jP a l:=by
 have c:ev m (0,1):=cv.up (b:=1) (c:=1) ⟨by decide,by decide,by decide,by decide⟩ (I.one_dvd _) (oL (ap G))
 match a,b with
 |0,b=>exact⟨.b d,G⟩
 |1,b=>exact⟨.agc _ c G,G⟩
 |2,b=>exact⟨.af4 _ c,G⟩
 |3,b=>
  obtain rfl:0=l:=aG ((e.cT (ap G)).symm.trans b);exact⟨.afV 0 (ap G),G⟩
 |a+4,b=>
  obtain⟨f,j⟩:=e.qk (mr 4 a) b;exact⟨.aa (a+4) 0 l (mr 4 a) b f j (jm l),(cd f).symm⟩
def En(b:bn g h c)(l:dL g i h)(e:h.a[m]?=A a):aX J 16 [.ref (g+1),C m] c (fQ m a).bc c:=by
 have f:=b.a2
 match m,e with
 |0,e=>exact az [] (aj (.bool d) c)
 |1,e=>exact az [.go,.aa (C 0),.go,.aa (.bool d)] (H f<|H (gT b (l.cT (b:=1) (ap G)))<|H f<|H (iy b (a:=1) (ap G) (l.cT (ap G)))<|aj (aD (0,1)) c)
 |2,e=>exact az [.go,.aa (C 0),.go,.aa (.bool d)] (H f<|H (gT b (l.cT (b:=2) (ap G)))<|H f<|H (iy b (a:=2) (ap G) (l.cT (ap G)))<|aj (aD (0,1)) c)
 |3,e=>exact az [.go,.aa (C 0),.go,.aa (.bool J)] (H f<|H (gT b (l.cT (b:=3) (ap G)))<|H f<|H (iy b (a:=3) (ap G) (l.cT (ap G)))<|aj (C 0) c)
 |m+4,e=>
  obtain⟨j,k⟩:=l.qk (mr 4 m) e;have p:eM a=(bo 0 a).map C:=iv (c:=λo=>eM o.1) (e:=λo=>(bo 0 o.1).map C) (by kernel_rfl) (b:=0) j k (jm a);have n:=oj c k (.int 0);rw[show hM a [.int 0]=eM a from G,p]at n;exact az [.b d,.aa (C a),.b J,.aa (C a),.aa (aM 0 a)] (H (ob c (AE (m+3)))<|H f<|H (gT b e)<|H (rC c j)<|H f<|H (gT b e)<|H n<|aj (aM 0 a) c)
end
end
section
structure aY where
 afQ:I
 afO:I
 o:bD
noncomputable def aY.aa(a:aY):L:=.ab [C a.afQ,C a.afO,a.o.bc]
structure fM(b:bp)(c:I)(a:aY):Prop where
 r:bX b a.afQ a.afO (a.o.aP a.afO)
 l:dq b.a c a.afO a.o
abbrev o9(a:bp)(b:I)(P:E aY):Prop:=∀c∈P,fM a b c
def fM.up(a:fM g B D)(b:g.ic gt T)(c:B<=ge):fM T ge D:=⟨a.r.up b,a.l.up b.a c⟩
section
variable{a:ah->cb}{b:ce}{e:ah}
def Hf:∀(m l:E c)(g:aK)(h:N),bt e a b (m++l) g h=r4 (bt e a b m g h) λg h=>bt e a b l g h:=by
 intro o
 induction o with
 |nil=>
  intro l g h;exact G
 |cons n m p=>
  intro l g h;show(f e a b n g h).bind _=((f e a b n g h).bind _).bind _;cases f e a b n g h with
  |none=>rfl
  |some q=>
   obtain⟨i,j,k⟩:=q;show cU i.mg (bt e a b (m++l) j k) (A (i,j,k))=(cU i.mg (bt e a b m j k) (A (i,j,k))).bind _;cases r:i.mg with
   |true=>exact p l j k
   |false=>
    show A (i,j,k)=cU i.mg _ _;refine r.symm▸?_;rfl
end
section
variable{j:I}{g:E L}{a h e:N}{b TE:aK}{f:L}
abbrev jx(g:E c)(b:aK)(a:N)(f:L)(e:N):Prop:=kl (bt J bx bP g b a)=A (.ret f,e)
def cZ(c:E a7)(g:P)(h:P=k3 bx bP o_ J i b a c λl s m c=>ho l.end λo=>nK (.ret f) e o m:=by kernel_rfl):jx i b a f e:=by
 refine as λs j=>w_ on i J (h▸g) _ λl q m r k n=>?_;obtain⟨o,p,⟨⟩⟩:=l5 n;refine j ?_;show(bt J _ _ i b a).bind _=_;rw[k,cJ,p];rfl
abbrev eo(f:E c)(b:aK)(a:N)(g:aK)(e:N):Prop:=bt J bx bP f b a=A (.next,g,e)
def eo.and(c:eo B b a TE h)(g:jx D TE h f e):jx (B++D) b a f e:=by
 show kl (bt J _ _ (B++D) b a)=_;rw[Hf,c];exact g
def eo.eJ(c:eo B b a TE h)(e:eo D TE h T ge):eo (B++D) b a T ge:=by
 show bt J _ _ (B++D) b a=_;rw[Hf,c];exact e
def jx.bf(b:fp j=A B)(c:g.length=B.params)(h:jx B.body (e3 B.slots g) a f e):aX J j g a f e:=by
 refine pb.qh ((B4 J j g a).trans ?_);rw[b,cJ,bH (cg c)];exact h
end
section
variable{h f c g j:I}{i:E bA}{e:bp}{a b:N}{P:E aY}
noncomputable def oo(a:L):L:=((a.qj.getD [])[1]?).getD .none
noncomputable def jN(a:I)(b:L):ah:=a_ (oo b) (C a)
def ZC(a:a_ (C l) (C m)=J):l=m:=fn (L.int.inj (dE a))
def Ge(a:N)(b:l∈P.map aY.aa):ck a l (.int 1)=A (oo l):=by
 obtain⟨c,e,rfl⟩:=fx.mp b;rfl
def X3(a:N)(c:l∈P.map aY.aa)(b:I):bY a .eq (oo l) (C b)=A (jN b l):=by
 obtain⟨e,f,rfl⟩:=fx.mp c;rfl
def yM(a:L->ah)(e:m=(P.map aY.aa).filter a)(b:o<m.length):∃l∈P,m[o]?=A l.aa/\a l.aa=J:=by
 subst e;refine as λj f=>?_;obtain⟨g,h⟩:=sK.mp (qt b);obtain⟨l,i,c⟩:=fx.mp g;exact f (⟨l,i,by rw[e8 b,c],by rw[c];exact h⟩)
def lh(j:a[g]?=A (.list (P.map aY.aa)))(k:P.length<400)(m:fr c a)(s:∃l∈P,l.afO=o):aA (kW (λl b=>fL (l∈P) (l.afO=o) (aX J 42 [.ref g,.ref c,C o] a l.aa b) (eh c a b))):=by
 refine as λF h=>?_;obtain⟨e,t,rfl⟩:=s;refine h ?_;have p:eh c a (a++[.list (((P.map aY.aa).filter (jN e.afO)).map id)]):=.pre m (eZ _ _);have e5:=cc a (.list (((P.map aY.aa).filter (jN e.afO)).map id));have len:(((P.map aY.aa).filter (jN e.afO)).map id).length<400:=by
  rw[bO];exact c0 (sJ _ _) (by rw[bO];exact k)
 have u:0<(((P.map aY.aa).filter (jN e.afO)).map id).length:=by
  rw[bO];exact Al (sK.mpr ⟨fx.mpr ⟨e,t,G⟩,mW (C e.afO)⟩)
 refine as λF h=>fs p.aeg u _ λn b v=>v _ λw x q=>?_;obtain⟨l,y,z,B⟩:=yM (jN e.afO) (qw _) w;refine h ?_;have m5:a.length≠c:=by
  refine as λF h=>?_;obtain⟨E,D⟩:=m;exact h (fK (d6.mp D).1)
 exactλF i=>i l b (λF i=>i y (ZC B) (az [.afN (jN e.afO) id (λf=>[.aa (oo f),.b (jN e.afO f)]),.af8 (P.map aY.aa,[A (g,.list (P.map aY.aa))],a),.aa (C (((P.map aY.aa).filter (jN e.afO)).map id).length),.w (C n) b,.aa l.aa]
  (H (gx j (jG _ k:bV (P.map aY.aa).length=J))<|H (H (de j) λf(r:f∈P.map aY.aa)=>H (Ge a r)<|H (X3 a r e.afO)<|H (G:cN (.bool (jN e.afO f))=A (jN e.afO f))<|H (G:a=a) λF:jN e.afO f=J=>H (G:f=id f) (G:a=a))<|
   H (fb e5 len)<|H x<|H (gu (q.bu e5 m5) n z (cD len))<|aj l.aa b) (by kernel_rfl)) (p.trans q))
def eh.hq(l:ca h f i e a)(m:eh c a b)(j:f<=c):dc h f i 0 e a e b:=
 ⟨l.ed m (bG l.aet j) (λn o p=>hv.mpr j (l.aev n o c p)),.refl e,⟨m.le,λg k q=>m.same g (dz k l.l) (yu k j)⟩⟩
def dc.up(g:dc h f i B e a D b)(c:B<=T):dc h f i T e a D b:=
 ⟨g.m,⟨g.le.h,g.le.a,g.le.p,g.le.cl,by have:=g.le.aeE;exact Fn this c,by have:=g.le.ae5;exact Fn this c⟩,g.cq⟩
end
abbrev lR(f g:I)(h:E bA)(i:I)(j:bp)(a:N)(k:I)(l:E L):Prop:=
 aA (gi (λb c e=>e1 (aX J k l a (aY.aa b) e) (dc f g h 4 j a c e) (fM c (i+1) b)))
abbrev cF(g h:I)(i:E bA)(j:I)(k:bp)(a:N)(l:E c)(m:aK):Prop:=
 aA (gi (λb e f=>e1 (jx l m a (aY.aa b) f) (dc g h i 4 k a e f) (fM e (j+1) b)))
end
section
section
variable{g j c f i:I}{k:E bA}{h:bp}{e a:N}{P:E aY}
def dc.more(b:ca g j k h e)(a:aO):dc g j k 0 h e h (e++[a]):=⟨b.more a,.refl _,.more b.l a⟩
def cF.of(f:jx ge gt e (.ab [C T,C b,B.bc]) a)(l:dc g j k kw h e D a)(m:kw<=4)(n:bX D T b (B.aP b))(o:dq D.a (i+1) b B):cF g j k i h e ge gt:=λp c=>c ⟨T,b,B⟩ D a (λp c=>c f (l.up m) ⟨n,o⟩)
def cF.after(f:I)(m:fp D=A b)(n:B.length=b.params)(o:dc g j k 0 h e h a)(p:eo (b.body.take f) (e3 b.slots B) e T a)(q:cF g j k i h a (b.body.drop f) T):lR g j k i h e D B:=by
 refine as λy r=>q _ λs t u v=>v _ λw x ok=>r ?_;have l:=p.and w;rw[E.take_append_drop]at l;exactλy c=>c s t u (λy c=>c (jx.bf m n l) ((o.trans x).up FX) ok)
noncomputable def zi(a b e:aY):E L:=[a.aa,b.aa,e.aa]
def Mo(c f a:I)(P:E aY)(e:N)(b g h:aY)(i j k:N)(l:Prop):Prop:=b∈P->g∈P->h∈P->b.afO=a->g.afO=a->h.afO=a->aX J 42 [.ref f,.ref c,C a] e b.aa i->aX J 42 [.ref f,.ref c,C a] i g.aa j->aX J 42 [.ref f,.ref c,C a] j h.aa k->eh c e (k++[.list (zi b g h)])->l
def GY(g:e[f]?=A (.list (P.map aY.aa)))(h:P.length<400)(n:fr c e)(i:f≠c)(j:∃b∈P,b.afO=t):aA (mB (λb l m o p q=>aA (Mo c f t P e b l m o p q))):=by
 exact as λK u=>lh g h n j _ λb o v=>v _ λw x y a=>lh (a.bu g i) h a.aeg j _ λl p z=>z _ λB C D r=>lh (r.bu (a.bu g i) i) h r.aeg j _ λm q E=>E _ λF H I s=>u (λK k=>k b l m o p q (λK k=>k w B F x C H y D I (((a.trans r).trans s).trans (.pre s.aeg (eZ _ _)))))
def CF(e:N)(a:aK)(f:e[c]?=A (.list l))(b:E I)(g:nY a b l=A m):k6 e a (.afQ b) (.ref c)=A m:=by
 show(ds e c).bind _=_;exact(hk f).symm▸g
noncomputable def y7(g c f:I)(a b e:aY)(h:I):aK:=[A (.ref (g+1)),A (.ref f),A (.ref c),A a.aa,A b.aa,A e.aa,A (C a.afQ),A (C b.afQ),A (C e.afQ),A a.o.bc,A b.o.bc,A e.o.bc,A (C h),M]
def NC(k:e[f]?=A (.list (P.map aY.aa)))(n:P.length<400)(q:fr c e)(r:f≠c)(s:∃b∈P,b.afO=0):aA (tn (λb l m o a=>aA (j_ (b∈P/\l∈P/\m∈P) (b.afO=0/\l.afO=0/\m.afO=0) (o<7) (eo (t_.body.take 3) (e3 14 [.ref (g+1),.ref f,.ref c]) e (y7 g c f b l m o) a) (eh c e a)))):=by
 exact as λS t=>GY k n q r s _ λb l m u v j w=>w _ λx y z B D E F I K p=>fs p.aeg (a:=7) (ap G) _ λo h N=>N _ λO Q R=>t (λS i=>i b l m o h (λS i=>i ⟨x,y,z⟩ ⟨B,D,E⟩ O (cG [.go,.go,.w b.aa u,.w l.aa v,.w m.aa j,.afV [A (.ref (g+1)),A (.ref f),A (.ref c),A b.aa,A l.aa,A m.aa,M,M,M,M,M,M,M,M],.go,.go,.go,.go,.go,.go,.go,.w (C o) h]
  (H F<|H I<|H K<|H (CF _ [A (L.ref (g+1)),A (.ref f),A (.ref c),M,M,M,M,M,M,M,M,M,M,M] (cc j (.list (zi b l m))) [3,4,5] (m:=[A (.ref (g+1)),A (.ref f),A (.ref c),A b.aa,A l.aa,A m.aa,M,M,M,M,M,M,M,M]) G)<|H Q<|bM (y7 g c f b l m o) h) (by kernel_rfl)) (p.trans R)))
def NE(r:ca g j k h e)(I:h.h.length+4<400)(t:bX h x 0 (.bool l))(v:bX h y 0 (.bool m))(B:bX h z 0 (.bool s))(L:D<7):
 cF g j k i h e (t_.body.drop 3) (y7 g c f ⟨x,0,.b l⟩ ⟨y,0,.b m⟩ ⟨z,0,.b s⟩ D):=by
 have u:h.h.length+1<400:=l4 I;have o:=r.an.a2;have E:=r.more (.list [C x,C y,C z]);have K:=dc.more r (.list [C x,C y,C z]);have F:=cc e (.list [C x,C y,C z]);revert D;refine@dk _ _ ?_ (dk ?_ (dk ?_ (dk ?_ (dk ?_ (dk ?_ (jK ?_))))))
 .exact Ux r u t _ λb w a n m p=>cF.of (B:=.b (!l)) (cZ [.go,.w (C b) a] (H o<|H n<|aj (.ab [C b,C 0,.bool (!l)]) a)) m (ap G) p (.b _)
 .refine MQ E u t v B F _ λb w a n q p=>cF.of (B:=.b (l&&(m&&(s&&J)))) ?_ (K.trans q) (ap G) p (.b _);cases l
  .exact cZ (aT 2 [.w (C b) a]) (H o<|H n<|aj (.ab [C b,C 0,.bool d]) a)
  .cases m
   .exact cZ (aT 2 [.w (C b) a]) (H o<|H n<|aj (.ab [C b,C 0,.bool d]) a)
   .exact cZ (aT 2 [.w (C b) a]) (H o<|H n<|aj (.ab [C b,C 0,.bool s]) a) (by cases s<;>kernel_rfl)
 .refine XR E u t v B F _ λb w a n q p=>cF.of (B:=.b (l||(m||(s||d)))) ?_ (K.trans q) (ap G) p (.b _);cases l
  .cases m
   .exact cZ (aT 3 [.w (C b) a]) (H o<|H n<|aj (.ab [C b,C 0,.bool s]) a) (by cases s<;>kernel_rfl)
   .exact cZ (aT 3 [.w (C b) a]) (H o<|H n<|aj (.ab [C b,C 0,.bool J]) a)
  .exact cZ (aT 3 [.w (C b) a]) (H o<|H n<|aj (.ab [C b,C 0,.bool J]) a)
 .exact abL r u t v _ λb w a n q p=>cF.of (B:=.b (!a_ (.bool l) (.bool m))) (cZ (aT 4 [.w (C b) a,.b (!a_ (.bool l) (.bool m))]) (H o<|H n<|H (G:bY a .af1 (.bool l) (.bool m)=A (!a_ (.bool l) (.bool m)))<|aj (.ab [C b,C 0,.bool (!a_ (.bool l) (.bool m))]) a)) q (ap G) p (.b _)
 .refine SD r u t v _ λb w a n q p=>cF.of (B:=.b (!l||m)) ?_ q (ap G) p (.b _);cases l
  .exact cZ (aT 5 [.w (C b) a]) (H o<|H n<|aj (.ab [C b,C 0,.bool J]) a)
  .exact cZ (aT 5 [.w (C b) a]) (H o<|H n<|aj (.ab [C b,C 0,.bool m]) a)
 .exact SA r u t v G rfl _ λb w a n q p=>cF.of (B:=.b (a_ (.bool l) (.bool m))) (cZ (aT 6 [.w (C b) a,.b (a_ (.bool l) (.bool m))]) (H o<|H n<|H (G:bY a .eq (.bool l) (.bool m)=A (a_ (.bool l) (.bool m)))<|aj (.ab [C b,C 0,.bool (a_ (.bool l) (.bool m))]) a)) q (ap G) p (.b _)
 .refine D2 r u (r.cT (b:=0) (ap G)) t v B _ λb w a n q p=>?_;refine cF.of (B:=.b (if l then m else s)) ?_ q (ap G) (by cases l<;>exact p) (.b _);cases l
  .exact cZ (aT 6 [.w (C b) a]) (H o<|H n<|aj (.ab [C b,C 0,.bool s]) a)
  .exact cZ (aT 6 [.w (C b) a]) (H o<|H n<|aj (.ab [C b,C 0,.bool m]) a)
structure hY(g j:I)(k:E bA)(i:I)(h:bp)(e:N)(c f:I)(P:E aY):Prop where
 aeI:ca g j k h e
 room:h.h.length+4<400
 afv:h.a.length+4<400
 aeo:j<=c
 aeB:e[f]?=A (.list (P.map aY.aa))
 aeG:P.length<400
 aey:fr c e
 aeP:f≠c
 ok:o9 h i P
 has:∀b,b<5->∃l∈P,l.afO=b
 afi:i<40
def hY.ed(b:hY g j k i h e c f P)(l:eh c e a):hY g j k i h a c f P:=
 ⟨(l.hq b.aeI b.aeo).m,b.room,b.afv,b.aeo,l.bu b.aeB b.aeP,b.aeG,l.aeg,b.aeP,b.ok,b.has,b.afi⟩
def fM.bool(a:fM h i T)(c:T.afO=0):∃B D,T=⟨B,0,.b D⟩/\bX h B 0 (.bool D):=by
 obtain⟨B,f,g⟩:=T;cases c;cases a.l with
 |b D=>exact⟨B,D,G,a.r⟩
 |aa l j k e=>exact bC e (show¬4<=0 by decide)
def ND(b:hY g j k i h e c f P):lR g j k i h e 21 [.ref (g+1),.ref f,.ref c]:=by
 refine as λI n=>NC (g:=g) b.aeB b.aeG b.aey b.aeP (b.has 0 (ap G)) _ λo p q D a l=>l _ λr s t u v=>?_;clear l;obtain⟨w,x,y⟩:=r;obtain⟨af,be,bz⟩:=s;have m:=v.hq b.aeI b.aeo;obtain⟨E,ac,rfl,z⟩:=(b.ok o w).bool af;obtain⟨F,ao,rfl,B⟩:=(b.ok p x).bool be;obtain⟨H,aS,rfl,C⟩:=(b.ok q y).bool bz;exact n (cF.after 3 (b:=t_) G rfl m u (NE m.m b.room z B C t))
def CH(c:0<b)(f:b<=4)(g:l<2^b)(h:m<2^b)(i:aM l b=aM m b):l=m:=by
 have e:=k7 (e:=λa=>decide (bo a.2.1 a.1=bo a.2.2 a.1)) (f:=λa=>decide (a.2.1=a.2.2)) (by kernel_rfl) c f g h;have e:decide (bo l b=bo m b)=decide (l=m):=e;rw[cg (ER (L.ab.inj i))]at e;exact dE e.symm
def Ec(a b:I):dC (aM a b)=aM a b:=bj L.ab (EN _)
def UG(a:I)(b:E I):(b.map C).all (bk a)=J:=by
 rw[IL];exact di.mpr λc c=>by cases a<;>rfl
def uw(a:bD):bk 8 a.bc=J:=by
 cases a with
 |aa b c=>exact UG 7 (bo b c)
 |_=>rfl
def lp(b:I)(a:bD):bk 8 (a.aP b)=J:=by
 cases a with
 |aa e f=>kernel_rfl
 |afV c=>kernel_rfl
 |_=>rfl
def dq.HI{aB:E I}{i e:I}{g h:bD}{P:I->bD->bD->Prop}(l:dq aB i e g)(j:dq aB i e h)(m:∀ge gt,P 0 (.b ge) (.b gt))(k:∀e g h,P e (.afX g) (.afX h))(n:∀c f,P 3 (.afV c) (.afV f))
 (o:∀e D T B,0<B->B<=4->D<2^B->T<2^B->P e (.aa D B) (.aa T B)):P e g h:=by
 cases l with
 |b ge=>cases j with
  |b gt=>exact m ge gt
  |aa y D B a=>exact bC a nofun
 |agc g p w=>cases j with
  |agc h=>exact k 1 g h
  |aa y D B a=>exact bC a nofun
 |af4 g p=>cases j with
  |af4 h=>exact k 2 g h
  |aa y D B a=>exact bC a nofun
 |afV c=>cases j with
  |afV f=>exact n c f
  |aa y D B a=>exact bC a nofun
 |aa y D B a q r s t=>cases j with
  |aa y T x y u y y v=>cases q.symm.trans u;exact o e D T B r s t v
  |_=>exact bC a nofun
def ru{aB:E I}{b:I}{e g:bD}(l:dq aB i b e)(m:dq aB i b g):a_ (e.aP b) (g.aP b)=a_ e.bc g.bc:=
 l.HI (P:=λb e g=>a_ (e.aP b) (g.aP b)=a_ e.bc g.bc) m (λs s=>rfl) (λs s s=>rfl)
  (λc f=>@lH _ _ (L.fV _ _) (L.fV _ _)|>.mpr ⟨λa=>by injection a with a;injection a with _ a;injection a with _ a;injection a,λa=>bj (λn=>L.ab [.str (bi "elem"),C 3,n]) a⟩)
  λb j k h o p q r=>by
   refine@lH _ _ (L.fV _ _) (L.fV _ _)|>.mpr ?_;rw[show dC (bD.bc (.aa j h))=aM j h from Ec j h,show dC (bD.bc (.aa k h))=aM k h from Ec k h];exact⟨λa=>by injection a with a;injection a with _ a;injection a with a _;rw[fn (L.int.inj a)],λa=>by rw[CH o p q r a]⟩
def dq.w(a:dL g k h)(c:dq h.a i D T):∃B,h.a[D]?=A B:=by
 cases c with
 |aa l f B j e=>exact⟨B,e⟩
 |_=>exact⟨0,a.cT (ap G)⟩
def ye(e:N)(a b:bD):bY e .af1 a.bc b.bc=A (!a_ a.bc b.bc):=by
 have c:a4 (bk 8 a.bc&&bk 8 b.bc) (A (!a_ a.bc b.bc))=A (!a_ a.bc b.bc):=bH (by rw[uw,uw];rfl);cases a<;>exact c
def MN(a b c:L):ri [a,b,c]=.bool (!a_ a b&&(!a_ a c&&!a_ b c)):=by
 show L.bool (a_ (C ((([a,b,c].filter λe=>a_ (.int (E.countP (λf=>a_ f e) [a,b,c])) (.int 1)).map id).length)) (C 3))=_;simp only[z_,E.countP_nil,E.filter_cons,E.filter_nil,mW,t7 b a,t7 c a,t7 c b];cases a_ a b<;>cases a_ a c<;>cases a_ b c<;>rfl
noncomputable def xn(g c f a:I)(b e h:aY)(i:I):aK:=[A (.ref (g+1)),A (.ref f),A (.ref c),A (C a),A b.aa,A e.aa,A h.aa,A (C i),M,M,M]
def MR(l:hY g j k i h e c f P):aA (mB (λr b m o q a=>aA (j_ (b∈P/\m∈P/\o∈P) (b.afO=r/\m.afO=r/\o.afO=r) (q<3) (eo (t8.body.take 3) (e3 11 [.ref (g+1),.ref f,.ref c]) e (xn g c f r b m o q) a) (eh c e a)))):=by
 have len:(P.map aY.aa).length<400:=by rw[bO];exact l.aeG
 refine as λge y=>fs l.aey ((by obtain⟨b,z,ge⟩:=l.has 0 (ap G);rw[bO];exact Al z):0<(P.map aY.aa).length) _ λu B v=>v _ λD E s=>?_;clear v;obtain⟨p,F,rz,ge⟩:=yM (P:=P) (λge=>J) (x4 _).symm D;exact GY (s.bu l.aeB l.aeP) l.aeG s.aeg l.aeP ⟨p,F,G⟩ _ λb m o I K w N=>N _ λO Q R S T U V W X x=>fs x.aeg (a:=3) (ap G) _ λq n Y=>Y _ λZ ad dl=>y (λge t=>t p.afO b m o q n (λge t=>t ⟨O,Q,R⟩ ⟨S,T,U⟩ Z (cG [.aa (C (P.map aY.aa).length),.w (C u) B,.aa p.aa,.go,.go,.go,.w b.aa I,.w m.aa K,.w o.aa w,.afV [A (.ref (g+1)),A (.ref f),A (.ref c),A (C p.afO),A b.aa,A m.aa,A o.aa,M,M,M,M],.w (C q) n]
  (H (fb l.aeB len)<|H E<|H (gu (s.bu l.aeB l.aeP) u rz (cD len))<|H V<|H W<|H X<|H (CF _ [A (L.ref (g+1)),A (.ref f),A (.ref c),A (C p.afO),M,M,M,M,M,M,M] (cc w (.list (zi b m o))) [4,5,6] (m:=[A (.ref (g+1)),A (.ref f),A (.ref c),A (C p.afO),A b.aa,A m.aa,A o.aa,M,M,M,M]) G)<|H ad<|bM (xn g c f p.afO b m o q) n) (by kernel_rfl)) ((s.trans x).trans dl)))
def MW(p:hY g j k i h e c f P){b w x y:I}{m l o:bD}(q:fM h i ⟨w,b,m⟩)(u:fM h i ⟨x,b,l⟩)(N:fM h i ⟨y,b,o⟩){E:I}(go:E<3):
 cF g j k i h e (t8.body.drop 3) (xn g c f b ⟨w,b,m⟩ ⟨x,b,l⟩ ⟨y,b,o⟩ E):=by
 have v:=p.aeI;have F:h.h.length+1<400:=by have:=p.room;exact l4 this
 have B:=v.an.a2;revert E;refine@dk _ _ ?_ (dk ?_ (jK ?_))
 .refine as λkw z=>Dy v F q.r u.r (lp b m) (lp b l) _ λn O a r s t=>z ?_;have W:=ru q.l u.l;rw[(W:a_ (m.aP b) (l.aP b)=a_ m.bc l.bc)]at t;exact cF.of (B:=.b (a_ m.bc l.bc)) (cZ (aT 3 [.w (C n) a,.go,.go,.b (a_ m.bc l.bc)]) (H B<|H r<|H (px a (uw m) (uw l))<|aj (.ab [C n,C 0,.bool (a_ m.bc l.bc)]) a)) s (ap G) t (.b _)
 .refine as λkw z=>OQ (v.more (.list [C w,C x,C y])) F q.r u.r N.r (lp b m) (lp b l) (lp b o) (cc e (.list [C w,C x,C y])) _ λn O a r s t=>z ?_;have Q:=MN (m.aP b) (l.aP b) (o.aP b);rw[(ru q.l u.l:a_ (m.aP b) (l.aP b)=a_ m.bc l.bc),(ru q.l N.l:a_ (m.aP b) (o.aP b)=a_ m.bc o.bc),(ru u.l N.l:a_ (l.aP b) (o.aP b)=a_ l.bc o.bc)]at Q;have D:=ye e m l;have L:=ye e m o;rw[show ri [bD.aP b m,bD.aP b l,bD.aP b o]=_ from Q]at t;refine cF.of (B:=.b (!a_ m.bc l.bc&&(!a_ m.bc o.bc&&!a_ l.bc o.bc))) ?_ ((dc.more v (.list [C w,C x,C y])).trans s) (ap G) t (.b _);cases g1:a_ m.bc l.bc<;>rw[g1]at D
  .cases g2:a_ m.bc o.bc<;>rw[g2]at L
   .exact cZ (aT 4 [.b J,.go,.go,.b J,.go,.go,.b (!a_ l.bc o.bc),.go,.go,.go,.w (C n) a]) (H D<|H L<|H (ye e l o)<|H B<|H r<|aj (.ab [C n,C 0,.bool (!a_ l.bc o.bc)]) a)
   .exact cZ (aT 4 [.b J,.go,.go,.b d,.go,.go,.go,.w (C n) a]) (H D<|H L<|H B<|H r<|aj (.ab [C n,C 0,.bool d]) a)
  .exact cZ (aT 4 [.b d,.go,.go,.go,.w (C n) a]) (H D<|H B<|H r<|aj (.ab [C n,C 0,.bool d]) a)
 .refine as λkw z=>lh p.aeB p.aeG p.aey (p.has 0 (ap G)) _ λX R S=>S _ λY af T Z=>?_;clear S;obtain⟨U,ad,rfl,dl⟩:=(p.ok X Y).bool af;have K:=Z.hq v p.aeo;obtain⟨gt,ge⟩:=q.l.w v.s;refine D2 K.m F ge dl q.r u.r _ λn O a r s t=>z ?_;have V:=K.m.an.a2;cases ad
  .exact cF.of (B:=l) (cZ (aT 2 [.w (aY.aa ⟨U,0,.b d⟩) R,.go,.go,.go,.w (C n) a]) (H T<|H V<|H r<|aj (.ab [C n,C b,l.bc]) a)) (K.trans s) (ap G) t (u.l.up s.le.a (fo i))
  .exact cF.of (B:=m) (cZ (aT 2 [.w (aY.aa ⟨U,0,.b J⟩) R,.go,.go,.go,.w (C n) a]) (H T<|H V<|H r<|aj (.ab [C n,C b,m.bc]) a)) (K.trans s) (ap G) t (q.l.up s.le.a (fo i))
def MV(b:hY g j k i h e c f P):lR g j k i h e 23 [.ref (g+1),.ref f,.ref c]:=by
 refine as λI q=>MR b _ λC l m n D a o=>o _ λr s t u p=>?_;clear o;obtain⟨v,w,x⟩:=r;obtain⟨af,be,bz⟩:=s;have y:=b.ok l v;have z:=b.ok m w;have B:=b.ok n x;obtain⟨E,I,ac⟩:=l;obtain⟨F,I,ao⟩:=m;obtain⟨H,I,aS⟩:=n;refine q ?_;cases af;cases be;cases bz;exact cF.after 3 (b:=t8) G rfl (p.hq b.aeI b.aeo) u (MW (b.ed p) y z B t)
end
end
section
section
variable{j n k m h:I}{o:E bA}{i:bp}{l c:N}{P:E aY}{f:I}{a e g:ew}
def yi(a:O):fF a 1=(a,1):=by
 delta fF gp;rw[z3];show(qp _ 1,qp 1 1)=_;rw[sA];rfl
def yH(b:a.2=1)(c:e.2=1):(d3 a e).2=1:=by
 unfold d3;rw[b,c,show(1:O)*1=1 from G,yi]
def F2(b:a.2=1)(c:e.2=1):(es a e).2=1:=by
 unfold es;rw[b,c,show(1:O)*1=1 from G,yi]
def jt.hO(a:jt g):cO g:=cv.hO a (ap G) (ap G) (dz (by decide:2*2<2^3) (hQ (ap G) (ap G)))
structure q9(i:bp)(h f b:I)(a:ew):Prop where
 r:bX i b f (aD a)
 ok:ev h a
 aeZ:f=1->a.2=1
def fM.num(l:fM i h D)(m:f=1\/f=2)(c:D.afO=f):∃B a,D=⟨B,f,.afX a⟩/\q9 i h f B a:=by
 obtain⟨B,g,a⟩:=D;have n:g=1\/g=2:=by rw[show g=f from c];exact m
 obtain rfl:=c;cases l.l with
 |agc a j p=>exact⟨B,a,G,l.r,j,λs=>p⟩
 |af4 a j=>exact⟨B,a,G,l.r,j,λc=>bC c (show¬2=1 by decide)⟩
 |aa s q r o=>exact bC o (show¬4<=g by exact Wf o m)
 |b e=>exact bC n (show¬(0=1\/0=2) by decide)
 |afV k=>exact bC n (show¬(3=1\/3=2) by decide)
def dq.num{aB:E I}(e:f=1\/f=2)(c:ev h a)(g:f=1->a.2=1):dq aB h f (.afX a):=by
 rcases e with rfl|rfl
 .exact .agc a c (g G)
 .exact .af4 a c
def RG{a:I}(h:a<5):jt ((a:O)-2,1)/\jt (fF ((a:O)-2) 2):=by
 have c:∀b:O,0<b->b∣(2:I)->jt (fF ((a:O)-2) b):=λb e g=>cv.mi e (z0 g) (bG (by omega:_<=2) (I.le_mul_of_pos_right 2 (IE.mpr (kH e))));have f:=c 1 (by decide) (by decide);rw[yi]at f;exact⟨f,c 2 (by decide) (by decide)⟩
noncomputable def uH(j k m f:I)(b c:I)(a e:ew)(h:I)(i:O)(g:ew):aK:=[A (.ref (j+1)),A (.ref m),A (.ref k),A (C f),A (aY.aa ⟨b,f,.afX a⟩),A (aY.aa ⟨c,f,.afX e⟩),A (C b),A (C c),A (aD a),A (aD e),A (C h),A (.int i),A (aD g),A (aD (es g a))]
def u6(l:N)(b:cO g)(e:cO a):aX J 39 [.int (g.1*a.1),.int (g.2*a.2)] l (aD (es g a)) l:=yK l (g.1*a.1) (qq b.pos e.pos) (vk b.aei e.aei)
def UE(q:hY j n o h i l k m P)(x:f=1\/f=2):aA (BR (λr s a e t b g c=>aA (j_ (q9 i h f r a/\q9 i h f s e) (jt g/\(f=1->g.2=1)) (t<7) (eo (ua.body.take 5) (e3 14 [.ref (j+1),.ref m,.ref k,C f]) l (uH j k m f r s a e t b g) c) (eh k l c)))):=by
 have y:=q.has f (Wg x);refine as λof ge=>lh q.aeB q.aeG q.aey y _ λgo D E=>E _ λgt kw F z=>?_;clear E;refine lh (z.bu q.aeB q.aeP) q.aeG z.aeg y _ λld I K=>K _ λle lo L N=>?_;clear K;obtain⟨r,a,rfl,B⟩:=(q.ok go gt).num x kw;obtain⟨s,e,rfl,Q⟩:=(q.ok ld le).num x lo;refine fs N.aeg (a:=7) (ap G) _ λt R S=>S _ λT U V=>?_;clear S;refine fs V.aeg (a:=5) (ap G) _ λb p W=>W _ λy X mp=>?_;clear W;have Y:=((z.trans N).trans V).trans mp;have w:=B.ok.hO (e_ q.afi);obtain⟨Z,ad⟩:=RG y;refine ge ?_;have dl:c2 p .sub (C b) (.int 2)=A (.int ((b:O)-2),p):=G;rcases x with rfl|rfl
 .have u:=jt.hO Z;exactλof v=>v r s a e t ((b:O)-2) ((b:O)-2,1) p (λof v=>v ⟨B,Q⟩ ⟨Z,λof=>rfl⟩ T (cG [.w (aY.aa ⟨r,1,.afX a⟩) D,.w (aY.aa ⟨s,1,.afX e⟩) I,.go,.go,.go,.go,.go,.go,.w (C t) R,.w (C b) p,.aa (.int ((b:O)-2)),.go,.go,.go,.go,.aa (.int (((b:O)-2)*a.1)),.go,.go,.aa (.int (1*a.2)),.aa (aD (es ((b:O)-2,1) a))]
   (H F<|H L<|H U<|H X<|H dl<|H (fE p u.y w.y)<|H (fE p u.aei w.aei)<|H (u6 p u w)<|bM (uH j k m 1 r s a e t ((b:O)-2) ((b:O)-2,1)) p) (by kernel_rfl)) Y)
 .have u:=jt.hO ad;exactλof v=>v r s a e t ((b:O)-2) (fF ((b:O)-2) 2) p (λof v=>v ⟨B,Q⟩ ⟨ad,λb=>bC b (g0 G)⟩ T (cG [.w (aY.aa ⟨r,2,.afX a⟩) D,.w (aY.aa ⟨s,2,.afX e⟩) I,.go,.go,.go,.go,.go,.go,.w (C t) R,.w (C b) p,.aa (.int ((b:O)-2)),.go,.go,.aa (aD (fF ((b:O)-2) 2)),.go,.go,.aa (.int ((fF ((b:O)-2) 2).1*a.1)),.go,.go,.aa (.int ((fF ((b:O)-2) 2).2*a.2)),.aa (aD (es (fF ((b:O)-2) 2) a))]
   (H F<|H L<|H U<|H X<|H dl<|H (yK p ((b:O)-2) (g:=2) (by decide) (dz (by decide:2<2^2) (hQ (ap G) (ap G))))<|H (fE p u.y w.y)<|H (fE p u.aei w.aei)<|H (u6 p u w)<|bM (uH j k m 2 r s a e t ((b:O)-2) (fF ((b:O)-2) 2)) p) (by kernel_rfl)) Y)
def G0(e:cv p q a):(if a_ (aD g) (aD (1,1))then aD a else aD (es g a))=aD (es g a):=by
 split
 .rename_i b
  have b:aD g=aD (1,1):=dE b;injection b with b;injection b with g1 b;injection b with g2 _;exact(show g=(1,1)from AI (L.int.inj g1) (L.int.inj g2)).symm▸e.one_mul.symm▸G
 .rfl
def UF(B:ca j n o i l)(D:i.h.length+4<400)(I:h<40)(t:f=1\/f=2)(p:q9 i h f T a)(q:q9 i h f ge e)(L:jt g)(f1:f=1->g.2=1)(ad:go<7):
 cF j n o h i l (ua.body.drop 5) (uH j k m f T ge a e go y g):=by
 have N:i.h.length+1<400:=l4 D;have z:=B.an.a2;have r:=p.ok.hO (e_ I);have u:=q.ok.hO (e_ I);have K:=jt.hO L;revert go;refine@dk _ _ ?_ (dk ?_ (dk ?_ (dk ?_ (dk ?_ (dk ?_ (jK ?_))))))
 .have U:=(p.ok.sum q.ok).hO I;exact yj B N t f1 _ λF X O Y=>Y _ λP v Q=>Yb (v.m.more (.list [C T,C ge,C F])) (c0 (hw v.le.aeE) (c0 (oK (by decide:2<=4) _) D)) t (p.r.up v.le).bI (q.r.up v.le).bI Q.bI r u K U (cc O (.list [C T,C ge,C F])) _ λb E c R S ez=>cF.of (B:=.afX (d3 (d3 a e) g)) (cZ [.go,.w (C F) O,.w (C b) c,.aa (aD (d3 a e)),.aa (aD (d3 (d3 a e) g))] (H z<|H z<|H P<|H R<|H (zb c r u)<|H (zb c U K)<|aj (.ab [C b,C f,aD (d3 (d3 a e) g)]) c))
   ((v.trans (dc.more v.m (.list [C T,C ge,C F]))).trans S) (ap G) ez (.num t (p.ok.ack q.ok L) λy=>yH (yH (p.aeZ y) (q.aeZ y)) (f1 y))
 .have W:=(cv.neg q.ok).hO (oL (ap G)) (oL (ap G)) (c0 (wb (hQ (ap G) (hw (e_ I))) (hQ (ap G) (hw (e_ I)))) (ap G));refine T7 B (ms D) t p.r q.r r u (by rw[q.ok.zA];exact W) _ λb E c w x s=>?_;rw[q.ok.zA]at s;exact cF.of (B:=.afX (d3 a (-e.1,e.2))) (cZ (aT 2 [.w (C b) c,.go,.go,.aa (aD (d3 a (-e.1,e.2)))]) (H z<|H w<|H (zb c r W)<|aj (.ab [C b,C f,aD (d3 a (-e.1,e.2))]) c))
   x (ap G) s (.num t (ev.sum p.ok (cv.neg q.ok)) λy=>yH (p.aeZ y) (q.aeZ y))
 .refine vv B (rV D) t f1 p.r K r _ λb E c w x s=>?_;rw[G0 p.ok]at s;exact cF.of (B:=.afX (es g a)) (cZ (aT 3 [.w (C b) c]) (H z<|H w<|aj (.ab [C b,C f,aD (es g a)]) c)) x (ap G) s (.num t (p.ok.HE L) λy=>F2 (f1 y) (p.aeZ y))
 .refine ED B (rV D) t p.r r _ λb E c w x s=>?_;rw[p.ok.zA]at s;exact cF.of (B:=.afX (-a.1,a.2)) (cZ (aT 4 [.w (C b) c,.go,.go]) (H z<|H w<|aj (.ab [C b,C f,aD (-a.1,a.2)]) c)) x (ap G) s (.num t (ev.up (cv.neg p.ok) (fo h)) p.aeZ)
 .exact Tw B N t p.r q.r r u _ λb E c w x s=>cF.of (B:=.b (!gM e a)) (cZ (aT 5 [.w (C b) c,.aa (.bool (gM e a))]) (H z<|H w<|H (Ed c u r)<|aj (.ab [C b,C 0,.bool (!gM e a)]) c)) x (ap G) s (.b _)
 .exact TP B N t p.r q.r r u _ λb E c w x s=>cF.of (B:=.b (gM a e)) (cZ (aT 6 [.w (C b) c,.aa (.bool (gM a e))]) (H z<|H w<|H (Ed c r u)<|aj (.ab [C b,C 0,.bool (gM a e)]) c)) x (ap G) s (.b _)
 .rcases t with rfl|rfl
  .refine yj B N (.inl rfl) f1 _ λF X O Z=>Z _ λP v Q=>aac v.m (Wi D v.le.aeE) (.inl rfl) f1 Q (q.r.up v.le) K u _ λb E c R S ez=>?_;rw[G0 q.ok]at ez;exact cF.of (B:=.afX (es g e)) (cZ (aT 7 [.w (C F) O,.w (C b) c,.go,.go,.aa (.int (g.1*e.1)),.go,.go,.aa (.int (g.2*e.2)),.aa (aD (es g e))]) (H z<|H z<|H P<|H R<|H (fE c K.y u.y)<|H (fE c K.aei u.aei)<|H (u6 c K u)<|aj (.ab [C b,C 1,aD (es g e)]) c))
    (v.trans S) (ap G) ez (.agc _ (q.ok.HE L) (F2 (f1 G) (q.aeZ G)))
  .refine XU B (rV D) p.r r _ λb E c w x s=>?_;have V:cO (2,3):=ym (by decide) (ap G) (ap G);exact cF.of (B:=.afX (es (2,3) a)) (cZ (aT 7 [.w (C b) c,.go,.aa (.int (2*a.1)),.go,.aa (.int (3*a.2)),.aa (aD (es (2,3) a))]) (H z<|H w<|H (fE c V.y r.y)<|H (fE c V.aei r.aei)<|H (u6 c V r)<|aj (.ab [C b,C 2,aD (es (2,3) a)]) c))
    x (ap G) s (.af4 _ p.ok.acl)
def EQ(b:hY j n o h i l k m P)(p:f=1\/f=2):lR j n o h i l 22 [.ref (j+1),.ref m,.ref k,C f]:=by
 refine as λI r=>UE b p _ λD E a e F H g c s=>s _ λt u v w x=>?_;obtain⟨y,z⟩:=t;obtain⟨B,f1⟩:=u;refine r ?_;have q:=x.hq b.aeI b.aeo;exact cF.after 5 (b:=ua) G rfl q w (UF q.m b.room b.afi p y z B f1 v)
end
end
section
section
variable{b c j a e:I}(f:0<b)(g:b<=4)(h:c<2^b)(k:j<2^b)(i:a<b)(l:e<=a)
theorem xC{k:Type}{e j:I×I->I->k}(l:rY.map (λm=>(e9 m.1).map (e m))=rY.map λm=>(e9 m.1).map (j m))(f:0<b)(g:b<=4)(h:c<2^b)(i:a<b):e (b,c) a=j (b,c) a:=
 oF.mp (iv l f g h) a (ht.mpr i)
include f g h
theorem aap:mk b-(c:O)=(2^b-1-c:I):=
 iv (c:=λa=>mk a.1-(a.2:O)) (e:=λa=>((2^a.1-1-a.2:I):O)) (by kernel_rfl) f g h
theorem Um:c3 (-(c:O)) (mk b)=((2^b-1-c+0+1)%2^b:I):=
 iv (c:=λa=>c3 (-(a.2:O)) (mk a.1)) (e:=λa=>(((2^a.1-1-a.2+0+1)%2^a.1:I):O)) (by kernel_rfl) f g h
theorem Zo:c3 (fj c b) (mk (b+1))=(c+c/2^(b-1)%2*2^b:I)/\(bo c b).map C++[C (c/2^(b-1)%2)]=(bo (c+c/2^(b-1)%2*2^b) (b+1)).map C:=by
 have e:=iv (c:=λa=>(c3 (fj a.2 a.1) (mk (a.1+1)),(bo a.2 a.1).map C++[C (a.2/2^(a.1-1)%2)])) (e:=λa=>(((a.2+a.2/2^(a.1-1)%2*2^a.1:I):O),(bo (a.2+a.2/2^(a.1-1)%2*2^a.1) (a.1+1)).map C)) (by kernel_rfl) f g h;exact⟨(jo e).1,(jo e).2⟩
theorem abO:(bo c b).map C++[C 0]=(bo c (b+1)).map C:=
 iv (c:=λa=>(bo a.2 a.1).map C++[C 0]) (e:=λa=>(bo a.2 (a.1+1)).map C) (by kernel_rfl) f g h
theorem Nq(i:a<b):a_ (.int (c3 ((c:O).fdiv (2^a)) 1)) (.int 1)=a_ (C (c/2^a%2)) (.int 1):=
 xC (e:=λe a=>a_ (.int (c3 ((e.2:O).fdiv (2^a)) 1)) (.int 1)) (j:=λe a=>a_ (C (e.2/2^a%2)) (.int 1)) (by kernel_rfl) f g h i
theorem Em(i:a<b):c3 c (mk (a+1))=(c%2^(a+1):I)/\fh M (A (a+1:I)) ((bo c b).map C)=(bo (c%2^(a+1)) (a+1)).map C:=by
 have j:=xC (e:=λe a=>(c3 e.2 (mk (a+1)),fh M (A (a+1:I)) ((bo e.2 e.1).map C))) (j:=λe a=>(((e.2%2^(a+1):I):O),(bo (e.2%2^(a+1)) (a+1)).map C)) (by kernel_rfl) f g h i;exact⟨(jo j).1,(jo j).2⟩
theorem PU(i:a<b)(l:e<=a):c3 ((c:O).fdiv (2^e)) (mk (a-e+1))=(c/2^e%2^(a-e+1):I)/\fh (A e) (A (a+1:I)) ((bo c b).map C)=(bo (c/2^e%2^(a-e+1)) (a-e+1)).map C:=by
 have j:=xC (e:=λm a=>(e9 (a+1)).map λe=>(c3 ((m.2:O).fdiv (2^e)) (mk (a-e+1)),fh (A e) (A (a+1:I)) ((bo m.2 m.1).map C))) (j:=λm a=>(e9 (a+1)).map λe=>(((m.2/2^e%2^(a-e+1):I):O),(bo (m.2/2^e%2^(a-e+1)) (a-e+1)).map C)) (by kernel_rfl) f g h i;have j:=oF.mp j e (ht.mpr (Ax l));exact⟨(jo j).1,(jo j).2⟩
include k
theorem N0:nh ((c:O)*2^b) j=(c*2^b+j:I)/\(bo j b).map C++(bo c b).map C=(bo (c*2^b+j) (b+b)).map C:=by
 have e:=k7 (e:=λa=>(nh ((a.2.1:O)*2^a.1) a.2.2,(bo a.2.2 a.1).map C++(bo a.2.1 a.1).map C)) (f:=λa=>(((a.2.1*2^a.1+a.2.2:I):O),(bo (a.2.1*2^a.1+a.2.2) (a.1+a.1)).map C)) (by kernel_rfl) f g h k;exact⟨(jo e).1,(jo e).2⟩
theorem NX(i:a<b):decide (c3 c (mk (a+1))+c3 j (mk (a+1))+0>mk (a+1))=a_ (C (eH c j 0 (a+1))) (.int 1):=by
 exact oF.mp (k7 (e:=λe=>(e9 e.1).map λa=>decide (c3 e.2.1 (mk (a+1))+c3 e.2.2 (mk (a+1))+0>mk (a+1))) (f:=λe=>(e9 e.1).map λa=>a_ (C (eH e.2.1 e.2.2 0 (a+1))) (.int 1)) (by kernel_rfl) f g h k) a (ht.mpr i)
end
section
variable{i k j o n:I}{m:E bA}{g:bp}{e c:N}{P:E aY}{h a b f:I}
theorem ca.pre(a:ca i k m g e)(b:e<+:c):ca i k m g c:=by
 obtain⟨f,rfl⟩:=b;exact⟨a.an.c7 _,a.v.c7 _,a.s,a.aet,bG a.l (by rw[bJ];exact d8 _ _),a.aev⟩
theorem dc.pre(b:ca i k m g e)(a:e<+:c):dc i k m 0 g e g c:=
 ⟨b.pre a,.refl _,⟨a.length_le,λj f l=>by obtain⟨h,rfl⟩:=a;exact eK (dz f b.l)⟩⟩
structure ij(g:bp)(h c b a:I):Prop where
 r:bX g c h (aW b a)
 l:g.a[h]?=A a
 jZ:4<=h
 ae7:0<a
 aeO:a<=4
 ae4:b<2^a
theorem dL.jZ(e:dL i m g)(b:g.a[h]?=A a)(f:0<a):4<=h:=by
 rcases sS h 4 with c|c
 .replace b:=(e.cT c)▸b;cases b;exact bC f nofun
 .exact c
theorem pY(a:bn i g e)(b:g.is l h):aX J 70 [.ref (i+1),C l] e (C h) e:=
 az [.aa (.ref (i+9)),.aa (C h)] (H (a.br 12 rfl)<|H (a.is b)<|aj (C h) e)
noncomputable def zq(i j c e b f a g h:I):aK:=[A (.ref (i+1)),A (.ref j),A (C c),A (C e),A (aM b a),A (aM f a),A (C g),A (C h),M,M,M]
theorem abD(I:ca i k m g e)(t:fr j e)(u:0<a)(v:a<=4):aA (gi (λl p c=>fL (l<9) (p<a) (eo (ub.body.take 1) (e3 11 [.ref (i+1),.ref j,C q,C r,aM b a,aM f a]) e (zq i j q r b f a l p) c) (eh j e c))):=by
 exact as λK w=>fs t (a:=9) (ap G) _ λl o x=>x _ λy z s=>fs s.aeg (a:=a) u _ λp h B=>B _ λD E F=>w (λK n=>n l p h (λK n=>n y D (cG [.w (C l) o,.aa (C a),.w (C p) h,.go] (H z<|H (iz (b:=b) o v)<|H E<|bM (zq i j q r b f a l p) h)) (s.trans F)))
def LK(i k j n:I)(m:E bA)(g:bp)(e:N)(s b a c:I)(f:I)(o:N)(r h p:I)(q:bp)(l:N)(t:Prop):Prop:=aX J 19 [.ref j,C (c+1)] e (C f) o->fi o (.ref (i+1)) 0=J->aX J 94 [.ref (i+1),C c,C f,C s] o (C r) l->m9 l (aM b a) (A f) (A (c+1:I))=A (aM p (c-f+1),l)->dc i k m 4 g e q l->bX q r h (aW p (c-f+1))->dq q.a (n+1) h (.aa p (c-f+1))->t
theorem OJ(D:ca i k m g e)(E:k<=j)(F:fr j e)(H:g.h.length+4<400)(K:g.a.length+4<400)(f:ij g h T b a)(o:l<a):aA (q2 (λp s t q ge u r=>aA (LK i k j n m g e T b a l p s t q ge u r))):=by
 refine as λU L=>fs F (a:=l+1) (gg l) _ λp s N=>N _ λc O Q=>?_;have c:=nu c;have v:=Q.hq D E;obtain⟨P,R⟩:=PU f.ae7 f.aeO f.ae4 o c;obtain⟨t,q,u,r,S,x,y,z⟩:=PV v.m (rV H) (l4 K) f.l c o f.aeO f.r (λe=>PW e b (l:=l) (i:=p) c (by have:=f.aeO;exact Wj o this));refine L ?_;rw[P]at z;have B:=p3 r (l:=(bo b a).map C) (by rw[gb];have:=f.aeO;exact uO this) (A p) (A (l+1:I));rw[R]at B;exactλU w=>w p s t q _ u r (λU w=>w O v.m.an.a2 S B ((v.trans x).up (ap G)) z (.aa q _ _ (x.m.s.jZ y (gg _)) y (gg _) (by have:=f.aeO;exact Wk ‹_› o this) (lF _ (jm _))))
theorem G4(e:N)(f a:I):e<+:eS e f a:=eZ e _
theorem ij.ok(e:ij g h B b a):dq g.a n h (.aa b a):=.aa h b a e.jZ e.l e.ae7 e.aeO e.ae4
theorem abE(K:ca i k m g e)(wp:k<=j)(A1:fr j e)(kw:g.h.length+4<400)(mp:g.a.length+4<400)(s:ij g h A5 b a)(Y:ij g h B0 f a)(C9:of<9)(z:l<a):
 cF i k m n g e (ub.body.drop 1) (zq i j A5 B0 b f a of l):=by
 have U:g.h.length+1<400:=l4 kw;have ld:g.h.length+2<400:=rV kw;have le:g.a.length+1<400:=l4 mp;have L:=K.an.a2;have o:=s.ae7;have p:=s.aeO;have w:=s.ae4;have W:=Y.ae4;have T (e:N):=iz (b:=b) e p;have dl:((bo b a).map C).length<=7:=by rw[gb];exact(bG p (ap G))
 refine OJ (n:=n) K wp A1 kw mp s z _ λx ge r t B O F B2=>B2 _ λB3 B8 Ch Cl V Z go=>?_;have gt {P:Prop} (D:P):=H (G:c2 e .add (C l) (.int 1)=A (C (l+1),e))<|H B3<|H B8<|H Ch<|H (G:c2 F .add (C l) (.int 1)=A (C (l+1),F))<|H Cl<|H V.m.an.a2<|H (pY V.m.an Z.is) D;revert of;refine@dk _ _ ?_ (dk ?_ (dk ?_ (dk ?_ (dk ?_ (dk ?_ (dk ?_ (dk ?_ (jK ?_))))))))
 .refine NM K U s.l o s.r (λe=>NA e b (b:=a) (uQ o p)) _ λr O c y q u=>?_;rw[aap o p w]at u;exact cF.of (B:=.aa (2^a-1-b) a) (cZ [.go,.w (C r) c,.aa (C h),.w (aM (2^a-1-b) a) (eS c b a)] (H L<|H y<|H q.m.an.a2<|H (pY q.m.an (s.r.up q.le).is)<|H (vz c o p w)<|aj (.ab [C r,C h,aM (2^a-1-b) a]) (eS c b a)))
   (q.trans (dc.pre q.m (G4 c b a))) (ap G) u (.aa h _ a s.jZ (d4 q.le.a s.l) o p uG)
 .refine NL K U s.l o s.r (λe=>Nz e b (b:=a) (uQ o p)) _ λr O c y q u=>?_;rw[Um o p w]at u;have st:=oj (eS c b a) p (.int 0);rw[show hM a [.int 0]=eM a from G,((iv (c:=λD=>eM D.1) (e:=λD=>(bo 0 D.1).map C) (by kernel_rfl) o p w):eM a=(bo 0 a).map C)]at st;exact cF.of (B:=.aa ((2^a-1-b+0+1)%2^a) a) (cZ (aT 2 [.w (C r) c,.aa (C h),.w (aM (2^a-1-b) a) (eS c b a),.aa (C a),.aa (aM 0 a),.w (.ab [aM ((2^a-1-b+0+1)%2^a) a,.ref (eS c b a++[aO.list []]).length]) (cW (eS c b a) (2^a-1-b) 0 1 a)])
   (H L<|H y<|H q.m.an.a2<|H (pY q.m.an (s.r.up q.le).is)<|H (vz c o p w)<|H (T (eS c b a))<|H st<|H (pe (eS c b a) o p (uG (e:=b)) (jm a) (c:=1) (ap G))<|aj (.ab [C r,C h,aM ((2^a-1-b+0+1)%2^a) a]) (cW (eS c b a) (2^a-1-b) 0 1 a)) (by kernel_rfl))
   (q.trans (dc.pre q.m ((G4 c b a).trans (pm (eS c b a) (2^a-1-b) 0 1 a)))) (ap G) u (.aa h _ a s.jZ (d4 q.le.a s.l) o p (lF _ (jm a)))
 .by_cases v:a<3
  .have E:bY e .lt (C a) (.int 3)=A J:=bj A (cg (eU.mpr v));obtain⟨X,ad⟩:=N0 o p w W;obtain⟨r,t,O,c,y,q,R,Q⟩:=OB K ld le s.l Y.l o o (Fo o v p) s.r Y.r (λe=>OC e b f (b:=a) (dz w (bG (hQ (ap G) p) (ap G))) (Wl o v p));rw[X]at Q;have S:=pq c (l:=(bo f a).map C) (m:=(bo b a).map C) (by rw[gb,gb];exact(sO p p));rw[ad]at S;have lo:b*2^a+f<2^(a+a):=by
    rw[JK];exact dz (sP W _) (by rw[<-AD];exact qE _ w)
   exact cF.of (B:=.aa (b*2^a+f) (a+a)) (cZ (aT 3 [.aa (C a),.b J,.w (C r) c,.aa (aM (b*2^a+f) (a+a)),.go,.aa (C t)]) (H (T e)<|H E<|H L<|H y<|H S<|H q.m.an.a2<|H (pY q.m.an Q.is)<|aj (.ab [C r,C t,aM (b*2^a+f) (a+a)]) c))
    q (ap G) Q (.aa t _ _ (q.m.s.jZ R (Fp o v p)) R (Fp o v p) (Fo o v p) lo)
  .have E:bY e .lt (C a) (.int 3)=A d:=bj A (dU λu=>v (eU.mp u));exact cF.of (B:=.aa B (l-x+1)) (cZ (aT 3 (.aa (C a)::.b d::aT 5 [.aa (C (l+1)),.w (C x) ge,.w (C r) F,.aa (C (l+1)),.aa (aM B (l-x+1)),.go,.aa (C t)])) (H (T e)<|H E<|gt<|aj (.ab [C r,C t,aM B (l-x+1)]) F)) V (ap G) Z go
 .by_cases v:a<4
  .have E:bY e .lt (C a) (.int 4)=A J:=bj A (cg (eU.mpr v));obtain⟨r,t,O,c,y,q,R,Q⟩:=abP K ld le s.l o v s.r;have S:=pq c (l:=(bo b a).map C) (m:=[C 0]) (hw dl);rw[abO o p w]at S;exact cF.of (B:=.aa b (a+1)) (cZ (aT 4 [.aa (C a),.b J,.w (C r) c,.aa (aM b (a+1)),.go,.aa (C t)]) (H (T e)<|H E<|H L<|H y<|H S<|H q.m.an.a2<|H (pY q.m.an Q.is)<|aj (.ab [C r,C t,aM b (a+1)]) c))
    q (ap G) Q (.aa t _ _ (q.m.s.jZ R (gg a)) R (gg a) v (gC w (sV (ap G) (jl a))))
  .have E:bY e .lt (C a) (.int 4)=A d:=bj A (dU λu=>v (eU.mp u));exact cF.of (B:=.aa B (l-x+1)) (cZ (aT 4 (.aa (C a)::.b d::aT 4 [.aa (C (l+1)),.w (C x) ge,.w (C r) F,.aa (C (l+1)),.aa (aM B (l-x+1)),.go,.aa (C t)])) (H (T e)<|H E<|gt<|aj (.ab [C r,C t,aM B (l-x+1)]) F)) V (ap G) Z go
 .by_cases v:a<4
  .have E:bY e .lt (C a) (.int 4)=A J:=bj A (cg (eU.mpr v));obtain⟨X,ad⟩:=Zo o p w;obtain⟨r,t,O,c,y,q,R,Q⟩:=Zp K ld le s.l o v s.r (λe=>Zu e b (b:=a) (i:=1) o (bG v (ap G)));rw[X]at Q;have S:=pq c (l:=(bo b a).map C) (m:=[C (b/2^(a-1)%2)]) (hw dl);rw[ad]at S;have lo:b+b/2^(a-1)%2*2^a<2^(a+1):=by
    rw[kM,JI];exact I.add_lt_add_of_lt_of_le w (by have:=lF (b/2^(a-1)) (by decide:2>0);exact bG (qE (2^a) (nu this)) (b3 (I.one_mul _)))
   exact cF.of (B:=.aa (b+b/2^(a-1)%2*2^a) (a+1)) (cZ (aT 5 [.aa (C a),.b J,.w (C r) c,.aa (C (b/2^(a-1)%2)),.aa (aM (b+b/2^(a-1)%2*2^a) (a+1)),.go,.aa (C t)]) (H (T e)<|H E<|H L<|H y<|H ((iv (c:=λD=>ck c (aM D.2 D.1) (.int (-1))) (e:=λD=>A (C (D.2/2^(D.1-1)%2))) (by kernel_rfl) o p w):ck c (aM b a) (.int (-1))=A (C (b/2^(a-1)%2)))<|H S<|H q.m.an.a2<|H (pY q.m.an Q.is)<|aj (.ab [C r,C t,aM (b+b/2^(a-1)%2*2^a) (a+1)]) c))
    q (ap G) Q (.aa t _ _ (q.m.s.jZ R (gg a)) R (gg a) v lo)
  .have E:bY e .lt (C a) (.int 4)=A d:=bj A (dU λu=>v (eU.mp u));exact cF.of (B:=.aa B (l-x+1)) (cZ (aT 5 (.aa (C a)::.b d::aT 3 [.aa (C (l+1)),.w (C x) ge,.w (C r) F,.aa (C (l+1)),.aa (aM B (l-x+1)),.go,.aa (C t)])) (H (T e)<|H E<|gt<|aj (.ab [C r,C t,aM B (l-x+1)]) F)) V (ap G) Z go
 .refine Nr K U s.l s.r z (λe=>Nt e b) _ λr O c y q u=>?_;rw[Nq o p w z]at u;exact cF.of (B:=.b (a_ (C (b/2^l%2)) (.int 1))) (cZ (aT 6 [.w (C r) c,.aa (C (b/2^l%2)),.b (a_ (C (b/2^l%2)) (.int 1))]) (H L<|H y<|H (sh c (rm (b:=b) z) (wa dl))<|H (G:bY c .eq (C (b/2^l%2)) (.int 1)=A (a_ (C (b/2^l%2)) (.int 1)))<|aj (.ab [C r,C 0,.bool (a_ (C (b/2^l%2)) (.int 1))]) c)) q (ap G) u (.b _)
 .refine NY K U s.l o s.r Y.r z (λe=>NZ e b f (g:=l+1) (Fq o p z)) _ λr O c y q u=>?_;rw[NX o p w W z]at u;exact cF.of (B:=.b (a_ (C (eH b f 0 (l+1))) (.int 1))) (cZ (aT 7 [.aa (C (l+1)),.w (C r) c,.w (.ab [aM ((b+f+0)%2^a) a,.ref (c++[aO.list []]).length]) (cW c b f 0 a),.go,.aa (C (l+1)),.aa (C (eH b f 0 (l+1))),.b (a_ (C (eH b f 0 (l+1))) (.int 1))])
   (H L<|H (G:c2 e .add (C l) (.int 1)=A (C (l+1),e))<|H y<|H (pe c o p w W (c:=0) (ap G))<|H (G:c2 (cW c b f 0 a) .add (C l) (.int 1)=A (C (l+1),cW c b f 0 a))<|H (gu (xw c (.list (ey (hp b f 0) a)) (.list (ey (eH b f 0) (a+1))) (.list [])) (l+1) (by unfold ey;rw[j3,j3,I4 (JT z)];rfl) (cD (by rw[r0];exact Wn o p)):ck (cW c b f 0 a) (.ref (c++[aO.list []]).length) (C (l+1))=A (C (eH b f 0 (l+1))))<|H (G:bY (cW c b f 0 a) .eq (C (eH b f 0 (l+1))) (.int 1)=A (a_ (C (eH b f 0 (l+1))) (.int 1)))<|aj (.ab [C r,C 0,.bool (a_ (C (eH b f 0 (l+1))) (.int 1))]) (cW c b f 0 a)) (by kernel_rfl))
   (q.trans (dc.pre q.m (pm c b f 0 a))) (ap G) u (.b _)
 .refine Nd K U s.l o s.r Y.r z (λe=>Nf e b f (g:=l+1) (Fq o p z)) _ λr O c y q u=>?_;obtain⟨X,ad⟩:=Em o p w z;obtain⟨ac,ao⟩:=Em o p W z;rw[X,ac,@lH _ _ _ (I.decLt _ _)|>.mpr eU]at u;have af:=p3 c (l:=(bo b a).map C) (wa dl) M (A (l+1:I));have be:=p3 c (l:=(bo f a).map C) (by rw[gb];exact uN o p) M (A (l+1:I));rw[ad]at af;rw[ao]at be;exact cF.of (B:=.b (decide (b%2^(l+1)<f%2^(l+1)))) (cZ (aT 8 [.aa (C (l+1)),.w (C r) c,.aa (C (l+1)),.aa (aM (b%2^(l+1)) (l+1)),.aa (C (l+1)),.aa (aM (f%2^(l+1)) (l+1)),.aa (.bool (decide (b%2^(l+1)<f%2^(l+1))))])
   (H L<|H (G:c2 e .add (C l) (.int 1)=A (C (l+1),e))<|H y<|H (G:c2 c .add (C l) (.int 1)=A (C (l+1),c))<|H af<|H (G:c2 c .add (C l) (.int 1)=A (C (l+1),c))<|H be<|H (pL c (a:=l+1) (gg l) (bG z p) (lF b (jm (l+1))) (lF f (jm (l+1))))<|aj (.ab [C r,C 0,.bool (decide (b%2^(l+1)<f%2^(l+1)))]) c) (by kernel_rfl)) q (ap G) u (.b _)
 .exact cF.of (B:=.aa B (l-x+1)) (cZ (aT 8 [.aa (C (l+1)),.w (C x) ge,.w (C r) F,.aa (C (l+1)),.aa (aM B (l-x+1)),.go,.aa (C t)]) (gt<|aj (.ab [C r,C t,aM B (l-x+1)]) F)) V (ap G) Z go
theorem abF(o:ca i k m g e)(p:k<=j)(u:fr j e)(v:g.h.length+4<400)(w:g.a.length+4<400)(l:ij g h q b a)(x:ij g h r f a):lR i k m n g e 66 [.ref (i+1),.ref j,C q,C r,aM b a,aM f a]:=by
 refine as λI y=>abD (i:=i) (b:=b) (f:=f) o u (q:=q) (r:=r) l.ae7 l.aeO _ λF H c z=>z _ λB D E s=>y ?_;have t:=s.hq o p;exact cF.after 1 (b:=ub) G rfl t E (abE t.m p s.aeg v w l x B D)
end
end
section
section
variable{i n j k l:I}{m:E bA}{a:bp}{g o:N}{P:E aY}{e c f h:I}
noncomputable def ow(aB:E I)(a:L):I:=(aB[((oo a).fk.getD 0).toNat]?).getD 0
noncomputable def i4(aB:E I)(a:L):ah:=decide ((0:O)<ow aB a)
def fM.zD(e:fM a l b)(f:dL i m a):a.a[b.afO]?=A (ow a.a b.aa):=by
 obtain⟨c,g⟩:=e.l.w f;show _=A ((a.a[b.afO]?).getD 0);refine g.symm▸?_;rfl
def X4(c:bn i a g)(e:dL i m a)(ok:o9 a l P)(f:b∈P.map aY.aa):aX J 26 [.ref (i+1),oo b] g (C (ow a.a b)) g:=by
 obtain⟨h,j,rfl⟩:=fx.mp f;exact gT c ((ok h j).zD e)
def fM.ab0(o:fM a l D)(j:i4 a.a D.aa=J)(p:dL i m a):aA (o4 (λB e f c=>fy (D=⟨B,e,.aa f c⟩) (ij a e B f c))):=by
 have k:=o.zD p;have j:(0:O)<ow a.a D.aa:=dE j;obtain⟨B,e,h⟩:=D;have k:a.a[e]?=A (ow a.a (aY.aa ⟨B,e,h⟩)):=k;have g:4<=e:=p.jZ k (j2.mp j);cases o.l with
 |aa v f c g q r s t=>exactλv n=>n B e f c (λv n=>n G ⟨o.r,q,g,r,s,t⟩)
 |b u=>exact bC g (show¬4<=0 by decide)
 |agc h=>exact bC g (show¬4<=1 by decide)
 |af4 h=>exact bC g (show¬4<=2 by decide)
 |afV h=>exact bC g (show¬4<=3 by decide)
def fM.aca(m:fM a l B)(o:ij a e D f c)(i:B.afO=e):∃D h,B=⟨D,e,.aa h c⟩/\ij a e D h c:=by
 obtain⟨p,k,j⟩:=B;have i:k=e:=i;have g:4<=k:=by rw[i];exact o.jZ
 cases m.l with
 |aa v h t v n q r s=>
  subst i;obtain rfl:=aG (o.l.symm.trans n);exact⟨p,h,G,m.r,n,g,q,r,s⟩
 |b u=>exact bC g (show¬4<=0 by decide)
 |agc j=>exact bC g (show¬4<=1 by decide)
 |af4 j=>exact bC g (show¬4<=2 by decide)
 |afV j=>exact bC g (show¬4<=3 by decide)
noncomputable def xy(i j k g e a b f h c l:I):aK:=[A (.ref (i+1)),A (.ref k),A (.ref j),A (.ref g),A (aY.aa ⟨a,e,.aa f c⟩),A (aY.aa ⟨b,e,.aa h c⟩),A (C a),A (C b),A (aM f c),A (aM h c),A (C e),A (C l),M,M]
def Ng(b:hY i n m l a g j k P):aA (BR (λe r s f h c t o=>fL (ij a e r f c/\ij a e s h c) (t<3) (eo (t9.body.take 5) (e3 14 [.ref (i+1),.ref k,.ref j]) g (xy i j k g.length e r s f h c t) o) (eh j g o))):=by
 have B:=b.aeI.an;have u:=b.aeI.s;have x:eh j g (g++[.list (((P.map aY.aa).filter (i4 a.a)).map id)]):=.pre b.aey (eZ _ _);have e5:=cc g (.list (((P.map aY.aa).filter (i4 a.a)).map id));have len:(((P.map aY.aa).filter (i4 a.a)).map id).length<400:=by
  rw[bO];exact c0 (sJ _ _) (by rw[bO];exact b.aeG)
 have S:0<(((P.map aY.aa).filter (i4 a.a)).map id).length:=by
  refine as λof q=>?_;obtain⟨v,D,T⟩:=b.has 4 (ap G);refine q ?_;rw[bO];refine Al (sK.mpr ⟨fx.mpr ⟨v,D,G⟩,cg (j2.mpr ?_)⟩);have E:=(b.ok v D).zD u;rw[T]at E;exact(u.qk (c_ 4) E).1
 refine as λof q=>fs x.aeg S _ λF U I=>I _ λV W w=>?_;clear I;obtain⟨X,K,g1,g2⟩:=yM (i4 a.a) (qw _) V;refine q ?_;have m5:g.length≠j:=by
  refine as λof q=>?_;obtain⟨mp,Y⟩:=b.aey;exact q (fK (d6.mp Y).1)
 refine as λof q=>(b.ok X K).ab0 g2 u _ λr e f c L=>L _ λZ N=>?_;clear L;subst Z;refine lh (w.bu (x.bu b.aeB b.aeP) b.aeP) b.aeG w.aeg ⟨_,K,G⟩ _ λv ad O=>O _ λdl ge go Q=>?_;clear O;obtain⟨s,h,rfl,gt⟩:=(b.ok v dl).aca N ge;exact fs Q.aeg (a:=3) (ap G) _ λt y kw=>kw _ λld le lo=>q (λof z=>z e r s f h c t y (λof z=>z ⟨N,gt⟩ ld (cG ([.afN (i4 a.a) id (λp=>[.aa (oo p),.aa (C (ow a.a p)),.b (i4 a.a p)]),.af8 (P.map aY.aa,[A (k,.list (P.map aY.aa))],g),.aa (C (((P.map aY.aa).filter (i4 a.a)).map id).length),.w (C F) U,.aa (aY.aa ⟨r,e,.aa f c⟩),.go,.w (aY.aa ⟨s,e,.aa h c⟩) ad]++aT 6 [.w (C t) y])
  (H (gx b.aeB (jG _ b.aeG:bV (P.map aY.aa).length=J))<|H (H (de b.aeB) λp(R:p∈P.map aY.aa)=>H B.a2<|H (Ge g R)<|H (X4 B u b.ok R)<|H (G:bY g .gt (C (ow a.a p)) (.int 0)=A (i4 a.a p))<|H (G:cN (.bool (i4 a.a p))=A (i4 a.a p))<|H (G:g=g) λof:i4 a.a p=J=>H (G:p=id p) (G:g=g))<|
   H (fb e5 len)<|H W<|H (gu (w.bu e5 m5) F g1 (cD len))<|H go<|H le<|bM (xy i j k g.length e r s f h c t) y) (by kernel_rfl)) (((x.trans w).trans Q).trans lo)))
def Y6(c:b∈i8):oe b=J/\i5 [] (a5 b) (.ab (i8.map a5))=A J:=by
 have a:(i8.all λb=>oe b&&(i5 [] (a5 b) (.ab (i8.map a5))).any id)=J:=by kernel_rfl
 have a:=e7.mp (di.mp a b c);exact k5 a.2 _ λe f g=>⟨a.1,by rw[f,show e=J from g]⟩
def M7(f:b∈lT):oe b=J/\i5 [] (a5 b) (.ab (i8.map a5))=A d/\i5 [] (a5 b) (.ab (lT.map a5))=A J:=by
 have a:(lT.all λb=>oe b&&((i5 [] (a5 b) (.ab (i8.map a5))).any (!·)&&(i5 [] (a5 b) (.ab (lT.map a5))).any id))=J:=by kernel_rfl
 have a:=e7.mp (di.mp a b f);have e:=e7.mp a.2;exact as λm g=>k5 e.1 _ λc h l=>k5 e.2 _ λi j k=>g (⟨a.1,by rw[h,show c=d by cases c<;>trivial],by rw[j,show i=J from k]⟩)
def vj(a:c<=4)(b:f<2^c):f<64:=dz b (bG (hQ (ap G) a) (ap G))
def Nh(b:hY i n m l a g j k P)(o:ij a e T f c)(D:ij a e ge h c)(ad:go<3):cF i n m l a g (t9.body.drop 5) (xy i j k wp e T ge f h c go):=by
 have L:=b.aeI;have X:a.h.length+1<400:=by have:=b.room;exact l4 this
 have p:=o.ae7;have q:=o.aeO;have y:=o.ae4;have E:=D.ae4
 match go,ad with
 |0,_=>
  refine as λst z=>fs b.aey (a:=10) (ap G) _ λs t dl=>dl _ λF N Q=>?_;have u:=Q.hq L b.aeo;obtain⟨v,r⟩:∃v,i8[s]?=A v:=⟨_,e8 F⟩;obtain⟨O,R⟩:=Y6 (d7 r);obtain⟨I,gt,kw⟩:=aas p q y E F;refine aaA u.m X O R o.l p o.r D.r (abn T ge r p (uQ p q) (r_ (m:=f) (e_ (vj q y))) (r_ (m:=h) (e_ (vj q E))) (dz (vj q y) (ap G))) _ λB S x U w K=>?_;obtain⟨Y,ld,Z⟩:=aaw x p q y E r;refine z ?_;rw[gt]at K Z;exact cF.of (B:=.aa I c) (cZ [.go,.w (C s) t,.aa (a5 v),.w (C B) x,.w (aM I c) Y] (H N<|H (vd (jH r a5) G)<|H u.m.an.a2<|H U<|H Z<|aj (.ab [C B,C e,aM I c]) Y))
   ((u.trans w).trans (dc.pre w.m ld)) (ap G) K (.aa e I c o.jZ (d4 w.le.a o.l) p q kw)
 |1,_=>
  refine as λst z=>fs b.aey (a:=4) (ap G) _ λs t le=>le _ λF N Q=>?_;have u:=Q.hq L b.aeo;obtain⟨v,r⟩:∃v,lT[s]?=A v:=⟨_,e8 F⟩;obtain⟨O,R,lo⟩:=M7 (d7 r);exact M5 u.m X O R lo o.l p o.r D.r (aaR T ge r p (uQ p q)) _ λB S x U w K=>z (cF.of (B:=.b (n9 f h c s)) (cZ [.go,.go,.w (C s) t,.aa (a5 v),.w (C B) x,.aa (.bool (n9 f h c s))] (H N<|H (vd (jH r a5) G)<|H u.m.an.a2<|H U<|H (M6 x p q y E r)<|aj (.ab [C B,C 0,.bool (n9 f h c s)]) x))
   (u.trans w) (ap G) K (.b _))
 |2,_=>
  exact as λst z=>abF (n:=l) L b.aeo b.aey b.room b.afv o D _ λV S t mp=>mp _ λof w ok=>z (λst W=>W V S t (λst W=>W (cZ [.go,.go,.w V.aa t] (H of<|aj V.aa t)) w ok))
def CL(b:hY i n m l a g j k P):lR i n m l a g 25 [.ref (i+1),.ref k,.ref j]:=by
 refine Ng b _ λe w x f h c y o q=>q _ λr s t p=>?_;obtain⟨u,v⟩:=r;exact cF.after 5 (b:=t9) G rfl (p.hq b.aeI b.aeo) t (Nh (b.ed p) u v s)
end
end
section
structure cK where
 aez:I
 g:I
 aef:I
 afR:E I
 aeh:E (E bD×bD)
 x:bD
noncomputable def cK.aa(a:cK):L:=.ab [C a.aez,.ab (a.afR.map C),C a.g,.ref a.aef,a.x.bc]
noncomputable def cS(f:E bD):E L:=f.map bD.bc
noncomputable def dZ:E I->E bD->E L
 |a::b,e::f=>e.aP a::dZ b f
 |_,_=>[]
inductive gj(aB:E I)(a:I):E I->E bD->Prop
 |nil:gj aB a [] []
 |cons {b:I} {c:bD} {e:E I} {f:E bD} (g:dq aB a b c) (h:gj aB a e f):gj aB a (b::e) (c::f)
noncomputable def fP(a:E bD×bD):E L×L:=(cS a.1,a.2.bc)
noncomputable def ia(b:E I)(c:I)(a:E bD×bD):E L×L:=(dZ b a.1,a.2.aP c)
section
variable{aB g:E I}{a h c:I}{b:E I}{f e:E bD}
def gj.up(e:gj aB a b f)(c:aB<+:g)(i:a<=h):gj g h b f:=by
 induction e with
 |nil=>exact .nil
 |cons e k j=>exact .cons (e.up c i) j
def Tb(h:gj aB a b f):∀{e:E bD},gj aB a b e->(ci (dZ b f)=ci (dZ b e)↔ci (cS f)=ci (cS e)):=by
 induction h with
 |nil=>intro e c;cases c;rfl
 |cons h n g=>
  intro e c;cases c with
  |cons c m=>
   have l:=@lH _ _ (L.fV _ _) (L.fV _ _)|>.mp (ru h c);have g:=g m;exact⟨λi=>by injection i with j k;exact(IS.mpr ⟨l.mp j,g.mp k⟩:dC _::ci _=dC _::ci _),λi=>by injection i with j k;exact(IS.mpr ⟨l.mpr j,g.mpr k⟩:dC _::ci _=dC _::ci _)⟩
def l1(a b:E L)(e:L)(f:E (E L×L)):c4 a ((b,e)::f)=if ci b=ci a then A e else c4 a f:=by
 show((E.find? _ ((b,e)::f)).map _)=_;by_cases c:ci b=ci a
 .rw[cd c,I0 (by exact cg c)];rfl
 .rw[bZ c,IZ (by simpa using c)];rfl
structure iJ(aB:E I)(a c:I)(b:E I)(f:E bD)(g:E (E bD×bD))(e:j bD):Prop where
 dK:c4 (cS f) (g.map fP)=e.map bD.bc
 afQ:c4 (dZ b f) (g.map (ia b c))=e.map (bD.aP c)
 l:∀i,e=A i->dq aB a c i
def wE(j:gj aB a b f):∀(l:E (E bD×bD)),(∀i∈l,gj aB a b i.1/\dq aB a c i.2)->∃m,iJ aB a c b f l m:=by
 intro k
 induction k with
 |nil=>
  intro u;exact⟨M,G,G,λu e=>by exact nomatch e⟩
 |cons i l n=>
  intro ok;obtain⟨o,p⟩:=ok i (.head _);have e:=Tb o j;by_cases g:ci (cS i.1)=ci (cS f)
  .exact⟨A i.2,(l1 _ _ _ _).trans (cd g),(l1 _ _ _ _).trans (cd (e.mpr g)),λt q=>by obtain rfl:=aG q;exact p⟩
  .obtain⟨m,h⟩:=n λi r=>ok i (.tail _ r);exact⟨m,(l1 _ _ _ _).trans ((bZ g).trans h.dK),(l1 _ _ _ _).trans ((bZ λs=>g (e.mp s)).trans h.afQ),h.l⟩
def Eh{a:E L}{c:L}{f:E L×L}:∀(i:E (E L×L)),c4 a i=A c->c4 a (i++[f])=A c:=by
 intro g
 induction g with
 |nil=>
  intro b;exact nomatch b
 |cons h i j=>
  obtain⟨k,l⟩:=h;intro b;rw[l1]at b;rw[IR,l1];by_cases e:ci k=ci a
  .rw[cd e]at b⊢;exact b
  .rw[bZ e]at b⊢;exact j b
def x8{a:E L}{c:L}:∀(i:E (E L×L)),c4 a i=M->c4 a (i++[(a,c)])=A c:=by
 intro f
 induction f with
 |nil=>
  intro l;exact(l1 a a c []).trans (cd G)
 |cons g i h=>
  obtain⟨j,k⟩:=g;intro b;rw[l1]at b;rw[IR,l1];by_cases e:ci j=ci a
  .rw[cd e]at b;exact nomatch b
  .rw[bZ e]at b⊢;exact h b
def iJ.acg(e:iJ aB a c b f B (A D))(g:E bD×bD):iJ aB a c b f (B++[g]) (A D):=
 ⟨by rw[el];exact Eh _ e.dK,by rw[el];exact Eh _ e.afQ,e.l⟩
def iJ.new(e:iJ aB a c b f D M)(g:dq aB a c B):iJ aB a c b f (D++[(f,B)]) (A B):=
 ⟨by rw[el];exact x8 _ e.dK,by rw[el];exact x8 _ e.afQ,λi h=>by obtain rfl:=aG h;exact g⟩
def iJ.up(e:iJ aB a c b f B D)(h:aB<+:g):iJ g a c b f B D:=⟨e.dK,e.afQ,λi j=>(e.l i j).up h (c_ a)⟩
def TQ(a:bD):fD 6 a.bc=J:=by
 cases a with
 |aa c e=>exact di.mpr λf b=>by obtain⟨g,g,rfl⟩:=fx.mp b;rfl
 |_=>rfl
def aar(b:I)(a:bD):fD 6 (a.aP b)=J:=by
 cases a with
 |aa c e=>kernel_rfl
 |afV f=>kernel_rfl
 |_=>rfl
def oa(f:E bD):dH (cS f)=J:=di.mpr λc a=>by obtain⟨b,e,rfl⟩:=fx.mp a;exact TQ b
def sj:∀(b:E I)(f:E bD),dH (dZ b f)=J:=by
 intro a
 induction a with
 |nil=>
  intro i;exact G
 |cons c b e=>
  intro g;cases g with
  |nil=>
   exact G
  |cons h f=>
   show(fD 6 (h.aP c)&&dH (dZ b f))=J;rw[aar,e f];rfl
end
def uz(a:L):Prop:=∃b,(lZ oN [a,a5 " has two values for the same arguments"]).map L.str=A b
structure hZ(c:E bA)(b:bp)(a:cK):Prop where
 afc:∃l,c[a.aez]?=A l/\l.q=a.aeh.map (ia a.afR a.g)/\∀m,b.a[a.g]?=A m->l.x.getD (jP a.g m)=a.x.aP a.g
 p:b.p[a.aez]?=A (a.afR,a.g)
 afh:a.g<4
 aeN:(∃g,g<5/\a.afR=[g])\/∃g h,(g<5/\h<5)/\a.afR=[g,h]
 ie:∀i∈a.aeh,gj b.a 0 a.afR i.1/\dq b.a 0 a.g i.2
 x:dq b.a 0 a.g a.x
 self:∀i∈a.aeh,iJ b.a 0 a.g a.afR i.1 a.aeh (A i.2)
 aeR:∃h,b.cl[a.aez]?=A h/\uz h
 af1:a.aeh≠[]
 afj:a.aeh.length<=2
section
variable{e l b m i:I}{k:E bA}{g:bp}{a o:N}{P:E aY}{n h q p:I}
def hZ.up(a:hZ k g B)(b:g.ic p D)(l:dL e k g):hZ k D B:=by
 obtain⟨m,n,o,q⟩:=a.afc;obtain⟨h,i⟩:=a.x.w l;exact⟨⟨m,n,o,λr j=>by rw[d4 b.a i]at j;obtain rfl:=aG j;exact q h i⟩,by rw[b.p];exact a.p,a.afh,a.aeN,λc f=>⟨(a.ie c f).1.up b.a (c_ _),(a.ie c f).2.up b.a (c_ _)⟩,a.x.up b.a (c_ _),λc f=>(a.self c f).up b.a,by rw[b.cl];exact a.aeR,a.af1,a.afj⟩
structure pc(e l b c:I)(a:N)(f:E cK):Prop where
 afn:a[c]?=A (.list (f.map cK.aa))
 afo:c≠b
 afb:∀r∈f,a[r.aef]?=A (.afM (r.aeh.map fP))/\e+13<=r.aef/\r.aef<l
 len:f.length<400
 pos:0<f.length
def pc.ed(f:pc e l b B a D)(h:eh b a o)(i:l<=b):pc e l b B o D:=
 ⟨h.bu f.afn f.afo,f.afo,λc g=>⟨h.bu (f.afb c g).1 (by have:=(f.afb c g).2;exact Wo this i),(f.afb c g).2⟩,f.len,f.pos⟩
def CU{a:cK}(ok:hZ k g a)(o:dL e k g){f:E bD}(p:gj g.a i a.afR f):aA (gi (λs h r=>aA (j_ (k[a.aez]?=A s) (g.a[a.g]?=A h) (h_ s a.g h (dZ a.afR f)=bD.aP a.g r) ((c4 (cS f) (a.aeh.map fP)).getD a.x.bc=r.bc) (dq g.a i a.g r)))):=by
 refine as λw q=>?_;obtain⟨s,t,u,v⟩:=ok.afc;obtain⟨h,j⟩:=ok.x.w o;obtain⟨b,l⟩:=wE (c:=a.g) p a.aeh λm n=>⟨(ok.ie m n).1.up (b_ _) (fY i),(ok.ie m n).2.up (b_ _) (fY i)⟩;refine q (λw c=>c s h (b.getD a.x) (λw c=>c t j ?_ ?_ ?_))
 .unfold h_;refine u.symm▸l.afQ.symm▸(v h j).symm▸?_;cases b<;>rfl
 .refine l.dK.symm▸?_;cases b<;>rfl
 .cases b with
  |none=>exact ok.x.up (b_ _) (fY i)
  |some r=>exact l.l r G
def abU{b:I}{e i:E L}(c:a[b]?=A (.list e))(f:e.length<=3)(g:i.length<=3):eb a .zip [.ref b,.ab i]=A (gz e i,[A (b,.list e),A (a.length,.afT)],a++[.afT]):=by
 show(ds a b).bind (λe=>a4 (bV e.length&&bV i.length) (A (gz e i,[A (b,aO.list e),A (a.length,.afT)],a++[.afT])))=_;rw[hk c,cJ,cD (c0 f (ap G)),cD (c0 g (ap G))];rfl
def N7(c:a[b]?=A r)(e:a[m]?=A s):d_ a [A (b,r),A (m,s)]=J:=by
 show(decide (a[b]?=A r)&&(decide (a[m]?=A s)&&J))=J;refine(cg c).symm▸(cg e).symm▸?_;rfl
def Ck(q:ca e l k g a)(s:g.h.length+1<400){b:cK}{o:bA}{h:I}(t:k[b.aez]?=A o)(u:g.p[b.aez]?=A (b.afR,b.g))(v:g.a[b.g]?=A h){f:E I}{j:E L}(w:∀r∈f.zip b.afR,g.is r.1 r.2)(p:f.length=b.afR.length)(m:f.length<=3)(c:kh g f j)(x:dH j=J):
 ei e l k 1 g (a++[.list (f.map C)]) 18 [.ref (e+1),C b.aez,.ref a.length] b.g (h_ o b.g h j):=by
 have i:=cc a (.list (f.map C));have n:(f.map C).length<=3:=by rw[bO];exact m
 exact Cm (q.more (.list (f.map C))) s t u v w p m c x ((fb i (c0 n (ap G))).trans (by rw[bO])) (abU i n (by rw[bO,<-p];exact m)) (N7 (b5 i) (cc _ _)) (gR (b5 i) (cD (c0 n (ap G))))
noncomputable def CS(e b m c:I)(a:cK)(f g:j L):aK:=[A (.ref (e+1)),A (.ref m),A (.ref c),A (.ref b),A (C a.aez),A (.ab (a.afR.map C)),A (C a.g),A (.ref a.aef),A a.x.bc,f,g,M,M,M]
def NT(c:hY e l k i g a b m P){O:I}{y:E cK}(R:pc e l b O a y)(ok:∀v∈y,hZ k g v):lR e l k i g a 24 [.ref (e+1),.ref m,.ref O,.ref b]:=by
 have len:(y.map cK.aa).length<400:=by rw[bO];exact R.len
 refine fs c.aey (a:=(y.map cK.aa).length) (by rw[bO];exact R.pos) _ λge go D5=>D5 _ λFr Ns gt=>?_;clear D5;obtain⟨v,FB⟩:∃v,y[ge]?=A v:=⟨_,e8 ((by rw[bO]at Fr;exact Fr):ge<y.length)⟩;have GM:=gu (gt.bu R.afn R.afo) ge (jH FB cK.aa) (cD len);have m4:=d7 FB;have aO:=ok v m4;have kf:eo (xO.body.take 1) (e3 14 [.ref (e+1),.ref m,.ref O,.ref b]) a (CS e b m O v M M) go:=
  cG [.aa (C (y.map cK.aa).length),.w (C ge) go,.aa v.aa,.go] (H (fb R.afn len)<|H Ns<|H GM<|bM (CS e b m O v M M) go)
 have ai:=c.ed gt;have le:=gt.hq c.aeI c.aeo;refine cF.after 1 (b:=xO) G rfl le kf ?_;clear kf GM;obtain⟨P3,t,L,Id,lo,kw⟩:=v;have S:go[L]?=A (.afM (lo.map fP))/\e+13<=L/\L<l:=(R.ed gt c.aeo).afb _ m4;have mp:L≠b:=by have:=ai.aeo;omega
 rcases aO.aeN with⟨n,fS,of⟩|⟨n,st,⟨fS,On⟩,of⟩
 .obtain rfl:Id=[n]:=of;refine lh ai.aeB ai.aeG ai.aey (ai.has n fS) _ λz w IO=>IO _ λwp A1 A5 T=>?_;clear IO;obtain⟨o,j,f⟩:=z;obtain rfl:j=n:=A1;have B:=ai.ok _ wp;have V:=T.hq le.m ai.aeo;refine CU aO V.m.s (.cons B.l .nil) _ λU h s KB=>KB _ λB0 B2 D B3 B8=>?_;clear KB;have D:h_ U t h [f.aP j]=s.aP t:=D;have Y:=dc.more V.m (.list [aY.aa ⟨o,j,f⟩]);have K:=dc.more Y.m (.list [f.bc]);have u:=cc w (.list [aY.aa ⟨o,j,f⟩]);have x:=b5 (f:=[.list [f.bc]]) u;refine Ck K.m (by have:=ai.room;exact l4 this) B0 aO.p B2 (f:=[o]) (λz Ch=>by cases Ch with|head=>exact B.r.is|tail _ W=>exact nomatch W) G (show 1<=3 by decide) (.cons B.r.bI .nil) (sj [j] [f]) _ λF Cl X C9 N ib=>?_;have Z:=(N.cq.same L (dz S.2.2 (c_ _)) (.inr S.2.1)).trans (b5 (f:=[.list [C o]]) (b5 (f:=[.list [f.bc]]) (b5 (f:=[.list [aY.aa ⟨o,j,f⟩]]) (T.bu S.1 mp))));have ib:bX Cl F t (h_ U t h [f.aP j]):=ib;rw[D]at ib;have ad:=rA Z (cS [f]) (oa [f]) kw.bc;rw[(B3:(c4 (cS [f]) (lo.map fP)).getD kw.bc=s.bc)]at ad;exact cF.of (B:=s) (cZ [.go,.go,.w (aY.aa ⟨o,j,f⟩) w,.go,.af8 ([aY.aa ⟨o,j,f⟩],[A (w.length,.list [aY.aa ⟨o,j,f⟩])],w++[.list [aY.aa ⟨o,j,f⟩]]),.go,.aa (.ab [f.bc]),.go,.af8 ([aY.aa ⟨o,j,f⟩],[A (w.length,.list [aY.aa ⟨o,j,f⟩])],w++[.list [aY.aa ⟨o,j,f⟩]]++[.list [f.bc]]),.go,.w (C F) X,.aa s.bc]
   (H A5<|H (gx u G)<|H (de u)<|H (de u)<|H (gR (cc (w++[.list [aY.aa ⟨o,j,f⟩]]) (.list [f.bc])) G)<|H K.m.an.a2<|H (gx x G)<|H (de x)<|H (de x)<|H C9<|H (l9 Z .get rfl)<|H ad<|aj (.ab [C F,C t,s.bc]) X) (by kernel_rfl))
   ((((V.trans Y).trans K).trans (dc.more K.m (.list [C o]))).trans N) (ap G) ib (B8.up N.le.a (fo i))
 .obtain rfl:Id=[n,st]:=of;refine lh ai.aeB ai.aeG ai.aey (ai.has n fS) _ λz w KF=>KF _ λwp A1 A5 T=>?_;clear KF;obtain⟨o,j,f⟩:=z;obtain rfl:j=n:=A1;have B:=ai.ok _ wp;have dl:=ai.ed T;have V:=T.hq le.m ai.aeo;refine lh dl.aeB dl.aeG dl.aey (dl.has st On) _ λz Q KK=>KK _ λOs Pi Pv KM=>?_;clear KK;obtain⟨r,q,p⟩:=z;obtain rfl:q=st:=Pi;have Da:=dl.ok _ Os;have Y:=KM.hq V.m ai.aeo;refine CU aO Y.m.s (.cons B.l (.cons Da.l .nil)) _ λU h s KT=>KT _ λB0 B2 D B3 B8=>?_;clear KT;have D:h_ U t h [f.aP j,p.aP q]=s.aP t:=D;have K:=dc.more Y.m (.list [aY.aa ⟨o,j,f⟩,aY.aa ⟨r,q,p⟩]);have ld:=dc.more K.m (.list [f.bc,p.bc]);have u:=cc Q (.list [aY.aa ⟨o,j,f⟩,aY.aa ⟨r,q,p⟩]);have x:=b5 (f:=[.list [f.bc,p.bc]]) u;refine Ck ld.m (by have:=ai.room;exact l4 this) B0 aO.p B2 (f:=[o,r]) (λz Ch=>by
   cases Ch with
   |head=>exact B.r.is
   |tail St W=>cases W with
    |head=>exact Da.r.is
    |tail St W=>exact nomatch W) G (show 2<=3 by decide) (.cons B.r.bI (.cons Da.r.bI .nil)) (sj [j,q] [f,p]) _ λF Cl X C9 N ib=>?_
  have Z:=(N.cq.same L (dz S.2.2 (c_ _)) (.inr S.2.1)).trans (b5 (f:=[.list [C o,C r]]) (b5 (f:=[.list [f.bc,p.bc]]) (b5 (f:=[.list [aY.aa ⟨o,j,f⟩,aY.aa ⟨r,q,p⟩]]) (KM.bu (T.bu S.1 mp) mp))));have ib:bX Cl F t (h_ U t h [f.aP j,p.aP q]):=ib;rw[D]at ib;have ad:=rA Z (cS [f,p]) (oa [f,p]) kw.bc;rw[(B3:(c4 (cS [f,p]) (lo.map fP)).getD kw.bc=s.bc)]at ad;exact cF.of (B:=s) (cZ [.go,.go,.w (aY.aa ⟨o,j,f⟩) w,.w (aY.aa ⟨r,q,p⟩) Q,.go,.af8 ([aY.aa ⟨o,j,f⟩,aY.aa ⟨r,q,p⟩],[A (Q.length,.list [aY.aa ⟨o,j,f⟩,aY.aa ⟨r,q,p⟩])],Q++[.list [aY.aa ⟨o,j,f⟩,aY.aa ⟨r,q,p⟩]]),.go,.go,.aa (.ab [f.bc,p.bc]),.go,.af8 ([aY.aa ⟨o,j,f⟩,aY.aa ⟨r,q,p⟩],[A (Q.length,.list [aY.aa ⟨o,j,f⟩,aY.aa ⟨r,q,p⟩])],Q++[.list [aY.aa ⟨o,j,f⟩,aY.aa ⟨r,q,p⟩]]++[.list [f.bc,p.bc]]),.go,.go,.w (C F) X,.aa s.bc]
   (H A5<|H Pv<|H (gx u G)<|H (de u)<|H (de u)<|H (de u)<|H (gR (cc (Q++[.list [aY.aa ⟨o,j,f⟩,aY.aa ⟨r,q,p⟩]]) (.list [f.bc,p.bc])) G)<|H ld.m.an.a2<|H (gx x G)<|H (de x)<|H (de x)<|H (de x)<|H C9<|H (l9 Z .get rfl)<|H ad<|aj (.ab [C F,C t,s.bc]) X) (by kernel_rfl))
   (((((V.trans Y).trans K).trans ld).trans (dc.more ld.m (.list [C o,C r]))).trans N) (ap G) ib (B8.up N.le.a (fo i))
end
end
section
section
variable{b n f e k g:I}{i:E bA}{h:bp}{a m:N}{P:E aY}{o:E cK}{l:O}
def dc.bf(e:dc b n i 0 h a h ge)(f:dc b n i 4 h ge B D)(ok:fM B (g+1) T)(j:aX J gt kw a T.aa D):lR b n i g h a gt kw:=λk c=>c T B D (λk c=>c j ((e.trans f).up (b3 (g4 4))) ok)
def Ts(c:hY b n i g h (a++[.list [.int l]]) a.length e P)(F:ca b n i h a)(N:pc b n a.length k (a++[.list [.int l]]) o)(ok:∀T∈o,hZ i h T):lR b n i g h a 7 [.ref (b+1),.ref e,.ref k,.int l]:=by
 refine fs c.aey (a:=6) (ap G) _ λI s y=>y _ λW m x=>?_;clear y;have ai:=c.ed x;have t:=(dc.more F (.list [.int l])).trans (x.hq c.aeI c.aeo);revert I;refine@dk _ _ ?_ (dk ?_ (dk ?_ (dk ?_ (dk ?_ (jK ?_)))))
 .intro m;refine ND ai _ λf u j z=>z _ λp q r=>?_;clear z;exact t.bf q r (az [.w (C 0) s,.go,.w f.aa j] (H m<|H p<|aj f.aa j))
 .intro m;refine fs ai.aey (a:=2) (ap G) _ λL j B=>B _ λX w D=>?_;clear B;have E:=ai.ed D;have K:=t.trans (D.hq ai.aeI ai.aeo);revert L;refine@dk _ _ ?_ (jK ?_)
  .intro w;exact EQ E (f:=1) (.inl rfl) _ λf u v O=>O _ λp q r=>K.bf q r (az [.w (C 1) s,.go,.go,.w (C 0) j,.go,.w f.aa v] (H m<|H w<|H p<|aj f.aa v))
  .intro w;exact EQ E (f:=2) (.inr rfl) _ λf u v Q=>Q _ λp q r=>K.bf q r (az [.w (C 1) s,.go,.go,.w (C 1) j,.go,.w f.aa v] (H m<|H w<|H p<|aj f.aa v))
 .intro m;exact CL ai _ λf u j R=>R _ λp q r=>t.bf q r (az (.w (C 2) s::aT 4 [.w f.aa j]) (H m<|H p<|aj f.aa j))
 .intro m;exact CL ai _ λf u j S=>S _ λp q r=>t.bf q r (az (.w (C 3) s::aT 4 [.w f.aa j]) (H m<|H p<|aj f.aa j))
 .intro m;exact MV ai _ λf u j U=>U _ λp q r=>t.bf q r (az (.w (C 4) s::aT 3 [.w f.aa j]) (H m<|H p<|aj f.aa j))
 .intro m;exact NT ai (N.ed x c.aeo) ok _ λf u j V=>V _ λp q r=>t.bf q r (az (.w (C 5) s::aT 4 [.w f.aa j]) (H m<|H p<|aj f.aa j))
def kg(b e k c:I)(i:E bA)(o:E cK)(l:E L)(g:I)(h:bp)(P:E aY)(a:N)(m:Prop):Prop:=ca b a.length i h a->a[e]?=A (.list (P.map aY.aa))->b+17<=e->(∀p∈i,p.d0≠A e)->a[k]?=A (.list (o.map cK.aa))->(b+13<=k/\k≠e)->(∀f∈o,a[f.aef]?=A (.afM (f.aeh.map fP))/\b+13<=f.aef/\f.aef≠e)->o.length=4->a[c]?=A (.list l)->(b+13<=c/\c≠e)->o9 h g P->(∀j,j<5->∃q∈P,q.afO=j)->(∀f∈o,hZ i h f)->P.length=15+g->h.h.length<=20+4*g->h.a.length<=30+4*g->m
def ca.qc(e:ca b n i h a):ca b a.length i h a:=⟨e.an,e.v,e.s,bG e.aet e.l,c_ _,λc f g j=>dz (e.aev c f g j) e.l⟩
def dB(b:a[f]?=A p):f<a.length:=(d6.mp b).1
def eh.fl(b:a[f]?=A D):(∀e,e≠f->(bd a f B)[e]?=a[e]?)/\(bd a f B)[f]?=A B/\(bd a f B).length=a.length:=⟨λe c=>c5 (dA c),ex b,fJ⟩
def bn.fl(e:bn b h a)(i:b+13<=f):bn b h (bd a f B):=by
 have c (g:I) (j:g<13):(bd a f B)[b+g]?=a[b+g]?:=c5 (Wp i j);exact⟨⟨(c 0 (ap G)).trans e.afS,(c 1 (ap G)).trans e.c8⟩,(c 2 (ap G)).trans e.names,(c 3 (ap G)).trans e.a,(c 4 (ap G)).trans e.cl,(c 5 (ap G)).trans e.t,(c 6 (ap G)).trans e.cq,(c 7 (ap G)).trans e.aes,(c 8 (ap G)).trans e.args,(c 9 (ap G)).trans e.aex,(c 10 (ap G)).trans e.aeu,(c 11 (ap G)).trans e.aep,(c 12 (ap G)).trans e.aer,e.bI,e.aeF,e.afW,e.aen,e.aek⟩
def cA.fl(e:cA b i a)(c:b+17<=f)(k:∀B∈i,B.d0≠A f):cA b i (bd a f D):=
 ⟨(c5 (Wq c)).trans e.ael,(c5 (Wr c)).trans e.aem,(c5 (rW c)).trans e.aee,(c5 (yv c)).trans e.aej,λB h j l=>⟨(c5 λg:f=j=>k B h (l.trans (bj A g.symm))).trans (e.q B h j l).1,(e.q B h j l).2⟩,e.bare⟩
def ca.fl(e:ca b n i h a)(c:b+17<=f)(g:∀B∈i,B.d0≠A f):ca b n i h (bd a f D):=
 ⟨e.an.fl (fG c),e.v.fl c g,e.s,e.aet,bG e.l (b3 fJ.symm),e.aev⟩
noncomputable def uq:E c:=[bR (et bS (aV 7 [ao,bS,cI,cQ]))]
noncomputable def kr(b e k a c:I)(f g:j L):aK:=[M,A (.ref a),A (.ref (b+1)),A (.ref (b+14)),f,A (.ref c),A (.ref e),A (.ref k),g,M,M,M,M,M,M,M,M,M]
def kg.step(ad:aA (kg b e k kw i o le g h P a))(s:g<10):aA (gi (λB D m=>fy (bt J bx bP uq ((kr b e k T ge gt wp).set 8 (A (.int l))) a=A (.next,kr b e k T ge gt (A (.int l)),m)) (aA (kg b e k kw i o le (g+1) D (P++[B]) m)))):=by
 refine ad _ λv u w R x y q z dl C S U V E go ld=>?_;have F {p:aO} {f:I} (c:a[f]?=A p):=b5 (f:=[.list [.int l]]) c;have cM:=go;have W:=ld;refine Ts (⟨(v.more (.list [.int l])),(c0 (Au (bG cM (oK (qD 4 (e_ s)) 20)) 4) (ap G)),Wt s W,c_ _,F u,by rw[E];exact Fs s,⟨l,cc _ _⟩,ee (dB u),S,U,Wu s⟩:hY b a.length i g h (a++[.list [.int l]]) a.length e P) v (⟨F x,ee (dB x),λj n=>⟨F (q j n).1,(q j n).2.1,dB (q j n).1⟩,by rw[z];decide,by rw[z];decide⟩:pc b a.length a.length k (a++[.list [.int l]]) o) V _ λB D m X=>X _ λK r p=>?_;clear X;have Y {p:aO} {f:I} (c:a[f]?=A p) (L:b+13<=f):m[f]?=A p:=(r.cq.same f (dB c) (.inr L)).trans c;have Z:=Y u (by have:=w;exact fG this);have N {p:aO} {f:I} (c:a[f]?=A p) (L:b+13<=f) (lo:f≠e):(bd m e (.list (P.map aY.aa++[B.aa])))[f]?=A p:=(c5 (dA lo)).trans (Y c L);exactλof t=>t B D (bd m e (.list (P.map aY.aa++[B.aa]))) (λof t=>t (cG [.w B.aa m,.w .none (bd m e (.list (P.map aY.aa++[B.aa])))] (H (gw u)<|H K<|H (hi Z (by rw[bO,E];exact Fs s) B.aa)<|bM (kr b e k T ge gt (A (.int l))) (bd m e (.list (P.map aY.aa++[B.aa]))))) (λof t=>t (r.m.fl w R).qc (by rw[el];exact ex Z) w R (N x y.1 y.2) y (λj n=>⟨N (q j n).1 (q j n).2.1 (q j n).2.2,(q j n).2⟩) z (N dl C.1 C.2) C (λO Q=>by
  rcases cE.mp Q with c|c
  .exact(S O c).up r.le (fo g)
  .rw[b2.mp c];exact p) (λTT mp=>by obtain⟨O,Q,K⟩:=U TT mp;exact⟨O,ji _ Q,K⟩) (λj n=>(V j n).up r.le v.s) (by rw[bJ,E];rfl) (Wv cM r.le.aeE) (Ww W r.le.ae5)))
def kg.acj:∀(B:E O){g:I}{h:bp}{P:E aY}{a:N}(D:j L),aA (kg b e k wp i o A1 g h P a)->g+B.length<=10->aA (o4 (λT ge gt m=>fy (eP [A (wp,.list A1)] (.aa 8) (λA5 a=>bt J bx bP uq A5 a) (B.map .int) (kr b e k kw le mp D) a=A (.next,kr b e k kw le mp T,m)) (aA (kg b e k wp i o A1 (g+B.length) ge gt m)))):=by
 intro q
 induction q with
 |nil=>
  intro g h P a D f K;exactλK c=>c D h P a (λK c=>c (bH (de (f _ λK K K K K K K K n K K K K K K K=>n))) f)
 |cons l B r=>
  intro g h P a D f s;have p:g+(B.length+1)<=10:=s;refine as λK t=>kg.step f (T:=kw) (ge:=le) (gt:=mp) (wp:=D) (l:=l) (FW p) _ λC F H u=>u _ λv w=>r (A (.int l)) w (yF p) _ λT ge gt m x=>x _ λy z=>t (λK c=>c T ge gt m (λK c=>c ((bH (de (f _ λK K K K K K K K n K K K K K K K=>n))).trans ?_) (by rw[gY,kK B.length,<-kJ];exact z)));show ko (bt J bx bP uq ((kr b e k kw le mp D).set 8 (A (.int l))) a) _=_;rw[v];exact y
end
end
section
section
variable{f l:I}{e:E bA}{g:bp}{b i:N}{TD k h:I}
noncomputable def bp.e6(g:bp)(a1:L)(a:E I)(TD:I):bp:={g with p:=g.p++[(a,TD)],cl:=g.cl++[a1]}
noncomputable def lX(g:bp)(a1:L)(a:E I)(TD:I):E (I×aO):=[(4,.list (g.cl++[a1])),(5,.list ((g.p.map λh=>.ab (h.1.map C))++[.ab (a.map C)])),(6,.list ((g.p.map λh=>C h.2)++[C TD]))]
noncomputable def fO(f:I)(g:bp)(a1:L)(a:E I)(TD:I)(b:N)(c:I):N:=oh f ((lX g a1 a TD).take c) b
def Df(e:bn f g b)(a1:L)(m:a.length<=3)(n:g.p.length+1<400):aX J 14 [.ref (f+1),a1,.ab (a.map C),C TD] b (C g.p.length) (fO f g a1 a TD b 3):=by
 have c (h:I) (o:((lX g a1 a TD).take h).all (λp=>decide (2<=p.1))=J):Fl f (fO f g a1 a TD b h):=e.toFl.kF o;have i:=(cu (g:=(lX g a1 a TD).take 1) G).trans e.t;have j:=(cu (g:=(lX g a1 a TD).take 2) G).trans e.cq;have k:(g.cl++[a1]).length=g.p.length+1:=by rw[bJ,e.aek];rfl
 have l {q:Type} (c:E I×I->q):(g.p.map c).length<400:=by rw[bO];exact e.aen
 exact az [.aa (.ref (f+4)),.w .none (fO f g a1 a TD b 1),.aa (.ref (f+5)),.aa (.ab (a.map C)),.w .none (fO f g a1 a TD b 2),.aa (.ref (f+6)),.w .none (fO f g a1 a TD b 3),.aa (.ref (f+4)),.aa (C (g.p.length+1)),.aa (C g.p.length)]
  (H (e.br 6 rfl)<|H (gw e.cl)<|H (hi e.cl (by rw[e.aek];exact e.aen) a1)<|H ((c 1 rfl).br 7 rfl)<|H (gw i)<|H (bH (cD (by rw[bO];exact uR m)):eW (fO f g a1 a TD b 1) .tuple [.ab (a.map C)]=A (.ab (a.map C),fO f g a1 a TD b 1))<|H (hi i (l _) (.ab (a.map C)))<|H ((c 2 rfl).br 8 rfl)<|H (gw j)<|H (hi j (l _) (C TD))<|
   H ((c 3 rfl).br 6 rfl)<|H ((fb ((cu (g:=((lX g a1 a TD).take 3).drop 1) G).trans (ex e.cl):(fO f g a1 a TD b 3)[f+4]?=A (.list (g.cl++[a1]))) (by rw[k];exact n)).trans (by rw[k]))<|H (vs _ (gg _):c2 (fO f g a1 a TD b 3) .sub (C (g.p.length+1)) (.int 1)=A (C g.p.length,fO f g a1 a TD b 3))<|aj (C g.p.length) (fO f g a1 a TD b 3)) (by kernel_rfl)
theorem De(e:bn f g b)(a1:L)(c:g.p.length+1<400):bn f (g.e6 a1 m TD) (fO f g a1 m TD b 3)where
 toFl:=e.toFl.kF G
 names:=(cu G).trans e.names
 a:=(cu G).trans e.a
 cl:=(cu (g:=(lX g a1 m TD).drop 1) G).trans (ex e.cl)
 t:=by
  show _=A (aO.list ((g.p++[(m,TD)]).map λh=>.ab (h.1.map C)));exact el.symm▸((cu (g:=(lX g a1 m TD).drop 2) G).trans (ex ((cu (g:=(lX g a1 m TD).take 1) G).trans e.t)))
 cq:=by
  show _=A (aO.list ((g.p++[(m,TD)]).map λh=>C h.2));exact el.symm▸(ex ((cu (g:=(lX g a1 m TD).take 2) G).trans e.cq))
 aes:=(cu G).trans e.aes
 args:=(cu G).trans e.args
 aex:=(cu G).trans e.aex
 aeu:=(cu G).trans e.aeu
 aep:=(cu G).trans e.aep
 aer:=(cu G).trans e.aer
 bI:=e.bI
 aeF:=e.aeF
 afW:=e.afW
 aen:=by show(g.p++[(m,TD)]).length<400;rw[bJ];exact c
 aek:=by show(g.cl++[a1]).length=(g.p++[(m,TD)]).length;rw[bJ,bJ,e.aek];rfl
def dL.e6(a:dL f e g)(a1:L)(b:E I):dL f e (g.e6 a1 b TD):=
 ⟨a.pos,λc h i j=>(a.row c h i j).up (b_ _) (b_ _) ⟨_,G⟩,a.aeV,a.ae6,a.aeU,a.ae0⟩
def bs.kE(a:bs f e B k D T)(h:e<+:ge):bs f ge B k D T:=λc b g i j l=>a c b g i j (h.trans l)
def dL.kE(a:dL f e g)(b:e<+:B):dL f B g:=
 ⟨a.pos,λc h i j=>by
  refine as λw l=>?_;obtain⟨m,n,o,p,⟨k,q,r,s,t⟩,u,v⟩:=a.row c h i j;refine l ?_;exact⟨m,n,o,p,⟨k,q,r,s,t.kE b⟩,u,v⟩,a.aeV,a.ae6,a.aeU,a.ae0⟩
def jS(b:bA->j L):∀(e:E bA)(a:I)(m:bA),dX b a (e++[m])=dX b a e++(match b m with|some o=>[(((a+e.length:I):O),o)]|none=>[]):=by
 intro f
 induction f with
 |nil=>
  intro a m;show(match b m with|some o=>[((a:O),o)]|none=>[])++[]=[]++_;rw[gX,Jd];rfl
 |cons h c g=>
  intro a m;show _++dX b (a+1) (c++[m])=(_++dX b (a+1) c)++_;rw[g (a+1) m,mo,gY,kJ,kK 1]
noncomputable def DG:bA:=⟨M,[],M⟩
theorem cA.e6(g:cA f e b):cA f (e++[DG]) b where
 ael:=g.ael
 aem:=g.aem
 aee:=by rw[jS];exact(gX _).symm▸g.aee
 aej:=by rw[jS];exact(gX _).symm▸g.aej
 q h a i c:=by
  rcases cE.mp a with a|a
  .exact g.q h a i c
  .replace c:=(b2.mp a)▸c;exact nomatch c
 bare h a c:=by
  rcases cE.mp a with a|a
  .exact g.bare h a c
  .refine(b2.mp a).symm▸?_;rfl
noncomputable def jR(f:I)(e:E bA)(b:N)(a:E L)(c:L):N:=bd (bd (b++[.afM []]) (f+15) (.afP (dX f5 0 e++[((e.length:O),.ref b.length)]))) b.length (.afM [(a,c)])
def vf{a:I}{f:E (O×L)}(h:b[a]?=A (.afP f))(c:I)(i:f.length<400)(e:L):hJ b (.ref a) .af5 [C c,e]=h6 (dx c f) b e (bd b a (.afP (h8 c e f))):=by
 show(jE b a).bind (λg=>a4 (bV g.length) (h6 (dx c g) b e (bd b a (.afP (h8 c e g)))))=_;rw[t0 h,cJ,bH (cD i)]
def vg{c:I}{f:E (E L×L)}(h:b[c]?=A (.afM f))(a:E L)(i:dH a=J)(j:f.length<400)(e:L):hJ b (.ref c) .af5 [.ab a,e]=h6 (c4 a f) b e (bd b c (.afM (i7 a e f))):=by
 show(fB b c).bind (λg=>a4 (dH a&&bV g.length) (h6 (c4 a g) b e (bd b c (.afM (i7 a e g)))))=_;rw[mU h,cJ,bH (by rw[i,cD j];rfl)]
def yf(b:N)(TD:I)(a:bD):bY b .af1 (a.aP TD) (a.aP TD)=A d:=by
 have c:a4 (bk 8 (a.aP TD)&&bk 8 (a.aP TD)) (A (!a_ (a.aP TD) (a.aP TD)))=A d:=by rw[bH (by rw[lp];rfl),mW];rfl
 cases a<;>exact c
def sa(b:bA->j L):∀(e:E bA)(a:I),(dX b a e).length<=e.length:=by
 intro h
 induction h with
 |nil=>
  intro l;exact c_ _
 |cons c i k=>
  intro a;have f:=k (a+1);show((match b c with|some g=>[((a:O),g)]|none=>[])++dX b (a+1) i).length<=_;cases b c with
  |none=>exact wa f
  |some g=>exact hw f
def x7(a:bA->j L):dx (e.length:I) (dX a 0 e)=M:=by
 have b:=Ei a e 0 e.length;rw[g4,qs (c_ _)]at b;exact b
def Gw(h:cA f e b)(t:e.length<400)(u:dH m=J)(TD:I)(a:bD)(j:f+17<=b.length):aX J 17 [.ref (f+14),C e.length,.ab m,a.aP TD] b .none (jR f e b m (a.aP TD))/\cA f (e++[⟨A b.length,[(m,a.aP TD)],M⟩]) (jR f e b m (a.aP TD)):=by
 have q:=h.c7 [.afM []];have k:=vf q.aee e.length (c0 (sa _ _ _) t) (.ref b.length);rw[x7]at k;have v:h8 (e.length:I) (.ref b.length) (dX f5 0 e)=dX f5 0 e++[((e.length:O),.ref b.length)]:=by
  unfold h8;rw[x7];rfl
 rw[v]at k;have l:(bd (b++[aO.afM []]) (f+15) (.afP (dX f5 0 e++[((e.length:O),.ref b.length)])))[b.length]?=A (.afM []):=(c5 (uP j)).trans (cc b _);have i (n:I) {r:aO} (c:b[n]?=A r) (o:n≠f+15):(jR f e b m (a.aP TD))[n]?=A r:=((c5 (by have:=dB c;exact uS this)).trans (c5 (dA o))).trans (b5 c);refine⟨az [.aa (.ref (f+15)),.w (.ref b.length) (bd (b++[aO.afM []]) (f+15) (.afP (dX f5 0 e++[((e.length:O),.ref b.length)]))),.w (a.aP TD) (jR f e b m (a.aP TD)),.b d]
  (H (h.br 2 rfl)<|H (oi h.aee .af5 rfl)<|H k<|H (l9 l .af5 rfl)<|H (vg l m u (by show 0<400;decide) (a.aP TD))<|H (yf (jR f e b m (a.aP TD)) TD a)<|aj .none (jR f e b m (a.aP TD))) (by kernel_rfl),i _ h.ael (λg=>bC (qz g) (g0 G)),i _ h.aem (AA _),?_,?_,λp c w g=>?_,λp c g=>?_⟩
 .rw[jS];have x:(jR f e b m (a.aP TD))[f+15]?=A (.afP (dX f5 0 e++[((e.length:O),.ref b.length)])):=(c5 (rW j)).trans (ex q.aee);rw[x,g4];rfl
 .rw[jS];exact(gX _).symm▸i _ h.aej (dA (AA _))
 .rcases cE.mp c with c|c
  .obtain⟨o,s⟩:=h.q p c w g;exact⟨i _ o (rW s),s⟩
  .rw[b2.mp c]at g⊢;obtain rfl:=aG g;exact⟨(ex l:(jR f e b m (a.aP TD))[b.length]?=A (.afM [(m,a.aP TD)])),j⟩
 .rcases cE.mp c with c|c
  .exact h.bare p c g
  .rw[b2.mp c]at g;exact nomatch g
noncomputable def om(b:N)(h:I)(a:E (E L×L))(c:E L)(e:L):N:=bd (b++[.afM []]) h (.afM (a++[(c,e)]))
def Zj(i:cA f (e++[⟨A h,m,M⟩]) b)(w:e.length+1<400)(x:dH o=J)(TD:I)(g:bD)(y:c4 o m=M)(z:m.length<400)(B:∀p∈e,p.d0≠A h):aX J 17 [.ref (f+14),C e.length,.ab o,g.aP TD] b .none (om b h m o (g.aP TD))/\cA f (e++[⟨A h,m++[(o,g.aP TD)],M⟩]) (om b h m o (g.aP TD)):=by
 have r:=i.c7 [.afM []];have s:=vf r.aee e.length (c0 (sa _ _ _) (by rw[bJ];exact w)) (.ref b.length);rw[rK f5 (kI:(e++[(⟨A h,m,M⟩:bA)])[e.length]?=A ⟨A h,m,M⟩)]at s;obtain⟨j,k⟩:=r.q _ (jj _ (.head _)) h G;have t:=vg j o x z (g.aP TD);have u:c4 o (bA.q ⟨A h,m,M⟩)=M:=y;rw[u,yP u]at t;have l (q:I) {v:aO} (a:b[q]?=A v) (j:q≠h):(om b h m o (g.aP TD))[q]?=A v:=(c5 (dA j)).trans (b5 a);refine⟨az [.aa (.ref (f+15)),.w (.ref h) (b++[.afM []]),.w (g.aP TD) (om b h m o (g.aP TD)),.b d]
  (H (i.br 2 rfl)<|H (oi i.aee .af5 rfl)<|H s<|H (l9 j .af5 rfl)<|H t<|H (yf (om b h m o (g.aP TD)) TD g)<|aj .none (om b h m o (g.aP TD))) (by kernel_rfl),l _ i.ael (Fj k),l _ i.aem (Fk k),?_,?_,λp a D c=>?_,λp a c=>?_⟩
 .have n:=l _ i.aee (uP k);rw[jS]at n⊢;exact n
 .have n:=l _ i.aej (ys k);rw[jS]at n⊢;exact n
 .rcases cE.mp a with a|a
  .obtain⟨E,F⟩:=i.q p (ji _ a) D c;exact⟨l _ E λK=>B p a (by rw[c,K]),F⟩
  .rw[b2.mp a]at c⊢;obtain rfl:=aG c;exact⟨ex j,k⟩
 .rcases cE.mp a with a|a
  .exact i.bare p (ji _ a) c
  .rw[b2.mp a]at c;exact nomatch c
def Zl(h:cA f (e++[⟨m,o,M⟩]) b)(s:e.length+1<400)(g:L):∃i,aX J 20 [.ref (f+14),C e.length,g] b .none i/\cA f (e++[⟨m,o,A g⟩]) i/\i=bd b (f+16) (.afP (dX bA.x 0 (e++[⟨m,o,A g⟩]))):=by
 have t:dX bA.x 0 (e++[⟨m,o,M⟩])=dX bA.x 0 e:=by rw[jS];exact gX _
 have n:=h.aej;rw[t]at n;have bq:=ve n e.length (c0 (sa _ _ _) (ms s)) g (x7 _);have j:dX bA.x 0 (e++[⟨m,o,A g⟩])=dX bA.x 0 e++[((e.length:O),g)]:=by rw[jS,g4]
 rw[<-j]at bq;have k (p:I) {r:aO} (a:b[p]?=A r) (u:p≠f+16):(bd b (f+16) (.afP (dX bA.x 0 (e++[⟨m,o,A g⟩]))))[p]?=A r:=(c5 (dA u)).trans a;refine⟨_,az [.aa (.ref (f+16)),.afO (bd b (f+16) (.afP (dX bA.x 0 (e++[⟨m,o,A g⟩]))))] (H (h.br 3 rfl)<|H bq<|aj .none (bd b (f+16) (.afP (dX bA.x 0 (e++[⟨m,o,A g⟩]))))),⟨k _ h.ael (λc=>bC (qz c) (g0 G)),k _ h.aem (λc=>bC (qz c) (g0 G)),?_,ex n,λj a m c=>?_,λj a c=>?_⟩,G⟩
 .have v:=k _ h.aee (AA _);have w:dX f5 0 (e++[⟨m,o,A g⟩])=dX f5 0 (e++[⟨m,o,M⟩]):=by rw[jS,jS];rfl
  exact w.symm▸v
 .rcases cE.mp a with a|a
  .obtain⟨q,l⟩:=h.q j (ji _ a) m c;exact⟨k _ q (yv l),l⟩
  .rw[b2.mp a]at c⊢;obtain⟨q,l⟩:=h.q ⟨_,o,M⟩ (jj _ (.head _)) _ c;exact⟨k _ q (yv l),l⟩
 .rcases cE.mp a with a|a
  .exact h.bare j (ji _ a) c
  .rw[b2.mp a]at c⊢;exact h.bare ⟨_,o,M⟩ (jj _ (.head _)) c
end
end
section
structure eF(b c g:I)(e f:N):Prop where
 le:e.length<=f.length
 same:∀a,a<g->(a<b\/b+17<=a)->a≠c->f[a]?=e[a]?
section
variable{b p h k n:I}{Ty:E bA}{l:bp}{P:E aY}{e m q:N}{g o r:I}
def eF.trans(a:eF b h n e m)(f:eF b h n m q):eF b h n e q:=⟨bG a.le f.le,λc g i j=>(f.same c g i j).trans (a.same c g i j)⟩
def eF.ne(a:fA b (b+13) e m)(c:n<=e.length):eF b h n e m:=⟨a.le,λf g i j=>a.same f (dz g c) (Ft i ‹_›)⟩
def eF.ed(a:eh h e m)(c:n<=e.length):eF b h n e m:=⟨a.le,λf g j i=>a.same f (dz g c) i⟩
def eF.hq(a:dc b p Ty B l e D m)(c:n<=p):eF b h n e m:=⟨a.cq.le,λf g i j=>a.cq.same f (dz g c) (Ft i ‹_›)⟩
def eF.c7(a:N)(c:n<=e.length):eF b h n e (e++a):=⟨by rw[bJ];exact d8 _ _,λg f i i=>eK (dz f c)⟩
def eF.fl(a:b<=B/\(B<b+17\/n<=B)):eF b h n e (bd e B D):=⟨b3 fJ.symm,λg c f i=>c5 (Wy f c ‹_› a)⟩
def eF.row(a:n<=e.length)(c:b<=e.length):eF b h n e (jR b Ty e B D):=((eF.c7 _ a).trans (.fl ⟨(d8 _ 15),.inl (sP (ap G) _)⟩)).trans (.fl ⟨c,.inr a⟩)
def eF.bu(a:eF b h n e m)(c:e[B]?=A D)(f:B<n)(g:b+17<=B)(i:B≠h):m[B]?=A D:=(a.same B f (.inr g) i).trans c
def eF.lu(f:eF b h n e m)(c:b<=n)(g:b<=h):∀B,B<b->m[B]?=e[B]?:=λB a=>f.same B (yw a c) (.inl a) (yu a g)
def ca.of(c:bn b l e)(a:cA b Ty e)(f:dL b Ty l)(g:b+17<=e.length):ca b e.length Ty l e:=⟨c,a,f,g,c_ _,λh i j k=>dB (a.q h i j k).1⟩
def fr.ne(f:fr h e)(g:fA b (b+13) e m)(c:b+13<=h):fr h m:=f.imp λi a=>(g.same h (dB a) (.inr c)).trans a
def cA.ne(a:cA b Ty e)(f:fA b (b+13) e m):cA b Ty m:=
 ⟨(f.same _ (dB a.ael) (.inr E4)).trans a.ael,(f.same _ (dB a.aem) (.inr E6)).trans a.aem,(f.same _ (dB a.aee) (.inr uM)).trans a.aee,(f.same _ (dB a.aej) (.inr yo)).trans a.aej,λc g h i=>⟨(f.same _ (dB (a.q c g h i).1) (.inr (by have:=(a.q c g h i).2;exact fG this))).trans (a.q c g h i).1,(a.q c g h i).2⟩,a.bare⟩
def kc(b h k:I)(Ty:E bA)(l:bp)(P:E aY)(e:N)(c:Prop):Prop:=ca b e.length Ty l e->fr h e->b+17<=h->(∀a∈Ty,a.d0≠A h)->e[k]?=A (.list (P.map aY.aa))->b+17<=k->k≠h->(∀a∈Ty,a.d0≠A k)->l.p.length=Ty.length->o9 l 0 P->P.length=Ty.length->l.h.length<=4+Ty.length->l.a.length<=5+Ty.length->c
noncomputable def uD(a:eg)(b:I):L:=.str (bi a++toString (b:O))
def Ez(c:a<20)(b:eg)(f:ma (bi b)=J)(e:N):∃i,eW e .str [C a]=A (.str i,e)/\c2 e .add (.str (bi b)) (.str i)=A (uD b a,e):=by
 have g:((e9 20).all λa=>ma (toString (a:O)))=J:=by kernel_rfl
 refine⟨toString (a:O),?_,?_⟩
 .show a4 (i9 a) _=_;exact bH (GH (dz (by omega:(a:O).natAbs<2^5) (hQ (ap G) (ap G))))
 .show((a4 (ma _&&ma _) (A (L.str (bi b++toString (a:O))))).map λh=>(h,e))=_;rw[bH (by rw[f,(di.mp g a (ht.mpr c))];rfl)];rfl
noncomputable def iX(b h k:I)(g:j L)(a c e:j L):aK:=[A (.ref (b+1)),A (.ref (b+14)),A (.ab [C 0,C 1,C 2,C 3,C 4]),A (.ref h),A (.ref k),g,a,c,e]
noncomputable def tV:E c:=[bl 7 (aN Y 14 [dd (aL "c") (vD (dm bv)),aU [],bN]),bl 8 (.ite (f6 bS ct) (aV 15 [Y,bN,aS]) (aV 16 [Y,bN])),a9 (f6 bS ct) [bR (gU ac 17 [cI,aU [],aV 8 [Y,bN,cQ]])],bR (et bv (aU [aN Y 18 [cI,aU []],bN,cQ]))]
def kc.c7(X:aA (kc b h k Ty l P e))(E:Ty.length<15){a1:L}{m:N}{f:bA}(p:eF b h e.length e m)(Z:bn b (l.e6 a1 [] g) m)(ad:cA b (Ty++[f]) m)(dl:fr h m)(go:l.a[g]?=A o){i:bD}(kw:dq l.a 0 g i)(ld:h_ f g o []=i.aP g)(le:∀gt,f.d0=A gt->e.length<=gt):
 aA (gi (λB ge T=>aA (LA (aX J 18 [.ref (b+1),C Ty.length,.ab []] m (C B) T) (kz m (.ref k) .append=J) (hJ T (.ref k) .append [aY.aa (.mk B g i)]=A (.none,bd T k (.list ((P++[aY.mk B g i]).map aY.aa)))) (l.a<+:ge.a) (aA (kc b h k (Ty++[f]) ge (P++[aY.mk B g i]) (bd T k (.list ((P++[aY.mk B g i]).map aY.aa))))) (∀D,D<b->(bd T k (.list ((P++[aY.mk B g i]).map aY.aa)))[D]?=e[D]?)))):=by
 refine X _ λlo mp v of F j w H K st O wp A1=>?_;have n:=dB F;have Q:h<e.length:=by obtain⟨R,c⟩:=mp;exact dB c
 have S:=p.bu F n j w;have cM:=wp;refine Cm (ca.of Z ad ((lo.s.e6 a1 []).kE ⟨_,G⟩:dL b (Ty++[f]) (l.e6 a1 [] g)) (by have:=p.le;have:=j;exact pP this n ‹_›)) (by show l.h.length+1<400;exact Wz E cM) (l:=[]) (m:=[]) (q:=[]) (kI:(Ty++[f])[Ty.length]?=A f) ((by rw[<-K];exact kI):(l.e6 a1 [] g).p[Ty.length]?=A ([],g)) go (λq x=>by cases x) G (fY 3) .nil rfl (c:=.ab []) (r:=[A (m.length,.afT)]) G rfl (de (cc m .afT)) G _ λB ge T A5 a U=>?_;rw[ld]at U;have V:=(a.cq.same k (dz n p.le) (.inr (by have:=j;exact fG this))).trans S;have W:=hi V (by rw[bO,O];exact yx E) (aY.aa (.mk B g i));rw[((by rw[el];rfl):P.map aY.aa++[aY.aa (.mk B g i)]=(P++[aY.mk B g i]).map aY.aa)]at W;have y {D:I} (c:∀f∈Ty,f.d0≠A D) (r:D<e.length):∀z∈Ty++[f],z.d0≠A D:=λz s a=>by
  rcases cE.mp s with s|s
  .exact c z s a
  .rw[b2.mp s]at a;exact bC (le D a) (sU.mpr r)
 have u:(Ty++[f]).length=Ty.length+1:=bJ;have B0:=a.le.aeE;have B2:=a.le.ae5;refineλB8 t=>t B ge T (λB8 t=>t A5 (gw S) W a.le.a (λB8 t=>t (a.m.fl j (y H n)).qc ?_ v (y of Q) (ex V) j w (y H n) ?_ (λq x=>?_) (by rw[bJ,u,O];rfl) (WA u cM (B0:ge.h.length<=l.h.length+1)) (WB u A1 (B2:ge.a.length<=l.a.length+1))) λD r=>(c5 (by have:=j;exact Fv this r)).trans ((a.cq.same D (by have:=p.le;have:=j;exact WC this n ‹_› r) (.inl r)).trans (p.lu (by have:=j;exact Fw this n) (by have:=v;exact uT this) D r)))
 .obtain⟨R,c⟩:=dl;exact⟨R,(c5 w).trans ((a.cq.same h (dz Q p.le) (.inr (by have:=v;exact fG this))).trans c)⟩
 .rw[a.le.p,u];show(l.p++[([],g)]).length=_;rw[bJ,K];rfl
 .rcases cE.mp x with c|c
  .obtain⟨Y,B3⟩:=st q c;exact⟨(⟨Y.aew,Y.row⟩:bX (l.e6 a1 [] g) q.afQ q.afO (q.o.aP q.afO)).up a.le,B3.up a.le.a (c_ 0)⟩
  .rw[b2.mp c];exact⟨U,kw.up a.le.a (c_ 0)⟩
def OE(F:aA (kc b h k Ty l P e))(p:Ty.length<15)(r:l.a[g]?=A o)(KB:s<3)(B0 B2:j L):aA (q2 (λB3 i a t m B8 C9=>fL (bt J bx bP tV (iX b h k (A (C g)) (A (C s)) B0 B2) e=A (.next,iX b h k (A (C g)) (A (C s)) B8 C9,m)) (l.a<+:t.a) (aA (kc b h k (Ty++[B3]) t (P++[aY.mk i g a]) m)) (∀T,T<b->m[T]?=e[T]?))):=by
 refine F _ λf Ch u Cl go Da KK KK gt KK kw KK KK=>?_;have ld:l.p.length+1<400:=by rw[gt];exact(gC (JT p) (ap G))
 refine as λKK v=>?_;obtain⟨le,lo,I⟩:=Ez (a:=P.length) (by rw[kw];exact WD p) "c" (by kernel_rfl) e;refine v ?_;generalize uD "c" P.length=a1 at I;have K:=Df (TD:=g) f.an a1 (a:=[]) (fY 3) ld;rw[gt]at K;have w:=De (TD:=g) f.an a1 (m:=[]) ld;have N:fA b (b+13) e (fO b l a1 [] g e 3):=fA.kF G;have mp:=f.v.ne N;have of:=Ch.ne N (by have:=u;exact fG this);have O:=f.s.e6 (TD:=g) a1 [];have Q:eF b h e.length e (fO b l a1 [] g e 3):=.ne N (c_ _);have R:=fb go (by rw[bO,kw];exact yx p);rw[bO]at R;have S:=Da;have U:=dB go;by_cases st:s<2
 .refine as λKK v=>vm w O of (by have:=u;exact fG this) r _ λa x wp=>wp _ λV B D=>?_;clear wp;have A1:=w.ed B (by have:=u;exact fG this);have ew:=mp.ed B u Cl;have q:=Q.trans (.ed B Q.le);obtain⟨D5,Fr⟩:=Gw ew (yx p) (m:=[]) G g a (by have:=q.le;exact pP S U this);have A5:bn b (l.e6 a1 [] g) (jR b Ty x [] (a.aP g)):=((A1.c7 [.afM []]).fl uM).fl (by have:=q.le;exact WE S U this);refine kc.c7 F p (g:=g) (o:=o) (q.trans (.row (Ty:=Ty) (B:=[]) (D:=a.aP g) q.le (by have:=q.le;exact(bG (e_ (c0 (bG (d8 _ 17) S) U)) this)))) A5 Fr (B.aeg.imp λKF E=>(c5 (by have:=dB E;exact uS this)).trans ((c5 (by have:=u;exact uP this)).trans (b5 E)):fr h (jR b Ty x [] (a.aP g))) r D (by kernel_rfl) (λFB W=>by obtain rfl:=aG W;exact q.le) _ λi t c GM=>GM _ λX Y Z ad dl ge=>v ?_;have y:∀z,bY z .lt (C s) (.int 2)=A J:=λz=>bj A (cg (eU.mpr st));exactλKK n=>n _ i a t _ (A (C Ty.length)) (A a.bc) (λKK n=>n (cG [.aa (C P.length),.aa (.str le),.aa a1,.w (C Ty.length) (fO b l a1 [] g e 3),.b J,.w a.bc x,.b J,.aa (a.aP g),.w .none (jR b Ty x [] (a.aP g)),.w (C i) c,.w .none (bd c k (.list ((P++[aY.mk i g a]).map aY.aa)))]
   (H f.an.a2<|H R<|H lo<|H I<|H K<|H (y (fO b l a1 [] g e 3))<|H V<|H (y x)<|H ew.a2<|H (oq A1 O D)<|H D5<|H Y<|H A5.a2<|H X<|H Z<|bM (iX b h k (A (C g)) (A (C s)) (A (C Ty.length)) (A a.bc)) (bd c k (.list ((P++[aY.mk i g a]).map aY.aa)))) (by kernel_rfl)) ad dl ge)
 .have V:=En w O r;refine as λKK v=>?_;obtain⟨D,Id⟩:=Gh (m:=0) f.s r;refine kc.c7 F p (g:=g) (o:=o) Q w mp.e6 of r D Id.symm (λFB W=>by exact nomatch W) _ λi t c IO=>IO _ λX Y Z ad dl ge=>v ?_;have y:∀z,bY z .lt (C s) (.int 2)=A d:=λz=>bj A (dU λE=>st (eU.mp E));exactλKK n=>n _ i (fQ g o) t _ (A (C Ty.length)) (A (fQ g o).bc) (λKK n=>n (cG [.aa (C P.length),.aa (.str le),.aa a1,.w (C Ty.length) (fO b l a1 [] g e 3),.b d,.aa (fQ g o).bc,.b d,.w (C i) c,.w .none (bd c k (.list ((P++[aY.mk i g (fQ g o)]).map aY.aa)))]
   (H f.an.a2<|H R<|H lo<|H I<|H K<|H (y (fO b l a1 [] g e 3))<|H V<|H (y (fO b l a1 [] g e 3))<|H Y<|H w.a2<|H X<|H Z<|bM (iX b h k (A (C g)) (A (C s)) (A (C Ty.length)) (A (fQ g o).bc)) (bd c k (.list ((P++[aY.mk i g (fQ g o)]).map aY.aa)))) (by kernel_rfl)) ad dl ge)
structure q0(b h k:I)(iQ:bp)(c g:I)(Ty:E bA)(l:bp)(P:E aY)(e:N):Prop where
 aeq:aA (kc b h k Ty l P e)
 aft:Ty.length=c
 a:iQ.a<+:l.a
 has:∀i,i<g->∃s∈P,s.afO=i
def OF{iQ:bp}{g o:I}(Y:g<5)(Z:iQ.a[g]?=A o)(z:q0 b h k iQ (3*g) g Ty l P e)(p f n:j L):aA (q2 (λt u s m x v w=>e1 (bt J bx bP [.for (.aa 6) .range [(.lit (.int 3))] tV] (iX b h k (A (C g)) p f n) e=A (.next,iX b h k (A (C g)) x v w,m)) (q0 b h k iQ (3*(g+1)) (g+1) t u s m) (∀i,i<b->m[i]?=e[i]?))):=by
 obtain⟨lo,m,B,S⟩:=pA (j:=6) (k:=3) (n:=λD e=>bt J bx bP tV D e)
  (e:=λF D N=>aA (mB (λt u s p f n=>aA (BO (D=iX b h k (A (C g)) p f n) (t.length=3*g+F) (iQ.a<+:u.a) (aA (kc b h k t u s N)) (∀q,q<g->∃r∈s,r.afO=q) (0<F->∃r∈s,r.afO=g) (∀i,i<b->N[i]?=e[i]?))))) (λF D N T y=>by
   refine y _ λt u s p f n U=>?_;clear y;refine U _ λad E K O Q V R=>?_;clear U;subst ad;refine OE O (WF T Y E) (d4 K Z) T f n _ λB mp of dl st v w W=>W _ λge go gt kw=>?_;clear W;exactλwp a=>a _ _ _ (λwp a=>a ge G (λwp a=>a _ dl _ _ v w (λwp a=>a G (by rw[bJ,E];rfl) (K.trans go) gt (λq c=>by obtain⟨r,ld,B⟩:=Q q c;exact⟨r,ji _ ld,B⟩) (λwp=>⟨_,jj _ (.head _),G⟩) λi y=>(kw i y).trans (R i y)))))
  3 0 (iX b h k (A (C g)) p f n) e G (λwp a=>a Ty l P p f n (λwp a=>a G z.aft z.a z.aeq z.has (λc=>bC c nofun) λwp wp=>rfl));refine S _ λt u s x v w X=>?_;clear S;refine X _ λle E K O Q V R=>?_;clear X;subst le
 refineλwp a=>a t u s m x v w (λwp a=>a (cG [.af2 .next (iX b h k (A (C g)) x v w) m] (H (i_ (p0 e (b:=3) (ap G)) B)<|bM (iX b h k (A (C g)) x v w) m)) ⟨O,E,K,λq c=>?_⟩ R);rcases I.lt_or_eq_of_le (nu c)with c|c
 .exact Q q c
 .rw[c];exact V (ap G)
def OG(D:aA (kc b h e.length [] l [] (e++[.list []])))(E:∀g,g<5->∃o,l.a[g]?=A o):aA (o4 (λTy s P m=>e1 (aX J 5 [.ref (b+1),.ref (b+14),.ab [C 0,C 1,C 2,C 3,C 4],.ref h] e (.ref e.length) m) (q0 b h e.length l 15 5 Ty s P m) (∀i,i<b->m[i]?=(e++[aO.list []])[i]?))):=by
 obtain⟨go,m,F,w⟩:=pA (j:=5) (k:=5) (n:=λj e=>bt J bx bP [.for (.aa 6) .range [(.lit (.int 3))] tV] j e)
  (e:=λg j p=>aA (q2 (λk s n f q r t=>e1 (j=iX b h e.length f q r t) (q0 b h e.length l (3*g) g k s n p) (∀i,i<b->p[i]?=(e++[aO.list []])[i]?)))) (λg j p x c=>by
   refine as λkw I=>c _ λk s n f q r t y=>?_;clear c;refine y _ λK u v=>?_;clear y;subst K;obtain⟨o,L⟩:=E g x;refine OF x L u q r t _ λN O Q gt R S T z=>z _ λU V W=>?_;clear z;exact I (λkw a=>a _ _ _ (λkw a=>a U G (λkw a=>a N O Q _ R S T (λkw a=>a G V λi c=>(W i c).trans (v i c))))))
  5 0 (iX b h e.length M M M M) (e++[.list []]) G (λkw a=>a [] l [] M M M M (λkw a=>a G ⟨D,G,b_ _,λg X=>bC X (JJ g)⟩ λkw kw=>rfl));refine w _ λk s n Y Z ad dl B=>?_;clear w;refine B _ λge u v=>?_;clear B;subst ge
 exactλkw a=>a k s n m (λkw a=>a (az [.af2 .next (iX b h e.length Y Z ad dl) m] (H (i_ (p:=ga 0 5) (q:=[]) (by rfl:eb (e++[.list []]) .val [.ab [C 0,C 1,C 2,C 3,C 4]]=A (ga 0 5,[],e++[.list []])) F)<|aj (.ref e.length) m)) u v)
end
end
section
section
variable{b:ah}{e a:aK}{c g h:N}
def rx(a:E a7)(f:P)(h:P=db b bx bP o_ e i c a λm l n=>nK o g m l:=by kernel_rfl):aR b bx bP e i c=A (o,g):=by
 refine il on i e (h▸f) _ λi l n j k=>?_;cases k;exact j
def pr{k:E dp}{l:dw}{j:X}{m n:L}{o f:E L}(p:d_ c k=J)(q:it e l m=A a)(r:aR b bx bP a j c=A (n,g))(s:e2 k l e (λa i=>dQ (aR b bx bP a (.lit (.bool J)) i)) (λa i=>aR b bx bP a j i) o g=A (f,h)):e2 k l e (λa i=>dQ (aR b bx bP a (.lit (.bool J)) i)) (λa i=>aR b bx bP a j i) (m::o) c=A (n::f,h):=by
 refine(bH p).trans ?_;rw[q,cJ];show a3 (dQ (aR b bx bP a (.lit (.bool J)) c)) _=_;rw[(jc G rfl:dQ (aR b bx bP a (.lit (.bool J)) c)=A (J,c)),fe];show a3 (aR b bx bP a j c) _=_;rw[r,fe,s,fe]
def pZ(b:eb c l m=A (o,p,g))(a:e2 p q e r s o g=A i):((eb c l m).bind λi=>e2 i.2.1 q e r s i.1 i.2.2)=A i:=by
 rw[b];exact a
end
section
variable{e F h a o k:I}{g:E bA}{l:bp}{b m:N}{n i v:I}
noncomputable def gQ(e h a o:I)(b c f g i k l m n p q:j L):aK:=[A (.ref (e+1)),A (.ref (e+14)),A (.ab [C 0,C 1,C 2,C 3,C 4]),A (.ref h),A (C 0),A (C 1),A (C 2),A (C 3),A (C 4),A (.ref a),A (.ref o),b,c,f,g,i,k,l,m,n,p,q]
variable{x y z B p D w u r s t:j L}
def ZB(O:dL e g l)(k:e+13<=h):∀(T:E I){b:N},bn e l b->fr h b->(∀n∈T,∃v,l.a[n]?=A v)->aA (kW (λf m=>e1 (e2 [] (.aa 19) (gQ e h a o x y z B p D w u r s t) (λge q=>dQ (aR J bx bP ge (.lit (.bool J)) q)) (λge q=>aR J bx bP ge (.call 15 [(.var 0),(.var 19),(.var 3)]) q) (T.map C) b=A (cS f,m)) (eh h b m) (gj l.a 0 T f))):=by
 intro P
 induction P with
 |nil=>
  intro b i j go;exactλgo c=>c [] b (λgo c=>c (bH G) (.refl j) .nil)
 |cons n T R=>
  intro b i j F;refine as λgo S=>?_;obtain⟨v,U⟩:=F n (.head _);refine vm i O j k U _ λK L V=>?_;refine V _ λW Q X=>?_;refine(R (i.ed Q k) Q.aeg λn a=>F n (.tail _ a)) _ λf q Y=>?_;refine Y _ λZ ad dl=>?_;refine S ?_;exactλgo c=>c (K::f) q (λgo c=>c (pr G rfl (rx [.w K.bc L] (H W<|rs K.bc L)) Z) (Q.trans ad) (.cons X dl))
def aae(k:dL e g l)(v:bn e l b){c:I}(j:b[c]?=A .afT){F:I}{i:E I}{f:E bD}(K:gj l.a F i f):e2 [A (c,.afT)] (.afQ [20,21]) (gQ e h a o x y z B p D w u r s t) (λq T=>dQ (aR J bx bP q (.lit (.bool J)) T)) (λq T=>aR J bx bP q (.call 8 [(.var 0),(.var 20),(.var 21)]) T) (gz (i.map C) (cS f)) b=A (dZ i f,b):=by
 induction K with
 |nil=>exact bH (de j)
 |@cons n m i f L _ N=>exact pr (de j) G (rx [.aa (m.aP n)] (H (oq v k L)<|rs (m.aP n) b)) N
def gj.len{aB:E I}{c:I}{a:E I}{f:E bD}(e:gj aB c a f):(cS f).length=a.length/\(dZ a f).length=a.length:=by
 induction e with
 |nil=>exact⟨G,G⟩
 |cons g g b=>exact⟨bj (·+1) b.1,bj (·+1) b.2⟩
def Hu(a:q.length<=3)(c:T.length<=3):eb b .zip [.ab q,.ab T]=A (gz q T,[A (b.length,.afT)],b++[.afT]):=by
 show a4 (bV q.length&&bV T.length) _=_;refine(cD (c0 a (ap G))).symm▸(cD (c0 c (ap G))).symm▸?_;rfl
theorem cA.acm(f:cA e (g++[DG]) b):cA e g b where
 ael:=f.ael
 aem:=f.aem
 aee:=by have c:=f.aee;rw[jS]at c;exact(gX (dX f5 0 g))▸c
 aej:=by have c:=f.aej;rw[jS]at c;exact(gX (dX bA.x 0 g))▸c
 q h a:=f.q h (ji _ a)
 bare h a:=f.bare h (ji _ a)
def ty(e h k m:I)(g:E bA)(l:bp)(n:E I)(i:I)(p:N)(c:j I)(a:E (E bD×bD))(b:N)(q:Prop):Prop:=bn e l b->cA e (g++[⟨c,a.map (ia n i),M⟩]) b->fr h b->b[k]?=A (.afM (a.map fP))->c≠A k->(∀o,c=A o->m<=o)->c≠A h->(a=[]->c=M)->(∀f∈a,gj l.a 0 n f.1/\dq l.a 0 i f.2)->eF e h m p b->m<=b.length->a.length<=2->(∀f∈a,iJ l.a 0 i n f.1 a (A f.2))->q
noncomputable def y1:E c:=[bl 17 (gy (.comp (aV 15 [Y,Hn,aS]) (.aa 19) .val [fU] eQ)),a9 (pp jU iF) [.af9 iF jU (aV 15 [Y,dJ,aS]),bl 18 (gy (.comp (aV 8 [Y,Ho,Hp]) (.afQ [20,21]) .zip [fU,jU] eQ)),bR (gU ac 17 [hN,vF,aV 8 [Y,dJ,ar iF jU]])]]
def EM{e:I}{f:E (E L×L)}(a:b[e]?=A (.afM f))(c:E L)(h:dH c=J){g:ah}(i:(c4 c f).isSome=g):bY b .agh (.ab c) (.ref e)=A (!g):=by
 show((fB b e).bind λj=>a4 (dH c) (A (c4 c j).isSome)).map not=_;rw[mU a,cJ,bH h,i];rfl
def DU{e:I}{f:E (E L×L)}(a:b[e]?=A (.afM f))(c:E L)(h:dH c=J){g:L}(i:c4 c f=A g):ck b (.ref e) (.ab c)=A g:=by
 show(fB b e).bind (λj=>a4 (dH c) (c4 c j))=_;rw[mU a,cJ,bH h,i]
def Mi(e:I)(g:E bA)(h:E I)(i:I)(k:j I)(q:E (E bD×bD))(f:E bD)(o:bD)(b:N)(n:j I)(m:N)(r:Prop):Prop:=aX J 17 [.ref (e+14),C g.length,.ab (dZ h f),o.aP i] b .none m->cA e (g++[⟨n,(q++[(f,o)]).map (ia h i),M⟩]) m->(∀a p,b[a]?=A p->a≠e+15->k≠A a->m[a]?=A p)->b.length<=m.length->(∀c,n=A c->k=A c\/c=b.length)->(∀l,bn e l b->bn e l m)->r
def Zf{k:j I}{h:E (E bD×bD)}{c:E I}{f:E bD}{p:bD}(o:cA e (g++[⟨k,h.map (ia c i),M⟩]) b)(w:g.length+1<400)(H:h=[]->k=M)(x:c4 (dZ c f) (h.map (ia c i))=M)(len:h.length<=2)(y:∀T∈g,∀q,T.d0=A q->k≠A q)(r:e+17<=b.length):∃ge m,aA (Mi e g c i k h f p b ge m):=by
 cases k with
 |none=>
  have s:h.map (ia c i)=[]:=o.bare _ (jj _ (.head _)) G;have s:h=[]:=E.map_eq_nil_iff.mp s;subst s;obtain⟨T,t⟩:=Gw o.acm (ms w) (sj c f) i p r;exact⟨_,_,λN u=>u T t (λz B a C N=>(c5 (by have:=dB a;exact uS this)).trans ((c5 (dA C)).trans (b5 a))) ((eF.row (b:=e) (h:=0) (Ty:=g) (n:=b.length) (c_ _) (uT r)).le) (λq n=>.inr (aG n).symm) (λl v=>((v.c7 _).fl uM).fl (fG r))⟩
 |some q=>
  have K:=o.q _ (jj _ (.head _)) q G;obtain⟨T,t⟩:=Zj o w (sj c f) i p x (by rw[bO];exact yy len) (λT a n=>y T a q n G);refine⟨A q,_,λN u=>u T (?_) (λz B a N D=>(c5 λF=>D (bj A F)).trans (b5 a)) (?_) (λL n=>.inl n) (λl v=>(v.c7 _).fl (by omega))⟩
  .refine el.symm▸?_;exact t
  .unfold om;refine(show(bd (b++[aO.afM []]) q _).length=_ from fJ).symm▸bJ.symm▸?_;exact d8 _ _
def YH{x:E I}{F:I}{gt:N}{Y:j I}{y:E (E bD×bD)}(kw:dL e g l)(K:e+17<=h)(Z:e+17<=k)(A5:k≠h)(B0:F<=k)(ad:x.length<=3)(TT:∀n∈x,∃v,l.a[n]?=A v)(XV:l.a[i]?=A v)(abs:g.length+1<400)(Id:∀T∈g,∀ge,T.d0=A ge->ge<F)(on:∀T∈g,T.d0≠A h)(agn:h<F)(ago:aA (ty e h k F g l x i gt Y y b))(IO:y.length<2)(P:j L):
 aA (tn (λle B2 agp agq m=>fL (eo y1 (gQ e h a o (A (.ab (x.map C))) (A (C i)) (A (C g.length)) (A (.ref k)) p P w u r s t) b (gQ e h a o (A (.ab (x.map C))) (A (C i)) (A (C g.length)) (A (.ref k)) p P agp agq r s t) m) (aA (ty e h k F g l x i gt le B2 m)) (B2≠[]) (B2.length<=y.length+1))):=by
 refine ago _ λKB agr ags agt ld lo mp KF B3 agu KK KM KT=>?_;refine ZB (a:=a) (o:=o) (x:=A (.ab (x.map C))) (y:=A (C i)) (z:=A (C g.length)) (B:=A (.ref k)) (p:=p) (D:=P) (w:=w) (u:=u) (r:=r) (s:=s) (t:=t) kw (fG K) x KB ags TT _ λf O Ns=>?_;refine Ns _ λagv On of=>?_;clear Ns;have len:=of.len;have Os:∀T∈g++[⟨Y,y.map (ia x i),M⟩],T.d0≠A h:=λT a q=>by
  rcases cE.mp a with a|a
  .exact on T a q
  .rw[b2.mp a]at q;exact mp q
 have Q:eh h b (O++[.list (cS f)]):=On.trans (.pre On.aeg (eZ _ _));have af:eb b .val [.ab (x.map C)]=A (x.map C,[],b):=bH (cD (by rw[bO];exact uU len ad));have Pi:=pZ af agv;have cM:=gR (cc O (.list (cS f))) (cD (by rw[len.1];exact uU len ad));have st:=Q.bu agt A5;have B8:=KB.ed Q (fG K);have ew:=agr.ed Q K Os;have Pv:=agu.trans (.ed Q KK);have Ch:F<=(O++[aO.list (cS f)]).length:=bG KK Q.le;obtain⟨wp,R⟩:=wE (c:=i) of y B3;cases wp with
 |some B=>
  have dl:y≠[]:=λT=>by have P3:=R.dK;rw[T]at P3;exact nomatch P3
  exactλagF D=>D Y y (A (.ab (cS f))) u (O++[.list (cS f)]) (λagF D=>D (cG [.dK (cS f) O,.aa (.ab (cS f)),.b d] (H Pi<|H cM<|H (EM st (cS f) (oa f) (g:=J) (by rw[R.dK];rfl))<|bM (gQ e h a o (A (.ab (x.map C))) (A (C i)) (A (C g.length)) (A (.ref k)) p P (A (.ab (cS f))) u r s t) (O++[aO.list (cS f)]))) (λagF D=>D B8 ew Q.aeg st ld lo mp KF B3 Pv Ch KM KT) dl (fo _))
 |none=>
  refine vm B8 kw Q.aeg (fG K) XV _ λB Cl St=>?_;refine St _ λagw V C9=>?_;clear St;have SB:=V.bu st A5;have bq:=Gy SB (cS f) (oa f) (by rw[bO];exact(gC IO (ap G))) B.bc;rw[yP R.dK]at bq;have SC:y.map fP++[(cS f,B.bc)]=(y++[(f,B)]).map fP:=by rw[el];rfl
  rw[SC]at bq;generalize U:bd Cl k (.afM ((y++[(f,B)]).map fP))=z at bq;have SL:bn e l z:=by rw[<-U];exact(B8.ed V (fG K)).fl (fG Z)
  have Da:F<=z.length:=by rw[<-U,show(bd Cl k _).length=_ from fJ];exact bG Ch V.le
  have agx:cA e (g++[⟨Y,y.map (ia x i),M⟩]) z:=by
   rw[<-U];exact(ew.ed V K Os).fl Z λT a q=>by
    rcases cE.mp a with a|a
    .exact bC (Id T a k q) (Fx B0)
    .rw[b2.mp a]at q;exact ld q
  have ST:=gR (cc (z++[.afT]) (.list (dZ x f))) (cD (by rw[len.2];exact uU len ad));generalize W:z++[aO.afT]++[aO.list (dZ x f)]=S at ST;have SZ {X:I} {wp:aO} (q:z[X]?=A wp):S[X]?=A wp:=by rw[<-W];exact b5 (b5 q)
  have Tm:bn e l S:=by rw[<-W];exact(SL.c7 _).c7 _
  have Ty:cA e (g++[⟨Y,y.map (ia x i),M⟩]) S:=by rw[<-W];exact(agx.c7 _).c7 _
  have TD:z.length<=S.length:=by rw[<-W,bJ,bJ];omega
  have A1:=SZ ((by rw[<-U];exact ex SB):z[k]?=A (.afM ((y++[(f,B)]).map fP)));obtain⟨le,D5,c⟩:=Zf (p:=B) Ty abs KF R.afQ KM (λT a ge q agy=>bC (Id T a ge q) (by have:=lo ge agy;exact Fx this)) (by have:=dB A1;exact WG Z this);refine c _ λagz agA Fr TE agB agC=>?_;have FB:∀ge,le=A ge->F<=ge/\ge≠k/\ge≠h:=λge q=>by
   rcases agB ge q with q|q
   .exact⟨lo ge q,λT=>ld (T▸q),λT=>mp (T▸q)⟩
   .have:=dB A1;exact WH agn B0 this q
  exactλagF D=>D le (y++[(f,B)]) (A (.ab (cS f))) (A (.ab (dZ x f))) D5 (λagF D=>D (cG [.dK (cS f) O,.aa (.ab (cS f)),.b J,.w B.bc Cl,.afO z,.dK (dZ x f) (z++[.afT]),.w (.ab (dZ x f)) S,.aa B.bc,.aa (B.aP i),.w .none D5]
   (H Pi<|H cM<|H (EM st (cS f) (oa f) (g:=d) (by rw[R.dK];rfl))<|H agw<|H bq<|H (pZ (Hu (b:=z) (q:=x.map C) (T:=cS f) (by rw[bO];exact Fy ad) (by rw[len.1];exact Fy ad)) (aae (a:=a) (o:=o) (h:=h) (x:=A (.ab (x.map C))) (y:=A (C i)) (z:=A (C g.length)) (B:=A (.ref k)) (p:=p) (D:=P) (w:=A (.ab (cS f))) (u:=u) (r:=r) (s:=s) (t:=t) kw (SL.c7 [.afT]) (cc z .afT) of))<|H (W▸ST)<|H Ty.a2<|H (DU A1 (cS f) (oa f) ((by rw[<-SC];exact x8 _ R.dK):c4 (cS f) ((y++[(f,B)]).map fP)=A B.bc))<|H (oq Tm kw C9)<|H agz<|bM (gQ e h a o (A (.ab (x.map C))) (A (C i)) (A (C g.length)) (A (.ref k)) p P (A (.ab (cS f))) (A (.ab (dZ x f))) r s t) D5) (by kernel_rfl)) (λagF D=>D (agC l Tm) agA (((by rw[<-U];exact V.aeg.imp λgo a=>(c5 A5).trans a):fr h z).imp λgo q=>Fr h _ (SZ q) (rW K) mp) (Fr k _ A1 (rW Z) ld) (λq=>(FB k q).2.1 rfl) (λge q=>(FB ge q).1) (λq=>(FB h q).2.2 rfl) (λq=>bC q (IN _ (IT _ _))) (λgo dl=>by
    rcases cE.mp dl with a|a
    .exact B3 go a
    .rw[b2.mp a];exact⟨of,C9⟩) (((by rw[<-W];exact(((by rw[<-U];exact(Pv.trans (.ed V Ch)).trans (.fl ⟨uT Z,.inr B0⟩)):eF e h F gt z).trans (.c7 _ Da)).trans (.c7 _ (by rw[bJ];omega))):eF e h F gt S).trans ⟨TE,λX TI agD agE=>by
    have T:=e8 (WI TI Da TD:X<S.length);rw[T];exact Fr X _ T (λq=>agD.elim (λGM=>sU.mpr GM (q.symm▸d8 _ 15)) λGM=>hv.mpr GM (q▸sP (ap G) _)) λq=>bC (lo X q) (I.not_le_of_lt TI)⟩) (by have:=TE;exact WK Da TD this) (by rw[bJ];show y.length+1<=2;exact(JS IO)) λgo dl=>by
    rcases cE.mp dl with a|a
    .exact(KT go a).acg _
    .rw[b2.mp a];exact R.new C9) (IN _ (IT _ _)) (by rw[bJ];exact c_ _))
end
end
section
section
variable{f F i p h g q:I}{e:E bA}{l:bp}{P:E aY}{m:E cK}{w:E L}{a o:N}{TD b n:I}
def mL(f i p h g:I)(w:E L)(e:E bA)(l:bp)(P:E aY)(m:E cK)(a:N)(c:Prop):Prop:=ca f a.length e l a->fr i a->f+17<=i->(∀o∈e,o.d0≠A i)->a[p]?=A (.list (P.map aY.aa))->f+17<=p->p≠i->(∀o∈e,o.d0≠A p)->a[h]?=A (.list w)->f+17<=h->h≠i->a[g]?=A (.list (m.map cK.aa))->f+17<=g->g≠i->(∀o∈e,o.d0≠A g)->g≠p->g≠h->(∀b∈m,a[b.aef]?=A (.afM (b.aeh.map fP))/\(f+17<=b.aef/\b.aef≠i)/\b.aef≠g/\b.aef≠p)->(∀b∈m,hZ e l b)->l.p.length=e.length->o9 l 0 P->e.length=15+m.length->m.length<5->P.length=15->l.h.length<=20->l.a.length<=30->c
def hZ.e6(a:hZ e l B)(h:bA)(a1:L)(i:E I):hZ (e++[h]) (l.e6 a1 i b) B:=by
 refine as λn j=>?_;obtain⟨k,c,f,m⟩:=a.afc;refine j ?_;exact⟨⟨k,d4 ⟨_,G⟩ c,f,m⟩,d4 (b:=l.p) ⟨_,G⟩ a.p,a.afh,a.aeN,a.ie,a.x,a.self,by obtain⟨g,c,f⟩:=a.aeR;exact⟨g,d4 (b:=l.cl) ⟨_,G⟩ c,f⟩,a.af1,a.afj⟩
noncomputable def zg:E c:=[bl 13 (aN Y 14 [dd (aL "f") (vD (dm dR)),fU,dJ]),d5 [14,15] (aU [.af7 J,aV 16 [Y,dJ]]),.for (.aa 16) .range [ct] y1,a9 (ba (aV 19 [aS,ct]) aQ) [bl 15 (aV 15 [Y,dJ,aS]),bR (gU ac 20 [hN,aV 8 [Y,dJ,p8]])],bR (et dR (aU [hN,fU,dJ,iF,p8]))]
variable{B D x y z s c r t u v:j L}
def xe(f i k:I)(e:E bA)(l:bp)(c:E I)(b q:I)(s:N)(m:j I)(g:E (E bD×bD))(o:j L)(p:bD)(a:N)(t:Prop):Prop:=bn f l a->cA f (e++[⟨m,g.map (ia c b),o⟩]) a->fr i a->a[q]?=A (.afM (g.map fP))->(∀r,m=A r->k<=r)->(∀h∈g,gj l.a 0 c h.1/\dq l.a 0 b h.2)->eF f i k s a->g≠[]->dq l.a 0 b p->(∀n,l.a[b]?=A n->o.getD (jP b n)=p.aP b)->(∀h∈g,iJ l.a 0 b c h.1 g (A h.2))->g.length<=2->t
def Ru(h:T<4):uz (uD "f" T):=by
 refine kO.mp ?_
 match T,h with
 |0,_=>kernel_rfl
 |1,_=>kernel_rfl
 |2,_=>kernel_rfl
 |3,_=>kernel_rfl
def GU{c:E I}{z:j I}{r:E (E bD×bD)}{B:j L}{n:bD}{a1:L}(B8:aA (mL f i p h g w e l P m a))(Z:m.length<4)(Ch:aA (xe f i a.length e (l.e6 a1 c b) c b q a z r B n o))(ad:a.length<=q)(dM:b<4)(Cl:(∃TD,TD<5/\c=[TD])\/∃TD g,(TD<5/\g<5)/\c=[TD,g])(C9:uz a1):
 kz o (.ref g) .append=J/\hJ o (.ref g) .append [cK.aa ⟨e.length,b,q,c,r,n⟩]=A (.none,bd o g (.list ((m++[(⟨e.length,b,q,c,r,n⟩:cK)]).map cK.aa)))/\aA (mL f i p h g w (e++[⟨z,r.map (ia c b),B⟩]) (l.e6 a1 c b) P (m++[(⟨e.length,b,q,c,r,n⟩:cK)]) (bd o g (.list ((m++[(⟨e.length,b,q,c,r,n⟩:cK)]).map cK.aa))))/\∀T,T<f->(bd o g (.list ((m++[(⟨e.length,b,q,c,r,n⟩:cK)]).map cK.aa)))[T]?=a[T]?:=by
 refine B8 _ λdl Da ge D5 go F gt Fr FB kw ld le lo K mp of st GM Id N IO KB agn KF KK KM=>?_;refine Ch _ λKT Ns On Os Pi Pv Q P3 St SB SC SL=>?_;have C {T:I} {v:aO} (k:a[T]?=A v) (ST:f+17<=T) (SZ:T≠i):o[T]?=A v:=Q.bu k (dB k) ST SZ;have O:=C le lo K;have wp:=hi O (by rw[bO];exact yr Z) (cK.aa ⟨e.length,b,q,c,r,n⟩);rw[((by rw[el];rfl):m.map cK.aa++[cK.aa ⟨e.length,b,q,c,r,n⟩]=(m++[(⟨e.length,b,q,c,r,n⟩:cK)]).map cK.aa)]at wp;refine⟨gw O,wp,?_⟩;have t:=dB le;have A1:=dB go;have A5:i<a.length:=by obtain⟨Tm,k⟩:=Da;exact dB k
 have B0:(e++[(⟨z,r.map (ia c b),B⟩:bA)]).length=e.length+1:=bJ;have D {T:I} (k:∀Ty∈e,Ty.d0≠A T) (u:T<a.length):∀R∈e++[(⟨z,r.map (ia c b),B⟩:bA)],R.d0≠A T:=λR x S=>by
  rcases cE.mp x with x|x
  .exact k R x S
  .rw[b2.mp x]at S;exact bC (Pi T S) (sU.mpr u)
 have y {T:I} {v U:aO} (k:o[T]?=A v) (u:T≠g):(bd o g U)[T]?=A v:=(c5 (dA u)).trans k;have s:=lo;have H:q≠g/\q≠p/\q≠i:=WL t ad A1 A5;refine⟨λagn TE=>TE (ca.of (KT.fl (fG s)) (Ns.fl s (D mp t)) ((dl.s.e6 a1 c).kE ⟨_,G⟩) (by show f+17<=(nq _ _ _).length;rw[fJ];exact pP s t Q.le)) (On.imp λTm k=>y k (dA K)) ge (D D5 A5) (y (C go F gt) (dA of)) F gt (D Fr A1) (y (C FB kw ld) (dA st)) kw ld (ex O) s K (D mp t) of st (λV W=>?_) (λV W=>?_) ?_ (λU TI=>?_) (by rw[B0,bJ,KB];rfl) (by rw[bJ];show m.length+1<5;exact(Jo Z)) KF KK KM,λT u=>(c5 (Fv s u)).trans (Q.lu (by have:=F;exact Fw s t) (by have:=ge;exact uT this) T u)⟩
 .rcases cE.mp W with k|k
  .refine as λagn X=>?_;obtain⟨TT,Y,B2,XV⟩:=GM V k;refine X ?_;exact⟨y (C TT Y.1 Y.2) B2,Y,B2,XV⟩
  .rw[b2.mp k];exact⟨y Os H.1,⟨by show f+17<=q;exact pP s t ad,H.2.2⟩,H.1,H.2.1⟩
 .rcases cE.mp W with k|k
  .exact(Id V k).e6 _ a1 c
  .rw[b2.mp k];exact⟨⟨_,kI,G,SB⟩,by show(l.p++[(c,b)])[e.length]?=_;rw[<-N];exact kI,dM,Cl,Pv,St,SC,⟨a1,by show(l.cl++[a1])[e.length]?=_;rw[<-N,<-dl.an.aek];exact kI,C9⟩,P3,SL⟩
 .show(l.p++[(c,b)]).length=_;rw[bJ,B0,N];rfl
 .refine as λagn X=>?_;obtain⟨B3,abs⟩:=IO U TI;refine X ?_;exact⟨⟨B3.aew,B3.row⟩,abs⟩
def Z3{q:E I}(W:aA (mL f i p h g w e l P m a))(K:m.length<4)(dM:b<4)(dl:(∃TD,TD<5/\q=[TD])\/∃TD g,(TD<5/\g<5)/\q=[TD,g])(FB:∀TD,TD<5->∃n,l.a[TD]?=A n):aA (LM (λagu Ns agv o agw agx agy go T ge=>fL (eo zg (gQ f i h g (A (.ab (q.map C))) (A (C b)) x y z s c r t u v) a (gQ f i h g (A (.ab (q.map C))) (A (C b)) agw agx agy go T ge t u v) o) (aA (mL f i p h g w agu Ns P (m++[agv]) o)) (Ns.a=l.a) (∀gt,gt<f->o[gt]?=a[gt]?))):=by
 refine W _ λR GM agz Id ahd agA ahd ahd ahd ahd ahd agB ahd ahd ahd ahd ahd ahd ahd IO ahd agC ahd ahd ahd ahd=>?_;obtain⟨n,O⟩:=FB b (sT dM);have KB:q.length<=3:=by rcases dl with⟨TD,ahd,rfl⟩|⟨TD,agD,_,rfl⟩;exact(show 1<=3 by decide);exact(show 2<=3 by decide)
 have agE:∀TD∈q,∃n,l.a[TD]?=A n:=λTD kw=>FB TD (by
  rcases dl with⟨agF,j,rfl⟩|⟨agF,agD,⟨j,agG⟩,rfl⟩
  .rw[b2.mp kw];exact j
  .cases kw with
   |head=>exact j
   |tail ahd kw=>rw[b2.mp kw];exact agG)
 have ld:=agC;obtain⟨KF,agH,KK⟩:=Ez (a:=m.length) (gC K (ap G)) "f" (by kernel_rfl) a;have B2:=Ru K;generalize uD "f" m.length=a1 at KK B2;have le:=IO;have B3:=Df (TD:=b) R.an a1 KB (Fz K ld le);rw[IO]at B3;have KM:=De (TD:=b) R.an a1 (m:=q) (Fz K ld le);have lo:fA f (f+13) a (fO f l a1 q b a 3):=fA.kF G;generalize fO f l a1 q b a 3=B at B3 KM lo;have F:=agz;have ag_:=agA;have U:i<a.length:=by obtain⟨mp,j⟩:=GM;exact dB j
 have of:dL f e (l.e6 a1 q b):=R.s.e6 a1 q;have st:eF f i a.length a B:=.ne lo (c_ _);have KT:=KM.c7 [.afM []];obtain⟨agI,agJ⟩:=Gh (m:=0) R.s O;have On:=fb agB (by rw[bO];exact(yr K));rw[bO]at On;have agK:∀N∈e,∀X,N.d0=A X->X<a.length:=λN h X j=>R.aev N h X j;have L:=st.le;have agL:=Id;obtain⟨aha,Os,agM,Pi⟩:=pA (j:=16) (k:=2) (n:=λwp a=>bt J bx bP y1 wp a)
  (e:=λA1 wp Pv=>aA (tn (λs c r V D=>fL (wp=gQ f i h g (A (.ab (q.map C))) (A (C b)) (A (C e.length)) (A (.ref B.length)) (A (fQ b n).bc) s c r t u v) (aA (ty f i B.length a.length e (l.e6 a1 q b) q b a V D Pv)) (0<A1->D≠[]) (D.length<=A1)))) (λA1 wp Pv agN A5=>by
   refine A5 _ λs c r V D P3=>?_;clear A5;refine P3 _ λagO W ahd B8=>?_;clear P3;subst agO;refine YH (a:=h) (o:=g) (p:=A (fQ b n).bc) (w:=c) (u:=r) (r:=t) (s:=u) (t:=v) of F (pP F U L) (yz U L) L KB agE O (FA K ld le) agK agL U W (c0 B8 agN) (A (C A1)) _ λagP agQ T ge ahb St=>?_;refine St _ λN agR agS agT=>?_;clear St;exactλahd k=>k _ _ _ (λahd k=>k N G (λahd k=>k _ T ge agP agQ (λahd k=>k G agR (λahd=>agS) (WM agT B8)))))
  2 0 (gQ f i h g (A (.ab (q.map C))) (A (C b)) (A (C e.length)) (A (.ref B.length)) (A (fQ b n).bc) s c r t u v) (B++[.afM []]) G (λahd k=>k s c r M [] (λahd k=>k G (λahd k=>k KT ((R.v.ne lo).e6.c7 _) ((GM.ne lo (fG F)).imp λmp j=>b5 j) (cc B _) (λj=>by cases j) (λX j=>by cases j) (λj=>by cases j) (λahd=>rfl) (λmp Ch=>by cases Ch) (st.trans (.c7 _ st.le)) (bG st.le (by rw[bJ];exact d8 _ _)) (fY 2) (λmp Ch=>nomatch Ch):aA (ty f i B.length a.length e (l.e6 a1 q b) q b a M [] (B++[.afM []]))) (λj=>bC j nofun) (c_ 0)));refine Pi _ λgo T ge V D SB=>?_;clear Pi;refine SB _ λagU agV agW B8=>?_;clear SB;subst agU
 refine agV _ λagX agY agZ ag0 ahd SC ag1 ahd SL ag2 ST SZ Tm=>?_;have Ty:=agW (ap G);refine fs agZ (a:=2) (ap G) _ λag3 Y TE=>?_;refine TE _ λahc Cl S=>?_;clear TE;have TI:∀N∈e++[⟨V,D.map (ia q b),M⟩],N.d0≠A i:=λN h j=>by
  rcases cE.mp h with h|h
  .exact Id N h j
  .rw[b2.mp h]at j;exact ag1 j
 have C9:=agX.ed S (fG F);have TT:=agY.ed S F TI;have XV:=S.bu ag0 (yz U L);have abs:=ag2.trans (.ed S ST);have B0 {P:Prop} (ag4:P):=H R.an.a2<|H On<|H agH<|H KK<|H B3<|H (En KT of O)<|H (i_ (p0 (B++[aO.afM []]) (b:=2) (ap G)) agM)<|H Cl ag4;revert ag3;refine@dk _ _ ?_ (jK ?_)
 .intro Cl B0;refine vm C9 of S.aeg (fG F) O _ λQ agn ago=>?_;refine ago _ λag5 Z agp=>?_;clear ago;have agq:=C9.ed Z (fG F);have agr:=TT.ed Z F TI;obtain⟨ad,ag6,ag7,Da⟩:=Zl agr (FA K ld le) (Q.aP b);have ags {gt:I} {agt:aO} (j:agn[gt]?=A agt) (A5:f+17<=gt):ad[gt]?=A agt:=by rw[Da];exact(c5 (ys A5)).trans j
  obtain⟨f1,f2,D5,Fr⟩:=GU W K (λahd k=>k (by rw[Da];exact agq.fl yo) ag7 (Z.aeg.imp λmp j=>ags j F) (ags (Z.bu XV (yz U L)) (pP F U L)) SC SL (by rw[Da];exact(abs.trans (.ed Z (bG ST S.le))).trans (.fl ⟨(d8 _ 16),.inl (JA _)⟩)) Ty agp (λahd ahd=>rfl) Tm SZ:aA (xe f i a.length e (l.e6 a1 q b) q b B.length a V D (A (Q.aP b)) Q ad)) L dM dl B2;exactλahd k=>k _ _ _ _ (A (C e.length)) (A (.ref B.length)) (A Q.bc) go T ge (λahd k=>k (cG [.aa (C m.length),.aa (.str KF),.aa a1,.w (C e.length) B,.aa (fQ b n).bc,.go,.af2 .next (gQ f i h g (A (.ab (q.map C))) (A (C b)) (A (C e.length)) (A (.ref B.length)) (A (fQ b n).bc) go T ge t u v) Os,.w (C 0) Y,.go,.w Q.bc agn,.aa (Q.aP b),.w .none ad,.w .none (bd ad g (.list ((m++[(⟨e.length,b,B.length,q,D,Q⟩:cK)]).map cK.aa)))]
   (B0<|H ag5<|H agr.a2<|H (oq agq of agp)<|H ag6<|H f1<|H f2<|bM (gQ f i h g (A (.ab (q.map C))) (A (C b)) (A (C e.length)) (A (.ref B.length)) (A Q.bc) go T ge t u v) (bd ad g (.list ((m++[(⟨e.length,b,B.length,q,D,Q⟩:cK)]).map cK.aa)))) (by kernel_rfl)) D5 G Fr)
 .intro Cl B0;obtain⟨f1,f2,D5,Fr⟩:=GU W K (λahd k=>k C9 TT S.aeg XV SC SL abs Ty agI (λag8 ag9=>by rw[show l.a[b]?=A ag8 from ag9]at O;cases O;exact agJ.symm) Tm SZ:aA (xe f i a.length e (l.e6 a1 q b) q b B.length a V D M (fQ b n) Y)) L dM dl B2;exactλahd k=>k _ _ _ _ (A (C e.length)) (A (.ref B.length)) (A (fQ b n).bc) go T ge (λahd k=>k (cG [.aa (C m.length),.aa (.str KF),.aa a1,.w (C e.length) B,.aa (fQ b n).bc,.go,.af2 .next (gQ f i h g (A (.ab (q.map C))) (A (C b)) (A (C e.length)) (A (.ref B.length)) (A (fQ b n).bc) go T ge t u v) Os,.w (C 1) Y,.go,.w .none (bd Y g (.list ((m++[(⟨e.length,b,B.length,q,D,fQ b n⟩:cK)]).map cK.aa)))]
   (B0<|H f1<|H f2<|bM (gQ f i h g (A (.ab (q.map C))) (A (C b)) (A (C e.length)) (A (.ref B.length)) (A (fQ b n).bc) go T ge t u v) (bd Y g (.list ((m++[(⟨e.length,b,B.length,q,D,fQ b n⟩:cK)]).map cK.aa)))) (by kernel_rfl)) D5 G Fr)
noncomputable def vh(a:E I×I):L:=.ab [.ab (a.1.map C),C a.2]
def Gz(a:E I×I):Prop:=a.2<4/\((∃TD,TD<5/\a.1=[TD])\/∃TD g,(TD<5/\g<5)/\a.1=[TD,g])
def Z9(O:∀TD,TD<5->∃n,l.a[TD]?=A n):∀(T:E (E I×I)){e:E bA}{gt:bp}{m:E cK}{a:N}{B D x y z s c r:j L},(∀ge∈T,Gz ge)->m.length+T.length<=4->gt.a=l.a->aA (mL f i p h g w e gt P m a)->aA (LO (λmp kw le o of wp A1 A5 B0 B2 B3 B8=>aA (j_ (eP [A (h,.list w)] (.afQ [11,12]) (λC9 a=>bt J bx bP zg C9 a) (T.map vh) (gQ f i h g B D x y z s c r t u v) a=A (.next,gQ f i h g of wp A1 A5 B0 B2 B3 B8 t u v,o)) (aA (mL f i p h g w mp kw P le o)) (le.length=m.length+T.length) (kw.a=l.a) (∀go,go<f->o[go]?=a[go]?)))):=by
 intro Q
 induction Q with
 |nil=>
  intro e gt m a B D x y z s c r P3 P3 q k;exactλP3 b=>b e gt m a B D x y z s c r (λP3 b=>b (bH (de (k _ λP3 P3 P3 P3 P3 P3 P3 P3 h P3 P3 P3 P3 P3 P3 P3 P3 P3 P3 P3 P3 P3 P3 P3 P3 P3=>h))) k G q λP3 P3=>rfl)
 |cons ge T R=>
  intro e gt m a B D x y z s c r H F q k;refine as λP3 S=>?_;obtain⟨dM,U⟩:=H ge (.head _);have F:m.length+(T.length+1)<=4:=F;refine Z3 (x:=x) (y:=y) (z:=z) (s:=s) (c:=c) (r:=r) (t:=t) (u:=u) (v:=v) k (Aw F) dM U (by rw[q];exact O) _ λOn Os Pi Pv hN iF p8 V jU vF W=>?_;refine W _ λX Y Z ad=>?_;refine R (B:=A (.ab (ge.1.map C))) (D:=A (C ge.2)) (x:=hN) (y:=iF) (z:=p8) (s:=V) (c:=jU) (r:=vF) (λdl h=>H dl (.tail _ h)) (by rw[bJ];show m.length+1+T.length<=4;exact WN F) (Z.trans q) Y _ λld lo st Ch Cl Da D5 Fr FB GM Id IO KB=>?_;refine KB _ λKF KK KM KT Ns=>?_;refine S ?_;refineλP3 b=>b ld lo st Ch Cl Da D5 Fr FB GM Id IO (λP3 b=>b ((bH (de (k _ λP3 P3 P3 P3 P3 P3 P3 P3 h P3 P3 P3 P3 P3 P3 P3 P3 P3 P3 P3 P3 P3 P3 P3 P3 P3=>h))).trans ?_) KK (by rw[KM,bJ];show m.length+1+T.length=m.length+(T.length+1);exact FY) KT λgo K=>(Ns go K).trans (ad go K));show ko (bt J bx bP zg (gQ f i h g (A (.ab (ge.1.map C))) (A (C ge.2)) x y z s c r t u v) a) _=_;rw[X];exact KF
noncomputable def r5:E (E I×I):=[([3],3),([0],1),([1,4],0),([4],2)]
noncomputable def kC:aO:=.list (r5.map vh)
def Zq:∀T∈r5,Gz T:=by
 intro T a;rcases em.mp a with rfl|a
 .exact⟨(show 3<4 by decide),.inl ⟨3,by decide,G⟩⟩
 rcases em.mp a with rfl|a
 .exact⟨(show 1<4 by decide),.inl ⟨0,by decide,G⟩⟩
 rcases em.mp a with rfl|a
 .exact⟨(show 0<4 by decide),.inr ⟨1,4,by decide,G⟩⟩
 refine(b2.mp a).symm▸?_;exact⟨(show 2<4 by decide),.inl ⟨4,by decide,G⟩⟩
def Z4{iQ:bp}(q:q0 f i p iQ 15 5 e l P a)(x:∀TD,TD<5->∃n,l.a[TD]?=A n):aA (o4 (λgo ge m o=>aA (j_ (aX J 6 [.ref (f+1),.ref (f+14),.ab [C 0,C 1,C 2,C 3,C 4],.ref i] a (.ref (a++[kC]).length) o) (aA (mL f i p a.length (a++[kC]).length (r5.map vh) go ge P m o)) (m.length=4) (ge.a=l.a) (∀T,T<f->o[T]?=a[T]?)))):=by
 have y:=q.aeq;refine y _ λr u z B v D E F K L N O Q=>?_;have j:=r.aet;have w:i<a.length:=by obtain⟨R,c⟩:=u;exact dB c
 have b:(a++[kC]).length=a.length+1:=bJ;have k:=q.aft;refine Z9 (m:=[]) (B:=M) (D:=M) (x:=M) (y:=M) (z:=M) (s:=M) (c:=M) (r:=M) (t:=M) (u:=M) (v:=M) x r5 Zq (c_ 4) G (λlo g=>g ((r.more kC).more (.list [])).qc (u.imp λR c=>b5 (b5 c)) z B (b5 (b5 v)) D E F (b5 (cc a kC)) j (uS w) (cc _ _) (FC j b) (FD w b) (λs h c=>by have:=r.aev s h _ c;exact(kL _ (gC this (b.symm▸jl _))).elim) (FD (dB v) b) (FE b) (λq h=>nomatch h) (λq h=>nomatch h) K L k (I.zero_lt_succ _) (N.trans k) (by have:=O;exact(bG this (by rw[k];decide))) (by have:=Q;exact WO k this):aA (mL f i p a.length (a++[kC]).length (r5.map vh) e l P [] (a++[kC]++[.list []]))) _ λgo ge S o U V W X Y Z ad dl gt=>?_;refine gt _ λs kw ld n le=>?_;exactλlo g=>g go ge S o (λlo g=>g (az [.go,.af2 .next (gQ f i a.length (a++[kC]).length U V W X Y Z ad dl M M M) o] (H (i_ (gx (b5 (f:=[.list []]) (cc a kC)) G) s)<|aj (.ref (a++[kC]).length) o)) kw ld n λT t=>by
  rw[le T t,eK (by rw[b];exact WP j t b),eK (WQ j t b)])
end
end
section
section
variable{a b:N}
def xQ(a:g<900001):bV g=J:=cg (gC a (ap G))
def Tx{c:I}{b:E L}(e:a[c]?=A (.list b))(f:b.length<900000):eW a .len [.ref c]=A (C b.length,a):=by
 show((ds a c).bind λb=>a4 (bV b.length) (A (L.int b.length,a)))=_;rw[hk e,cJ,bH (xQ (FF f))]
def Cj{c:I}{b:E L}(f:a[c]?=A (.list b))(g:b.length<900000)(e:L):hJ a (.ref c) .append [e]=A (.none,bd a c (.list (b++[e]))):=by
 show(ds a c).bind (λb=>a4 (bV b.length) (A (L.none,bd a c (.list (b++[e])))))=_;rw[hk f,cJ,bH (xQ (FF g))]
def yN{c:I}{b:E L}{e:L}(f:a[c]?=A (.list (b++[e])))(g:b.length<900000):hJ a (.ref c) .pop []=A (e,bd a c (.list b)):=by
 show(ds a c).bind (λb=>a4 (bV b.length) (b.getLast?.bind λe=>A (e,bd a c (.list b.dropLast))))=_;rw[hk f,cJ,bH (xQ (by rw[bJ];show b.length+1<_;exact(Jo g))),E.getLast?_concat,cJ,IU]
end
noncomputable def iD(F:E I):E (O×L):=F.map λ(a:I)=>((a:O),L.bool J)
def uu(a:I):∀(F:E I),(dx a (iD F)).isSome=decide (a∈F):=by
 intro f
 induction f with
 |nil=>
  exact G
 |cons c F g=>
  show(jh (a:O) (((c:O),L.bool J)::iD F)).isSome=_;rw[fX];by_cases e:a=c
  .subst e;rw[ny];exact(cg (gZ)).symm
  .rw[show((a:O)==(c:O))=d from nx.mpr λh=>e (fn h)];show(dx a (iD F)).isSome=_;rw[g];exact@lH _ _ _ _|>.mpr ⟨.tail _,λb=>by rcases em.mp b with b|b;exact bC b e;exact b⟩
noncomputable def eI(a:I×ah):L:=.ab [C a.1,.bool a.2]
structure fN(e:N)(f g h:I)(F:E I)(c:E (I×ah))(a:N):Prop where
 ae2:a[f]?=A (.list (F.map C))
 aeH:a[g]?=A (.afP (iD F))
 aeM:a[h]?=A (.list (c.map eI))
 same:∀b,b≠f->b≠g->b≠h->a[b]?=e[b]?
 len:a.length=e.length
section
variable{h f e b:I}{p:bp}{o g k:N}{F:E I}{c:E (I×ah)}
structure lM(h f e b:I):Prop where
 afA:h+13<=f
 qb:h+13<=e
 afz:h+13<=b
 sp:f≠e
 afg:f≠b
 aff:e≠b
theorem bn.same(b:bn h p g)(c:∀B,h<=B->B<h+13->k[B]?=g[B]?):bn h p k where
 afS:=(c _ (c_ _) (Fd G)).trans b.afS
 c8:=(c _ E2 WR).trans b.c8
 names:=(c _ (d8 _ 2) WS).trans b.names
 a:=(c _ (d8 _ 3) WT).trans b.a
 cl:=(c _ (d8 _ 4) WU).trans b.cl
 t:=(c _ (d8 _ 5) WV).trans b.t
 cq:=(c _ (d8 _ 6) WW).trans b.cq
 aes:=(c _ (d8 _ 7) WX).trans b.aes
 args:=(c _ (d8 _ 8) WY).trans b.args
 aex:=(c _ (d8 _ 9) WZ).trans b.aex
 aeu:=(c _ (d8 _ 10) W0).trans b.aeu
 aep:=(c _ (d8 _ 11) (sP (ap G) _)).trans b.aep
 aer:=(c _ (d8 _ 12) (JA _)).trans b.aer
 bI:=b.bI
 aeF:=b.aeF
 afW:=b.afW
 aen:=b.aen
 aek:=b.aek
def fN.an(l:fN o f e b F c g)(a:lM h f e b)(m:bn h p o):bn h p g:=m.same λk i j=>l.same k (by have:=a.afA;exact yA this i j) (by have:=a.qb;exact yA this i j) (by have:=a.afz;exact yA this i j)
def fN.push(a:fN o f e b F c g)(i:lM h f e b)(j:I×ah):fN o f e b F (c++[j]) (bd g b (.list (c.map eI++[eI j]))):=
 ⟨(c5 i.afg.symm).trans a.ae2,(c5 i.aff.symm).trans a.aeH,by rw[el];exact ex a.aeM,λl m n k=>(c5 (dA k)).trans (a.same l m n k),by show(nq _ _ _).length=_;rw[fJ];exact a.len⟩
def fN.pop(a:fN o f e b F (c++[B]) g)(i:lM h f e b):fN o f e b F c (bd g b (.list (c.map eI))):=
 ⟨(c5 i.afg.symm).trans a.ae2,(c5 i.aff.symm).trans a.aeH,ex a.aeM,λk l m j=>(c5 (dA j)).trans (a.same k l m j),by show(nq _ _ _).length=_;rw[fJ];exact a.len⟩
noncomputable def eR(h f e b:I)(a c g i k:j L):aK:=[A (.ref (h+1)),a,A (.ref f),A (.ref e),c,A (.ref b),g,i,k]
noncomputable def yJ:X:=.af0 (.afZ .len [(.var 5)]) .gt (.lit (.int 0))
noncomputable def pS:E Internal.c:=[a9 (pp cQ aS) [bR (et bN (aU [cQ,i6]))]]
noncomputable def F7:E Internal.c:=[d5 [6,7] (.af_ bN .pop []),a9 (gJ bS aS) [.cont],a9 cI [.af9 aS bS eQ,bR (et ao bS),.cont],bR (et bN (aU [bS,eQ])),.for (.aa 8) .lw [ar (bE Y 11) bS] pS]
variable{a i l m n:j L}
noncomputable abbrev md(b:I)(a:aK)(g:N):eE:=iE (eO J bx bP yJ) (λa g=>bt J bx bP F7 a g) b a g
def Sn(g:N)(a:I):bY g .gt (C a) (.int 0)=A (decide (0<a)):=by
 show A (decide ((a:O)>0))=_;exact bj A (@lH _ _ _ _|>.mpr j2)
def u3(p:fN o f e b F c g)(k:c.length<900000):eO J bx bP yJ (eR h f e b a i l m n) g=A (decide (0<c.length),g):=by
 have j:=Tx p.aeM (by rw[bO];exact k);rw[bO]at j;exact ps [.aa (C c.length),.b (decide (0<c.length))] (H j<|H (Sn g c.length)<|H (G:cN (.bool (decide (0<c.length)))=A (decide (0<c.length))) (G:g=g))
def G7(x:lM h f e b)(p:fN o f e b F (c++[(q,r)]) g)(u:c.length<800000)(y:q∈F):aA (gi (λz B k=>fy (fN o f e b F c k) (∀s,md (s+1) (eR h f e b a i l m n) g=md s (eR h f e b a i z B n) k))):=by
 have v:=u3 (h:=h) (a:=a) (i:=i) (l:=l) (m:=m) (n:=n) p (by rw[bJ];show c.length+1<_;exact yB u);rw[cg (by rw[bJ];exact gg _)]at v;have j:=p.aeM;rw[el]at j;have w:=p.pop x;exactλD t=>t (A (C q)) (A (.bool r)) _ (λD t=>t w λs=>p7 (h:=.cont) v (cG [.w (eI (q,r)) (bd g b (.list (c.map eI))),.go,.b J] (H (u8 j .pop rfl)<|H (yN j (by rw[bO];exact uV u))<|H (rD w.aeH q (e:=J) (by rw[uu,cg y]))<|Dr (eR h f e b a i (A (C q)) (A (.bool r)) n) (bd g b (.list (c.map eI))))) G)
def aan(s:lM h f e b)(t:fN o f e b F (c++[(q,J)]) g)(y:c.length<800000)(z:F.length<400)(N:q∉F):aA (gi (λT ge k=>fy (fN o f e b (F++[q]) c k) (∀u,md (u+1) (eR h f e b a i l m n) g=md u (eR h f e b a i T ge n) k))):=by
 have B:=u3 (h:=h) (a:=a) (i:=i) (l:=l) (m:=m) (n:=n) t (by rw[bJ];show c.length+1<_;exact yB y);rw[cg (by rw[bJ];exact gg _)]at B;have v:=t.aeM;rw[el]at v;have D:=yN v (by rw[bO];exact uV y);have p:=t.pop s;generalize bd g b (.list (c.map eI))=r at D p;have lk:=uu q F;rw[dU N]at lk;have w:=rD p.aeH q lk;have bq:=ve p.aeH q (by unfold iD;rw[bO];exact z) (.bool J) (j.not_isSome_iff_eq_none.mp (by rw[lk];decide));have P:iD F++[((q:O),L.bool J)]=iD (F++[q]):=by unfold iD;rw[el];rfl
 rw[P]at bq;have f2:(bd r e (.afP (iD (F++[q]))))[f]?=A (.list (F.map C)):=(c5 s.sp.symm).trans p.ae2;have E:=hi f2 (by rw[bO];exact z) (C q);have bM:F.map C++[C q]=(F++[q]).map C:=by rw[el];rfl
 rw[bM]at E;refineλR x=>x (A (C q)) (A (.bool J)) (bd (bd r e (.afP (iD (F++[q])))) f (.list ((F++[q]).map C))) (λR x=>x ⟨ex f2,(c5 s.sp).trans (ex p.aeH),(c5 s.afg).trans ((c5 s.aff).trans p.aeM),λw I K Q=>(c5 (dA I)).trans ((c5 (dA K)).trans (p.same w I K Q)),?_⟩ λu=>p7 (h:=.cont) B (cG [.w (eI (q,J)) r,.go,.b d,.afO (bd r e (.afP (iD (F++[q])))),.w .none (bd (bd r e (.afP (iD (F++[q])))) f (.list ((F++[q]).map C)))]
  (H (u8 v .pop rfl)<|H D<|H w<|H bq<|H (gw f2)<|H E<|Dr (eR h f e b a i (A (C q)) (A (.bool J)) n) (bd (bd r e (.afP (iD (F++[q])))) f (.list ((F++[q]).map C)))) (by kernel_rfl)) G)
 show(nq (nq _ _ _) _ _).length=_;rw[fJ,fJ];exact p.len
noncomputable def fresh(F b:E I):E (I×ah):=(b.filter λa=>decide (a∉F)).map λa=>(a,d)
def Yg(z:lM h f e b)(K:F.length<400):∀(q:E I){c:E (I×ah)}{g:N}(n:j L),fN o f e b F c g->c.length+q.length<900000->∃s k,fN o f e b F (c++fresh F q) k/\eP [] (.aa 8) (λB g=>bt J bx bP pS B g) (q.map C) (eR h f e b a i l m n) g=A (.next,eR h f e b a i l m s,k):=by
 intro D
 induction D with
 |nil=>
  intro c g n r O;exact⟨n,g,by rw[show fresh F []=[]from G,gX];exact r,bH G⟩
 |cons p q y=>
  intro c g n r t;have t:c.length+(q.length+1)<900000:=t;have lk:=uu p F;by_cases u:p∈F
  .rw[cg u]at lk;obtain⟨s,k,v,w⟩:=y (A (C p)) r (ms t);refine⟨s,k,?_,(bH G).trans ?_⟩
   .rw[show fresh F (p::q)=fresh F q from by unfold fresh;rw[IX (by simpa using u)]];exact v
   .have x:bt J bx bP pS (eR h f e b a i l m (A (C p))) g=A (.next,eR h f e b a i l m (A (C p)),g):=cG [.b d] (H (um r.aeH p lk)<|bM (eR h f e b a i l m (A (C p))) g);show ko (bt J bx bP pS (eR h f e b a i l m (A (C p))) g) _=_;rw[x];exact w
  .rw[dU u]at lk;obtain⟨s,k,v,w⟩:=y (A (C p)) (r.push z (p,d)) (by rw[bJ];show c.length+1+q.length<_;exact W1 t);refine⟨s,k,?_,(bH G).trans ?_⟩
   .rw[show fresh F (p::q)=(p,d)::fresh F q from by unfold fresh;rw[IY (by simpa using u)];rfl,<-v6,<-mo];exact v
   .have x:bt J bx bP pS (eR h f e b a i l m (A (C p))) g=A (.next,eR h f e b a i l m (A (C p)),bd g b (.list (c.map eI++[eI (p,d)]))):=cG [.b J,.w .none (bd g b (.list (c.map eI++[eI (p,d)])))] (H (um r.aeH p lk)<|H (gw r.aeM)<|H (Cj r.aeM (by rw[bO];exact(Aw t)) (eI (p,d)))<|bM (eR h f e b a i l m (A (C p))) (bd g b (.list (c.map eI++[eI (p,d)]))));show ko (bt J bx bP pS (eR h f e b a i l m (A (C p))) g) _=_;rw[x];exact w
def aaq(j:lM h f e b)(I:bn h p o)(L:p.h[q]?=A r)(B:r.afN.args.length<=3)(w:fN o f e b F (c++[(q,d)]) g)(u:c.length<800000)(O:F.length<400)(P:q∉F):aA (o4 (λT ge s k=>fy (fN o f e b F (c++[(q,J)]++fresh F r.afN.args.reverse) k) (∀x,md (x+1) (eR h f e b a i l m n) g=md x (eR h f e b a i T ge s) k))):=by
 have D:=u3 (h:=h) (a:=a) (i:=i) (l:=l) (m:=m) (n:=n) w (by rw[bJ];show c.length+1<_;exact yB u);rw[cg (by rw[bJ];exact gg _)]at D;have y:=w.aeM;rw[el]at y;have E:=yN y (by rw[bO];exact uV u);have t:=w.pop j;generalize bd g b (.list (c.map eI))=v at E t;have lk:=uu q F;rw[dU P]at lk;have K:=t.push j (q,J);have N:=K.an j I;have Q:eb (bd v b (.list (c.map eI++[eI (q,J)]))) .lw [.ab (r.afN.args.map C)]=A (r.afN.args.reverse.map C,[],bd v b (.list (c.map eI++[eI (q,J)]))):=by
  rw[Ja];exact bH (cD (by rw[bO];exact uR B))
 refine as λV R=>?_;obtain⟨s,k,S,U⟩:=Yg (h:=h) (a:=a) (i:=i) (l:=A (C q)) (m:=A (.bool d)) j O r.afN.args.reverse n K (by rw[bJ,oE];show c.length+1+_<_;exact W2 u B);refine R ?_;exactλV z=>z (A (C q)) (A (.bool d)) s k (λV z=>z S λx=>p7 (h:=.next) D (cG [.w (eI (q,d)) v,.go,.b d,.w .none (bd v b (.list (c.map eI++[eI (q,J)]))),.aa (.ref (h+8)),.aa (.ab (r.afN.args.map C)),.af2 .next (eR h f e b a i (A (C q)) (A (.bool d)) s) k]
  (H (u8 y .pop rfl)<|H E<|H (rD t.aeH q lk)<|H (gw t.aeM)<|H (Cj t.aeM (by rw[bO];exact uV u) (eI (q,J)))<|H (N.br 11 rfl)<|H (N.arg L)<|H (i_ Q U)<|bM (eR h f e b a i (A (C q)) (A (.bool d)) s) k) (by kernel_rfl)) G)
end
end
section
inductive Ord(a:bp):E I->Prop
 |nil:Ord a []
 |gA {F:E I} {b:I} {e:dr} (c:Ord a F) (f:a.h[b]?=some e) (h:b≠0) (i:b∉F) (j:∀g∈e.afN.args,g∈F):Ord a (F++[b])
section
variable{f b e p:I}{r:E bA}{g:bp}{m a n:N}{F:E I}{o:E (I×ah)}{h q k l i:j L}
def Ord.vM(a:Ord g F):F.Nodup/\F⊆e9 g.h.length:=by
 induction a with
 |nil=>exact⟨Je,E.nil_subset _⟩
 |@gA F j k _ c _ f _ e=>
  refine⟨sL.mpr ⟨e.1,E.pairwise_singleton _ _,λh b l i p=>?_⟩,λh b=>?_⟩
  .rw[b2.mp i]at p;exact f (p▸b)
  .rcases cE.mp b with a|a
   .exact e.2 a
   .rw[b2.mp a];exact ht.mpr (d6.mp c).1
def Ord.len(a:Ord g F)(c:g.h.length<400):F.length<400:=by
 have b:=ac9 a.vM.1 a.vM.2;rw[Am]at b;exact c0 b c
def Cb(f:I)(g:bp)(m:N)(b e p:I)(F:E I)(o:E (I×ah))(h q:j L)(t:I)(u:E I)(v:aK)(a:N)(r:I)(c:E I)(k l i:j L)(n:N)(w:Prop):Prop:=r<=t->Ord g c->F<+:c->(∀x∈u,x∈c)->fN m b e p c o n->(∀s,md (r+s) v a=md s (eR f b e p h q k l i) n)->w
def Sa(a:I)(b:a≠0):2+3*4^a<=4^(a+1):=by
 rw[kM];exact W3 (hQ (ap G) (qF b):4^1<=4^a)
def aaO(S:lM f b e p)(Y:bn f g m)(Cl:dL f r g):∀(s:I),s≠0->s<g.h.length->∀{F:E I}{o:E (I×ah)}{a:N}{k l i:j L},Ord g F->fN m b e p F (o++[(s,d)]) a->o.length+4*s+8<800000->aA (mB (λv go D T ge n=>aA (Cb f g m b e p F o h q (4^(s+1)) [s] (eR f b e p h q k l i) a v go D T ge n))):=by
 intro s
 induction s using I.strongRecOn with
 |ind s C9=>
  intro Z of F o a k l i C z u;by_cases ad:s∈F
  .refine G7 (a:=h) (i:=q) (l:=k) (m:=l) (n:=i) S z (uW u) ad _ λD T n st=>?_;refine st _ λDa w=>?_;clear st;exactλSB t=>t 1 F D T i n (λSB t=>t (oL (ap G)) C (b_ F) (λc u=>by rw[b2.mp u];exact ad) Da λx=>by rw[kK];exact w x)
  .obtain⟨w,dl⟩:∃w,g.h[s]?=A w:=⟨_,e8 of⟩;have ok:=Cl.row s w Z dl;have D5:∀(y:E I),(∀c∈y,c≠0/\c<s)->y.length<=3->∀{F:E I}{o:E (I×ah)}{a:N}{k l i:j L},Ord g F->fN m b e p F (o++y.reverse.map λc=>(c,d)) a->o.length+4*s+7<800000->aA (mB (λv go D T ge n=>aA (Cb f g m b e p F o h q (y.length*4^s) y (eR f b e p h q k l i) a v go D T ge n))):=by
    intro y
    induction y with
    |nil=>intro SB SB F o a k l i C z SB;exactλSB t=>t 0 F k l i a (λSB t=>t (fY _) C (b_ F) (λc u=>nomatch u) (by rw[E.reverse_nil,v5,gX]at z;exact z) λx=>by rw[g4])
    |cons c y Fr=>
     intro wp U F o a k l i C z B;have U:y.length+1<=3:=U;obtain⟨FB,bq⟩:=wp c (.head _);rw[oH,el,<-mo]at z;refine@C9 c bq FB (gC bq of) _ _ _ k l i C z (by rw[bJ,bO,oE];exact W4 U B bq) _ λGM K bS cI cQ Id gt=>?_;refine gt _ λkw Q R ld V W=>?_;refine@Fr (λH B=>wp H (.tail _ B)) (sR U) _ _ _ bS cI cQ Q V B _ λIO KB O P KF A1 KK=>?_;refine KK _ λKM KT A5 Ns On Os=>?_;refineλSB t=>t (GM+IO) KB O P KF A1 (λSB t=>t ?_ KT (R.trans A5) (λH B=>?_) On λx=>by rw[kJ,W,Os])
     .have Pi:4^(c+1)<=4^s:=hQ (ap G) bq;rw[gY,AD];exact W5 kw Pi KM
     .rcases em.mp B with rfl|B
      .exact A5.subset (ld _ (.head _))
      .exact Ns H B
   refine aaq (a:=h) (i:=q) (l:=k) (m:=l) (n:=i) S Y dl ok.aeN z (uW u) (C.len Y.bI) ad _ λD T ge Id Pv=>?_;refine Pv _ λB0 B2=>?_;rw[((by unfold fresh;rw[E.filter_reverse]):fresh F w.afN.args.reverse=((w.afN.args.filter λc=>decide (c∉F)).reverse).map λc=>(c,d))]at B0;refine@D5 (w.afN.args.filter λc=>decide (c∉F)) (λc u=>ok.lt c (sK.mp u).1) (bG (sJ _ _) ok.aeN) _ _ _ D T ge C B0 (by rw[bJ];show o.length+1+4*s+7<_;exact W6 u) _ λv K bS cI cQ A1 gt=>?_;refine gt _ λkw Q R ld V W=>?_;have B3:=kw;have B8:(w.afN.args.filter λc=>decide (c∉F)).length*4^s<=3*4^s:=qE _ (bG (sJ _ _) ok.aeN);have Ch:=Sa s Z;have all:∀c∈w.afN.args,c∈K:=λc u=>by
    by_cases H:c∈F
    .exact R.subset H
    .exact ld c (sK.mpr ⟨u,cg H⟩)
   by_cases X:s∈K
   .refine G7 (a:=h) (i:=q) (l:=bS) (m:=cI) (n:=cQ) S V (uW u) X _ λO P le P3=>?_;refine P3 _ λlo mp=>?_;exactλSB t=>t (1+v+1) K O P cQ le (λSB t=>t (by exact FH Ch B8 B3) Q R (λc u=>by rw[b2.mp u];exact X) lo λx=>by rw[show 1+v+1+x=v+(x+1)+1 by exact FI,B2,W,mp])
   .refine aan (a:=h) (i:=q) (l:=bS) (m:=cI) (n:=cQ) S V (uW u) (Q.len Y.bI) X _ λO P le St=>?_;refine St _ λlo mp=>?_;exactλSB t=>t (1+v+1) (K++[s]) O P cQ le (λSB t=>t (by exact FH Ch B8 B3) (.gA Q dl Z X all) (R.trans (eZ _ _)) (λc u=>by rw[b2.mp u];exact jj _ (.head _)) lo λx=>by rw[show 1+v+1+x=v+(x+1)+1 by exact FI,B2,W,mp])
structure rd(m:N)(b e:I)(F:E I)(a:N):Prop where
 ae2:a[b]?=A (.list (F.map C))
 aeH:a[e]?=A (.afP (iD F))
 same:∀s,s<m.length->a[s]?=m[s]?
 le:m.length<=a.length
noncomputable def y0:E c:=[bl 5 (.list [aU [bv,i6]]),.while yJ F7]
noncomputable def ol(f b e:I)(h q a k l i:j L):aK:=[A (.ref (f+1)),h,A (.ref b),A (.ref e),q,a,k,l,i]
def YE(o:b=m.length/\e=m.length+1)(z:f+17<=m.length)(K:bn f g m)(O:dL f r g)(P:s≠0)(D:s<g.h.length)(Q:Ord g F)(p:rd m b e F a)(R:j L):aA (mB (λw T t u v n=>aA (j_ (eo y0 (ol f b e h (A (C s)) R k l i) a (ol f b e h (A (C s)) T t u v) n) (Ord g w) (F<+:w) (s∈w) (rd m b e w n)))):=by
 have c:=dB p.aeH;have N:=K.bI;refine aaO (h:=h) (q:=A (C s)) (k:=k) (l:=l) (i:=i) (⟨W8 z o,W9 z o,Xa z c o,(λq=>fK (jl _) (o.2.symm.trans (q.symm.trans o.1))),(λq=>bC c (by rw[o.2,<-q,o.1];exact hv.mpr (fo _))),FJ c⟩:lM f b e a.length) ((K.same λB S U=>p.same B (W7 z S U o)).c7 _:bn f g (a++[.list [eI (s,d)]])) O s P D Q (⟨b5 p.ae2,b5 p.aeH,cc _ _,λkw kw kw kw=>rfl,G⟩:fN (a++[.list [eI (s,d)]]) b e a.length F ([]++[(s,d)]) (a++[.list [eI (s,d)]])) (by show 0+4*s+8<_;exact(c0 (Au (oK (qD 4 (e_ (gC D N))) 0) 8) (ap G))) _ λV w t u v n W=>?_;refine W _ λX Y Z ad x dl=>?_;obtain⟨ge,go⟩:=ud (c0 X (c0 (hQ (ap G) (Xb N D:s+1<=400)) (by rw[show(4:I)=2^2 from G,<-I.pow_mul];exact sV (ap G) (ap G))):V<2^1000);have gt:md n8 (eR f b e a.length h (A (C s)) k l i) (a++[.list [eI (s,d)]])=A (.next,eR f b e a.length h (A (C s)) t u v,n):=by
  rw[go,kJ,dl,kK 1 ge];exact vC (u3 (h:=f) (a:=h) (i:=A (C s)) (l:=t) (m:=u) (n:=v) x (ap G))
 refineλkw E=>E w (A (.ref a.length)) t u v n (λkw E=>E (cG [.af2 .next (eR f b e a.length h (A (C s)) t u v) n] (H gt<|bM (ol f b e h (A (C s)) (A (.ref a.length)) t u v) n)) Y Z (ad s (.head _)) ⟨x.ae2,x.aeH,λB y=>?_,?_⟩)
 .rw[x.same B (Xc y o) (Xd y o) (λq=>kL _ (gC (gC (q▸y) (o.2▸jl _)) c)),eK (by have:=p.le;exact Xe y c o)];exact p.same B y
 .have:=p.le;rw[x.len,bJ];exact Xg c o
end
end
section
section
variable{f k m n:I}{l:E bA}{b:bp}{g a e:N}{F:E I}{r i h o p q:j L}
def YF(D:m=g.length/\n=g.length+1)(H:f+17<=g.length)(K:bn f b g)(O:dL f l b)(z:∀{F:E I}{a:N},rd g m n F a->d_ a T=J):∀(u:E I){F:E I}{a:N}{i h o p q:j L},(∀s∈u,s≠0/\s<b.h.length)->Ord b F->rd g m n F a->aA (q2 (λv ge go gt kw le e=>aA (j_ (eP T (.aa 4) (λmp a=>bt J bx bP y0 mp a) (u.map C) (ol f m n r i h o p q) a=A (.next,ol f m n r ge go gt kw le,e)) (Ord b v) (F<+:v) (∀s∈u,s∈v) (rd g m n v e)))):=by
 intro P
 induction P with
 |nil=>
  intro F a i h o p q Cl w k;exactλCl c=>c F i h o p q a (λCl c=>c (bH (z k)) w (b_ F) (λs x=>nomatch x) k)
 |cons s u Q=>
  intro F a i h o p q ok w k;refine as λCl R=>?_;obtain⟨S,x⟩:=ok s (.head _);refine YE (h:=r) (k:=o) (l:=p) (i:=q) D H K O S x w k h _ λB8 bN bS cI cQ Ch U=>?_;refine U _ λV W Y X Z=>?_;refine Q (i:=A (C s)) (h:=bN) (o:=bS) (p:=cI) (q:=cQ) (λy t=>ok y (.tail _ t)) W Z _ λad dl ld lo of st wp A1=>?_;refine A1 _ λA5 B0 B B2 B3=>?_;refine R ?_;refineλCl c=>c ad dl ld lo of st wp (λCl c=>c ((bH (z k)).trans ?_) B0 (Y.trans B) (λy t=>?_) B3)
  .show ko (bt J bx bP y0 (ol f m n r (A (C s)) h o p q) a) _=_;rw[V];exact A5
  .rcases em.mp t with rfl|t
   .exact B.subset X
   .exact B2 y t
def yO(c:∀s,s<a.length->e[s]?=a[s]?):a<+:e:=E.prefix_iff_getElem?.mpr λs b=>by rw[c s b,e8 b]
def Pd(m:f+17<=a.length)(n:bn f b a)(o:dL f l b){c:L}{g:E I}(ok:∀t∈g,t≠0/\t<b.h.length){j:E dp}(p:eb (a++[.list []]++[.afP []]) .val [c]=A (g.map C,j,a++[.list []]++[.afP []]))(q:∀{e:N},(∀s,s<a.length->e[s]?=a[s]?)->d_ e j=J):
 aA (kW (λF e=>aA (j_ (aX J 29 [.ref (f+1),c] a (.ref a.length) e) (Ord b F) (∀t∈g,t∈F) (e[a.length]?=A (.list (F.map C))) (a<+:e)))):=by
 have k:(a++[aO.list []]).length=a.length+1:=bJ;refine YF (r:=A c) ⟨G,k⟩ m n o (λh=>q h.same) g (i:=M) (h:=M) (o:=M) (p:=M) (q:=M) ok .nil ⟨b5 (cc a (.list [])),cc _ _,λs r=>(by rw[mo];exact eK r),by rw[bJ,k];omega⟩ _ λF u v w x y e z=>?_;refine z _ λB D K s h=>?_;exactλK i=>i F e (λK i=>i (az [.go,.af2 .next (ol f a.length (a++[aO.list []]).length (A c) u v w x y) e] (H (i_ p B)<|aj (.ref a.length) e)) D s h.ae2 (yO h.same))
noncomputable def fI(b:bp)(a:I):L:=(b.h[a]?.map dr.val).getD .none
noncomputable def hg(b:bp)(F:E I):E (O×L):=F.map λ(a:I)=>((a:O),fI b a)
def Ej(a:I):∀(F:E I),dx a (hg b F)=if a∈F then A (fI b a)else M:=by
 intro h
 induction h with
 |nil=>
  exact G
 |cons e F i=>
  show jh (a:O) (((e:O),fI b e)::hg b F)=_;rw[fX];by_cases g:a=e
  .subst g;rw[ny,cd gZ]
  .rw[show((a:O)==(e:O))=d from nx.mpr λj=>g (fn j)];show dx a (hg b F)=_;rw[i];by_cases f:a∈F
   .rw[cd f,cd (.tail _ f)]
   .rw[bZ f,bZ λc=>by rcases em.mp c with c|c;exact g c;exact f c]
structure o5(b:bp)(g:N)(c:I)(F:E I)(a:N):Prop where
 afN:a[c]?=A (.afP (hg b F))
 same:∀s,s<g.length->s≠c->a[s]?=g[s]?
 le:g.length<=a.length
def ca.same(e:ca f k l b g)(o:k<=D)(p:∀B,B<g.length->B≠D->a[B]?=g[B]?)(u:g.length<=a.length):ca f k l b a:=
 have c:=e.aet;have q:=e.l;have i {B:I} {r:aO} (h:g[B]?=A r) (v:B<k):a[B]?=A r:=(p B (dB h) (yu v o)).trans h
 ⟨e.an.same λB s t=>p B (Xh c s q t) (Xi c s o t),⟨i e.v.ael (E3 c),i e.v.aem (E5 c),i e.v.aee (E7 c),i e.v.aej (E8 c),λj m n h=>⟨i (e.v.q j m n h).1 (e.aev j m n h),(e.v.q j m n h).2⟩,e.v.bare⟩,e.s,c,bG q u,e.aev⟩
noncomputable def mX(f a:I)(b i h:j L):aK:=[A (.ref (f+1)),A (.ref (f+14)),b,A (.ref a),i,h,M,M]
noncomputable def xN:E c:=[bl 5 (.comp (ar aS bS) (.aa 6) .val [aN Y 30 [bv]] eQ),.ite (ba (aN Y 31 [bv]) (aL "app")) [.af9 aS bv (gU ac 32 [aN Y 33 [bv],gy bN])] [.af9 aS bv (aV 34 [Y,bv,bN])]]
noncomputable def f7(b:bp)(a:L):L:=fI b (a.fk.getD 0).toNat
def Ea{e:I}(g:a[e]?=A (.afP (hg b F))){f:E I}(h:∀s∈f,s∈F){c:L}(i:c∈f.map C):ck a (.ref e) c=A (f7 b c):=by
 obtain⟨s,j,rfl⟩:=fx.mp i;refine ui g s ?_;rw[Ej,cd (h s j)];rfl
def Eb(a:E I):((a.map C).filter λc=>J).map (f7 b)=a.map (fI b):=by rw[x4,mq];rfl
def Ha{e:E I}{a:E L}(c:e.map (λs=>b.h[s]?.map dr.val)=a.map A):e.map (fI b)=a:=by
 have f:=bj (Ao λg:j L=>g.getD .none) c;rw[mq,mq]at f;exact f.trans (qw a)
def Pm{n c:I}{u i h:j L}(x:ca f k l b g)(V:k<=n)(Y:Ord b F)(D:c≠0){m:dr}(o:b.h[c]?=A m)(X:c∉F)(Z:∀ge∈m.afN.args,ge∈F)(p:o5 b g n F a):∃go e,eo xN ((mX f n u i h).set 4 (A (C c))) a (mX f n u (A (C c)) go) e/\o5 b g n (F++[c]) e:=by
 have K:=x.same V p.same p.le;have ok:=x.s.row c m D o;refine as λA1 s=>?_;obtain⟨st,t,ad,y,W⟩:=ok.afp;refine s ?_;have dl:t=((m.afN.args.map C).filter λA1=>J).map (f7 b):=by rw[Eb,Ha y]
 have E:=ok.aeN;have gt:t.length<400:=by rw[<-Ha y,bO];exact uR E
 clear y;have fy:=K.more (.list t);have kw:=b5 (f:=[.list t]) p.afN;have v:=K.an;have q:=fy.an;have ld:eb a .val [.ab (m.afN.args.map C)]=A (m.afN.args.map C,[],a):=bH (cD (by rw[bO];exact uR E));refine as λA1 s=>?_;obtain⟨e,z,W⟩:=W l (a++[.list t]) b c a.length (b_ l) q fy.v (by rw[o];rfl) ok.cl ad (cc a _);refine s ?_;have N:=d4 z kw;have lk:dx c (hg b F)=M:=by rw[Ej,bZ X]
 have bq:=ve N c (by unfold hg;rw[bO];exact Y.len v.bI) m.val lk;have le:hg b F++[((c:O),m.val)]=hg b (F++[c]):=by
  unfold hg;rw[el];show _++[((c:O),m.val)]=_++[((c:O),fI b c)];unfold fI;rw[o];rfl
 rw[le]at bq;have Q:o5 b g n (F++[c]) (bd e n (.afP (hg b (F++[c])))):=⟨ex N,λlo R S=>(c5 (dA S)).trans (by
  refine as λA1 s=>?_;obtain⟨wp,rfl⟩:=z;refine s ?_;have:=p.le;rw[mo,eK (yw R this)];exact p.same lo R S),by
  have:=z.length_le;have:=p.le;show g.length<=(nq _ _ _).length;rw[bJ]at*;rw[fJ];exact Xj ‹_› this⟩
 have T:=bX.strOk x D o;have U {P:Prop} (mp:P):=H v.a2<|H (v.br 11 rfl)<|H (v.arg o)<|H ld<|H (H (G:d_ a []=J) λr(of:r∈m.afN.args.map C)=>H (G:cN (.bool J)=A J)<|H (G:a=a) λA1:J=J=>H (Ea p.afN Z of)<|H (G:f7 b r=f7 b r) (G:a=a))<|H q.a2<|H (q.br 10 rfl)<|H (q.dg o) mp;subst dl;by_cases w:m.afN.dg=h1
 .rw[cd w]at W;have B:=sf (a++[aO.list (((m.afN.args.map C).filter λA1=>J).map (f7 b))]) T (v:=h1) (by kernel_rfl) (cg w);exact⟨A (.ref a.length),bd e n (.afP (hg b (F++[c]))),cG [.go,.aa (.ref (f+8)),.aa (.ab (m.afN.args.map C)),.afN (λA1=>J) (f7 b) (λr=>[.aa (f7 b r)]),.af8 (m.afN.args.map C,[],a),.go,.aa (.ref (f+7)),.aa (.str m.afN.dg),.b J,.go,.aa (.ref (f+10)),.aa m.afN.data,.aa (.ab (((m.afN.args.map C).filter λA1=>J).map (f7 b))),.w m.val e,.afO (bd e n (.afP (hg b (F++[c]))))]
   (U<|H B<|H fy.v.a2<|H q.a2<|H (q.br 13 rfl)<|H (q.data o)<|H (gR (cc a (.list (((m.afN.args.map C).filter λA1=>J).map (f7 b)))) (cD gt))<|H W<|H bq<|bM (mX f n u (A (C c)) (A (.ref a.length))) (bd e n (.afP (hg b (F++[c]))))) (by kernel_rfl),Q⟩
 .rw[bZ w]at W;have B:=sf (a++[aO.list (((m.afN.args.map C).filter λA1=>J).map (f7 b))]) T (v:=h1) (by kernel_rfl) (dU w);exact⟨A (.ref a.length),bd e n (.afP (hg b (F++[c]))),cG [.go,.aa (.ref (f+8)),.aa (.ab (m.afN.args.map C)),.afN (λA1=>J) (f7 b) (λr=>[.aa (f7 b r)]),.af8 (m.afN.args.map C,[],a),.go,.aa (.ref (f+7)),.aa (.str m.afN.dg),.b d,.w m.val e,.afO (bd e n (.afP (hg b (F++[c]))))]
   (U<|H B<|H W<|H bq<|bM (mX f n u (A (C c)) (A (.ref a.length))) (bd e n (.afP (hg b (F++[c]))))) (by kernel_rfl),Q⟩
def R6:∀(w s:E L){t u:aK}{a v:N},eP y z x w t a=A (.next,u,v)->eP y z x (w++s) t a=eP y z x s u v:=by
 intro j
 induction j with
 |nil=>
  intro s t u a v b;obtain⟨f,c⟩:=cf b;cases c;rfl
 |cons q w k=>
  intro s t u a v b;obtain⟨f,c⟩:=cf b;refine bh c _ λl m n=>?_;refine(bH f).trans ?_;rw[m,cJ];rcases rB n with g|⟨e,h⟩
  .refine g _ λo r B i=>?_;clear g;refine i _ λe h p=>?_;clear i;show(x l a).bind _=_;rw[e];show cU o.jX _ _=_;rw[h];exact k s p
  .cases e
def Pl(r:ca f k l b g)(u:k<=s)(j:∀{F:E I}{a:N},o5 b g s F a->d_ a v=J)(m:Ord b F)(n:o5 b g s [] a):aA (gi (λw x e=>fy (eP v (.aa 4) (λy a=>bt J bx bP xN y a) (F.map C) (mX f s t i h) a=A (.next,mX f s t w x,e)) (o5 b g s F e))):=by
 induction m with
 |nil=>exactλV c=>c i h a (λV c=>c (bH (j n)) n)
 |@gA F o U m z B D H K=>
  refine as λV L=>?_;refine K _ λbv bN O P=>?_;refine P _ λQ p=>?_;obtain⟨R,S,T,q⟩:=Pm (u:=t) (i:=bv) (h:=bN) r u m B z D H p;refine L ?_;refineλV c=>c (A (C o)) R S (λV c=>c ?_ q);rw[el,R6 _ _ Q];refine(bH (j p)).trans ?_;show ko (bt J bx bP xN ((mX f s t bv bN).set 4 (A (C o))) O) _=_;rw[T];exact bH (j q)
structure wY(a:N)(b:L)(f:E I):Prop where
 aeL:∀{e:N},(∀s,s<a.length->e[s]?=a[s]?)->∃t,eb e .val [b]=A (f.map C,t,e)/\∀{u:N},(∀s,s<a.length->u[s]?=a[s]?)->d_ u t=J
def Dq(r:ca f k l b a){o:L}{i:E I}(ok:∀u∈i,u≠0/\u<b.h.length)(c:wY a o i):∃e,aX J 9 [.ref (f+1),.ref (f+14),o] a (.ref (e.length-1)) e/\(∃s,e=s++[.list (i.map (fI b))])/\a<+:e:=by
 have m:=r.more (.afP []);have v {s:N} (y:a++[aO.afP []]<+:s):∀g,g<a.length->s[g]?=a[g]?:=λg j=>by
  obtain⟨W,rfl⟩:=y;rw[mo,eK j]
 obtain⟨X,af,z⟩:=c.aeL (e:=a++[aO.afP []]++[.list []]++[.afP []]) (v ((eZ _ _).trans (eZ _ _)));have B:=r.l;have Y:=r.aet;refine Pd (by rw[bJ];omega) m.an m.s ok af (λD=>z λg j=>by
  rw[D g (by rw[bJ];omega)];exact eK j) _ λF K w=>?_;refine w _ λO x j t p=>?_;clear w
 refine Pl (t:=A o) (i:=M) (h:=M) (v:=[A ((a++[aO.afP []]).length,.list (F.map C))]) (m.pre p) B (λq=>de ((q.same _ (dB t) ((by rw[bJ];exact I.succ_ne_self _):(a++[aO.afP []]).length≠a.length)).trans t)) x (n:=⟨(d4 p (cc a (.afP []))),λZ Z Z=>rfl,c_ _⟩) _ λP Q h R=>?_;refine R _ λS q=>?_;have be:∀g,g<a.length->h[g]?=a[g]?:=λg j=>by
  have:=p.length_le;rw[bJ]at this;rw[q.same g (by omega) (FJ j)];exact v p g j
 obtain⟨T,bz,U⟩:=c.aeL be;refine⟨h++[.list (((i.map C).filter λZ=>J).map (f7 b))],?_,⟨h,by rw[Eb]⟩,(yO be).trans (eZ _ _)⟩;rw[((by rw[bJ];rfl):(h++[aO.list (((i.map C).filter λZ=>J).map (f7 b))]).length-1=h.length)];exact az [.w (.ref (a++[aO.afP []]).length) K,.af2 .next (mX f a.length (A o) P Q) h,.afN (λZ=>J) (f7 b) (λn=>[.aa (f7 b n)]),.af8 (i.map C,T,h)]
  (H m.an.a2<|H O<|H (i_ (gx t (jG C (x.len m.an.bI))) S)<|H bz<|H (H (U be) λn(V:n∈i.map C)=>H (G:cN (.bool J)=A J)<|H (G:h=h) λZ:J=J=>H (Ea q.afN j V)<|H (G:f7 b n=f7 b n) (G:h=h))<|aj (.ref h.length) (h++[.list (((i.map C).filter λZ=>J).map (f7 b))])) (by kernel_rfl)
end
end
section
section
variable{g u:I}{i:E bA}{l:bp}{a r:N}{k t v h:I}
noncomputable def li(g:I)(a:cK)(b:I)(c e f h i k:j L):aK:=[A (.ref (g+1)),A (.ref (g+14)),A a.aa,A (C a.aez),A (.ab (a.afR.map C)),A (C a.g),A (.ref a.aef),A a.x.bc,A (.ref b),c,e,f,h,i,k]
noncomputable def y3:E c:=[bl 10 (gy (.comp (aV 8 [Y,hN,iF]) (.afQ [13,14]) .zip [bv,ec] eQ)),bR (et cQ (aU [dR,aV 8 [Y,bN,ar bS ec]]))]
noncomputable def h4(b:E I)(t:I)(a:E bD×bD):L:=.ab [.ab (dZ b a.1),a.2.aP t]
variable{s m n o p q:j L}{e:cK}{c:I}
def YO(t:dL g i l)(u:bn g l a){h:I}(j:a[h]?=A .afT){v:I}{b:E I}{f:E bD}(y:gj l.a v b f):e2 [A (h,.afT)] (.afQ [13,14]) (li g e c s m n o p q) (λw x=>dQ (aR J bx bP w (.lit (.bool J)) x)) (λw x=>aR J bx bP w (.call 8 [(.var 0),(.var 13),(.var 14)]) x) (gz (b.map C) (cS f)) a=A (dZ b f,a):=by
 induction y with
 |nil=>exact bH (de j)
 |@cons k r b f z _ B=>exact pr (de j) G (rx [.aa (r.aP k)] (H (oq u t z)<|rs (r.aP k) a)) B
structure q1(e:N)(c:I)(f:E L)(a:N):Prop where
 ae3:a[c]?=A (.list f)
 same:∀b,b<e.length->b≠c->a[b]?=e[b]?
 le:e.length<=a.length
def q1.bu(f:q1 B c T a)(e:B[b]?=A D)(g:b≠c):a[b]?=A D:=(f.same b (dB e) g).trans e
def dq.inj{aB:E I}{g a:I}{e f:bD}(i:dq aB g a e)(j:dq aB g a f):e.bc=f.bc->e.aP a=f.aP a:=
 i.HI (P:=λa e f=>e.bc=f.bc->e.aP a=f.aP a) j (λs s c=>c) (λs s s c=>c) (λp q c=>bj (λk=>L.ab [.str (bi "elem"),C 3,k]) c) λa h r v l m n o c=>by rw[CH l m n o c]
def YN(ad:ca g u i l y)(D:hZ i l e)(dl:u<=c)(O:y[e.aef]?=A (.afM (e.aeh.map fP)))(P:e.aef≠c):∀(x:E (E bD×bD)),(∀b∈x,b∈e.aeh)->∀{w:E L}{a:N}{s m:j L},w.length+x.length<=2->q1 y c w a->aA (gi (λT ge r=>fy (eP [A (e.aef,.afM (e.aeh.map fP))] (.aa 9) (λgo a=>bt J bx bP y3 go a) (x.map λb=>.ab (cS b.1)) (li g e c s m n o p q) a=A (.next,li g e c T ge n o p q,r)) (q1 y c (w++x.map (h4 e.afR e.g)) r))):=by
 intro gt
 induction gt with
 |nil=>
  intro B0 w a s m B0 f;exactλB0 k=>k s m a (λB0 k=>k (bH (de (f.bu O P))) (by rw[v5,gX];exact f))
 |cons b x kw=>
  intro Q w a s m ld f;have v:=ad.same dl f.same f.le;have R:=Q b (.head _);obtain⟨S,le⟩:=D.ie b R;have U:=f.bu O P;have len:=S.len;have F:e.afR.length<=3:=by rcases D.aeN with⟨lo,B0,V⟩|⟨lo,A5,B0,V⟩<;>rw[V];exact(show 1<=3 by decide);exact(show 2<=3 by decide)
  have cM:=gR (cc (a++[.afT]) (.list (dZ e.afR b.1))) (cD (by rw[len.2];exact uU len F));generalize t:a++[aO.afT]++[aO.list (dZ e.afR b.1)]=h at cM;have z {B:I} {W:Internal.aO} (K:a[B]?=A W):h[B]?=A W:=by rw[<-t];exact b5 (b5 K)
  have mp:q1 y c (w++[h4 e.afR e.g b]) (bd h c (.list (w++[h4 e.afR e.g b]))):=⟨ex (z f.ae3),λB X Y=>(c5 (dA Y)).trans (by
   have:=f.le;rw[<-t,eK (by rw[bJ];omega),eK (yw X this)];exact f.same B X Y),by
   have:=f.le;show y.length<=(nq _ _ _).length;rw[fJ];exact(bG this ((by rw[<-t,bJ,bJ];omega):a.length<=h.length))⟩
  refine kw (λK of=>Q K (.tail _ of)) (s:=A (.ab (cS b.1))) (m:=A (.ab (dZ e.afR b.1))) (by rw[bJ];show w.length+1+x.length<=2;exact Xl (ld:w.length+(x.length+1)<=2)) mp _ λT ge r st=>?_;refine st _ λwp Z=>?_;rw[mo]at Z;refineλB0 k=>k T ge r (λB0 k=>k ((bH (de U)).trans ?_) Z);have A1:bt J bx bP y3 (li g e c (A (.ab (cS b.1))) m n o p q) a=A (.next,li g e c (A (.ab (cS b.1))) (A (.ab (dZ e.afR b.1))) n o p q,bd h c (.list (w++[h4 e.afR e.g b]))):=
   cG [.dK (dZ e.afR b.1) (a++[.afT]),.w (.ab (dZ e.afR b.1)) h,.aa b.2.bc,.aa (b.2.aP e.g),.w .none (bd h c (.list (w++[h4 e.afR e.g b])))] (H (pZ (Hu (b:=a) (q:=e.afR.map C) (T:=cS b.1) (by rw[bO];exact F) (by rw[len.1];exact F)) (YO (e:=e) (c:=c) (s:=A (.ab (cS b.1))) (m:=m) (n:=n) (o:=o) (p:=p) (q:=q) v.s (v.an.c7 [.afT]) (cc a .afT) S))<|H (t▸cM)<|H (gw (z f.ae3))<|H (DU (z U) (cS b.1) (oa b.1) (D.self b R).dK)<|H (oq ((by rw[<-t];exact(v.an.c7 _).c7 _):bn g l h) v.s le)<|H (hi (z f.ae3) (Xk ‹_›) (h4 e.afR e.g b))<|bM (li g e c (A (.ab (cS b.1))) (A (.ab (dZ e.afR b.1))) n o p q) (bd h c (.list (w++[h4 e.afR e.g b]))))
  show ko (bt J bx bP y3 (li g e c (A (.ab (cS b.1))) m n o p q) a) _=_;rw[A1];exact wp
def cA.at(e:cA g i a)(c:i[k]?=A b)(j:b.q≠[]):∃h,b.d0=A h/\a[h]?=A (.afM b.q):=by
 cases f:b.d0 with
 |none=>exact bC (e.bare b (d7 c) f) j
 |some h=>exact⟨h,G,(e.q b (d7 c) h f).1⟩
def Zn(f:cA g i a)(q:i.length<400){l:bA}(m:i[k]?=A l){c:E L}(r:dH c=J){b:I}{e:bD}(j:c4 c l.q=A (e.aP b))(len:l.q.length<400):aX J 17 [.ref (g+14),C k,.ab c,e.aP b] a .none (a++[.afM []]):=by
 refine as λw s=>?_;obtain⟨h,t,u⟩:=f.at m (λv=>by rw[v]at j;cases j);refine s ?_;have n:=vf (f.c7 [.afM []]).aee k (c0 (sa _ _ _) q) (.ref a.length);rw[rK f5 m,show f5 l=A (.ref h) by unfold f5;rw[t];rfl]at n;have o:=b5 (f:=[.afM []]) u;have p:=vg o c r len (e.aP b);rw[j]at p;exact az [.aa (.ref (g+15)),.w (.ref h) (a++[.afM []]),.w (e.aP b) (a++[.afM []]),.b d] (H (f.br 2 rfl)<|H (oi f.aee .af5 rfl)<|H n<|H (l9 o .af5 rfl)<|H p<|H (yf (a++[.afM []]) b e)<|aj .none (a++[.afM []]))
def Sc(b:bn g l a)(c:l.cl[k]?=A w):aX J 40 [.ref (g+1),C k] a w a:=
 az [.aa (.ref (g+4)),.aa w] (H (b.br 6 rfl)<|H (gu b.cl k c (cD (by rw[b.aek];exact b.aen)))<|aj w a)
def YQ(b:E a7)(c:P)(e:P=yk w t x a b y r:=by kernel_rfl):pb w t x a y r:=Gr b (e▸c)
def Zm(p:bn g l a)(b:cA g i a)(q:i.length<400)(e:i[k]?=A w)(r:dH x=J)(c:c4 x w.q=A y)(len:w.q.length<400)(s:∀a,bY a .af1 y z=A J)(t:l.cl[k]?=A B)(u:uz B):pb J 17 [.ref (g+14),C k,.ab x,z] a (.afU 5) (a++[.afM []]):=by
 refine as λL v=>?_;obtain⟨h,D,E⟩:=b.at e (λF=>by rw[F]at c;cases c);obtain⟨I,K⟩:=u;refine v ?_;have f:=b.c7 [.afM []];have m:=p.c7 [.afM []];have j:=vf f.aee k (c0 (sa _ _ _) q) (.ref a.length);rw[rK f5 e,show f5 w=A (.ref h) by unfold f5;rw[D];rfl]at j;have n:=b5 (f:=[.afM []]) E;have o:=vg n x r len z;rw[c]at o;exact YQ [.aa (.ref (g+15)),.w (.ref h) (a++[.afM []]),.w y (a++[.afM []]),.b J,.aa (.ref (g+1)),.aa B,.aa I]
  (H (b.br 2 rfl)<|H (oi b.aee .af5 rfl)<|H j<|H (l9 n .af5 rfl)<|H o<|H (s (a++[.afM []]))<|H (f.br 1 rfl)<|H m.a2<|H (Sc m t)<|H K<|(.mk:nK (.afU 5) (a++[aO.afM []]) (dW.afU 5) (a++[.afM []]))) (by kernel_rfl)
end
end
section
section
variable{g w:I}{o:E bA}{s:bp}{e q:N}{n h u t:I}{k p v r l m:j L}{a:cK}{i:I}
def uB(a:bk 8 b=J)(c:bk 8 x=J)(f:b.ng=M)(g:a_ b x=d)(e:N):bY e .af1 b x=A J:=by
 have h:a4 (bk 8 b&&bk 8 x) (A (!a_ b x))=A J:=by rw[bH (by rw[a,c];rfl),g];rfl
 cases b with
 |str i=>cases f
 |_=>exact h
noncomputable def Gq:E c:=[bl 12 (.ite (aN Y 28 [bN]) (aU [aL "elem",bN,pM]) (.ite (gl bN (cj 0)) (aU [hh 9,a0]) (.not fU)))]
noncomputable def lj(g n a:I)(b:j L)(e:E I)(h:I)(c:j L)(i:I)(k p v r l m:j L):aK:=[A (.ref (g+1)),A (.ref (g+14)),b,A (C n),A (.ab (e.map C)),A (C h),A (.ref a),c,A (.ref i),k,p,v,r,l,m]
def EG(e:ev 0 x):a_ (aD x) (aD (9,1))=d:=dU λa=>by
 have a:aD x=aD (9,1):=a;injection a with a;injection a with c a;injection a with f _;have b:=e.y;replace b:=(L.int.inj f)▸(L.int.inj c)▸b;exact bC b nofun
def abH(w:bn g s e)(x:dL g o s)(K:h<4)(N:dq s.a 0 h B)(c:I)(f:j L)(q:E I)(v:j L):∃T,(∀e,bY e .af1 (B.aP h) T=A J)/\eo Gq (lj g n c f q h v i k p (A (B.aP h)) r l m) e (lj g n c f q h v i k p (A (B.aP h)) (A T) l m) e:=by
 have y:=w.a2;cases N with
 |b z=>
  refine⟨.bool (!z),λe=>uB G rfl rfl (by cases z<;>kernel_rfl) e,cG [.aa (.bool d)] (H y<|H (iy w (a:=0) (ap G) (x.cT (ap G)))<|bM (lj g n c f q 0 v i k p (A (.bool z)) (A (.bool (!z))) l m) e)⟩
 |agc C D Q=>
  exact⟨aD (9,1),λe=>uB G rfl rfl (EG D) e,cG [.aa (.bool d)] (H y<|H (iy w (a:=1) (ap G) (x.cT (ap G)))<|bM (lj g n c f q 1 v i k p (A (aD C)) (A (aD (9,1))) l m) e)⟩
 |af4 C D=>
  exact⟨aD (9,1),λe=>uB G rfl rfl (EG D) e,cG [.aa (.bool d)] (H y<|H (iy w (a:=2) (ap G) (x.cT (ap G)))<|bM (lj g n c f q 2 v i k p (A (aD C)) (A (aD (9,1))) l m) e)⟩
 |afV F O=>
  exact⟨k9 3 7,λe=>uB (lp 3 (.afV F)) (lp 3 (.afV 7)) G (dU λa=>by
   have a:k9 3 F=k9 3 7:=a;injection a with a;injection a with _ a;injection a with _ a;injection a with a _;have:=fn (L.int.inj a);exact(Xm O this).elim) e,cG [.aa (.bool J)] (H y<|H (iy w (a:=3) (ap G) (x.cT (ap G)))<|bM (lj g n c f q 3 v i k p (A (k9 3 F)) (A (k9 3 7)) l m) e)⟩
 |aa R t u P=>exact(Xn P K).elim
def S0{a:I}{f:E (E L×L)}(c:e[a]?=A (.afM f))(h:f.length<400):D3 e (.ref a)=A (.ref e.length,e++[.list (f.map λb=>.ab [.ab b.1,b.2])]):=by
 show(fB e a).bind (λg=>a4 (bV g.length) (A (L.ref e.length,e++[aO.list (g.map λb=>.ab [.ab b.1,b.2])])))=_;rw[mU c,cJ,bH (cD h)]
def YJ(a:cA g o e)(c:o[n]?=A b)(f:b.q.length<400)(i:ah):∃x,aX i 35 [.ref (g+14),C n] e (.ref x) (e++[.afM []]++[.list (b.q.map λb=>.ab [.ab b.1,b.2])])/\(e++[aO.afM []]++[.list (b.q.map λb=>.ab [.ab b.1,b.2])])[x]?=A (.list (b.q.map λb=>.ab [.ab b.1,b.2])):=by
 obtain⟨j,h,k⟩:=a.zC c;exact⟨(e++[aO.afM []]).length,az [.aa (.ref (g+15)),.aa (.ref j),.w (.ref (e++[aO.afM []]).length) (e++[.afM []]++[.list (b.q.map λb=>.ab [.ab b.1,b.2])])] (H (a.br 2 rfl)<|H (oi a.aee .get rfl)<|H h<|H (S0 k f)<|aj (.ref (e++[aO.afM []]).length) (e++[.afM []]++[.list (b.q.map λb=>.ab [.ab b.1,b.2])])),cc _ _⟩
def SR{b:I}{c:E (E L×L)}(g:e[b]?=A (.afM c))(a:E L)(h:dH a=J){f:ah}(i:(c4 a c).isSome=f):bY e .agf (.ab a) (.ref b)=A f:=by
 show((fB e b).bind λj=>a4 (dH a) (A (c4 a j).isSome))=_;rw[mU g,cJ,bH h,i]
def Sq(a:cA g o e)(c:o[n]?=A x)(f:dH b=J)(i:c4 b x.q=A y)(j:ah):aX j 36 [.ref (g+14),C n,.ab b] e (.bool J) (e++[.afM []]):=by
 refine as λp k=>?_;obtain⟨l,h,m⟩:=a.zC c;refine k ?_;exact az [.aa (.ref (g+15)),.aa (.ref l),.b J] (H (a.br 2 rfl)<|H (oi a.aee .get rfl)<|H h<|H (SR m b f (f:=J) (by rw[i];rfl))<|aj (.bool J) (e++[.afM []]))
def Ph{a b:I}{f:E L}(c:e[a]?=A (.list f))(h:e[b]?=A (.list f))(i:f.all (bk 7)=J):bY e .eq (.ref a) (.ref b)=A J:=by
 show(ds e a).bind (λt=>(ds e b).bind λg=>a4 (t.all (bk 7)&&g.all (bk 7)) (A (a_ (.ab t) (.ab g))))=_;rw[hk c,cJ,hk h,cJ,bH (by rw[i];rfl),mW]
def aat:∀(b:E I)(f:E bD),(dZ b f).all (bk 5)=J:=by
 intro c
 induction c with
 |nil=>
  intro j;exact G
 |cons e b g=>
  intro h;cases h with
  |nil=>
   exact G
  |cons a f=>
   show(bk 5 (a.aP e)&&(dZ b f).all (bk 5))=J;rw[g f,vQ];cases a with
   |aa t u=>kernel_rfl
   |afV i=>kernel_rfl
   |_=>rfl
def OZ(b:E I)(h:I)(e:E (E bD×bD)):(e.map (h4 b h)).all (bk 7)=J:=by
 rw[IL];refine di.mpr λa f=>?_;show((dZ b a.1).all (bk 5)&&(bk 6 (a.2.aP h)&&J))=J;rw[aat,qm,vQ];cases a.2 with
 |aa t u=>kernel_rfl
 |afV c=>kernel_rfl
 |_=>rfl
noncomputable def YL:E c:=[.try [.agl 1 ac 17 [aS,dR,dJ],aE i6] 5 [aE (.and [ba (gU ac 35 [aS]) cQ,gU ac 36 [aS,dR],ba (gU ac 32 [aS,dR]) fU])]]
def YM(B:ca g w o s e)(h:hZ o s a)(K:o.length<400)(C:a.aeh=b::D)(len:D.length<=1)(N:e[i]?=A (.list (a.aeh.map (h4 a.afR a.g))))(n x:j L):∃q,e<+:q/\jx ([.agb (.afQ [10,11]) (.agi (.var 8) (.lit (.int 0))),.expr (.agg 1 (.var 1) 17 [(.var 3),(.var 10),(.var 11)])]++(Gq++YL)) (lj g a.aez a.aef n a.afR a.g x i k p v r l m) e (.bool J) q:=by
 have O:b∈a.aeh:=by rw[C];exact .head _
 refine as λgt y=>?_;obtain⟨f,z,E,ad⟩:=h.afc;obtain⟨dl,T⟩:=h.ie b O;obtain⟨u,U⟩:=h.x.w B.s;obtain⟨ge,V,ez⟩:=h.aeR;refine y ?_;have F:f.q.length<400:=by rw[E,bO];exact yy ((by rw[C];show D.length+1<=2;exact(hw len)):a.aeh.length<=2)
 have lk:c4 (dZ a.afR b.1) f.q=A (b.2.aP a.g):=by rw[E];exact(h.self b O).afQ
 have ok:=sj a.afR b.1;have P:=N;rw[((by rw[C];rfl):a.aeh.map (h4 a.afR a.g)=h4 a.afR a.g b::D.map (h4 a.afR a.g))]at P;have t:=B.more (.afM []);refine as λgt y=>?_;obtain⟨go,W,Y⟩:=abH (n:=a.aez) (i:=i) (k:=k) (p:=A (.ab (dZ a.afR b.1))) (r:=r) (l:=l) (m:=m) t.an t.s h.afh T a.aef n a.afR x;refine y ?_;have kf:eo [.agb (.afQ [10,11]) (.agi (.var 8) (.lit (.int 0))),.expr (.agg 1 (.var 1) 17 [(.var 3),(.var 10),(.var 11)])] (lj g a.aez a.aef n a.afR a.g x i k p v r l m) e (lj g a.aez a.aef n a.afR a.g x i k (A (.ab (dZ a.afR b.1))) (A (b.2.aP a.g)) r l m) (e++[.afM []]):=
  cG [.aa (h4 a.afR a.g b),.go,.w .none (e++[.afM []])] (H (gu P 0 rfl (cD (by show(D.map (h4 a.afR a.g)).length+1<400;rw[bO];exact Xo len)))<|H B.v.a2<|H (Zn B.v K z ok lk F)<|bM (lj g a.aez a.aef n a.afR a.g x i k (A (.ab (dZ a.afR b.1))) (A (b.2.aP a.g)) r l m) (e++[aO.afM []]))
 have fy:=t.more (.afM []);refine as λgt y=>?_;obtain⟨X,bz,Q⟩:=YJ fy.v z F d;refine y ?_;have e1:=(fy.more (.afM [])).more (.list (f.q.map λf=>.ab [.ab f.1,f.2]));have R:f.q.map (λf=>L.ab [.ab f.1,f.2])=a.aeh.map (h4 a.afR a.g):=by rw[E,mq];rfl
 have I:=b5 (f:=[.list (f.q.map λf=>.ab [.ab f.1,f.2])]) (b5 (f:=[.afM []]) (b5 (f:=[.afM []]) (b5 (f:=[.afM []]) N)));rw[<-R]at I;have S:=Ph Q I (by rw[R];exact OZ a.afR a.g a.aeh);generalize Z:e++[aO.afM []]++[.afM []]++[.afM []]++[.list (f.q.map λf=>.ab [.ab f.1,f.2])]=c at bz Q e1 I S;have fL:=e1.more (.afM []);have fS:=CT fL.an fL.v z h.p U ok d;rw[show h_ f a.g u (dZ a.afR b.1)=b.2.aP a.g by unfold h_;rw[lk];rfl]at fS;refine⟨c++[.afM []]++[.afM []],?_,(kf.and (Y.and (cZ [.af4 (.afU 5) (e++[.afM []]++[.afM []]),.w (.ref X) c,.b J,.w (.bool J) (c++[.afM []]),.w (b.2.aP a.g) (c++[.afM []]++[.afM []]),.b J]
  (H t.v.a2<|H (Zm t.an t.v K z ok lk F W V ez)<|H fy.v.a2<|H bz<|H S<|H e1.v.a2<|H (Sq e1.v z ok lk d)<|H fL.v.a2<|H fS<|H ((px _ (lp a.g b.2) (lp a.g b.2)).trans (bj A (mW _)):bY (c++[aO.afM []]++[.afM []]) .eq (b.2.aP a.g) (b.2.aP a.g)=A J)<|aj (.bool J) (c++[.afM []]++[.afM []])) (by kernel_rfl))))⟩
 rw[<-Z];simp only[mo];exact eZ _ _
def YK(m:ca g w o s e)(b:hZ o s a)(u:o.length<400)(i:e[a.aef]?=A (.afM (a.aeh.map fP))):∃q,e<+:q/\aX J 12 [.ref (g+1),.ref (g+14),a.aa] e (.bool J) q:=by
 have len:=b.afj;have p:=m.more (.list []);have k:=m.l;refine as λO v=>?_;refine YN (s:=M) (m:=M) (n:=M) (o:=M) (p:=M) (q:=M) p b (c:=e.length) k (b5 i) (ee (dB i)) a.aeh (λO x=>x) (w:=[]) (a:=e++[.list []]) (by show 0+a.aeh.length<=2;exact((g4 _).symm▸len)) ⟨cc _ _,λO O O=>rfl,c_ _⟩ _ λc f j y=>?_;refine y _ λz h=>?_;obtain⟨r,I,n⟩:=E.exists_cons_of_ne_nil b.af1;obtain⟨q,B,C⟩:=YM (k:=c) (p:=f) (v:=M) (r:=M) (l:=M) (m:=M) (p.same k h.same h.le) b u n (by rw[n]at len;exact v_ len) h.ae3 (A a.aa) (A a.x.bc);refine v ?_;have D:eb (e++[.list []]) .ie [.ref a.aef]=A (a.aeh.map (λr=>.ab (cS r.1)),[A (a.aef,.afM (a.aeh.map fP))],e++[.list []]):=by
  show(fB (e++[aO.list []]) a.aef).bind (λl=>a4 (bV l.length) (A (l.map (λK=>L.ab K.1),[A (a.aef,aO.afM l)],e++[.list []])))=_;rw[mU (b5 i),cJ,bH (cD (by rw[bO];exact yy len)),mq];rfl
 have N:eo (xP.body.take 3) (e3 15 [.ref (g+1),.ref (g+14),a.aa]) e (li g a e.length c f M M M M) j:=
  cG [.go,.af2 .next (li g a e.length c f M M M M) j] (H (i_ D z)<|bM (li g a e.length c f M M M M) j)
 refine⟨q,(yO λF t=>?_).trans B,jx.bf (B:=xP) G rfl (N.and C)⟩;rw[h.same F (by rw[bJ];omega) (ee t),eK t]
end
end
section
structure nS(a:L):Prop where
 ae3:bk 6 a=J
 afO:(dY a).showable=J
 dK:(dY a).leavesShort 401=J
 w:(dY a).weight<=810
def uk(e:a.natAbs<2^400):(ig a).showable=J/\(ig a).leavesShort 401=J/\(ig a).weight<=400:=by
 have b:a.natAbs.log2<400:=by
  by_cases c:a.natAbs=0
  .rw[c];decide
  .exact(Jy c).mpr e
 refine⟨cg (gC b (ap G)),cg ?_,?_⟩
 .show(bi (toString a)).length<=401;rw[ofString_length];exact int_text_length_le (k:=400) (ap G) b
 .show(if a==0 then 0 else a.natAbs.log2+1)<=400
  split<;>omega
def Ga(c:a.natAbs<2^400)(e:b.natAbs<2^400):nS (a1 a b):=by
 refine as λm f=>?_;obtain⟨g,h,i⟩:=uk c;obtain⟨j,k,l⟩:=uk e;refine f ?_;refine⟨G,?_,?_,?_⟩
 .show((ig a).showable&&((ig b).showable&&J))=J;rw[g,j];rfl
 .show((ig a).leavesShort 401&&((ig b).leavesShort 401&&J))=J;rw[h,k];rfl
 .show(ig a).weight+1+((ig b).weight+1+0)<=810;exact Xp i l
def GZ(c:j4 a=J)(e:(J7 a).leavesShort 401=J)(f:a.cps.size<=4)(h:b.natAbs<2^400)(i:g.natAbs<2^400):nS (.ab [.str a,.int b,.int g]):=by
 refine as λq j=>?_;obtain⟨k,l,m⟩:=uk h;obtain⟨n,o,p⟩:=uk i;refine j ?_;refine⟨?_,?_,?_,?_⟩
 .show(j4 a&&J)=J;rw[c];rfl
 .show(J&&((ig b).showable&&((ig g).showable&&J)))=J;rw[k,n];rfl
 .show((J7 a).leavesShort 401&&((ig b).leavesShort 401&&((ig g).leavesShort 401&&J)))=J;rw[e,l,o];rfl
 .show a.cps.size+1+((ig b).weight+1+((ig g).weight+1+0))<=810;exact Xq f m p
def dq.zB{aB:E I}{h i:I}{e:bD}(a:dq aB h i e)(c:h<=40):nS (e.aP i):=by
 have f {g:I} (k:g<=64):(g:O).natAbs<2^400:=r_ (m:=g) k;cases a with
 |b o=>exact⟨G,G,G,fY _⟩
 |agc e a p=>exact Ga (a.hO c).y (a.hO c).aei
 |af4 e a=>exact Ga (a.hO c).y (a.hO c).aei
 |afV q l=>exact GZ (by kernel_rfl) (by kernel_rfl) (ap G) (f (ap G)) (f (bG (e_ l) (ap G)))
 |aa v r s t u m j n=>exact GZ (by kernel_rfl) (by kernel_rfl) (ap G) (f (e_ (vj j n))) (f (Xs m j))
def ZR:∀(a:E L),(∀b∈a,nS b)->a.all (bk 6)=J/\J5 (dP a)=J/\J3 401 (dP a)=J/\AK (dP a)<=811*a.length:=by
 intro f
 induction f with
 |nil=>
  intro n;exact⟨G,G,G,c_ _⟩
 |cons b a g=>
  intro c;have e:=c b (.head _);refine as λn h=>?_;obtain⟨i,j,k,l⟩:=g λb m=>c b (.tail _ m);refine h ?_;refine⟨?_,?_,?_,?_⟩
  .show(bk 6 b&&a.all (bk 6))=J;rw[e.ae3,i];rfl
  .show((dY b).showable&&J5 (dP a))=J;rw[e.afO,j];rfl
  .show((dY b).leavesShort 401&&J3 401 (dP a))=J;rw[e.dK,k];rfl
  .show(dY b).weight+1+AK (dP a)<=811*(a.length+1);have:=e.w;exact Xt this l
def GB(b:∀g∈a,nS g)(j:a.length<=30):∃h,r6 a=A h:=by
 refine as λm c=>?_;obtain⟨e,f,i,k⟩:=ZR a b;refine c ?_;have len:=PyData.shown_le 401 (ap G) (.list (dP a)) i;have l:(J4 (dP a)).weight=AK (dP a):=G;refine⟨_,bH ?_⟩;rw[e,show(J4 (dP a)).showable=J from f,cg (by rw[wM];omega)];rfl
def uv{a:N}{c:I}{b:E L}(f:a[c]?=A (.list b)){e:am}(g:r6 b=A e):eW a .agm [.ref c]=A (.str e,a):=by
 show(ds a c).bind (λb=>(r6 b).map λh=>(L.str h,a))=_;rw[hk f,cJ,g];rfl
section
variable{f g:I}{h:E bA}{b:bp}{e c:N}{a:I}
def M9(e:N)(a:I):wY e (.ab [C a]) [a]:=⟨λb=>⟨[],G,λb=>rfl⟩⟩
def M8{a:I}{b:E I}(f:e[a]?=A (.list (b.map C)))(g:b.length<400):wY e (.ref a) b:=
 ⟨λ{c} h=>⟨[A (a,.list (b.map C))],gx ((h a (dB f)).trans f) (jG _ g),λ{j} i=>de ((i a (dB f)).trans f)⟩⟩
def DA(k:ca f g h b e)(l:a≠0)(m:a<b.h.length):∃c,e<+:c/\aX J 10 [.ref (f+1),.ref (f+14),C a] e (fI b a) c:=by
 refine as λr n=>?_;obtain⟨c,j,⟨i,rfl⟩,o⟩:=Dq k (i:=[a]) (λq p=>by rw[b2.mp p];exact⟨l,m⟩) (M9 e a);refine n ?_;refine⟨_,o,?_⟩;rw[((by rw[bJ];rfl):(i++[aO.list ([a].map (fI b))]).length-1=i.length)]at j;exact az [.w (.ref i.length) (i++[.list ([a].map (fI b))]),.aa (fI b a)] (H j<|H (gu (cc i (.list ([a].map (fI b)))) 0 rfl rfl)<|aj (fI b a) (i++[.list ([a].map (fI b))]))
def aaN(i:ca f g h b e)(j:a≠0)(k:a<b.h.length):∃c,e<+:c/\aX J 11 [.ref (f+14),C a] e (fI b a) c:=by
 obtain⟨c,l,m⟩:=DA i j k;exact⟨c,l,az [.aa (.ref (f+1)),.w (fI b a) c] (H (i.v.br 1 rfl)<|H m<|aj (fI b a) c)⟩
end
end
section
noncomputable def pW:E dr:=[⟨⟨bi "",[],0,.int 0⟩,.none⟩,⟨⟨bi "true",[],0,.int 0⟩,.bool J⟩,⟨⟨bi "false",[],0,.int 0⟩,.bool d⟩]
noncomputable def kb:bp:=⟨[0,0,0,0],[a5 "Bool",a5 "Int",a5 "Real",a5 "U"],[],[],pW⟩
noncomputable def hd(b:I)(aB:E I)(a1:E L):E aO:=[.afS (xx b),.c8 0 b,.list a1,.list (aB.map C),.list [],.list [],.list [],.list (pW.map λa=>.str a.afN.dg),.list (pW.map λa=>.ab (a.afN.args.map C)),.list (pW.map λa=>C a.afN.c9),.list (pW.map λa=>a.afN.data),.afM (gK 1 (pW.drop 1)),.afP [],
 .afS [(1,.ref (b+1)),(2,.ref (b+15)),(3,.ref (b+16))],.c8 1 (b+13),.afP [],.afP []]
noncomputable def fu(a:I)(b c e f:j L):aK:=[M,A (.ref a),b,c,e,f,M,M,M,M,M,M,M,M,M,M,M,M]
noncomputable def l3:E L:=[a5 "Bool",a5 "Int",a5 "Real"]
noncomputable def sc:E c:=[bl 2 (.new 0 []),bl 3 (.new 1 [ao])]
def ZF(a b:aO):eo sc (fu 1 M M M M) [a,b] (fu 1 (A (.ref 3)) (A (.ref 16)) M M) ([a,b]++hd 2 [0,0,0] l3):=
 cG [] (bM (fu 1 (A (.ref 3)) (A (.ref 16)) M M) ([a,b]++hd 2 [0,0,0] l3))
def ZG(a b c e f:aO):eo sc (fu 4 M M M M) [a,b,c,e,f] (fu 4 (A (.ref 6)) (A (.ref 19)) M M) ([a,b,c,e,f]++hd 5 [0,0,0] l3):=
 cG [] (bM (fu 4 (A (.ref 6)) (A (.ref 19)) M M) ([a,b,c,e,f]++hd 5 [0,0,0] l3))
def ez(a b:aO):aX J 3 [.ref 3,a5 "U"] ([a,b]++hd 2 [0,0,0] l3) (C 3) ([a,b]++hd 2 [0,0,0,0] kb.names):=by kernel_rfl
def ib(a b c e f:aO):aX J 3 [.ref 6,a5 "U"] ([a,b,c,e,f]++hd 5 [0,0,0] l3) (C 3) ([a,b,c,e,f]++hd 5 [0,0,0,0] kb.names):=by kernel_rfl
section
variable{f e:I}{b:N}{g:E bA}
def hc(b:N)(a:E aO)(c:I):(b++a)[b.length+c]?=a[c]?:=by
 rw[qr (d8 _ _),I.add_sub_cancel_left]
def DI(b:N)(aB:E I)(a1:E L):Fl b.length (b++hd b.length aB a1):=⟨hc b _ 0,hc b _ 1⟩
theorem Tu(b:N):bn b.length kb (b++hd b.length [0,0,0,0] kb.names)where
 toFl:=DI b _ _
 names:=hc b _ 2
 a:=hc b _ 3
 cl:=hc b _ 4
 t:=hc b _ 5
 cq:=hc b _ 6
 aes:=hc b _ 7
 args:=hc b _ 8
 aex:=hc b _ 9
 aeu:=hc b _ 10
 aep:=hc b _ 11
 aer:=hc b _ 12
 bI:=by decide
 aeF:=by decide
 afW:=G
 aen:=by decide
 aek:=G
theorem T9(b:N):cA b.length [] (b++hd b.length [0,0,0,0] kb.names)where
 ael:=hc b _ 13
 aem:=hc b _ 14
 aee:=hc b _ 15
 aej:=hc b _ 16
 q _ a:=nomatch a
 bare _ a:=nomatch a
def abq:bs f g (ki "true" []) 0 [] (.bool J):=
 bs.mk (by kernel_rfl) λb e h i a c j k=>⟨b,b_ b,az (k4 f (bi "true") []) (lS a c<|aj (.bool J) b)⟩
def abd:bs f g (ki "false" []) 0 [] (.bool d):=
 bs.mk (by kernel_rfl) λb e h i a c j k=>⟨b,b_ b,az (k4 f (bi "false") []) (lS a c<|aj (.bool d) b)⟩
theorem Sl(f:I):dL f [] kb where
 pos:=by decide
 row c g h a:=by
  match c,a with
  |1,a=>obtain rfl:=aG a;exact⟨λe a=>(nomatch a),fY 3,by kernel_rfl,G,⟨0,[],G,G,abq⟩,λb=>bC b (by show bi "true"≠bi "not";decide),λb=>bC b (by show bi "true"≠h1;decide)⟩
  |2,a=>obtain rfl:=aG a;exact⟨λe a=>(nomatch a),fY 3,by kernel_rfl,G,⟨0,[],G,G,abd⟩,λb=>bC b (by show bi "false"≠bi "not";decide),λb=>bC b (by show bi "false"≠h1;decide)⟩
 aeV:=G
 ae6 _ a:=nomatch a
 aeU:=G
 ae0:=G
noncomputable def vo:E c:=[bl 4 (aU [cj 0,cj 1,cj 2,aN ao 3 [aL "U"],aN ao 4 [dd a0 (jC (ar ac aQ) gL)]]),bl 5 (.list [ar ac a0])]
def T_(b:N)(e:O)(g:0<a):c2 b .mod (.int e) (C a)=A (C (e.fmod a).toNat,b)/\(e.fmod a).toNat<a:=by
 have c:(0:O)<a:=j2.mpr g;have f:=sE (Iw e c);refine⟨?_,Fm f (Iv e c)⟩;show((a4 (decide ((a:O)≠0)) (A (z2 e a))).map L.int).map _=_;refine(bH (cg (kH c))).symm▸?_;exact bj (λh=>A (L.int h,b)) f.symm
noncomputable def lm:L:=.ab [C 0,C 1,C 2,C 3,C 4]
def tu(f e:I)(g:E O)(a:bp)(b:N)(j:O)(h:Prop):Prop:=ca f b.length [] a b->(∀c,c<5->∃i,a.a[c]?=A i)->a.a.length<=5->a.h.length<=4->a.p.length=0->b[e]?=A (.list (g.map .int))->e<f->h
def Eu(b:N)(r:aX J 3 [.ref (b.length+1),a5 "U"] (b++hd b.length [0,0,0] l3) (C 3) (b++hd b.length [0,0,0,0] kb.names))(s:b[e]?=A (.list (h.map .int)))(o:3<=h.length)(E:h.length<=12):
 aA (gi (λl a i=>fy (eo vo (fu e (A (.ref (b.length+1))) (A (.ref (b.length+14))) M M) (b++hd b.length [0,0,0] l3) (fu e (A (.ref (b.length+1))) (A (.ref (b.length+14))) (A lm) (A (.ref a.length))) (a++[.list [.int i]])) (aA (tu b.length e h l a i)))):=by
 obtain⟨m,F⟩:∃i,h[0]?=A i:=⟨_,e8 (JU o)⟩;obtain⟨k,K⟩:∃i,h[1]?=A i:=⟨_,e8 (JB o)⟩;have p:ca b.length _ [] kb (b++hd b.length [0,0,0,0] kb.names):=ca.of (Tu b) (T9 b) (Sl _) (by rw[bJ];exact c_ _);have n:=b5 (f:=hd b.length [0,0,0,0] kb.names) s;have t:=dB s;generalize Q:b++hd b.length [0,0,0,0] kb.names=a at r p n;obtain⟨u,q⟩:=T_ a m (a:=3) (ap G);generalize(m.fmod (3:I)).toNat=c at u q;refine rn p (h:=1+c) (d8 1 _) (Xu q) (ap G) _ λv l f w=>?_;refine w _ λO g x=>?_;clear w;have y:l.a.length<=5:=g.le.ae5;have z:=(d6.mp x).1;obtain rfl:v=4:=(Jw (nu (dz z y)) (g.m.s.jZ x (yt q)));have B:bV (h.map L.int).length=J:=cD (by rw[bO];exact yC o E);have D:f[e]?=A (.list (h.map .int)):=(g.cq.same e (dB n) (.inl t)).trans n;refineλR j=>j l f k (λR j=>j (cG [.w (C 3) a,.aa (.int m),.aa (C c),.aa (C (1+c)),.w (C 4) f,.aa (.int k)]
  (H (DI b [0,0,0] l3).a2<|H r<|H p.an.a2<|H (gu n 0 (jH F L.int) B:ck a (.ref e) (C 0)=A (.int m))<|H u<|H (G:c2 a .add (C 1) (C c)=A (C (1+c),a))<|H O<|H (gu D 1 (jH K L.int) B:ck f (.ref e) (C 1)=A (.int k))<|bM (fu e (A (.ref (b.length+1))) (A (.ref (b.length+14))) (A lm) (A (.ref f.length))) (f++[aO.list [.int k]])) (by kernel_rfl)) (λR j=>j g.m.qc (λv P=>?_) y ?_ ?_ D t))
 .exact⟨_,e8 (dz P z)⟩
 .exact g.le.aeE
 .rw[g.le.p];rfl
end
end
section
noncomputable def sb:E c:=[a9 (f6 (dm ac) gL) [bl 1 (dd ac (.slice (.list [ct,hh 90210,hh 1298,hh 778,hh 41,hh 5003,hh 1729]) (dm ac) h7))]]
noncomputable def cp(a:E O):aO:=.list (a.map .int)
def Nc(a:E O)(n:a.length<=12):aA (mB (λh m i l b g=>fL (3<=i.length) (i.length<=12) (eo (sb++(sc++vo)) (fu 1 M M M M) [cp a,cp a] (fu m (A (.ref (h+1))) (A (.ref (h+14))) (A lm) (A (.ref b.length))) (b++[.list [.int g]])) (aA (tu h m i l b g)))):=by
 by_cases j:3<=a.length
 .refine as λD p=>?_;refine Eu (e:=1) [cp a,cp a] (ez (cp a) (cp a)) G j n _ λl b g w=>?_;refine w _ λq r=>?_;refine p ?_;have x:eW [cp a,cp a] .len [.ref 1]=A (C a.length,[cp a,cp a]):=(fb (b:=[cp a,cp a]) (c:=1) G (by rw[bO];exact yC j n)).trans (by rw[bO]);have s:eo sb (fu 1 M M M M) [cp a,cp a] (fu 1 M M M M) [cp a,cp a]:=cG [.aa (C a.length),.b d] (H x<|H (bj A (dU (λy=>nl.mpr y (gW.mpr j))):bY [cp a,cp a] .lt (C a.length) (.int 3)=A d)<|bM (fu 1 M M M M) [cp a,cp a]);exactλD f=>f 2 1 a l b g (λD f=>f j n (s.eJ ((ZF (cp a) (cp a)).eJ q)) r)
 .have short (e:E O) (o:E O) (t:3<=o.length) (u:o.length<=12) (v:aO) (s:eo sb (fu 1 M M M M) [cp e,cp e] (fu 4 M M M M) [cp e,cp e,cp [2,90210,1298,778,41,5003,1729],v,cp o]):aA (mB (λh m i l b g=>fL (3<=i.length) (i.length<=12) (eo (sb++(sc++vo)) (fu 1 M M M M) [cp e,cp e] (fu m (A (.ref (h+1))) (A (.ref (h+14))) (A lm) (A (.ref b.length))) (b++[.list [.int g]])) (aA (tu h m i l b g)))):=by
   refine as λD p=>?_;refine Eu (e:=4) [cp e,cp e,cp [2,90210,1298,778,41,5003,1729],v,cp o] (ib _ _ _ _ _) G t u _ λl b g z=>?_;refine z _ λq r=>?_;refine p ?_;exactλD f=>f 5 4 o l b g (λD f=>f t u (s.eJ ((ZG _ _ _ _ _).eJ q)) r)
  match a,j with
  |[],_=>exact short [] [2,90210,1298,778,41,5003,1729] (show 3<=7 by decide) (show 7<=12 by decide) (cp [2,90210,1298,778,41,5003,1729]) (cG [] (bM (fu 4 M M M M) [cp [],cp [],cp [2,90210,1298,778,41,5003,1729],cp [2,90210,1298,778,41,5003,1729],cp [2,90210,1298,778,41,5003,1729]]))
  |[c],_=>exact short [c] [c,90210,1298,778,41,5003,1729] (show 3<=7 by decide) (show 7<=12 by decide) (cp [90210,1298,778,41,5003,1729]) (cG [] (bM (fu 4 M M M M) [cp [c],cp [c],cp [2,90210,1298,778,41,5003,1729],cp [90210,1298,778,41,5003,1729],cp [c,90210,1298,778,41,5003,1729]]))
  |[c,k],_=>exact short [c,k] [c,k,1298,778,41,5003,1729] (show 3<=7 by decide) (show 7<=12 by decide) (cp [1298,778,41,5003,1729]) (cG [] (bM (fu 4 M M M M) [cp [c,k],cp [c,k],cp [2,90210,1298,778,41,5003,1729],cp [1298,778,41,5003,1729],cp [c,k,1298,778,41,5003,1729]]))
  |_::_::_::_,B=>exact bC (mr 3 _) B
section
variable{b e g f i:I}{o:E bA}{m:bp}{P:E aY}{l:E cK}{a p:N}{q:E L}{n:I}{k h r s:j L}
noncomputable def GI:E c:=[bl 6 (aV 5 [ao,aS,bv,bN]),bl 7 (aV 6 [ao,aS,bv,bN]),.for (.aa 8) .val [.slice ac ct h7] uq]
def OY(a:E O)(b:3<=a.length):fh (A 2) M (a.map L.int)=(a.drop 2).map L.int:=by
 show((a.map L.int).take (a.map L.int).length).drop (jQ 2 (a.map L.int).length)=_;rw[v7,bO,show jQ 2 a.length=2 from(Gk 2 _).trans (Ay (sR b)),E.map_drop]
def T6(Y:aA (tu b e t m a u))(C:3<=t.length)(D:t.length<=12):aA (LN (λg f ge o go P l q n h p=>fL (eo GI (fu e (A (.ref (b+1))) (A (.ref (b+14))) (A lm) (A (.ref a.length))) (a++[.list [.int u]]) (kr b g f e a.length (A lm) h) p) (aA (kg b g f ge o l q n go P p)) (n<=10) (o.length<400))):=by
 refine Y _ λZ E ad dl gt F kw=>?_;have K:=Z;have N:=K.aet;have s:(a++[aO.list [.int u]]).length=a.length+1:=bJ;refine as λSL k=>?_;refine OG (λSL c=>c ((K.more (.list [.int u])).more (.list [])).qc ⟨u,b5 (cc a _)⟩ N (λld r=>(nomatch r)) (cc _ _) (FC N s) (FE s) (λld r=>(nomatch r)) gt (λP3 r=>(nomatch r)) G dl ad:aA (kc b a.length (a++[aO.list [.int u]]).length [] m [] (a++[.list [.int u]]++[.list []]))) E _ λSt le P O lo=>?_;refine lo _ λmp v of=>?_;refine Z4 v (λj w=>by obtain⟨x,st⟩:=E j w;exact⟨x,d4 v.a st⟩:∀j,j<5->∃x,le.a[j]?=A x) _ λQ wp l i A1=>?_;refine A1 _ λR S T SB A5=>?_;refine k ?_;generalize(O++[kC]).length=f at R S;refine S _ λV SL SL SL U B0 SL B2 SL SL SL W B3 SL SL B8 SL Ch Cl SL C9 Da SL D5 Fr FB=>?_;have X:=kw;have q:=dB F;have GM:i[e]?=A (.list (t.map .int)):=by
  rw[A5 e X,of e X,eK (by rw[s];exact(I.lt_add_right 1 q)),eK q];exact F
 have Id:m9 i (.ref e) (A 2) M=A (.ref i.length,i++[.list ((t.drop 2).map .int)]):=by
  show(ds i e).bind (λt=>a4 (bV t.length) (A (L.ref i.length,i++[aO.list (fh (A 2) M t)])))=_;rw[hk GM,cJ,bH (cD (by rw[bO];exact yC C D)),OY t C]
 have SC:=dB W;have IO:aA (kg b (a++[aO.list [.int u]]).length f i.length Q l ((t.drop 2).map .int) 0 wp P (i++[.list ((t.drop 2).map .int)])):=λSL c=>c (V.more _).qc (b5 U) B0 B2 (b5 W) ⟨fG B3,B8⟩ (λKB KF=>by
  refine as λSL k=>?_;obtain⟨KK,KM,SL,KT⟩:=Ch KB KF;refine k ?_;exact⟨b5 KK,Xv KM,KT⟩) T (cc _ _) ⟨fG V.aet,fK (dB U)⟩ C9 (λj w=>v.has j w) Cl D5 (by have:=Fr;exact(Av this)) (by have:=FB;exact(Av this))
 have y:(t.drop 2).length<=10:=by rw[qu];exact(I.sub_le_of_le_add D)
 refine as λSL k=>?_;refine kg.acj (kw:=e) (le:=a.length) (mp:=A lm) (t.drop 2) M IO (FM y) _ λz Ns On B Os=>?_;refine Os _ λPi Pv=>?_;refine k ?_;exactλSL c=>c _ f _ Q Ns On l _ _ z B (λSL c=>c (cG [.w (.ref (a++[aO.list [.int u]]).length) O,.w (.ref f) i,.w (.ref i.length) (i++[.list ((t.drop 2).map .int)]),.af2 .next (kr b (a++[aO.list [.int u]]).length f e a.length (A lm) z) B]
  (H mp<|H R<|H Id<|H (i_ (gx (cc i (.list ((t.drop 2).map .int))) (cD (by rw[bO];exact Xw y))) Pi)<|bM (kr b (a++[aO.list [.int u]]).length f e a.length (A lm) z) B) (by kernel_rfl)) Pv (FM y) (by rw[Da,T];decide))
noncomputable def ks(b g f e i:I)(k h r s:j L):aK:=[M,A (.ref e),A (.ref (b+1)),A (.ref (b+14)),k,A (.ref i),A (.ref g),A (.ref f),h,r,s,M,M,M,M,M,M,M]
def O0(l:ca b z o m a)(c:d_ a x=J):∀(u:E aY),o9 m n u->e2 x (.afQ [11,12,13]) (ks b g f e i k h r s) (λv w=>dQ (aR J bx bP v (.lit (.bool J)) w)) (λv w=>aR J bx bP v (.call 8 [(.var 2),(.var 12),(.var 13)]) w) (u.map aY.aa) a=A (u.map λt=>t.o.aP t.afO,a):=by
 intro j
 induction j with
 |nil=>
  intro B;exact bH c
 |cons t u p=>
  intro ok;exact pr c G (rx [.aa (t.o.aP t.afO)] (H (oq l.an l.s (ok t (.head _)).l)<|rs (t.o.aP t.afO) a)) (p λq y=>ok q (.tail _ y))
def Z_(c:d_ a w=J):∀(t:E aY),e2 w (.afQ [14,15,16]) (ks b g f e i k h r s) (λu v=>dQ (aR J bx bP u (.lit (.bool J)) v)) (λu v=>aR J bx bP u (.var 14) v) (t.map aY.aa) a=A ((t.map aY.afQ).map C,a):=by
 intro j
 induction j with
 |nil=>
  exact bH c
 |cons m t l=>
  exact pr c G rfl (l)
def YI(B:ca b T o m w)(C:o.length<400)(c:w[f]?=A (.list (l.map cK.aa)))(D:∀t∈l,w[t.aef]?=A (.afM (t.aeh.map fP)))(ok:∀t∈l,hZ o m t):∀(v:E cK),(∀t∈v,t∈l)->∀{a:N},w<+:a->∃p,a<+:p/\e2 [A (f,.list (l.map cK.aa))] (.aa 17) (ks b g f e i k h r s) (λx u=>dQ (aR J bx bP x (.lit (.bool J)) u)) (λx u=>aR J bx bP x (.call 12 [(.var 2),(.var 3),(.var 17)]) u) (v.map cK.aa) a=A (v.map λR=>.bool J,p):=by
 intro F
 induction F with
 |nil=>
  intro R a q;exact⟨a,b_ a,bH (de (d4 q c))⟩
 |cons t v I=>
  intro j a q;have n:=j t (.head _);refine as λR K=>?_;obtain⟨y,z,L⟩:=YK (B.pre q) (ok t n) C (d4 q (D t n));obtain⟨u,O,P⟩:=I (λt Q=>j t (.tail _ Q)) (q.trans z);refine K ?_;exact⟨u,z.trans O,pr (de (d4 q c)) G (rx [.w (.bool J) y] (H L<|rs (.bool J) y)) P⟩
noncomputable def y8:E c:=[bl 9 (.comp (aV 8 [ao,dJ,hN]) (.afQ [11,12,13]) .val [bS] eQ),bl 10 (.comp iF (.afQ [14,15,16]) .val [bS] eQ)]
noncomputable def y9:E c:=[a9 (gl (nb (aV 9 [ao,aS,dR])) (nb ec)) [aE i6]]
noncomputable def y_:E c:=[a9 (gl (nb (.list [aV 10 [ao,aS,ar dR (.neg a0)],gU aS 11 [ar dR (.neg a0)]])) (nb (.list [ar ec (.neg a0),ar ec (.neg a0)]))) [aE i6]]
noncomputable def GJ:E c:=[aE (zu (.comp (aV 12 [ao,aS,jU]) (.aa 17) .val [cI] eQ))]
def Tq:pz.body.drop 1=(sb++(sc++vo))++(GI++(y8++(y9++(y_++GJ)))):=by kernel_rfl
def Gu(a:N)(b:am):bY a .af1 (.str b) (.str b)=A d:=by
 show A (b !=b)=_;rw[Ky]
def Gf(a:fM m n t):fI m t.afQ=t.o.aP t.afO:=by
 unfold fI;rw[a.r.val];rfl
def O9(Cl:aA (kg b g f Tm o l q n m P a))(y:n<=10)(C9:o.length<400):∃p,jx (y8++(y9++(y_++GJ))) (kr b g f e i k h) a (.bool J) p:=by
 refine Cl _ λDa R P3 P3 D5 P3 Fr FB P3 P3 B P3 GM Id P3 P3=>?_;have c:=Id;have ge:=Da;have go:bV (P.map aY.aa).length=J:=cD (by rw[bO];exact FN c y);have gt:=b5 (f:=[.list (P.map λs=>s.o.aP s.afO)]) R;have fy:=(ge.more (.list (P.map λs=>s.o.aP s.afO))).more (.list ((P.map aY.afQ).map C));have kw:=b5 (f:=[.list ((P.map aY.afQ).map C)]) (cc a (.list (P.map λs=>s.o.aP s.afO)));have F:=cc (a++[.list (P.map λs=>s.o.aP s.afO)]) (.list ((P.map aY.afQ).map C));have S:=b5 (f:=[.list ((P.map aY.afQ).map C)]) (b5 (f:=[.list (P.map λs=>s.o.aP s.afO)]) D5);have ld:∀Q∈l,(a++[.list (P.map λs=>s.o.aP s.afO)]++[.list ((P.map aY.afQ).map C)])[Q.aef]?=A (.afM (Q.aeh.map fP)):=λQ T=>b5 (b5 (Fr Q T).1);have V:eo y8 (kr b g f e i k h) a (ks b g f e i k h (A (.ref a.length)) (A (.ref (a++[aO.list (P.map λs=>s.o.aP s.afO)]).length))) (a++[.list (P.map λs=>s.o.aP s.afO)]++[.list ((P.map aY.afQ).map C)]):=
  cG [.dK (P.map λs=>s.o.aP s.afO) a,.dK ((P.map aY.afQ).map C) (a++[.list (P.map λs=>s.o.aP s.afO)])] (H (pZ (gx R go) (O0 (g:=g) (f:=f) (e:=e) (i:=i) (k:=k) (h:=h) (r:=M) (s:=M) ge (de R) P B))<|H (pZ (gx gt go) (Z_ (b:=b) (g:=g) (f:=f) (e:=e) (i:=i) (k:=k) (h:=h) (r:=A (.ref a.length)) (s:=M) (de gt) P))<|bM (ks b g f e i k h (A (.ref a.length)) (A (.ref (a++[aO.list (P.map λs=>s.o.aP s.afO)]).length))) (a++[aO.list (P.map λs=>s.o.aP s.afO)]++[.list ((P.map aY.afQ).map C)]))
 have IO:P.map (λs=>s.o.aP s.afO)=(P.map aY.afQ).map (fI m):=by
  rw[mq];exact Ap λs D=>(Gf (B s D)).symm
 have KB:∀j∈P.map (λs=>s.o.aP s.afO),nS j:=λj u=>by
  obtain⟨s,D,rfl⟩:=fx.mp u;exact(B s D).l.zB (yD c y)
 obtain⟨U,le⟩:=GB KB (by rw[bO];exact Xy c y);obtain⟨t,r,rfl⟩:∃t r,P=t++[r]:=by
  rcases E.eq_nil_or_concat P with Y|⟨t,r,Y⟩
  .rw[Y]at c;exact bC c (by show¬0=15+n;omega)
  .exact⟨t,r,Y.trans (E.concat_eq_append ..)⟩
 have K:=B r (jj _ (.head _));have lo:=K.r.bI.lt;generalize Os:a++[aO.list ((t++[r]).map λs=>s.o.aP s.afO)]++[aO.list (((t++[r]).map aY.afQ).map C)]=KF at fy kw F S ld V;generalize(a++[aO.list ((t++[r]).map λs=>s.o.aP s.afO)]).length=v at F V;obtain⟨w,I,⟨N,rfl⟩,z⟩:=Dq fy (i:=(t++[r]).map aY.afQ) (λPi KK=>by
  obtain⟨s,D,rfl⟩:=fx.mp KK;exact⟨(B s D).r.aew,(B s D).r.bI.lt⟩) (M8 F (by rw[bO];exact FN c y))
 rw[<-IO]at I z;rw[((by rw[bJ];rfl):(N++[aO.list ((t++[r]).map λs=>s.o.aP s.afO)]).length-1=N.length)]at I;have mp:=uv (cc N (.list ((t++[r]).map λs=>s.o.aP s.afO))) le;have W:=d4 z kw;have of:=uv W le;have X:=d4 z F;have e1:=fy.pre z;generalize N++[aO.list ((t++[r]).map λs=>s.o.aP s.afO)]=w at I z mp W of X e1;have fz:eo y9 (ks b g f e i k h (A (.ref a.length)) (A (.ref v))) KF (ks b g f e i k h (A (.ref a.length)) (A (.ref v))) w:=
  cG [.w (.ref N.length) w,.aa (.str U),.aa (.str U),.b d] (H I<|H mp<|H of<|H (Gu w U)<|bM (ks b g f e i k h (A (.ref a.length)) (A (.ref v))) w)
 obtain⟨st,Z,wp⟩:=DA e1 K.r.aew lo;have fL:=e1.pre Z;obtain⟨x,KM,A1⟩:=aaN fL K.r.aew lo;rw[Gf K]at wp A1;have KT:∀j∈[r.o.aP r.afO,r.o.aP r.afO],nS j:=λj u=>by
  rcases em.mp u with rfl|u
  .exact K.l.zB (yD c y)
  .rw[b2.mp u];exact K.l.zB (yD c y)
 obtain⟨ad,A5⟩:=GB KT (by show 2<=30;decide);have B0:((t++[r]).map aY.afQ).map C=(t.map aY.afQ).map C++[C r.afQ]:=by rw[el,el];rfl
 have dl:t.length<100:=by rw[bJ]at c;have:t.length+1=15+n:=c;exact Xz this c y
 have B2:w<+:x++[.list [r.o.aP r.afO,r.o.aP r.afO]]:=(Z.trans KM).trans (eZ _ _);have B3:ck (x++[.list [r.o.aP r.afO,r.o.aP r.afO]]) (.ref a.length) (.int (-1))=A (r.o.aP r.afO):=uj (by rw[d4 B2 W,((by rw[el];rfl):(t++[r]).map (λs=>s.o.aP s.afO)=t.map (λs=>s.o.aP s.afO)++[r.o.aP r.afO])]) (by rw[bO];exact dl);have B8:=B2.trans (eZ _ [aO.list [r.o.aP r.afO,r.o.aP r.afO]]);have Ns:eo y_ (ks b g f e i k h (A (.ref a.length)) (A (.ref v))) w (ks b g f e i k h (A (.ref a.length)) (A (.ref v))) (x++[.list [r.o.aP r.afO,r.o.aP r.afO]]++[.list [r.o.aP r.afO,r.o.aP r.afO]]):=
  cG [.aa (C r.afQ),.w (r.o.aP r.afO) st,.aa (C r.afQ),.w (r.o.aP r.afO) x,.aa (.str ad),.aa (r.o.aP r.afO),.aa (r.o.aP r.afO),.aa (.str ad),.b d]
   (H (uj (by rw[X,B0]) (by rw[bO,bO];exact dl):ck w (.ref v) (.int (-1))=A (C r.afQ))<|H wp<|H fL.v.a2<|H (uj (by rw[d4 Z X,B0]) (by rw[bO,bO];exact dl):ck st (.ref v) (.int (-1))=A (C r.afQ))<|H A1<|H (uv (cc x (.list [r.o.aP r.afO,r.o.aP r.afO])) A5)<|H B3<|H B3<|H (uv (cc (x++[.list [r.o.aP r.afO,r.o.aP r.afO]]) (.list [r.o.aP r.afO,r.o.aP r.afO])) A5)<|H (Gu (x++[.list [r.o.aP r.afO,r.o.aP r.afO]]++[.list [r.o.aP r.afO,r.o.aP r.afO]]) ad)<|bM (ks b g f e i k h (A (.ref a.length)) (A (.ref v))) (x++[aO.list [r.o.aP r.afO,r.o.aP r.afO]]++[.list [r.o.aP r.afO,r.o.aP r.afO]])) (by kernel_rfl)
 obtain⟨O,Pv,On⟩:=YI (g:=g) (e:=e) (i:=i) (k:=k) (h:=h) (r:=A (.ref a.length)) (s:=A (.ref v)) fy C9 S ld GM l (λP3 T=>T) (z.trans B8);have Ch:=Cg (cc O (.list (l.map λP3=>L.bool J))) (di.mpr λj u=>by obtain⟨P3,P3,rfl⟩:=fx.mp u;rfl);rw[(di.mpr λj u=>by obtain⟨P3,P3,rfl⟩:=fx.mp u;rfl:((l.map λP3=>L.bool J).all λj=>(cN j).getD d)=J)]at Ch;exact⟨O++[.list (l.map λP3=>L.bool J)],V.and (fz.and (Ns.and (cZ [.dK (l.map λP3=>L.bool J) O,.aa (.bool J)] (H (pZ (gx (d4 (z.trans B8) S) (jG _ (by rw[FB];decide))) On)<|H Ch<|aj (.bool J) (O++[.list (l.map λP3=>L.bool J)])))))⟩
end
def X8(a:E O)(b:a.length<=12):∃g,jx (pz.body.drop 1) (fu 1 M M M M) [cp a,cp a] (.bool J) g:=by
 refine as λK c=>?_;refine Nc a b _ λt e u v f w h=>?_;refine h _ λi j l k=>?_;refine T6 k i j _ λx y z B C P D F H m I n=>?_;refine n _ λkf o p q=>?_;obtain⟨r,s⟩:=O9 (e:=e) (i:=f.length) (k:=A lm) (h:=m) o p q;refine c ?_;rw[Tq];exact⟨r,l.and (kf.and s)⟩
end
def plain(a:E O)(b:a.length<=12):∃g,ur 20 a=A (.ret (.bool J),g):=X8 a b
def ad8:ej.Holds:=YG plain
end Internal
end
theorem PySem.Challenge.cw_no0021_01_holds : PySem.Challenge.rw_no0021_01.Holds :=
 Internal.ad8
