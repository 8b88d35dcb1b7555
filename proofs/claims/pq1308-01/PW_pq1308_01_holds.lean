import PyProof.Rows.All
import PyProof.AssignAttr
import PyProof.Cells
import PyProof.CompFree
import PyProof.DictTable
import PyProof.EnumStmt
import PyProof.EnumMake
import PyProof.ExcArgsOwn
import PyProof.ExcBaseAll.Exception
import PyProof.ExcAttrAll.Exception
import PyProof.ExcInit
import PyProof.StationsW
import PyProof.ListRange
import PyProof.RulesAs
import PyProof.RulesDel
import KE.LcSums
import KE.KBytesAny
import KE.KBytesCut
import KE.KLam
import KE.KDictSum
import KE.KSortKey
import Wide.FinOn
import OpenK.AllK
import Wide.All
import Lean
import PySem.Challenge.RW_pq1308_01
set_option tactic.hygienic false
set_option genSizeOf false
set_option genInjectivity false
set_option linter.all false
set_option Elab.async false
set_option maxRecDepth 100000
set_option maxHeartbeats 0
namespace Mine
open Array renaming length_toList->oo,toList_inj->B8,any_toList->KR,getElem?_eq_some_iff->KS,mem_toList_iff->KU
open Bool renaming true->ag,false->ak,and_eq_true->cP,not_eq_true'->hV,or_eq_true->jf,false_eq_true->sU,false_or->sV,or_eq_false_iff->sW,and_false->xp,or_false->xq,and_eq_true_iff->B9,and_self->Ca,and_eq_false_imp->KV,eq_false_iff->KW,noConfusion->KY,true_and->KZ
open Classical renaming propDecidable->jP,byContradiction->aax
open Eq renaming trans->dt
open ForInStep renaming yield->xr
open Int renaming ofNat->ar,ofNat_lt->c9,ofNat_le->f3,natCast_nonneg->hp,lt_trans->iI,le_of_lt->jQ,not_lt->kJ,lt_of_lt_of_le->lW,not_le->oq,min_eq_left->sX,min_eq_right->sY,eq_ofNat_of_zero_le->xt,le_trans->xu,max_eq_right->xv,fmod_lt_of_pos->Cb,fmod_nonneg_of_pos->Cc,ofNat_eq_natCast->Cd,toNat_natCast->Ce,le_antisymm->K3,max_eq_left->K4,mul_one->K5,ne_of_gt->K6,ofNat_sub->K7,toNat_lt->K8,zero_add->K9
open Int.ofNat renaming inj->sZ
open List renaming map_append->bj,mem_append_left->bk,mem_append_right->bp,length_map->bx,mem_map->bz,mem_cons->bM,append_assoc->bU,mem_map_of_mem->cY,nodup_append->c2,length_append->da,mem_append->dc,replicate->de,length_cons->dz,perm_middle->dA,map_cons->dG,map_map->dM,nodup_cons->dN,range->dO,mem_singleton->d5,all_eq_true->eh,getElem?_eq_some_iff->eO,getElem?_map->eP,append_nil->fu,mem_of_getElem?->f5,perm_append_comm_assoc->f6,nodup_nil->gm,forall_mem_cons->gL,any_cons->hq,isEmpty_iff->hr,size_toArray->hW,length_take->jh,getElem?_eq_getElem->jR,eq_nil_of_length_eq_zero->kK,foldl_cons->kL,replicate_succ->kM,filterMap_cons->lX,length_drop->lY,length_nil->lZ,lookup_cons->l5,mem_filter->l6,mem_range->l7,pairwise_cons->l8,any_eq_true->ot,contains_iff_mem->ou,filterMap_cons_some->ov,map_inj_left->ow,not_mem_nil->ox,any_eq_false->ta,any_map->tb,flatten_cons->tc,getElem?_range->td,length->te,length_range->tf,length_singleton->tg,map_take->th,of_mem_zip->ti,countP_cons->xw,filterMap_cons_none->xx,find?_cons->xy,flatMap_cons->xA,map_eq_nil_iff->xB,map_id'->xC,sum_cons->xD,dropLast_eq_take->Ci,getElem?_cons_zero->Cj,map_congr_left->Ck,map_drop->Cm,map_nil->Cn,mem_flatMap->Co,reverse_cons->Cp,take_length->Cq,Perm->La,all_cons->Lb,casesOn->Lc,cons_append->Ld,countP_le_length->Le,drop_length->Lf,drop_of_length_le->Lg,filterMap->Lh,filter_eq_self->Li,filter_map->Lj,find?_some->Lk,findIdx?_eq_none_iff->Ll,flatMap->Lm,flatMap_append->Ln,foldl->Lo,getElem?_eq_none->Lp,getElem?_eq_none_iff->Lq,getElem?_replicate->Lr,getElem?_reverse->Ls,length_filter_le->Lu,length_replicate->Lv,length_set->Lw,map_id->Lx,mem_of_find?_eq_some->Ly,mem_reverse->Lz,nil_append->LA,sum_append->LB,take_add_one->LC,take_of_length_le->LD,zip_cons_cons->LF
open List.Pairwise renaming map->aay
open List.Perm renaming append_left->fe,swap->jg,cons->Cf,append_right->aaz,cons_inv->aaA,trans->aaB
open List.Sublist renaming append_left->aaC
open List.cons renaming injEq->Cg
open Nat renaming blt->bb,lt_of_le_of_lt->bc,lt_trans->bh,beq->bJ,le_trans->bK,ble->c3,le_of_ble_eq_true->dg,le_refl->dh,le_of_lt->d6,ne_of_lt->e3,add_le_add_left->fg,lt_irrefl->fH,lt_of_lt_of_le->fI,add_comm->f7,add_assoc->gn,zero_le->gp,not_lt->hs,le_succ->hX,ble_eq_true_of_le->iJ,le_add_right->iK,succ_le_succ->iL,succ_pos->ji,add_le_add_right->jS,eq_of_beq_eq_true->jT,le_succ_of_le->jU,lt_succ_self->jV,le_of_eq->l9,not_le->ma,sub_le->mc,add_le_add->oy,le_add_left->tj,le_of_not_lt->tk,min_eq_left->tl,mul_le_mul_left->tm,ne_of_gt->tn,sub_pos_of_lt->tp,add_right_comm->xE,le_total->xF,lt_succ_of_lt->xG,min_eq_right->xH,add_lt_add_left->Cr,add_lt_add_of_lt_of_le->Cs,add_lt_add_right->Ct,lt_or_eq_of_le->Cu,min_le_right->Cv,mul_succ->Cw,strongRecOn->Cy,sub_add_cancel->Cz,add_lt_add->LG,add_sub_cancel'->LH,div_le_self->LI,div_lt_of_lt_mul->LJ,le_antisymm->LK,le_of_lt_succ->LL,le_sub_one_of_lt->LM,lt_of_succ_lt->LN,lt_succ_of_le->LO,mod_lt->LP,mul_comm->LQ,one_pos->LR,pow_succ->LS,sub_le_iff_le_add->LU,sub_lt->LV,sub_lt_sub_left->LW,zero_add->LY,zero_lt_one->L1
open Nat.succ renaming inj->jW
open Ne renaming symm->gM
open Option renaming some->U,none->ah,map_eq_some_iff->jj,map_some->tq,getD_some->xI,isSome_iff_exists->xJ,all->L2,map->L3
open Option.some renaming inj->bo,injEq->xK
open Prod.mk renaming inj->jk
open PyProof.Rows renaming seqObj->jX,tail_any->jY,Subscript_->oz,subscriptTail->oA,Call_->tr,Call_Name->tu,IntsAre->tv,StrsAre->xM,args_cons->xN,Assign_Tuple->CA,Attribute_any_->CC,slot_tuple_getitem->CD,test_last->CF,Assign_Tuple_swapped->L4,depth_under_make->L6,markedEach_of_false->L7,slicePart_none->L8,evalArgs_none->aaD,getItem_tuple->aaE,len_list->aaF,len_tuple->aaG
open PyProof.Rows.LSm renaming kept_iter->L5
open PySem renaming Obj->af,Value->ai,Str->ao,Addr->av,Expr->aw,model->ay,wpAny->aB,Shared->aD,code->aL,wpAny_bind->aM,Pos->aQ,Params->aT,World->aV,Stmt->a9,eval->bt,wpAny_pure->bA,call->bQ,Heap->cc,wpAny_execs_cons->cK,sysModules->cO,starEach->du,valueAt->dv,Around->dC,Flow->dD,Scope->dZ,OsState->d7,Sem->d8,backTo->d9,execs->ei,sizeLine->ej,DictEntry->e4,wpAny_execs_nil->fi,FuncData->fv,stored->fx,Env->fJ,Tok->fM,wpAny_mono->fN,CmpOp->gq,codeAny->gv,step->gw,numAt->gP,rawInt->gQ,cellsFrom->ia,intKind->ib,strKind_is->ic,treeTable->ie,Result->iM,exec->iO,wpAny_Return_some->iP,wpAny_call->iQ,Operator->jn,bindL->jq,cLine->j1,wpAny_Expr_any->j2,wpAny_assign_Name->j3,Comprehension->kN,Keyword->kO,TriplesOk->kP,assign->kR,swappedStores->kU,wpAny_truthy_bool->kV,Model->me,Program->mf,PyData->mh,clipAt->mn,isTrue->mq,wpAny_Assign_Name->mr,wpAny_If->mu,wpAny_field->mv,wpAny_holding->mw,wpAny_loadPart_at->my,Reads->oE,evalEach->oT,getAttr->oU,getItem->oV,intKind_is->oW,lastMarks->oX,noteFrame->oY,standAt->oZ,wpAny_Name->o1,wpAny_newObj_type->o2,ItemsOf->tB,NameKind->tC,bindArgs->tO,bindC->tP,call_meets->tQ,holding->tR,leaving->tS,merged->tT,storeName->tU,swapsWith->tV,wpAny_For->tW,wpAny_assignInOrder_more->tX,wpAny_loadName_local->tY,wpAny_storeName_local->tZ,Arguments->xO,BindsTo->xP,Carries->xT,ExceptHandler->xV,UnaryOp->x5,argBest->ya,backToKw->yb,bindName->yc,callEnvC->yd,callWith->ye,call_meetsIn->yf,cameBackBy->yg,getMethod->yh,importBound->yi,importedModules->yj,keywordEach->yk,notedBy->yl,numAt_eq->ym,pyIter->yn,setFlight->yo,setItem->yp,wpAny_Tuple->yq,wpAny_bindName->yr,wpAny_evalPart_none->ys,wpAny_isSubtype_exc->yt,wpAny_loadPart->yu,wpAny_standAt->yv,wpAny_typeOf->yw,assignInOrder->C8,attributeBase->C9,binaryOp->Dc,callEnv->De,call_list_seq->Df,closureFor->Dg,compareChain->Dh,compareOp->Di,getMethod_builtin->Dj,isInstance->Dk,letOwnedTupleGo->Dl,plainObj_wpAny_Assign_Attribute->Dm,seqIndex?->Dn,testChain->Dp,wpAny_BinOp->Dq,wpAny_assign_Tuple->Dr,wpAny_call_entry->Ds,wpAny_ite_split->Du,wpAny_list_append_plain->Dv,wpAny_mkText->Dw,wpAny_pyIter_list->Dx,wpAny_setField->Dy,wpAny_tests_nil->Dz,checkBuiltinCall->ML,codeAny_call_builtin->MN,codeAny_call_cells->MO,codeAny_call_def->MP,codeAny_forLoop_any->MQ,codeAny_mono->MR,comprehension->MS,getAttrByItsOwn->MU,importedNames->MV,letTemporaryGo->MW,lookupAlong_cons->MX,methodCallForm->MY,nums_intItems->MZ,recursionLimit->M0,slot_list_setitem->M1,strKind->M3,truthy->M4,unbindBehindTheSuite->M5,wpAny_Assign_Subscript->M6,wpAny_Try_except->M7,wpAny_askSetting->M8,wpAny_callSpecial?_slot->M9,wpAny_evalPart_some->Na,wpAny_getItem_list_neg->Nb,wpAny_getItem_of->Nc,wpAny_lookBehind->Nd,wpAny_madeBy_exc->Nf,wpAny_pyIter_enum->Ng,wpAny_sequenceKey->Nh,wpAny_setItem_pairs->Ni,wpAny_unpackItems_tuple->Nj,wpAny_updatePart->Nk
open PySem.Around renaming frames_deeper->CG
open PySem.AutoListH renaming list___mul___list_int_3->aaH
open PySem.Builtin renaming sorted->aaT
open PySem.Builtin.Int renaming intBits->aaI
open PySem.Builtin.List renaming listExtendWith->xQ,listItems->L9,listLengthHint->Ma,listFitsIndex->aaJ,listSameRef->aaK,listSubscript?->aaL,listTooLong->aaM,listUpdate->aaN
open PySem.Builtin.ObjectAttr renaming storeInDict->aaO,storeInOwnDict->aaP
open PySem.Builtin.Range renaming rangeSize->CH,small->aaQ
open PySem.Builtin.Slice renaming slicePlaces->xR,sliceAdjust->CI,sliceApplied->Mb,sliceFields->aaR
open PySem.Builtin.Tuple renaming tupleItemsOf->aaS
open PySem.Calls renaming Name_function_global->md,spliced_nil->oB,loadGlobal_global->tw,spliced_cons->xS,loadGlobal_builtin->CJ,evalArgs_plain->Mc
open PySem.Challenge renaming rw_pq1308_01->xU,pw_pq1308_01->aaU
open PySem.Code renaming builtin->Md,quiet_builtin->Me
open PySem.Data renaming dict->CK
open PySem.DictEntry renaming refKey->aaV
open PySem.EntryCells renaming newEntry->Mf
open PySem.Env renaming blockKind->Mg
open PySem.Expr renaming Attribute->Mh,Call->Mi,Name->Mj,Slice->Mk,Tuple->Ml
open PySem.F renaming plainAttrs_list->xW,slot_dict_get->xX,entry_dict_get->CL,slot_list_extend->CM,slot_list_getitem->CN,args_dict_get_3->Mm,args_list_extend_2->Mn,attr_Exception->Mo,entry_list_extend->Mp,plainAttrs_dict->Mq,slot_dict_getitem->Mr,slot_dict_update->Ms,slot_int_rmul->Mt,slot_list_append->Mu,slot_list_pop->Mv,type_list_append->Mw
open PySem.Heap renaming lt_size->dy,get?_push_of_some->ew,get?_push_size->fh,SameBut->gO,get?_update_other->jl,get?_update_self->jm,size_push->tA,get?_push_ne->xY,get?_some_iff->CP
open PySem.Heap.FunFrames renaming cons->aaW
open PySem.Heap.IsList renaming typeIs->CO
open PySem.Heap.SameBut renaming update->tx
open PySem.IsL renaming update->CQ
open PySem.NameKind renaming free->Mx,globalImplicit->My
open PySem.Obj renaming putName->gr,data_mapFields->xZ,mapFields->x1,isFreed_of_fields->Mz,mapSeq->MA
open PySem.PyData renaming keyHash->fK,eqv->ht,canLay0->oC,depth->oD,canLayAll0->x2,eqvAll->x3,strOk->x4,depthAll->CT
open PySem.ScopeKind renaming module->MB
open PySem.SeqAt renaming shaped->hu
open PySem.Spec renaming ltCps->eC
open PySem.Stmt renaming FunctionDef->MC
open PySem.Str renaming ofString->gu
open PySem.Value renaming ref->dQ,none->jZ,str->x6,type->x7,bool->CU,isStrOf_shape->CV,isStrOf->MD
open PySem.Value.ref renaming inj->CW
open PySem.W renaming instObj->cZ,emptyDict->dR,look_both->eQ,callWith_of->f9,boot_heap->hv,lookIn->hY,tabObj->hZ,listOf->iN,findIn->jo,boot_o_0->j0,Frag->kQ,boot_o_1->mj,boot_o_4->ml,typeIs_bytes->mm,SharedT->oG,boot_drawn->oH,boot_o_10->oI,boot_o_5->oJ,boot_o_6->oK,boot_o_7->oL,boot_o_8->oM,boot_o_9->oN,boot_toks->oO,doneF->oQ,segRun->oR,Looks->tH,deadEnd->tI,findObj->tJ,methodCall_KW->tK,piece_app->tL,piecesOf->tM,segRun_of->tN,looks_findIn->x8,topStub->x9,any_some->CZ,behindTheImports->C0,handedIn->C1,looks_clsIn->C2,method_fn->C3,namesMeet->C4,set_plain->C5,takerIn->C6,builtinNamed->MK
open PySem.W.FB renaming slot_bytes_getitem->CX
open PySem.W.Fast renaming tw14364793385576792824->mi,te14364793385576792824->oF,te10110043849684766642->tD,te12563942051412417395->tE,tw10110043849684766642->tF,tw12563942051412417395->tG,te17119622794617984870->CY,named_eq->ME,qNamed->MF,te10501279942588096481->aaX,te11892475500146522536->aaY,te15667345088766844465->aaZ,te16286561074155671207->aa0,te17960256430627541270->aa1,te8179353310426384613->aa2,te8326940854005059898->aa3,te9558739934217749035->aa4,tw10501279942588096481->aa5,tw11892475500146522536->aa6,tw15667345088766844465->aa7
open PySem.W.KBw renaming IsBytesIter->MG,pyIter_bytes->MH,walks->MI
open PySem.W.Looks renaming ld->MJ
open PySem.W.SharedT renaming abs->fw
open PySem.Walks renaming list->C7
open _root_ renaming List->aa,Nat->ae,Int->aj,Option->aq,Bool->au,congrArg->aZ,absurd->bf,String->bL,if_neg->bW,if_pos->bZ,decide_eq_true->cf,decide_eq_false->cv,Array->c8,DecidableEq->d4,True->eR,beq_iff_eq->eT,congrFun->e5,Unit->fO,cond_false->fP,decide_eq_true_eq->fQ,of_decide_eq_true->gx,cond_true->hx,UInt8->kX,beq_eq_false_iff_ne->kY,if_false->o3,if_true->o4,or_false->t2,dif_neg->yx,beq_self_eq_true->DA,decide_eq_false_iff_not->Nl
noncomputable section
inductive bG(p0 p1 p2:Prop):Prop
 |mk (h1:p0) (h2:p1) (h3:p2)
inductive dE(p0 p1 p2 p3:Prop):Prop
 |mk (h1:p0) (h2:p1) (h3:p2) (h4:p3)
inductive j4(p0 p1 p2 p3 p4:Prop):Prop
 |mk (h1:p0) (h2:p1) (h3:p2) (h4:p3) (h5:p4)
inductive j5(p0 p1 p2 p3 p4 p5:Prop):Prop
 |mk (h1:p0) (h2:p1) (h3:p2) (h4:p3) (h5:p4) (h6:p5)
inductive yz(p0 p1 p2 p3 p4 p5 p6:Prop):Prop
 |mk (h1:p0) (h2:p1) (h3:p2) (h4:p3) (h5:p4) (h6:p5) (h7:p6)
inductive Nn(p0 p1 p2 p3 p4 p5 p6 p7:Prop):Prop
 |mk (h1:p0) (h2:p1) (h3:p2) (h4:p3) (h5:p4) (h6:p5) (h7:p6) (h8:p7)
inductive DC(p0 p1 p2 p3 p4 p5 p6 p7 p8:Prop):Prop
 |mk (h1:p0) (h2:p1) (h3:p2) (h4:p3) (h5:p4) (h6:p5) (h7:p6) (h8:p7) (h9:p8)
inductive DB(p0 p1 p2 p3 p4 p5 p6 p7 p8 p9:Prop):Prop
 |mk (h1:p0) (h2:p1) (h3:p2) (h4:p3) (h5:p4) (h6:p5) (h7:p6) (h8:p7) (h9:p8) (h10:p9)
inductive Nm(p0 p1 p2 p3 p4 p5 p6 p7 p8 p9 p10 p11 p12:Prop):Prop
 |mk (h1:p0) (h2:p1) (h3:p2) (h4:p3) (h5:p4) (h6:p5) (h7:p6) (h8:p7) (h9:p8) (h10:p9) (h11:p10) (h12:p11) (h13:p12)
inductive bH{α0 α1:Type}(p:α0->α1->Prop):Prop |mk (a0:α0) (a1:α1) (h:p a0 a1):bH p
inductive ea{α0 α1 α2:Type}(p:α0->α1->α2->Prop):Prop |mk (a0:α0) (a1:α1) (a2:α2) (h:p a0 a1 a2):ea p
inductive gy{α0 α1 α2 α3:Type}(p:α0->α1->α2->α3->Prop):Prop |mk (a0:α0) (a1:α1) (a2:α2) (a3:α3) (h:p a0 a1 a2 a3):gy p
inductive t9{α0 α1 α2 α3 α4:Type}(p:α0->α1->α2->α3->α4->Prop):Prop |mk (a0:α0) (a1:α1) (a2:α2) (a3:α3) (a4:α4) (h:p a0 a1 a2 a3 a4):t9 p
inductive o8{α0 α1 α2 α3 α4 α5:Type}(p:α0->α1->α2->α3->α4->α5->Prop):Prop |mk (a0:α0) (a1:α1) (a2:α2) (a3:α3) (a4:α4) (a5:α5) (h:p a0 a1 a2 a3 a4 a5):o8 p
inductive yD{α0 α1 α2 α3 α4 α5 α6:Type}(p:α0->α1->α2->α3->α4->α5->α6->Prop):Prop |mk (a0:α0) (a1:α1) (a2:α2) (a3:α3) (a4:α4) (a5:α5) (a6:α6) (h:p a0 a1 a2 a3 a4 a5 a6):yD p
inductive DP{α0 α1 α2 α3 α4 α5 α6 α7:Type}(p:α0->α1->α2->α3->α4->α5->α6->α7->Prop):Prop |mk (a0:α0) (a1:α1) (a2:α2) (a3:α3) (a4:α4) (a5:α5) (a6:α6) (a7:α7) (h:p a0 a1 a2 a3 a4 a5 a6 a7):DP p
theorem y7(i n:ae):min i n+1+(n - i)≤n+1:=by
 rcases xF i n with h |h
 ·rw[tl h,xE,LH h];exact dh _
 ·rw[xH h,Nat.sub_eq_zero_of_le h];exact dh _
theorem E5{i n b c:ae}(h:n < b)(k:b < c):min i n+1+(n - i) < c:=bc (y7 i n) (bc h k)
theorem HI{i n b c:ae}(h:n < b)(k:b < c):min i n+1 < c:=bc (iL (Cv _ _)) (bc h k)
theorem PB(i n:ae):min i n+(n - i+1)≤n+1:=bK (l9 (xE (min i n) 1 (n - i)).symm) (y7 i n)
theorem JL{a b:ae}(h:a < b):0 < b:=bc (gp _) h
end
noncomputable section
open PySem PySem.W PyProof.Rows
noncomputable abbrev pw:mf:=aaU
noncomputable abbrev S(x:bL):ao:=gu x
noncomputable abbrev T(Z:aa ai):af:=⟨.type "tuple",ah,.seq Z.toArray 0,#[]⟩
noncomputable abbrev Fd(Z:aa ai):af:=⟨.none,ah,.fields Z.toArray,#[]⟩
noncomputable abbrev N:=BT.node
noncomputable abbrev Z:=BT.nil
abbrev en(P:aT)(x:bL)(t:ae)(v:ai):e4:=⟨fK P (S x),.str (S x) t,v⟩
abbrev ih:=xO×aa a9×dZ
noncomputable def u0:ih:=(⟨[],[],ah,[],[],ah,[]⟩,[],⟨.function,[],ak,ak,[]⟩)
def Gg(o:aq a9):ih:=o.elim u0 λs=> if h:s.ctorIdx=0 then MC.elim (motive_2:=λ_=> ih) s h λ_ a b _ _ _ D _ _ _=> (a,b,D)else u0
def fa(i:ae):ih:=Gg pw.main.body[i]?
def fm(i j:ae):ih:=(pw.main.body[i]?).elim u0 λs=> if h:s.ctorIdx=2 then Stmt.ClassDef.elim (motive_2:=λ_=> ih) s h λ_ _ _ b _ _ _ _ _ _ _=> Gg b[j]? else u0
abbrev fd(g:ih)(n h:bL)(a:av)(f p b e:ai)(ann:aq av)(aL c:ai)(d:av):fv:=
 {name:=S n,qualname:=S h,params:=g.1,body:=.stmts g.2.1,scope:=g.2.2,globals:=a,closure:=[],defaults:=f,kwdefaults:=p,doc:=b,pyModule:=e,annotations:=ann,code:=aL,closureTuple:=c,builtins:=d}
noncomputable def I(n:ae):ai:=.int (.ofNat n) 0
noncomputable def R(a:av):ai:=.ref a
def T0:af:=T []
def ax:af:=Fd []
noncomputable def Ku:aa bL->ae->aa ai
 |[],L=> []
 |x::r,t=> .str (S x) t::Ku r (t+1)
def TS(t:ae)(H:aa bL):af:=T (Ku H t)
noncomputable abbrev L(o:af):BT:=.node o .nil .nil
def cC(nm h:bL)(t:ae)(a b c d e:ae)(P L:av)(w:au)(X i Y:ai)(k:ae):af:=
 ⟨.type "code",ah,.fields [.str (S nm) t,.str (S h) (t+1),.str (S "/claim/cut.py") (t+2),I a,I b,I c,I d,I e,R P,.bool w,I 181,R L,.none,X,i,Y,I (t+k),I a,.str (S "/claim/cut.py") (t+k+1)].toArray,#[]⟩
def cG(h nm:bL)(t a b c d e n k:ae):af:=cC nm h t a b c d e n (n+1) ag (R (n+2)) (R (n+3)) (R (n+4)) k
def cF(nm:bL):ae->ae->ae->ae->ae->ae->ae->ae->af:=cG nm nm
def hB(h nm:bL)(t a b c d e n:ae):af:=cC nm h t a b c d e n (n+1) ag .none .none (R (n+2)) 3
def cM(h nm:bL)(t a b c d e n:ae):af:=cC nm h t a b c d e n (n+1) ak .none .none .none 3
def g0(g:ih)(n h:bL):af:=⟨.none,ah,.func (fd g n h 0 .none .none .none .none ah .none .none 0),#[]⟩
def f0(g:ih)(n:bL):af:=g0 g n n
def g1(g:ih)(n h:bL)(f m:ai)(c:av):af:=⟨.type "function",ah,.func (fd g n h 3 f .none .none m ah (R c) .none 0),#[]⟩
def f1(g:ih)(n:bL)(m:ai)(c:av):af:=g1 g n n .none m c
noncomputable def DD(k:ae)(l:aa e4):af:=⟨.type "dict",ah,.dict l.toArray k,#[]⟩
noncomputable def FF(x:bL)(Z:aa ai):af:=⟨.type x,ah,.fields Z.toArray,#[]⟩
def FR(a b:av)(m:ai):af:=⟨.type "frame",ah,.plain,[U (R a),U (R 3),U (R b),ah,U m,ah,U (R 0)].toArray⟩
def er(P:aT)(x:bL)(t:ae)(a:av):e4:=en P x t (R a)
def q3(a c:ae)(r:aa ai):aa ai:=I a::I 0::R c::r
def HJ:ai:=.str (S "__main__") 164
def hc:ai:=.str (S "unicore.base") 194
def kA:ai:=.str (S "unicore.hangul") 295
def eH:ai:=.str (S "unicore.forms") 349
def e1:ai:=.str (S "unicore.punycode") 549
def dF:ai:=.str (S "unicore.idna") 772
def gE:ai:=.str (S "unicore.ranges") 1134
def kB:ai:=.str (S "unicore.data") 1222
def iD:ai:=.str (S "law_pq1308_01") 1291
def lE(P:aT):af:=⟨.none,ah,(.dict ([(en P "type.__subclasses__.Exception.0" 227 (.int 39 0)),(en P "type.__subclasses__.Exception.n" 228 (.int 1 0))]).toArray 2),([]).toArray⟩
def GG(P:aT)(r:aa e4):aa e4:=en P "__doc__" 166 .none::en P "__package__" 167 .none::en P "__loader__" 168 (.builtin "__main__.__loader__#opaque")::en P "__spec__" 169 .none::er P "__annotations__" 170 6::er P "__builtins__" 171 4::en P "__file__" 173 (.str (S "/claim/cut.py") 172)::en P "__cached__" 174 .none::er P "_wall" 193 21::en P "MAX_CODE" 197 (.int 1114111 196)::en P "HIGH_FIRST" 199 (.int 55296 198)::en P "LOW_LAST" 201 (.int 57343 200)::er P "UniError" 230 39::er P "BadLabel" 246 52::er P "BadTable" 262 64::er P "is_code" 269 73::er P "is_surrogate" 276 80::er P "is_scalar" 283 87::er P "place_by_half" 294 94::en P "SYLLABLE_FIRST" 298 (.int 44032 297)::en P "LEAD_FIRST" 300 (.int 4352 299)::en P "VOWEL_FIRST" 302 (.int 4449 301)::en P "TAIL_NONE" 304 (.int 4519 303)::en P "LEADS" 306 (.int 19 305)::en P "VOWELS" 308 (.int 21 307)::en P "TAILS" 310 (.int 28 309)::en P "SYLLABLES" 313 (.int 11172 312)::er P "is_hangul_syllable" 320 101::er P "hangul_numbers" 328 108::er P "hangul_parts" 338 115::er P "hangul_pair" 348 122::er P "form_mapping" 361 129::er P "form_expanded" 376 136::er P "ordered" 388 143::er P "form_sorted" 394 148::er P "decomposed" 405 156::er P "primary_composites" 417 163::er P "form_is_primary" 426 170::er P "Composer" 477 201::r
def VZ(P:aT):af:=DD 40 (en P "__name__" 165 (.str (S "unicore.forms") 349)::GG P [])
def GB(r:aa ai):aa ai:=q3 1 20 <|q3 8 27 <|q3 12 48 <|q3 14 60 <|q3 16 72 <|q3 18 79 <|q3 20 86 <|q3 22 93 <|q3 41 100 <|q3 43 107 <|q3 46 114 <|q3 53 121 <|q3 62 128 <|q3 70 135 <|q3 89 142 <|q3 101 147 <|q3 103 155 <|q3 108 162 <|q3 117 169 <|q3 121 176 <|r
def VU:af:=Fd (GB [])
def nr:af:=cM "<module>" "<module>" 182 1 0 0 0 0 11
def nv:af:=FR 13 3 HJ
def qR:af:=TS 190 ["k"]
def q4:af:=f0 (fa 0) "_wall"
def q8:af:=cF "_wall" 187 1 1 0 0 3 15 4
def rg:af:=f1 (fa 0) "_wall" HJ 20
def rj:af:=T [(.type "Exception")]
def rm:af:=FF "builtin_function_or_method" [(.builtin "type.__prepare__"),(.type "type")]
def rq(P:aT):af:=DD 5 [en P "__module__" 209 (.str (S "unicore.base") 194),en P "__qualname__" 211 (.str (S "UniError") 210),en P "__firstlineno__" 213 (.int 8 212),er P "__init__" 221 36,er P "__static_attributes__" 223 37]
def rA:af:=Fd [(.int 10 0),(.int 4 0),(.ref 35)]
def rC:af:=cM "UniError" "UniError" 204 8 0 0 0 0 25
def rF:af:=FR 27 24 hc
def nQ:af:=T [.none]
def rP:af:=TS 217 ["self","told"]
def rU:af:=g0 (fm 5 0) "__init__" "UniError.__init__"
def nV:af:=cG "UniError.__init__" "__init__" 214 10 2 0 0 3 30 5
def gF:af:=g1 (fm 5 0) "__init__" "UniError.__init__" (R 29) hc 35
def rX:af:=TS 222 ["told"]
def lF(P:aT):af:=DD 3 [en P "__module__" 209 hc,en P "__firstlineno__" 213 (.int 8 212),er P "__init__" 221 36,er P "__static_attributes__" 223 37,er P "__weakref__" 225 40,en P "__doc__" 226 .none]
def i8:af:=⟨(.type "type"),ah,(.cls {name:=(S "UniError"),bases:=[(.type "Exception")],mro:=[(.ref 39),(.type "Exception"),(.type "BaseException"),(.type "object")],ns:=38,qualname:=(S "UniError"),hasDict:=ag,slotNames:=[],subclasses:=[(.ref 52),(.ref 64)],abstract:=ak,collection:=ah,hasDel:=ak}),([(U (.ref 22)),ah,(U (.str (S "UniError") 202)),(U (.str (S "UniError") 210)),(U (.builtin "Exception.__new__")),(U (.bool ag))]).toArray⟩
def rY:af:=FF "getset_descriptor" [(.str (S "__weakref__") 224),(R 39),(.builtin "ExceptionGroup.__weakref__"),.none]
def r0:af:=FF "super" [(R 39),(R 39),(R 39)]
def r3:af:=FF "builtin_function_or_method" [(.builtin "object.__init_subclass__"),(R 39)]
def r4:af:=T [(R 39)]
def r5:af:=FF "builtin_function_or_method" [(.builtin "type.__prepare__"),(.type "type")]
def r6(P:aT):af:=DD 4 [en P "__module__" 238 hc,en P "__qualname__" 240 (.str (S "BadLabel") 239),en P "__firstlineno__" 242 (.int 12 241),er P "__static_attributes__" 243 50]
def r7:af:=cM "BadLabel" "BadLabel" 233 12 0 0 0 0 46
def r8:af:=FR 48 45 hc
def lG(P:aT):af:=DD 2 [en P "__module__" 238 hc,en P "__firstlineno__" 242 (.int 12 241),er P "__static_attributes__" 243 50,en P "__doc__" 244 .none]
def fs:af:=⟨(.type "type"),ah,(.cls {name:=(S "BadLabel"),bases:=[(.ref 39)],mro:=[(.ref 52),(.ref 39),(.type "Exception"),(.type "BaseException"),(.type "object")],ns:=51,qualname:=(S "BadLabel"),hasDict:=ag,slotNames:=[],subclasses:=[],abstract:=ak,collection:=ah,hasDel:=ak}),([(U (.ref 43)),ah,(U (.str (S "BadLabel") 231)),(U (.str (S "BadLabel") 239)),(U (.builtin "Exception.__new__")),(U (.bool ag))]).toArray⟩
def r9:af:=FF "super" [(R 52),(R 52),(R 52)]
def sa:af:=FF "builtin_function_or_method" [(.builtin "object.__init_subclass__"),(R 52)]
def sb:af:=T [(R 39)]
def sd:af:=FF "builtin_function_or_method" [(.builtin "type.__prepare__"),(.type "type")]
def se(P:aT):af:=DD 4 [en P "__module__" 254 hc,en P "__qualname__" 256 (.str (S "BadTable") 255),en P "__firstlineno__" 258 (.int 14 257),er P "__static_attributes__" 259 62]
def sf:af:=cM "BadTable" "BadTable" 249 14 0 0 0 0 58
def si:af:=FR 60 57 hc
def sj(P:aT):af:=DD 2 [en P "__module__" 254 hc,en P "__firstlineno__" 258 (.int 14 257),er P "__static_attributes__" 259 62,en P "__doc__" 260 .none]
def sk:af:=⟨(.type "type"),ah,(.cls {name:=(S "BadTable"),bases:=[(.ref 39)],mro:=[(.ref 64),(.ref 39),(.type "Exception"),(.type "BaseException"),(.type "object")],ns:=63,qualname:=(S "BadTable"),hasDict:=ag,slotNames:=[],subclasses:=[],abstract:=ak,collection:=ah,hasDel:=ak}),([(U (.ref 55)),ah,(U (.str (S "BadTable") 247)),(U (.str (S "BadTable") 255)),(U (.builtin "Exception.__new__")),(U (.bool ag))]).toArray⟩
def sm:af:=FF "super" [(R 64),(R 64),(R 64)]
def so:af:=FF "builtin_function_or_method" [(.builtin "object.__init_subclass__"),(R 64)]
def sq:af:=TS 266 ["number"]
def sr:af:=f0 (fa 8) "is_code"
def nW:af:=cF "is_code" 263 16 1 0 0 3 67 4
def nX:af:=f1 (fa 8) "is_code" hc 72
def su:af:=TS 273 ["code"]
def sv:af:=f0 (fa 9) "is_surrogate"
def nY:af:=cF "is_surrogate" 270 18 1 0 0 3 74 4
def nZ:af:=f1 (fa 9) "is_surrogate" hc 79
def sx:af:=TS 280 ["number"]
def sy:af:=f0 (fa 10) "is_scalar"
def n0:af:=cF "is_scalar" 277 20 1 0 0 3 81 4
def n1:af:=f1 (fa 10) "is_scalar" hc 86
def sz:af:=TS 287 ["firsts","number","low","high","middle"]
def sA:af:=f0 (fa 11) "place_by_half"
def n2:af:=cF "place_by_half" 284 22 2 0 0 3 88 8
def n3:af:=f1 (fa 11) "place_by_half" hc 93
def sC:af:=TS 317 ["code"]
def sD:af:=f0 (fa 21) "is_hangul_syllable"
def m9:af:=cF "is_hangul_syllable" 314 41 1 0 0 3 95 4
def nc:af:=f1 (fa 21) "is_hangul_syllable" kA 100
def qv:af:=TS 324 ["code","number"]
def qw:af:=f0 (fa 22) "hangul_numbers"
def qx:af:=cF "hangul_numbers" 321 43 1 0 0 3 102 5
def qy:af:=f1 (fa 22) "hangul_numbers" kA 107
def qz:af:=TS 332 ["code","lead","vowel","tail"]
def qA:af:=f0 (fa 23) "hangul_parts"
def ng:af:=cF "hangul_parts" 329 46 1 0 0 3 109 7
def nh:af:=f1 (fa 23) "hangul_parts" kA 114
def qB:af:=TS 342 ["one","other","lead","vowel"]
def qC:af:=f0 (fa 24) "hangul_pair"
def ni:af:=cF "hangul_pair" 339 53 2 0 0 3 116 7
def nj:af:=f1 (fa 24) "hangul_pair" kA 121
def qD:af:=TS 354 ["code","data","is_compat","parts","told"]
def qE:af:=f0 (fa 26) "form_mapping"
def nk:af:=cF "form_mapping" 351 62 3 0 0 3 123 8
def nq:af:=f1 (fa 26) "form_mapping" eH 128
def qF:af:=TS 365 ["code","data","is_compat","found","waiting","open_codes","here","parts","part"]
def qG:af:=f0 (fa 27) "form_expanded"
def nt:af:=cF "form_expanded" 362 70 3 0 0 3 130 12
def nu:af:=f1 (fa 27) "form_expanded" eH 135
def qH:af:=TS 380 ["text","data","found","run","code","weight"]
def qI:af:=f0 (fa 28) "ordered"
def nx:af:=cF "ordered" 377 89 2 0 0 3 137 9
def ny:af:=f1 (fa 28) "ordered" eH 142
def qJ:af:=f0 (fa 29) "form_sorted"
def jE:af:=hB "form_sorted" "form_sorted" 389 101 1 0 0 3 144
def e8:af:=f1 (fa 29) "form_sorted" eH 147
def nz:af:=T [(.bool ak)]
def qK:af:=TS 398 ["text","data","is_compat","found","code"]
def qL:af:=f0 (fa 30) "decomposed"
def nA:af:=cF "decomposed" 395 103 3 0 0 3 150 8
def nB:af:=g1 (fa 30) "decomposed" "decomposed" (R 149) eH 155
def qM:af:=TS 409 ["data","found","first","last","told","code"]
def qN:af:=f0 (fa 31) "primary_composites"
def nC:af:=cF "primary_composites" 406 108 1 0 0 3 157 9
def nD:af:=f1 (fa 31) "primary_composites" eH 162
def qO:af:=TS 421 ["code","parts","data"]
def qP:af:=f0 (fa 32) "form_is_primary"
def qQ:af:=cF "form_is_primary" 418 117 3 0 0 3 164 6
def qS:af:=f1 (fa 32) "form_is_primary" eH 169
def qT:af:=FF "builtin_function_or_method" [(.builtin "type.__prepare__"),(.type "type")]
def qU(P:aT):af:=DD 7 [en P "__module__" 434 eH,en P "__qualname__" 436 (.str (S "Composer") 435),en P "__firstlineno__" 438 (.int 121 437),er P "__init__" 448 184,er P "pair" 458 191,er P "is_second" 467 198,er P "__static_attributes__" 470 199]
def qV:af:=Fd [(.int 123 0),(.int 4 0),(.ref 183),(.int 129 0),(.int 4 0),(.ref 190),(.int 133 0),(.int 4 0),(.ref 197)]
def qW:af:=cM "Composer" "Composer" 429 121 0 0 0 0 174
def qX:af:=FR 176 173 eH
def qY:af:=TS 442 ["self","data","one","other"]
def qZ:af:=g0 (fm 33 0) "__init__" "Composer.__init__"
def nE:af:=cG "Composer.__init__" "__init__" 439 123 2 0 0 3 178 7
def lA:af:=g1 (fm 33 0) "__init__" "Composer.__init__" .none eH 183
def q1:af:=TS 452 ["self","one","other","found"]
def q2:af:=g0 (fm 33 1) "pair" "Composer.pair"
def nF:af:=cG "Composer.pair" "pair" 449 129 3 0 0 3 185 7
def lC:af:=g1 (fm 33 1) "pair" "Composer.pair" .none eH 190
def q5:af:=TS 462 ["self","code","is_vowel"]
def q6:af:=g0 (fm 33 2) "is_second" "Composer.is_second"
def nG:af:=cG "Composer.is_second" "is_second" 459 133 2 0 0 3 192 6
def lD:af:=g1 (fm 33 2) "is_second" "Composer.is_second" .none eH 197
def q7:af:=TS 468 ["pairs","seconds"]
def nH(P:aT):af:=DD 4 [en P "__module__" 434 eH,en P "__firstlineno__" 438 (.int 121 437),er P "__init__" 448 184,er P "pair" 458 191,er P "is_second" 467 198,er P "__static_attributes__" 470 199,er P "__dict__" 472 202,er P "__weakref__" 474 203,en P "__doc__" 475 .none]
def nI:af:=⟨(.type "type"),ah,(.cls {name:=(S "Composer"),bases:=[(.type "object")],mro:=[(.ref 201),(.type "object")],ns:=200,qualname:=(S "Composer"),hasDict:=ag,slotNames:=[],subclasses:=[],abstract:=ak,collection:=ah,hasDel:=ak}),([ah,ah,(U (.str (S "Composer") 427)),(U (.str (S "Composer") 435)),(U (.builtin "object.__new__")),(U (.bool ag))]).toArray⟩
def q9:af:=FF "getset_descriptor" [(.str (S "__dict__") 471),(R 201),(.builtin "function.__dict__"),(.builtin "function.__dict__#set")]
def ra:af:=FF "getset_descriptor" [(.str (S "__weakref__") 473),(R 201),(.builtin "ExceptionGroup.__weakref__"),.none]
def rb:af:=FF "super" [(R 201),(R 201),(R 201)]
def rd:af:=FF "builtin_function_or_method" [(.builtin "object.__init_subclass__"),(R 201)]
def ZL(P:aT):BT:=(N (j0 P) (N (mj P) (N (VZ P) (N (oL P) (N T0 (N ax (N (sj P) (L qE) (L lC)) (N T0 (L qM) Z)) (N ax (N nY (L ny) Z) (N qz (L qV) Z))) (N rm (N i8 (N sr (L nt) (L q7)) (N ax (L T0) Z)) (N sb (N n1 (L ax) Z) (N T0 (L nE) Z)))) (N T0 (N q4 (N nV (N T0 (L ax) (L T0)) (N sD (L nD) Z)) (N (lG P) (N sx (L jE) Z) (N nh (L ax) Z))) (N rC (N r4 (N ax (L qH) (L ra)) (N qx (L T0) Z)) (N ax (N T0 (L nA) Z) (N T0 (L q1) Z))))) (N (oJ P) (N (oN P) (N qR (N T0 (N sm (L nq) (L ax)) (N sC (L qN) Z)) (N r8 (N T0 (L ax) Z) (N qA (L qX) Z))) (N T0 (N r0 (N nX (L T0) (L nI)) (N T0 (L qQ) Z)) (N (se P) (N ax (L T0) Z) (N ni (L T0) Z)))) (N nr (N rg (N rX (N sq (L T0) (L nG)) (N nc (L ax) Z)) (N r9 (N sy (L nz) Z) (N ax (L T0) Z))) (N nQ (N (r6 P) (N T0 (L qI) (L rd)) (N T0 (N (qU P) Z Z) Z)) (N si (N n2 (L T0) Z) (N qD (L q2) Z)))))) (N (lE P) (N (ml P) (N (oM P) (N ax (N rP (N sk (L nk) (L T0)) (N ax (L T0) Z)) (N r7 (N nZ (L T0) Z) (N T0 (L qW) Z))) (N (rq P) (N rY (N nW (L nu) (N (nH P) Z Z)) (N qv (L qP) Z)) (N sd (N T0 (L qK) Z) (N qC (L lA) Z)))) (N VU (N q8 (N gF (N ax (L qF) (L q6)) (N m9 (L T0) Z)) (N fs (N T0 (L e8) Z) (N T0 (L qY) Z))) (N rF (N r5 (N su (L T0) (L rb)) (N qy (L qT) Z)) (N sf (N sA (L nB) Z) (N ax (L T0) Z))))) (N (oK P) (N (oI P) (N T0 (N rU (N so (L T0) (L q5)) (N T0 (L nC) Z)) (N T0 (N ax (L qJ) Z) (N ng (L T0) Z))) (N rA (N r3 (N T0 (L ax) (L q9)) (N qw (L qS) Z)) (N T0 (N sz (L qL) Z) (N nj (L ax) Z)))) (N nv (N rj (N (lF P) (N T0 (L qG) (L lD)) (N T0 (L qO) Z)) (N sa (N n0 (L T0) Z) (N qB (L qZ) Z))) (N T0 (N T0 (N sv (L nx) Z) (N ax (L T0) Z)) (N T0 (N n3 (L ax) Z) (N T0 (L nF) Z)))))))
def GH(P:aT)(r:aa e4):aa e4:=GG P <|er P "composed" 492 213::er P "form_of" 503 221::er P "nfc" 511 228::er P "form_quick" 522 235::er P "quick_check" 537 243::er P "is_form" 548 251::en P "HYPHEN_punycode" 552 (.int 45 551)::en P "SMALL_A" 554 (.int 97 553)::en P "CAPITAL_A" 556 (.int 65 555)::en P "NOUGHT" 558 (.int 48 557)::en P "LETTERS" 560 (.int 26 559)::en P "FIGURES" 562 (.int 10 561)::en P "MOST_FIRST" 564 (.int 128 563)::en P "MOST_BIAS" 566 (.int 1000 565)::en P "CASE_BIT" 568 (.int 32 567)::er P "PunyNumbers" 637 283::er P "puny_figure" 645 295::er P "puny_value" 652 302::er P "puny_number" 666 310::er P "puny_number_at" 681 317::er P "puny_basic" 689 324::er P "puny_check" 697 331::er P "puny_least_from" 703 336::er P "puny_cased" 711 343::r
def V0(P:aT):af:=DD 64 (en P "__name__" 165 (.str (S "unicore.punycode") 549)::GH P [])
def GC(r:aa ai):aa ai:=GB <|q3 136 212 <|q3 152 220 <|q3 155 227 <|q3 157 234 <|q3 164 242 <|q3 176 250 <|q3 190 257 <|q3 217 294 <|q3 221 301 <|q3 229 309 <|q3 240 316 <|q3 255 323 <|q3 257 330 <|q3 261 335 <|q3 263 342 <|r
def VV:af:=Fd (GC [])
def rf:af:=T [.none]
def vB:af:=TS 481 ["text","data","composer","found","starter","most","code","weight","pair"]
def vC:af:=f0 (fa 34) "composed"
def rh:af:=cF "composed" 478 136 3 0 0 3 207 12
def ri:af:=g1 (fa 34) "composed" "composed" (R 206) eH 212
def nJ:af:=T [.none]
def vD:af:=TS 496 ["text","data","word","composer","found"]
def vE:af:=f0 (fa 35) "form_of"
def nK:af:=cF "form_of" 493 152 4 0 0 3 215 8
def nL:af:=g1 (fa 35) "form_of" "form_of" (R 214) eH 220
def vF:af:=TS 507 ["text","data"]
def vG:af:=f0 (fa 36) "nfc"
def rk:af:=cF "nfc" 504 155 2 0 0 3 222 5
def rl:af:=f1 (fa 36) "nfc" eH 227
def vH:af:=TS 515 ["code","data","word","composer","first"]
def vI:af:=f0 (fa 37) "form_quick"
def rn:af:=cF "form_quick" 512 157 4 0 0 3 229 8
def ro:af:=f1 (fa 37) "form_quick" eH 234
def rp:af:=T [.none]
def vJ:af:=TS 526 ["text","data","word","composer","found","ahead","code","weight","told"]
def vK:af:=f0 (fa 38) "quick_check"
def rr:af:=cF "quick_check" 523 164 4 0 0 3 237 12
def rt:af:=g1 (fa 38) "quick_check" "quick_check" (R 236) eH 242
def ru:af:=T [.none]
def vL:af:=TS 541 ["text","data","word","composer","told"]
def vM:af:=f0 (fa 39) "is_form"
def rx:af:=cF "is_form" 538 176 4 0 0 3 245 8
def ry:af:=g1 (fa 39) "is_form" "is_form" (R 244) eH 250
def vN:af:=FF "builtin_function_or_method" [(.builtin "type.__prepare__"),(.type "type")]
def vO(P:aT):af:=DD 7 [en P "__module__" 576 (.str (S "unicore.punycode") 549),en P "__qualname__" 578 (.str (S "PunyNumbers") 577),en P "__firstlineno__" 580 (.int 190 579),er P "__init__" 601 266,er P "threshold" 611 273,er P "adapted" 622 280,er P "__static_attributes__" 630 281]
def vP:af:=Fd [(.int 192 0),(.int 4 0),(.ref 265),(.int 205 0),(.int 4 0),(.ref 272),(.int 209 0),(.int 4 0),(.ref 279)]
def vQ:af:=cM "PunyNumbers" "PunyNumbers" 571 190 0 0 0 0 255
def vR:af:=FR 257 254 e1
def rz:af:=T [(.int 36 581),(.int 1 582),(.int 26 583),(.int 38 584),(.int 700 585),(.int 72 586),(.int 128 587)]
def vS:af:=TS 591 ["self","base","least","most","skew","damp","bias","first"]
def vT:af:=g0 (fm 50 0) "__init__" "PunyNumbers.__init__"
def rB:af:=cG "PunyNumbers.__init__" "__init__" 588 192 8 0 0 3 260 11
def nM:af:=g1 (fm 50 0) "__init__" "PunyNumbers.__init__" (R 259) e1 265
def vU:af:=TS 605 ["self","place","bias","told"]
def vV:af:=g0 (fm 50 1) "threshold" "PunyNumbers.threshold"
def rD:af:=cG "PunyNumbers.threshold" "threshold" 602 205 3 0 0 3 267 7
def nN:af:=g1 (fm 50 1) "threshold" "PunyNumbers.threshold" .none e1 272
def vW:af:=TS 615 ["self","delta","many","is_first","count"]
def vX:af:=g0 (fm 50 2) "adapted" "PunyNumbers.adapted"
def rE:af:=cG "PunyNumbers.adapted" "adapted" 612 209 4 0 0 3 274 8
def nO:af:=g1 (fm 50 2) "adapted" "PunyNumbers.adapted" .none e1 279
def vY:af:=TS 623 ["base","bias","damp","first","least","most","skew"]
def rG(P:aT):af:=DD 4 [en P "__module__" 576 e1,en P "__firstlineno__" 580 (.int 190 579),er P "__init__" 601 266,er P "threshold" 611 273,er P "adapted" 622 280,er P "__static_attributes__" 630 281,er P "__dict__" 632 284,er P "__weakref__" 634 285,en P "__doc__" 635 .none]
def rH:af:=⟨(.type "type"),ah,(.cls {name:=(S "PunyNumbers"),bases:=[(.type "object")],mro:=[(.ref 283),(.type "object")],ns:=282,qualname:=(S "PunyNumbers"),hasDict:=ag,slotNames:=[],subclasses:=[],abstract:=ak,collection:=ah,hasDel:=ak}),([ah,ah,(U (.str (S "PunyNumbers") 569)),(U (.str (S "PunyNumbers") 577)),(U (.builtin "object.__new__")),(U (.bool ag))]).toArray⟩
def vZ:af:=FF "getset_descriptor" [(.str (S "__dict__") 631),(R 283),(.builtin "function.__dict__"),(.builtin "function.__dict__#set")]
def v3:af:=FF "getset_descriptor" [(.str (S "__weakref__") 633),(R 283),(.builtin "ExceptionGroup.__weakref__"),.none]
def v5:af:=FF "super" [(R 283),(R 283),(R 283)]
def v7:af:=FF "builtin_function_or_method" [(.builtin "object.__init_subclass__"),(R 283)]
def nP:af:=T [(.bool ak)]
def v8:af:=TS 641 ["value","is_capital"]
def v9:af:=f0 (fa 51) "puny_figure"
def nR:af:=cF "puny_figure" 638 217 2 0 0 3 289 5
def nT:af:=g1 (fa 51) "puny_figure" "puny_figure" (R 288) e1 294
def wa:af:=TS 649 ["octet"]
def wc:af:=f0 (fa 52) "puny_value"
def rI:af:=cF "puny_value" 646 221 1 0 0 3 296 4
def rJ:af:=f1 (fa 52) "puny_value" e1 301
def rK:af:=T [(.bool ak)]
def wd:af:=TS 656 ["value","bias","numbers","is_capital","found","place","least","span"]
def we:af:=f0 (fa 53) "puny_number"
def rL:af:=cF "puny_number" 653 229 4 0 0 3 304 11
def rM:af:=g1 (fa 53) "puny_number" "puny_number" (R 303) e1 309
def wg:af:=TS 670 ["octets","at","bias","numbers","value","weight","place","figure","least"]
def wh:af:=f0 (fa 54) "puny_number_at"
def rN:af:=cF "puny_number_at" 667 240 4 0 0 3 311 12
def rO:af:=f1 (fa 54) "puny_number_at" e1 316
def wi:af:=TS 685 ["code","numbers"]
def wj:af:=f0 (fa 55) "puny_basic"
def rQ:af:=cF "puny_basic" 682 255 2 0 0 3 318 5
def rR:af:=f1 (fa 55) "puny_basic" e1 323
def wk:af:=TS 693 ["text","code"]
def wm:af:=f0 (fa 56) "puny_check"
def rS:af:=cF "puny_check" 690 257 1 0 0 3 325 5
def rT:af:=f1 (fa 56) "puny_check" e1 330
def wo:af:=f0 (fa 57) "puny_least_from"
def nU:af:=hB "puny_least_from" "puny_least_from" 698 261 2 0 0 3 332
def iF:af:=f1 (fa 57) "puny_least_from" e1 335
def wq:af:=TS 707 ["code","is_capital"]
def wt:af:=f0 (fa 58) "puny_cased"
def rV:af:=cF "puny_cased" 704 263 2 0 0 3 337 5
def rW:af:=f1 (fa 58) "puny_cased" e1 342
def ZM(P:aT):BT:=(N (j0 P) (N (mj P) (N (V0 P) (N (oL P) (N T0 (N ax (N (sj P) (N qE (L T0) Z) (N lC (L ax) Z)) (N T0 (N qM (L v7) Z) (L ax))) (N ax (N nY (N ny (L vV) Z) (N T0 (L nU) Z)) (N qz (N qV (L rK) Z) (L vJ)))) (N rm (N i8 (N sr (N nt (L T0) Z) (N q7 (L wk) Z)) (N ax (N T0 (L nT) Z) (L vH))) (N sb (N n1 (N ax (L rE) Z) (N T0 (L rW) Z)) (N T0 (N nE (L T0) Z) (L vL))))) (N T0 (N q4 (N nV (N T0 (N ax (L rz) Z) (N T0 (L rQ) Z)) (N sD (N nD (L v8) Z) (L rk))) (N (lG P) (N sx (N jE (L ax) Z) (N vC (L wq) Z)) (N nh (N ax (L T0) Z) (L rt)))) (N rC (N r4 (N ax (N qH (L T0) Z) (N ra (L rT) Z)) (N qx (N T0 (L T0) Z) (L ro))) (N ax (N T0 (N nA (L rH) Z) (L vE)) (N T0 (N q1 (L wh) Z) (L ry)))))) (N (oJ P) (N (oN P) (N qR (N T0 (N sm (N nq (L vQ) Z) (N ax (L T0) Z)) (N sC (N qN (L T0) Z) (L T0))) (N r8 (N T0 (N ax (L nN) Z) (N vB (L T0) Z)) (N qA (N qX (L ax) Z) (L vK)))) (N T0 (N r0 (N nX (N T0 (L rB) Z) (N nI (L wm) Z)) (N T0 (N qQ (L ax) Z) (L vI))) (N (se P) (N ax (N T0 (L vY) Z) (L vD)) (N ni (N T0 (L wg) Z) (L vM))))) (N nr (N rg (N rX (N sq (N T0 (L ax) Z) (N nG (L T0) Z)) (N nc (N ax (L v9) Z) (L T0))) (N r9 (N sy (N nz (L T0) Z) (N ri (L wt) Z)) (N ax (N T0 (L rL) Z) (L T0)))) (N nQ (N (r6 P) (N T0 (N qI (L vU) Z) (N rd (L ax) Z)) (N T0 (N (qU P) (L rI) Z) (L T0))) (N si (N n2 (N T0 (L v3) Z) (L nL)) (N qD (N q2 (L rO) Z) (L vN))))))) (N (lE P) (N (ml P) (N (oM P) (N ax (N rP (N sk (N nk (L vP) Z) (N T0 (L wi) Z)) (N ax (N T0 (L nP) Z) (L vF))) (N r7 (N nZ (N T0 (L rD) Z) (N ax (L iF) Z)) (N T0 (N qW (L T0) Z) (L T0)))) (N (rq P) (N rY (N nW (N nu (L vT) Z) (N (nH P) (L T0) Z)) (N qv (N qP (L T0) Z) (L T0))) (N sd (N T0 (N qK (L nO) Z) (L ax)) (N qC (N lA (L ax) Z) (L T0))))) (N VV (N q8 (N gF (N ax (N qF (L T0) Z) (N q6 (L rR) Z)) (N m9 (N T0 (L T0) Z) (L rl))) (N fs (N T0 (N e8 (L vW) Z) (N rh (L T0) Z)) (N T0 (N qY (L we) Z) (L ru)))) (N rF (N r5 (N su (N T0 (L ax) Z) (N rb (L T0) Z)) (N qy (N qT (L wc) Z) (L rp))) (N sf (N sA (N nB (L vZ) Z) (L nK)) (N ax (N T0 (L rN) Z) (L T0)))))) (N (oK P) (N (oI P) (N T0 (N rU (N so (N T0 (L vR) Z) (N q5 (L wj) Z)) (N T0 (N nC (L ax) Z) (L vG))) (N T0 (N ax (N qJ (L T0) Z) (N T0 (L ax) Z)) (N ng (N T0 (L wd) Z) (L rr)))) (N rA (N r3 (N T0 (N ax (L nM) Z) (N q9 (L rS) Z)) (N qw (N qS (L wa) Z) (L rn))) (N T0 (N sz (N qL (N (rG P) Z Z) Z) (L T0)) (N nj (N ax (L T0) Z) (L rx))))) (N nv (N rj (N (lF P) (N T0 (N qG (L vS) Z) (N lD (L ax) Z)) (N T0 (N qO (L nR) Z) (L ax))) (N sa (N n0 (N T0 (L vX) Z) (N nJ (L rV) Z)) (N qB (N qZ (L rM) Z) (L ax)))) (N T0 (N T0 (N sv (N nx (L T0) Z) (N rf (L wo) Z)) (N ax (N T0 (L rJ) Z) (L ax))) (N T0 (N n3 (N ax (L v5) Z) (L T0)) (N T0 (N nF (L T0) Z) (N (vO P) Z Z))))))))
def GI(P:aT)(r:aa e4):aa e4:=GH P <|er P "encode_label" 730 351::er P "puny_split" 738 358::er P "puny_is_capital" 745 365::er P "decode_annotated" 763 373::er P "decode_label" 771 381::en P "STOP" 775 (.int 46 774)::en P "HYPHEN_idna" 777 (.int 45 776)::er P "PREFIX" 782 382::en P "NON_JOINER" 784 (.int 8204 783)::en P "JOINER" 786 (.int 8205 785)::en P "VIRAMA" 788 (.int 9 787)::er P "MARKS" 792 383::en P "MOST_LABEL" 794 (.int 63 793)::en P "MOST_DOMAIN" 796 (.int 253 795)::en P "MIDDLE_DOT" 798 (.int 183 797)::en P "SMALL_L" 800 (.int 108 799)::en P "GREEK_SIGN" 802 (.int 885 801)::er P "HEBREW_SIGNS" 805 384::en P "KANA_DOT" 807 (.int 12539 806)::er P "KANA_SCRIPTS" 811 385::en P "ARABIC_ZERO" 813 (.int 1632 812)::en P "FURTHER_ZERO" 815 (.int 1776 814)::er P "RIGHT_CLASSES" 826 386::er P "LEFT_CLASSES" 835 387::er P "IdnaFlags" 876 405::r
def V1(P:aT):af:=DD 89 (en P "__name__" 165 (.str (S "unicore.idna") 772)::GI P [])
def GD(r:aa ai):aa ai:=GC <|q3 267 350 <|q3 293 357 <|q3 300 364 <|q3 302 372 <|q3 327 380 <|q3 349 393 <|r
def VW:af:=Fd (GD [])
def wu:af:=T [.none,.none]
def Av:af:=TS 715 ["text","numbers","capitals","wished","found","place","code","many_basic","done","delta","bias","least","one"]
def Aw:af:=f0 (fa 59) "encode_label"
def wx:af:=cF "encode_label" 712 267 3 0 0 3 345 16
def wy:af:=g1 (fa 59) "encode_label" "encode_label" (R 344) e1 350
def Ax:af:=TS 734 ["octets","at"]
def Ay:af:=f0 (fa 60) "puny_split"
def wz:af:=cF "puny_split" 731 293 1 0 0 3 352 5
def wB:af:=f1 (fa 60) "puny_split" e1 357
def Az:af:=TS 742 ["octet"]
def AA:af:=f0 (fa 61) "puny_is_capital"
def wC:af:=cF "puny_is_capital" 739 300 1 0 0 3 359 4
def wD:af:=f1 (fa 61) "puny_is_capital" e1 364
def wF:af:=T [.none]
def AB:af:=TS 749 ["octets","numbers","basic","at","text","capitals","octet","code","index","bias","delta","many"]
def AD:af:=f0 (fa 62) "decode_annotated"
def wG:af:=cF "decode_annotated" 746 302 2 0 0 3 367 15
def wH:af:=g1 (fa 62) "decode_annotated" "decode_annotated" (R 366) e1 372
def wI:af:=T [.none]
def AE:af:=TS 767 ["octets","numbers"]
def AF:af:=f0 (fa 63) "decode_label"
def wJ:af:=cF "decode_label" 764 327 2 0 0 3 375 5
def wK:af:=g1 (fa 63) "decode_label" "decode_label" (R 374) e1 380
noncomputable def wL:af:=⟨(.type "list"),ah,(.seq ([(.int 120 778),(.int 110 779),(.int 45 780),(.int 45 781)]).toArray 0),([]).toArray⟩
def wM:af:=TS 789 ["Mn","Mc","Me"]
def AG:af:=T [(.int 1523 803),(.int 1524 804)]
def AH:af:=TS 808 ["Hira","Kana","Hani"]
def AI:af:=TS 816 ["R","AL","AN","EN","ES","CS","ET","ON","BN","NSM"]
def AJ:af:=TS 827 ["L","EN","ES","CS","ET","ON","BN","NSM"]
def AK:af:=FF "builtin_function_or_method" [(.builtin "type.__prepare__"),(.type "type")]
def AL(P:aT):af:=DD 5 [en P "__module__" 843 (.str (S "unicore.idna") 772),en P "__qualname__" 845 (.str (S "IdnaFlags") 844),en P "__firstlineno__" 847 (.int 349 846),er P "__init__" 861 402,er P "__static_attributes__" 869 403]
def AM:af:=Fd [(.int 351 0),(.int 4 0),(.ref 401)]
def AN:af:=cM "IdnaFlags" "IdnaFlags" 838 349 0 0 0 0 391
def AO:af:=FR 393 390 dF
def wN:af:=T [(.bool ak),(.bool ag),(.bool ag),(.bool ag),(.bool ag),(.bool ak),(.bool ag)]
def AP:af:=TS 851 ["self","is_transitional","only_letters","hyphens","joiners","directions","contexts","lengths"]
def AQ:af:=g0 (fm 84 0) "__init__" "IdnaFlags.__init__"
def wQ:af:=cG "IdnaFlags.__init__" "__init__" 848 351 8 0 0 3 396 11
def rZ:af:=g1 (fm 84 0) "__init__" "IdnaFlags.__init__" (R 395) dF 401
def AR:af:=TS 862 ["contexts","directions","hyphens","is_transitional","joiners","lengths","only_letters"]
def wR(P:aT):af:=DD 4 [en P "__module__" 843 dF,en P "__firstlineno__" 847 (.int 349 846),er P "__init__" 861 402,er P "__static_attributes__" 869 403,er P "__dict__" 871 406,er P "__weakref__" 873 407,en P "__doc__" 874 .none]
def wU:af:=⟨(.type "type"),ah,(.cls {name:=(S "IdnaFlags"),bases:=[(.type "object")],mro:=[(.ref 405),(.type "object")],ns:=404,qualname:=(S "IdnaFlags"),hasDict:=ag,slotNames:=[],subclasses:=[],abstract:=ak,collection:=ah,hasDel:=ak}),([ah,ah,(U (.str (S "IdnaFlags") 836)),(U (.str (S "IdnaFlags") 844)),(U (.builtin "object.__new__")),(U (.bool ag))]).toArray⟩
def AS:af:=FF "getset_descriptor" [(.str (S "__dict__") 870),(R 405),(.builtin "function.__dict__"),(.builtin "function.__dict__#set")]
def AU:af:=FF "getset_descriptor" [(.str (S "__weakref__") 872),(R 405),(.builtin "ExceptionGroup.__weakref__"),.none]
def AV:af:=FF "super" [(R 405),(R 405),(R 405)]
def AW:af:=FF "builtin_function_or_method" [(.builtin "object.__init_subclass__"),(R 405)]
def ZN(P:aT):BT:=(N (j0 P) (N (mj P) (N (V1 P) (N (oL P) (N T0 (N ax (N (sj P) (N qE (L T0) (L wM)) (N lC (L ax) Z)) (N T0 (N qM (L v7) Z) (N ax (L wy) Z))) (N ax (N nY (N ny (L vV) (L T0)) (N T0 (L nU) Z)) (N qz (N qV (L rK) Z) (N vJ (L T0) Z)))) (N rm (N i8 (N sr (N nt (L T0) (L T0)) (N q7 (L wk) Z)) (N ax (N T0 (L nT) Z) (N vH (L T0) Z))) (N sb (N n1 (N ax (L rE) (L AU)) (N T0 (L rW) Z)) (N T0 (N nE (L T0) Z) (N vL (L T0) Z))))) (N T0 (N q4 (N nV (N T0 (N ax (L rz) (L AJ)) (N T0 (L rQ) Z)) (N sD (N nD (L v8) Z) (N rk (L T0) Z))) (N (lG P) (N sx (N jE (L ax) (L AR)) (N vC (L wq) Z)) (N nh (N ax (L T0) Z) (N rt (L AD) Z)))) (N rC (N r4 (N ax (N qH (L T0) (L wN)) (N ra (L rT) Z)) (N qx (N T0 (L T0) Z) (N ro (L AA) Z))) (N ax (N T0 (N nA (L rH) Z) (N vE (L Av) Z)) (N T0 (N q1 (L wh) Z) (N ry (L AF) Z)))))) (N (oJ P) (N (oN P) (N qR (N T0 (N sm (N nq (L vQ) (L AH)) (N ax (L T0) Z)) (N sC (N qN (L T0) Z) (N T0 (L ax) Z))) (N r8 (N T0 (N ax (L nN) (L wQ)) (N vB (L T0) Z)) (N qA (N qX (L ax) Z) (N vK (L AB) Z)))) (N T0 (N r0 (N nX (N T0 (L rB) (L AN)) (N nI (L wm) Z)) (N T0 (N qQ (L ax) Z) (N vI (L Az) Z))) (N (se P) (N ax (N T0 (L vY) (L AW)) (N vD (L T0) Z)) (N ni (N T0 (L wg) Z) (N vM (L AE) Z))))) (N nr (N rg (N rX (N sq (N T0 (L ax) (L AK)) (N nG (L T0) Z)) (N nc (N ax (L v9) Z) (N T0 (L wz) Z))) (N r9 (N sy (N nz (L T0) (L wU)) (N ri (L wt) Z)) (N ax (N T0 (L rL) Z) (N T0 (L wH) Z)))) (N nQ (N (r6 P) (N T0 (N qI (L vU) (L ax)) (N rd (L ax) Z)) (N T0 (N (qU P) (L rI) Z) (N T0 (L wD) Z))) (N si (N n2 (N T0 (L v3) Z) (N nL (L Aw) Z)) (N qD (N q2 (L rO) Z) (N vN (L wK) Z))))))) (N (lE P) (N (ml P) (N (oM P) (N ax (N rP (N sk (N nk (L vP) (L AG)) (N T0 (L wi) Z)) (N ax (N T0 (L nP) Z) (N vF (L T0) Z))) (N r7 (N nZ (N T0 (L rD) (L AQ)) (N ax (L iF) Z)) (N T0 (N qW (L T0) Z) (N T0 (L ax) Z)))) (N (rq P) (N rY (N nW (N nu (L vT) (L AM)) (N (nH P) (L T0) Z)) (N qv (N qP (L T0) Z) (N T0 (L ax) Z))) (N sd (N T0 (N qK (L nO) (L AV)) (N ax (L wu) Z)) (N qC (N lA (L ax) Z) (N T0 (L ax) Z))))) (N VW (N q8 (N gF (N ax (N qF (L T0) (L T0)) (N q6 (L rR) Z)) (N m9 (N T0 (L T0) Z) (N rl (L Ay) Z))) (N fs (N T0 (N e8 (L vW) (N (wR P) Z Z)) (N rh (L T0) Z)) (N T0 (N qY (L we) Z) (N ru (L wG) Z)))) (N rF (N r5 (N su (N T0 (L ax) (L T0)) (N rb (L T0) Z)) (N qy (N qT (L wc) Z) (N rp (L wC) Z))) (N sf (N sA (N nB (L vZ) Z) (N nK (L T0) Z)) (N ax (N T0 (L rN) Z) (N T0 (L wJ) Z)))))) (N (oK P) (N (oI P) (N T0 (N rU (N so (N T0 (L vR) (L AI)) (N q5 (L wj) Z)) (N T0 (N nC (L ax) Z) (N vG (L Ax) Z))) (N T0 (N ax (N qJ (L T0) (L rZ)) (N T0 (L ax) Z)) (N ng (N T0 (L wd) Z) (N rr (L T0) Z)))) (N rA (N r3 (N T0 (N ax (L nM) (L AO)) (N q9 (L rS) Z)) (N qw (N qS (L wa) Z) (N rn (L T0) Z))) (N T0 (N sz (N qL (N (rG P) Z Z) Z) (N T0 (L ax) Z)) (N nj (N ax (L T0) Z) (N rx (L T0) Z))))) (N nv (N rj (N (lF P) (N T0 (N qG (L vS) (N (AL P) Z Z)) (N lD (L ax) Z)) (N T0 (N qO (L nR) Z) (N ax (L wB) Z))) (N sa (N n0 (N T0 (L vX) (L AS)) (N nJ (L rV) Z)) (N qB (N qZ (L rM) Z) (N ax (L wI) Z)))) (N T0 (N T0 (N sv (N nx (L T0) (L AP)) (N rf (L wo) Z)) (N ax (N T0 (L rJ) Z) (N ax (L wF) Z))) (N T0 (N n3 (N ax (L v5) Z) (N T0 (L wx) Z)) (N T0 (N nF (L T0) Z) (N (vO P) (L wL) Z))))))))
def GJ(P:aT)(r:aa e4):aa e4:=GI P <|er P "idna_is_plain" 883 416::er P "idna_status" 894 423::er P "idna_mapped" 909 430::er P "map_label" 923 438::er P "idna_labels" 932 445::er P "idna_is_ascii" 938 450::er P "idna_joins" 950 457::er P "idna_may_join" 959 464::er P "idna_has_digit" 965 469::er P "idna_has_company" 971 474::er P "idna_classes" 977 479::er P "idna_is_mixed" 987 486::er P "idna_last_class" 995 493::er P "idna_has_one_way" 1001 498::er P "idna_hyphen_words" 1010 505::er P "idna_code_words" 1023 512::er P "idna_label_words" 1036 519::er P "idna_opened" 1047 526::er P "idna_shown" 1056 533::er P "idna_settled" 1065 540::er P "process" 1080 547::r
def V2(P:aT):af:=DD 110 (en P "__name__" 165 (.str (S "unicore.idna") 772)::GJ P [])
def GF(r:aa ai):aa ai:=GD <|q3 359 415 <|q3 361 422 <|q3 368 429 <|q3 385 437 <|q3 394 444 <|q3 402 449 <|q3 404 456 <|q3 411 463 <|q3 417 468 <|q3 419 473 <|q3 436 478 <|q3 438 485 <|q3 444 492 <|q3 449 497 <|q3 461 504 <|q3 466 511 <|q3 475 518 <|q3 491 525 <|q3 500 532 <|q3 506 539 <|q3 512 546 <|r
def VX:af:=Fd (GF [])
def HS:af:=TS 880 ["code"]
def HT:af:=f0 (fa 85) "idna_is_plain"
def AX:af:=cF "idna_is_plain" 877 359 1 0 0 3 410 4
def AY:af:=f1 (fa 85) "idna_is_plain" dF 415
def HU:af:=TS 887 ["code","data","only_letters","status","told"]
def HV:af:=f0 (fa 86) "idna_status"
def AZ:af:=cF "idna_status" 884 361 3 0 0 3 417 8
def A0:af:=f1 (fa 86) "idna_status" dF 422
def HW:af:=TS 898 ["code","data","is_transitional","only_letters","status","told","found","other","further"]
def HX:af:=f0 (fa 87) "idna_mapped"
def A1:af:=cF "idna_mapped" 895 368 4 0 0 3 424 12
def A2:af:=f1 (fa 87) "idna_mapped" dF 429
def A3:af:=T [(.bool ag)]
def HY:af:=TS 913 ["text","data","is_transitional","only_letters","found","words","code","told"]
def HZ:af:=f0 (fa 88) "map_label"
def A4:af:=cF "map_label" 910 385 4 0 0 3 432 11
def A5:af:=g1 (fa 88) "map_label" "map_label" (R 431) dF 437
def H0:af:=TS 927 ["text","found","code"]
def H2:af:=f0 (fa 89) "idna_labels"
def A6:af:=cF "idna_labels" 924 394 1 0 0 3 439 6
def hI:af:=f1 (fa 89) "idna_labels" dF 444
def H3:af:=f0 (fa 90) "idna_is_ascii"
def A7:af:=hB "idna_is_ascii" "idna_is_ascii" 933 402 1 0 0 3 446
def A8:af:=f1 (fa 90) "idna_is_ascii" dF 449
def H4:af:=TS 942 ["label","at","step","data","asked","joining"]
def H5:af:=f0 (fa 91) "idna_joins"
def H6:af:=cF "idna_joins" 939 404 5 0 0 3 451 9
def H7:af:=f1 (fa 91) "idna_joins" dF 456
def H8:af:=TS 954 ["label","at","data"]
def H9:af:=f0 (fa 92) "idna_may_join"
def Ia:af:=cF "idna_may_join" 951 411 3 0 0 3 458 6
def Ib:af:=f1 (fa 92) "idna_may_join" dF 463
def Ic:af:=f0 (fa 93) "idna_has_digit"
def Ie:af:=hB "idna_has_digit" "idna_has_digit" 960 417 2 0 0 3 465
def Ig:af:=f1 (fa 93) "idna_has_digit" dF 468
def Ih:af:=f0 (fa 94) "idna_has_company"
def Ii:af:=hB "idna_has_company" "idna_has_company" 966 419 3 0 0 3 470
def Ij:af:=f1 (fa 94) "idna_has_company" dF 473
def Ik:af:=f0 (fa 95) "idna_classes"
def Il:af:=hB "idna_classes" "idna_classes" 972 436 2 0 0 3 475
def Im:af:=f1 (fa 95) "idna_classes" dF 478
def Io:af:=TS 981 ["labels","data","label","word"]
def Ip:af:=f0 (fa 96) "idna_is_mixed"
def Iq:af:=cF "idna_is_mixed" 978 438 2 0 0 3 480 7
def Ir:af:=f1 (fa 96) "idna_is_mixed" dF 485
def It:af:=TS 991 ["classes","word"]
def Iu:af:=f0 (fa 97) "idna_last_class"
def Iv:af:=cF "idna_last_class" 988 444 1 0 0 3 487 5
def Iw:af:=f1 (fa 97) "idna_last_class" dF 492
def Iy:af:=f0 (fa 98) "idna_has_one_way"
def Iz:af:=hB "idna_has_one_way" "idna_has_one_way" 996 449 2 0 0 3 494
def IB:af:=f1 (fa 98) "idna_has_one_way" dF 497
def IC:af:=TS 1005 ["label","asks_hyphens","is_bound"]
def ID:af:=f0 (fa 99) "idna_hyphen_words"
def A9:af:=cF "idna_hyphen_words" 1002 461 2 0 0 3 499 6
def Ba:af:=f1 (fa 99) "idna_hyphen_words" dF 504
def IE:af:=TS 1014 ["label","data","flags","is_encoded","code","status","may_deviate"]
def IF:af:=f0 (fa 100) "idna_code_words"
def Bb:af:=cF "idna_code_words" 1011 466 4 0 0 3 506 10
def Bc:af:=f1 (fa 100) "idna_code_words" dF 511
def IG:af:=TS 1027 ["label","data","flags","is_encoded","words","at","code"]
def IH:af:=f0 (fa 101) "idna_label_words"
def Bd:af:=cF "idna_label_words" 1024 475 4 0 0 3 513 10
def Be:af:=f1 (fa 101) "idna_label_words" dF 518
def IJ:af:=TS 1040 ["label","data","flags","shown","words"]
def IK:af:=f0 (fa 102) "idna_opened"
def Bf:af:=cF "idna_opened" 1037 491 3 0 0 3 520 8
def Bg:af:=f1 (fa 102) "idna_opened" dF 525
def IL:af:=TS 1051 ["label","data","flags"]
def IP:af:=f0 (fa 103) "idna_shown"
def Bh:af:=cF "idna_shown" 1048 500 3 0 0 3 527 6
def Bi:af:=f1 (fa 103) "idna_shown" dF 532
def IQ:af:=TS 1060 ["words","found","word"]
def IS:af:=f0 (fa 104) "idna_settled"
def Bj:af:=cF "idna_settled" 1057 506 1 0 0 3 534 6
def Bk:af:=f1 (fa 104) "idna_settled" dF 539
def IT:af:=TS 1069 ["domain","data","flags","mapped","words","labels","label","shown","more"]
def IU:af:=f0 (fa 105) "process"
def Bl:af:=cF "process" 1066 512 3 0 0 3 541 12
def Bm:af:=f1 (fa 105) "process" dF 546
def ZO(P:aT):BT:=(N (j0 P) (N (mj P) (N (V2 P) (N (oL P) (N T0 (N ax (N (sj P) (N qE (N T0 (L Bb) Z) (L wM)) (N lC (L ax) (L ax))) (N T0 (N qM (N v7 (L IT) Z) (L AX)) (N ax (L wy) (L Im)))) (N ax (N nY (N ny (N vV (L T0) Z) (L T0)) (N T0 (L nU) (L Ia))) (N qz (N qV (L rK) (L A3)) (N vJ (L T0) (L ax))))) (N rm (N i8 (N sr (N nt (N T0 (L Be) Z) (L T0)) (N q7 (L wk) (L H5))) (N ax (N T0 (L nT) (L A0)) (N vH (L T0) (L T0)))) (N sb (N n1 (N ax (N rE (L ax) Z) (L AU)) (N T0 (L rW) (L ax))) (N T0 (N nE (L T0) (L T0)) (N vL (L T0) (L ID)))))) (N T0 (N q4 (N nV (N T0 (N ax (N rz (L IG) Z) (L AJ)) (N T0 (L rQ) (L T0))) (N sD (N nD (N v8 (L Bm) Z) (L HU)) (N rk (L T0) (L T0)))) (N (lG P) (N sx (N jE (N ax (L IP) Z) (L AR)) (N vC (L wq) (L Ic))) (N nh (N ax (L T0) (L T0)) (N rt (L AD) (L T0))))) (N rC (N r4 (N ax (N qH (N T0 (L T0) Z) (L wN)) (N ra (L rT) (L ax))) (N qx (N T0 (L T0) (L T0)) (N ro (L AA) (L Iu)))) (N ax (N T0 (N nA (N rH (L Bj) Z) (L ax)) (N vE (L Av) (L T0))) (N T0 (N q1 (L wh) (L H2)) (N ry (L AF) (L ax))))))) (N (oJ P) (N (oN P) (N qR (N T0 (N sm (N nq (N vQ (L T0) Z) (L AH)) (N ax (L T0) (L A7))) (N sC (N qN (N T0 (L IU) Z) (L T0)) (N T0 (L ax) (L ax)))) (N r8 (N T0 (N ax (N nN (L IL) Z) (L wQ)) (N vB (L T0) (L T0))) (N qA (N qX (L ax) (L ax)) (N vK (L AB) (L Iz))))) (N T0 (N r0 (N nX (N T0 (N rB (L ax) Z) (L AN)) (N nI (L wm) (L H7))) (N T0 (N qQ (L ax) (L ax)) (N vI (L Az) (L It)))) (N (se P) (N ax (N T0 (N vY (L T0) Z) (L AW)) (N vD (L T0) (L Ii))) (N ni (N T0 (L wg) (L H0)) (N vM (L AE) (L Ba)))))) (N nr (N rg (N rX (N sq (N T0 (N ax (L IH) Z) (L AK)) (N nG (L T0) (L H4))) (N nc (N ax (L v9) (L HV)) (N T0 (L wz) (L Iq)))) (N r9 (N sy (N nz (N T0 (L Bi) Z) (L wU)) (N ri (L wt) (L Ig))) (N ax (N T0 (L rL) (L A4)) (N T0 (L wH) (L IC))))) (N nQ (N (r6 P) (N T0 (N qI (N vU (L Bf) Z) (L ax)) (N rd (L ax) (L T0))) (N T0 (N (qU P) (L rI) (L A1)) (N T0 (L wD) (L Iw)))) (N si (N n2 (N T0 (N v3 (L T0) Z) (L T0)) (N nL (L Aw) (L Ik))) (N qD (N q2 (L rO) (L hI)) (N vN (L wK) (L T0)))))))) (N (lE P) (N (ml P) (N (oM P) (N ax (N rP (N sk (N nk (N vP (L Bc) Z) (L AG)) (N T0 (L wi) (L H3))) (N ax (N T0 (N nP (L T0) Z) (L AY)) (N vF (L T0) (L T0)))) (N r7 (N nZ (N T0 (N rD (L ax) Z) (L AQ)) (N ax (L iF) (L Ib))) (N T0 (N qW (L T0) (L T0)) (N T0 (L ax) (L Iy))))) (N (rq P) (N rY (N nW (N nu (N vT (L T0) Z) (L AM)) (N (nH P) (L T0) (L H6))) (N qv (N qP (L T0) (L T0)) (N T0 (L ax) (L ax)))) (N sd (N T0 (N qK (N nO (L IQ) Z) (L AV)) (N ax (L wu) (L Ih))) (N qC (N lA (L ax) (L ax)) (N T0 (L ax) (L A9)))))) (N VX (N q8 (N gF (N ax (N qF (N T0 (L T0) Z) (L T0)) (N q6 (L rR) (L ax))) (N m9 (N T0 (L T0) (L T0)) (N rl (L Ay) (L Ip)))) (N fs (N T0 (N e8 (N vW (L Bh) Z) (N (wR P) Z Z)) (N rh (L T0) (L Ie))) (N T0 (N qY (L we) (L HZ)) (N ru (L wG) (L ax))))) (N rF (N r5 (N su (N T0 (N ax (L IK) Z) (L T0)) (N rb (L T0) (L H8))) (N qy (N qT (L wc) (L HX)) (N rp (L wC) (L Iv)))) (N sf (N sA (N nB (N vZ (L Bk) Z) (L HS)) (N nK (L T0) (L ax))) (N ax (N T0 (L rN) (L A6)) (N T0 (L wJ) (L IE))))))) (N (oK P) (N (oI P) (N T0 (N rU (N so (N T0 (N vR (L ax) Z) (L AI)) (N q5 (L wj) (L A8))) (N T0 (N nC (N ax (L Bl) Z) (L ax)) (N vG (L Ax) (L Io)))) (N T0 (N ax (N qJ (N T0 (L T0) Z) (L rZ)) (N T0 (L ax) (L ax))) (N ng (N T0 (L wd) (L HY)) (N rr (L T0) (L IB))))) (N rA (N r3 (N T0 (N ax (N nM (L IJ) Z) (L AO)) (N q9 (L rS) (L T0))) (N qw (N qS (L wa) (L HW)) (N rn (L T0) (L T0)))) (N T0 (N sz (N qL (N (rG P) (L IS) Z) (L T0)) (N T0 (L ax) (L Ij))) (N nj (N ax (L T0) (L T0)) (N rx (L T0) (L T0)))))) (N nv (N rj (N (lF P) (N T0 (N qG (N vS (L Bd) Z) (N (AL P) Z Z)) (N lD (L ax) (L T0))) (N T0 (N qO (L nR) (L AZ)) (N ax (L wB) (L Ir)))) (N sa (N n0 (N T0 (N vX (L T0) Z) (L AS)) (N nJ (L rV) (L T0))) (N qB (N qZ (L rM) (L A5)) (N ax (L wI) (L T0))))) (N T0 (N T0 (N sv (N nx (N T0 (L Bg) Z) (L AP)) (N rf (L wo) (L H9))) (N ax (N T0 (L rJ) (L A2)) (N ax (L wF) (L T0)))) (N T0 (N n3 (N ax (N v5 (L ax) Z) (L HT)) (N T0 (L wx) (L Il))) (N T0 (N nF (L T0) (L T0)) (N (vO P) (L wL) (L IF)))))))))
def Tx(P:aT)(r:aa e4):aa e4:=GJ P <|er P "idna_joined" 1090 554::er P "idna_written" 1097 561::er P "idna_length_words" 1107 568::er P "to_ascii" 1122 575::er P "to_unicode" 1133 582::er P "range_are_like" 1141 587::er P "RangeMap" 1209 630::er P "range_rows" 1221 641::er P "data_defaults" 1231 648::er P "Data" 1290 686::er P "_law_menu" 1309 691::er P "_law_draw" 1321 698::er P "_law_rows" 1328 705::er P "_law_is_host" 1335 712::er P "_law_sort" 1345 719::er P "_law_mapped" 1358 726::er P "_law_is_wrong" 1370 733::er P "_law_drawn" 1376 738::er P "_law_due" 1382 743::er P "_law_joined" 1391 750::er P "_law_written" 1402 757::er P "law" 1408 762::r
def wO(P:aT):af:=DD 132 (en P "__name__" 165 (.str (S "law_pq1308_01") 1291)::Tx P [])
def Tw(r:aa ai):aa ai:=GF <|q3 524 553 <|q3 529 560 <|q3 536 567 <|q3 547 574 <|q3 559 581 <|q3 563 586 <|q3 567 593 <|q3 598 640 <|q3 605 647 <|q3 617 654 <|q3 639 697 <|q3 648 704 <|q3 655 711 <|q3 657 718 <|q3 666 725 <|q3 676 732 <|q3 684 737 <|q3 688 742 <|q3 700 749 <|q3 705 756 <|q3 712 761 <|r
def VY:af:=Fd (Tw [])
def V3:af:=TS 1084 ["labels","found","number","label"]
def V4:af:=f0 (fa 106) "idna_joined"
def IV:af:=cF "idna_joined" 1081 524 1 0 0 3 548 7
def IW:af:=f1 (fa 106) "idna_joined" dF 553
def V5:af:=TS 1094 ["label"]
def V6:af:=f0 (fa 107) "idna_written"
def IX:af:=cF "idna_written" 1091 529 1 0 0 3 555 4
def IY:af:=f1 (fa 107) "idna_written" dF 560
def V7:af:=TS 1101 ["labels","words","told","label"]
def V8:af:=f0 (fa 108) "idna_length_words"
def V9:af:=cF "idna_length_words" 1098 536 1 0 0 3 562 7
def Wa:af:=f1 (fa 108) "idna_length_words" dF 567
def Wb:af:=TS 1111 ["domain","data","flags","labels","words","written","label","octets","more"]
def Wc:af:=f0 (fa 109) "to_ascii"
def IZ:af:=cF "to_ascii" 1108 547 3 0 0 3 569 12
def gi:af:=f1 (fa 109) "to_ascii" dF 574
def Wd:af:=TS 1126 ["domain","data","flags","labels","words"]
def We:af:=f0 (fa 110) "to_unicode"
def I0:af:=cF "to_unicode" 1123 559 3 0 0 3 576 8
def I1:af:=f1 (fa 110) "to_unicode" dF 581
def Wf:af:=f0 (fa 112) "range_are_like"
def Bn:af:=hB "range_are_like" "range_are_like" 1136 563 2 0 0 3 583
def kD:af:=f1 (fa 112) "range_are_like" gE 586
def Wg:af:=FF "builtin_function_or_method" [(.builtin "type.__prepare__"),(.type "type")]
def Wh(P:aT):af:=DD 9 [en P "__module__" 1149 gE,en P "__qualname__" 1151 (.str (S "RangeMap") 1150),en P "__firstlineno__" 1153 (.int 567 1152),er P "__init__" 1161 601,er P "get" 1169 608,er P "put" 1184 615,er P "ranges" 1190 620,er P "set_of" 1198 627,er P "__static_attributes__" 1202 628]
def Wi:af:=Fd [(.int 569 0),(.int 4 0),(.ref 600),(.int 574 0),(.int 4 0),(.ref 607),(.int 577 0),(.int 4 0),(.ref 614),(.int 593 0),(.int 4 0),(.ref 619),(.int 596 0),(.int 4 0),(.ref 626)]
def Wj:af:=cM "RangeMap" "RangeMap" 1144 567 0 0 0 0 591
def Wk:af:=FR 593 590 gE
def Wl:af:=TS 1157 ["self","default"]
def Wm:af:=g0 (fm 113 0) "__init__" "RangeMap.__init__"
def I2:af:=cG "RangeMap.__init__" "__init__" 1154 569 2 0 0 3 595 5
def Bo:af:=g1 (fm 113 0) "__init__" "RangeMap.__init__" .none gE 600
def Wn:af:=TS 1165 ["self","code"]
def Wo:af:=g0 (fm 113 1) "get" "RangeMap.get"
def I3:af:=cG "RangeMap.get" "get" 1162 574 2 0 0 3 602 5
def Bp:af:=g1 (fm 113 1) "get" "RangeMap.get" .none gE 607
def Wq:af:=TS 1173 ["self","first","last","value","low","high","behind","starts","values"]
def Wr:af:=g0 (fm 113 2) "put" "RangeMap.put"
def I4:af:=cG "RangeMap.put" "put" 1170 577 4 0 0 3 609 12
def Bq:af:=g1 (fm 113 2) "put" "RangeMap.put" .none gE 614
def Ws:af:=g0 (fm 113 3) "ranges" "RangeMap.ranges"
def Br:af:=hB "RangeMap.ranges" "ranges" 1185 593 1 0 0 3 616
def jF:af:=g1 (fm 113 3) "ranges" "RangeMap.ranges" .none gE 619
def Wt:af:=TS 1194 ["self","value"]
def Wu:af:=g0 (fm 113 4) "set_of" "RangeMap.set_of"
def Wv:af:=cG "RangeMap.set_of" "set_of" 1191 596 2 0 0 3 621 5
def Ww:af:=g1 (fm 113 4) "set_of" "RangeMap.set_of" .none gE 626
def Wx:af:=TS 1199 ["default","starts","values"]
def I5(P:aT):af:=DD 4 [en P "__module__" 1149 gE,en P "__firstlineno__" 1153 (.int 567 1152),er P "__init__" 1161 601,er P "get" 1169 608,er P "put" 1184 615,er P "ranges" 1190 620,er P "set_of" 1198 627,er P "__static_attributes__" 1202 628,er P "__dict__" 1204 631,er P "__weakref__" 1206 632,en P "__doc__" 1207 .none]
def I6:af:=⟨(.type "type"),ah,(.cls {name:=(S "RangeMap"),bases:=[(.type "object")],mro:=[(.ref 630),(.type "object")],ns:=629,qualname:=(S "RangeMap"),hasDict:=ag,slotNames:=[],subclasses:=[],abstract:=ak,collection:=ah,hasDel:=ak}),([ah,ah,(U (.str (S "RangeMap") 1142)),(U (.str (S "RangeMap") 1150)),(U (.builtin "object.__new__")),(U (.bool ag))]).toArray⟩
def Wy:af:=FF "getset_descriptor" [(.str (S "__dict__") 1203),(R 630),(.builtin "function.__dict__"),(.builtin "function.__dict__#set")]
def Wz:af:=FF "getset_descriptor" [(.str (S "__weakref__") 1205),(R 630),(.builtin "ExceptionGroup.__weakref__"),.none]
def WA:af:=FF "super" [(R 630),(R 630),(R 630)]
def WB:af:=FF "builtin_function_or_method" [(.builtin "object.__init_subclass__"),(R 630)]
def WC:af:=TS 1213 ["range_map","starts","found","at","value","last"]
def WD:af:=f0 (fa 114) "range_rows"
def I7:af:=cF "range_rows" 1210 598 1 0 0 3 635 9
def I8:af:=f1 (fa 114) "range_rows" gE 640
def WE:af:=TS 1227 ["found","name"]
def WG:af:=f0 (fa 116) "data_defaults"
def I9:af:=cF "data_defaults" 1224 605 0 0 0 3 642 5
def Ja:af:=f1 (fa 116) "data_defaults" kB 647
def WH:af:=FF "builtin_function_or_method" [(.builtin "type.__prepare__"),(.type "type")]
def WI(P:aT):af:=DD 8 [en P "__module__" 1239 kB,en P "__qualname__" 1241 (.str (S "Data") 1240),en P "__firstlineno__" 1243 (.int 617 1242),er P "__init__" 1250 662,er P "put" 1261 669,er P "get" 1270 676,er P "map_of" 1278 683,er P "__static_attributes__" 1283 684]
def WJ:af:=Fd [(.int 619 0),(.int 4 0),(.ref 661),(.int 625 0),(.int 4 0),(.ref 668),(.int 628 0),(.int 4 0),(.ref 675),(.int 633 0),(.int 4 0),(.ref 682)]
def WK:af:=cM "Data" "Data" 1234 617 0 0 0 0 652
def WL:af:=FR 654 651 kB
def WM:af:=TS 1247 ["self"]
def WN:af:=g0 (fm 117 0) "__init__" "Data.__init__"
def Jb:af:=cG "Data.__init__" "__init__" 1244 619 1 0 0 3 656 4
def i9:af:=g1 (fm 117 0) "__init__" "Data.__init__" .none kB 661
def WO:af:=TS 1254 ["self","name","first","last","value"]
def WQ:af:=g0 (fm 117 1) "put" "Data.put"
def Jc:af:=cG "Data.put" "put" 1251 625 5 0 0 3 663 8
def hJ:af:=g1 (fm 117 1) "put" "Data.put" .none kB 668
def WR:af:=TS 1265 ["self","name","code"]
def WS:af:=g0 (fm 117 2) "get" "Data.get"
def Jd:af:=cG "Data.get" "get" 1262 628 3 0 0 3 670 6
def hK:af:=g1 (fm 117 2) "get" "Data.get" .none kB 675
def WT:af:=TS 1274 ["self","name"]
def WU:af:=g0 (fm 117 3) "map_of" "Data.map_of"
def Je:af:=cG "Data.map_of" "map_of" 1271 633 2 0 0 3 677 5
def hM:af:=g1 (fm 117 3) "map_of" "Data.map_of" .none kB 682
def WV:af:=TS 1279 ["defaults","maps","properties","words"]
def Jf(P:aT):af:=DD 4 [en P "__module__" 1239 kB,en P "__firstlineno__" 1243 (.int 617 1242),er P "__init__" 1250 662,er P "put" 1261 669,er P "get" 1270 676,er P "map_of" 1278 683,er P "__static_attributes__" 1283 684,er P "__dict__" 1285 687,er P "__weakref__" 1287 688,en P "__doc__" 1288 .none]
def Jg:af:=⟨(.type "type"),ah,(.cls {name:=(S "Data"),bases:=[(.type "object")],mro:=[(.ref 686),(.type "object")],ns:=685,qualname:=(S "Data"),hasDict:=ag,slotNames:=[],subclasses:=[],abstract:=ak,collection:=ah,hasDel:=ak}),([ah,ah,(U (.str (S "Data") 1232)),(U (.str (S "Data") 1240)),(U (.builtin "object.__new__")),(U (.bool ag))]).toArray⟩
def WW:af:=FF "getset_descriptor" [(.str (S "__dict__") 1284),(R 686),(.builtin "function.__dict__"),(.builtin "function.__dict__#set")]
def WX:af:=FF "getset_descriptor" [(.str (S "__weakref__") 1286),(R 686),(.builtin "ExceptionGroup.__weakref__"),.none]
def WY:af:=FF "super" [(R 686),(R 686),(R 686)]
def WZ:af:=FF "builtin_function_or_method" [(.builtin "object.__init_subclass__"),(R 686)]
def Jh:af:=T [(.int 97 1293),(.int 115 1294),(.int 49 1295),(.int 45 1296),(.int 95 1297),(.int 61 1298),(.int 233 1299),(.int 223 1300),(.int 173 1301),(.int 9332 1302),(.int 8800 1303),(.int 8814 1304),(.int 8232 1305),(.int 9424 1306),(.int 19968 1307),(.int 65 1308)]
def W0:af:=TS 1313 ["deck","below","turn","cells","cell","mixed"]
def W2:af:=f0 (fa 120) "_law_draw"
def Ji:af:=cF "_law_draw" 1310 639 2 0 0 3 692 9
def Jj:af:=f1 (fa 120) "_law_draw" iD 697
def W3:af:=TS 1325 ["found"]
def W4:af:=f0 (fa 121) "_law_rows"
def Jk:af:=cF "_law_rows" 1322 648 0 0 0 3 699 4
def Jl:af:=f1 (fa 121) "_law_rows" iD 704
def W5:af:=TS 1332 ["code"]
def W6:af:=f0 (fa 122) "_law_is_host"
def Jm:af:=cF "_law_is_host" 1329 655 1 0 0 3 706 4
def Jn:af:=f1 (fa 122) "_law_is_host" iD 711
def W7:af:=TS 1339 ["code","only_letters","word","sorts"]
def W8:af:=f0 (fa 123) "_law_sort"
def Jo:af:=cF "_law_sort" 1336 657 2 0 0 3 713 7
def Jp:af:=f1 (fa 123) "_law_sort" iD 718
def W9:af:=TS 1349 ["text","is_transitional","only_letters","found","is_bad","code","sort"]
def Xa:af:=f0 (fa 124) "_law_mapped"
def Jq:af:=cF "_law_mapped" 1346 666 3 0 0 3 720 10
def Jr:af:=f1 (fa 124) "_law_mapped" iD 725
def Xb:af:=TS 1362 ["label","is_transitional","only_letters","is_encoded","code","sort"]
def Xc:af:=f0 (fa 125) "_law_is_wrong"
def Js:af:=cF "_law_is_wrong" 1359 676 4 0 0 3 727 9
def Jt:af:=f1 (fa 125) "_law_is_wrong" iD 732
def Xd:af:=f0 (fa 126) "_law_drawn"
def Ju:af:=hB "_law_drawn" "_law_drawn" 1371 684 1 0 0 3 734
def hN:af:=f1 (fa 126) "_law_drawn" iD 737
def Xe:af:=f0 (fa 127) "_law_due"
def Bs:af:=hB "_law_due" "_law_due" 1377 688 3 0 0 3 739
def jG:af:=f1 (fa 127) "_law_due" iD 742
def Xf:af:=TS 1386 ["labels","found","label"]
def Xg:af:=f0 (fa 128) "_law_joined"
def Jv:af:=cF "_law_joined" 1383 700 1 0 0 3 744 6
def Jw:af:=f1 (fa 128) "_law_joined" iD 749
def Xh:af:=TS 1395 ["domain","data","flags","found","e"]
def Xi:af:=f0 (fa 129) "_law_written"
def Jx:af:=cF "_law_written" 1392 705 3 0 0 3 751 8
def hO:af:=f1 (fa 129) "_law_written" iD 756
def Xj:af:=f0 (fa 130) "law"
def Xk:af:=hB "law" "law" 1403 712 1 0 0 3 758
def Xl:af:=f1 (fa 130) "law" iD 761
def ft(P:aT):BT:=(N (j0 P) (N (mj P) (N (wO P) (N (oL P) (N T0 (N ax (N (sj P) (N qE (N T0 (L Bb) Z) (N wM (L WD) Z)) (N lC (N ax (L gi) Z) (N ax (L W4) Z))) (N T0 (N qM (N v7 (L IT) Z) (N AX (L ax) Z)) (N ax (N wy (L I3) Z) (N Im (L ax) Z)))) (N ax (N nY (N ny (N vV (L T0) Z) (N T0 (L WL) Z)) (N T0 (N nU (L T0) Z) (N Ia (L Jp) Z))) (N qz (N qV (N rK (L V6) Z) (N A3 (L WW) Z)) (N vJ (N T0 (L Wt) Z) (N ax (L T0) Z))))) (N rm (N i8 (N sr (N nt (N T0 (L Be) Z) (N T0 (L I9) Z)) (N q7 (N wk (L T0) Z) (N H5 (L Jm) Z))) (N ax (N T0 (N nT (L T0) Z) (N A0 (L WT) Z)) (N vH (N T0 (L Bq) Z) (N T0 (L jG) Z)))) (N sb (N n1 (N ax (N rE (L ax) Z) (N AU (L T0) Z)) (N T0 (N rW (L Wm) Z) (N ax (L T0) Z))) (N T0 (N nE (N T0 (L V9) Z) (N T0 (L T0) Z)) (N vL (N T0 (L Wy) Z) (N ID (L ax) Z)))))) (N T0 (N q4 (N nV (N T0 (N ax (N rz (L IG) Z) (N AJ (L ax) Z)) (N T0 (N rQ (L T0) Z) (N T0 (L ax) Z))) (N sD (N nD (N v8 (L Bm) Z) (N HU (L Jd) Z)) (N rk (N T0 (L Wq) Z) (N T0 (L T0) Z)))) (N (lG P) (N sx (N jE (N ax (L IP) Z) (N AR (L T0) Z)) (N vC (N wq (L T0) Z) (N Ic (L T0) Z))) (N nh (N ax (N T0 (L ax) Z) (N T0 (L Jh) Z)) (N rt (N AD (L Ww) Z) (N T0 (L Xi) Z))))) (N rC (N r4 (N ax (N qH (N T0 (L T0) Z) (N wN (N (WI P) Z Z) Z)) (N ra (N rT (L kD) Z) (N ax (L W7) Z))) (N qx (N T0 (N T0 (L T0) Z) (N T0 (L hM) Z)) (N ro (N AA (L Br) Z) (N Iu (L T0) Z)))) (N ax (N T0 (N nA (N rH (L Bj) Z) (N ax (L WQ) Z)) (N vE (N Av (L ax) Z) (N T0 (L Xc) Z))) (N T0 (N q1 (N wh (L Wb) Z) (N H2 (L T0) Z)) (N ry (N AF (L T0) Z) (L ax))))))) (N (oJ P) (N (oN P) (N qR (N T0 (N sm (N nq (N vQ (L T0) Z) (N AH (L I8) Z)) (N ax (N T0 (L ax) Z) (N A7 (L Jl) Z))) (N sC (N qN (N T0 (L IU) Z) (N T0 (L T0) Z)) (N T0 (N ax (L T0) Z) (N ax (L Ju) Z)))) (N r8 (N T0 (N ax (N nN (L IL) Z) (N wQ (L ax) Z)) (N vB (N T0 (L Wj) Z) (N T0 (L ax) Z))) (N qA (N qX (N ax (L IY) Z) (N ax (L WY) Z)) (N vK (N AB (L Wu) Z) (N Iz (L Xh) Z))))) (N T0 (N r0 (N nX (N T0 (N rB (L ax) Z) (N AN (L T0) Z)) (N nI (N wm (L Wf) Z) (N H7 (L T0) Z))) (N T0 (N qQ (N ax (L IV) Z) (N ax (L WU) Z)) (N vI (N Az (L ax) Z) (N It (L ax) Z)))) (N (se P) (N ax (N T0 (N vY (L T0) Z) (N AW (L WO) Z)) (N vD (N T0 (L Bo) Z) (N Ii (L Xb) Z))) (N ni (N T0 (N wg (L T0) Z) (N H0 (L Ji) Z)) (N vM (N AE (L WA) Z) (N Ba (L Xk) Z)))))) (N nr (N rg (N rX (N sq (N T0 (N ax (L IH) Z) (N AK (L T0) Z)) (N nG (N T0 (L I0) Z) (N H4 (L T0) Z))) (N nc (N ax (N v9 (L ax) Z) (N HV (L T0) Z)) (N T0 (N wz (L Wr) Z) (N Iq (L Xe) Z)))) (N r9 (N sy (N nz (N T0 (L Bi) Z) (N wU (L Jb) Z)) (N ri (N wt (L Wl) Z) (N Ig (L Jq) Z))) (N ax (N T0 (N rL (L T0) Z) (N A4 (L ax) Z)) (N T0 (N wH (N (I5 P) Z Z) Z) (N IC (L hO) Z))))) (N nQ (N (r6 P) (N T0 (N qI (N vU (L Bf) Z) (N ax (L WJ) Z)) (N rd (N ax (L Wg) Z) (N T0 (L W8) Z))) (N T0 (N (qU P) (N rI (L V5) Z) (N A1 (N (Jf P) Z Z) Z)) (N T0 (N wD (L T0) Z) (N Iw (L Jv) Z)))) (N si (N n2 (N T0 (N v3 (L T0) Z) (N T0 (L hJ) Z)) (N nL (N Aw (L T0) Z) (N Ik (L Jt) Z))) (N qD (N q2 (N rO (L Wc) Z) (N hI (L W3) Z)) (N vN (N wK (L WC) Z) (L T0)))))))) (N (lE P) (N (ml P) (N (oM P) (N ax (N rP (N sk (N nk (N vP (L Bc) Z) (N AG (L I7) Z)) (N T0 (N wi (L T0) Z) (N H3 (L Jk) Z))) (N ax (N T0 (N nP (L T0) Z) (N AY (L WR) Z)) (N vF (N T0 (L Bp) Z) (N T0 (L Xd) Z)))) (N r7 (N nZ (N T0 (N rD (L ax) Z) (N AQ (L T0) Z)) (N ax (N iF (L Wi) Z) (N Ib (L T0) Z))) (N T0 (N qW (N T0 (L IX) Z) (N T0 (L WX) Z)) (N T0 (N ax (L T0) Z) (N Iy (L ax) Z))))) (N (rq P) (N rY (N nW (N nu (N vT (L T0) Z) (N AM (L Ja) Z)) (N (nH P) (N T0 (L ax) Z) (N H6 (L Jn) Z))) (N qv (N qP (N T0 (L V4) Z) (N T0 (L T0) Z)) (N T0 (N ax (L T0) Z) (N ax (L T0) Z)))) (N sd (N T0 (N qK (N nO (L IQ) Z) (N AV (L ax) Z)) (N ax (N wu (L I2) Z) (N Ih (L ax) Z))) (N qC (N lA (N ax (L Wa) Z) (N ax (L W2) Z)) (N T0 (N ax (L Wz) Z) (N A9 (L Xj) Z)))))) (N VY (N q8 (N gF (N ax (N qF (N T0 (L T0) Z) (N T0 (L WE) Z)) (N q6 (N rR (L We) Z) (N ax (L W5) Z))) (N m9 (N T0 (N T0 (L T0) Z) (N T0 (L hK) Z)) (N rl (N Ay (L T0) Z) (N Ip (L ax) Z)))) (N fs (N T0 (N e8 (N vW (L Bh) Z) (N (wR P) (L WN) Z)) (N rh (N T0 (L ax) Z) (N Ie (L Xa) Z))) (N T0 (N qY (N we (L V7) Z) (N HZ (L T0) Z)) (N ru (N wG (L Wx) Z) (N ax (L Jx) Z))))) (N rF (N r5 (N su (N T0 (N ax (L IK) Z) (N T0 (L T0) Z)) (N rb (N T0 (L T0) Z) (N H8 (L T0) Z))) (N qy (N qT (N wc (L ax) Z) (N HX (L WV) Z)) (N rp (N wC (L jF) Z) (N Iv (L Xg) Z)))) (N sf (N sA (N nB (N vZ (L Bk) Z) (N HS (L Jc) Z)) (N nK (N T0 (L Wn) Z) (N ax (L Js) Z))) (N ax (N T0 (N rN (L T0) Z) (N A6 (L ax) Z)) (N T0 (N wJ (L ax) Z) (L IE))))))) (N (oK P) (N (oI P) (N T0 (N rU (N so (N T0 (N vR (L ax) Z) (N AI (L T0) Z)) (N q5 (N wj (L Wd) Z) (N A8 (L T0) Z))) (N T0 (N nC (N ax (L Bl) Z) (N ax (L WS) Z)) (N vG (N Ax (L ax) Z) (N Io (L hN) Z)))) (N T0 (N ax (N qJ (N T0 (L T0) Z) (N rZ (L WM) Z)) (N T0 (N ax (L Wk) Z) (N ax (L W9) Z))) (N ng (N T0 (N wd (L T0) Z) (N HY (L WZ) Z)) (N rr (N T0 (L Wv) Z) (N IB (L T0) Z))))) (N rA (N r3 (N T0 (N ax (N nM (L IJ) Z) (N AO (L WH) Z)) (N q9 (N rS (L Bn) Z) (N T0 (L ax) Z))) (N qw (N qS (N wa (L IW) Z) (N HW (L Je) Z)) (N rn (N T0 (L Ws) Z) (N T0 (L Xf) Z)))) (N T0 (N sz (N qL (N (rG P) (L IS) Z) (N T0 (L T0) Z)) (N T0 (N ax (L T0) Z) (N Ij (L T0) Z))) (N nj (N ax (N T0 (L ax) Z) (N T0 (L Jj) Z)) (N rx (N T0 (L WB) Z) (N T0 (L Xl) Z)))))) (N nv (N rj (N (lF P) (N T0 (N qG (N vS (L Bd) Z) (N (AL P) (L WG) Z)) (N lD (N ax (L I1) Z) (N T0 (L W6) Z))) (N T0 (N qO (N nR (L V3) Z) (N AZ (L ax) Z)) (N ax (N wB (L I4) Z) (N Ir (L Bs) Z)))) (N sa (N n0 (N T0 (N vX (L T0) Z) (N AS (L i9) Z)) (N nJ (N rV (L T0) Z) (N T0 (L Jr) Z))) (N qB (N qZ (N rM (L V8) Z) (N A5 (L W0) Z)) (N ax (N wI (L I6) Z) (N T0 (L T0) Z))))) (N T0 (N T0 (N sv (N nx (N T0 (L Bg) Z) (N AP (L WK) Z)) (N rf (N wo (N (Wh P) Z Z) Z) (N H9 (L Jo) Z))) (N ax (N T0 (N rJ (L T0) Z) (N A2 (L Jg) Z)) (N ax (N wF (L ax) Z) (N T0 (L Jw) Z)))) (N T0 (N n3 (N ax (N v5 (L ax) Z) (N HT (L T0) Z)) (N T0 (N wx (L Wo) Z) (N Il (L T0) Z))) (N T0 (N nF (N T0 (L IZ) Z) (N T0 (L T0) Z)) (N (vO P) (N wL (L T0) Z) (L IF)))))))))
def gh:fJ:={scope:=pw.main.scope,locals:=mainNs,globals:=mainNs,cells:=[],code:=.ref 13,frame:=U 14}
abbrev jw:aa a9:=C0 pw
abbrev cE:Code:=.body jw gh
noncomputable abbrev q0:aQ:=⟨0,0,0,0⟩
abbrev B0:aa Frame:=[topFrame q0]
def ZP(P:aT):BT:=(N (j0 P) (N (mj P) (N (boot_o_3 P) (N (oL P) Z Z) (L T0)) (N (oJ P) (N (oN P) Z Z) (L nr))) (N (boot_o_2 P) (N (ml P) (N (oM P) Z Z) (N (Fd []) Z Z)) (N (oK P) (N (oI P) Z Z) (L nv))))
abbrev SA(w:aV)(os:d7):oG:=⟨ZP w.params,15,{},#[],{},187,os⟩
abbrev S0(w:aV)(os:d7):oG:=⟨ZL w.params,206,{},#[],{},478,os⟩
abbrev l0:aa a9:=(jw.drop 0).take 34
noncomputable abbrev p0:aQ:=⟨121,0,135,87⟩
abbrev S1(w:aV)(os:d7):oG:=⟨ZM w.params,344,{},#[],{},712,os⟩
abbrev l1:aa a9:=(jw.drop 34).take 25
noncomputable abbrev p1:aQ:=⟨263,0,266,62⟩
abbrev S2(w:aV)(os:d7):oG:=⟨ZN w.params,410,{},#[],{},877,os⟩
abbrev l2:aa a9:=(jw.drop 59).take 26
noncomputable abbrev p2:aQ:=⟨349,0,358,30⟩
abbrev S3(w:aV)(os:d7):oG:=⟨ZO w.params,548,{},#[],{},1081,os⟩
abbrev l3:aa a9:=(jw.drop 85).take 21
noncomputable abbrev p3:aQ:=⟨512,0,523,40⟩
abbrev S4(w:aV)(os:d7):oG:=⟨ft w.params,763,{},#[],{},1409,os⟩
abbrev l4:aa a9:=(jw.drop 106).take 25
noncomputable abbrev p4:aQ:=⟨712,0,749,109⟩
theorem XW(w:aV)(os:d7):aa7 mi pw w 11 (U (.ref 6)) 12 ⟨hv w.params,#[],oH,oO,os⟩ (x9 pw)=U (fw (SA w os),⟨aa6 mi cE,cE,q0,B0⟩):=by kernel_rfl
theorem XU(w:aV)(os:d7):topGo ie pw w 11 (U (.ref 6)) 12 ⟨hv w.params,#[],oH,oO,os⟩ (x9 pw)=U (fw (SA w os),⟨denote ie cE,cE,q0,B0⟩):=by
 have h:=XW w os;rw[← aaZ,← oF,← aaY]at h;exact h
theorem OA(w:aV)(os:d7):oR ie pw w 11 (U (.ref 6)) 1 1 (fw (SA w os)) (blockOf jw gh cE q0 B0)=U (.next,fw (SA w os),cE,q0):=by kernel_rfl
theorem Tj(w:aV)(os:d7):tF mi pw w 11 (U (.ref 6)) 1 1590 (SA w os) ⟨(tG l0 gh).wrap oQ tI id id,cE,q0,B0⟩=U (.next,S0 w os,cE,p0):=by kernel_rfl
theorem Te(w:aV)(os:d7):oR ie pw w 11 (U (.ref 6)) 1 1590 (fw (SA w os)) (tM l0 gh cE q0 B0)=U (.next,fw (S0 w os),cE,p0):=by
 have h:=Tj w os;rw[← tD,← oF,← tE]at h;exact tN h
theorem Tn(w:aV)(os:d7):tF mi pw w 11 (U (.ref 6)) 1 859 (S0 w os) ⟨(tG l1 gh).wrap oQ tI id id,cE,p0,B0⟩=U (.next,S1 w os,cE,p1):=by kernel_rfl
theorem Tf(w:aV)(os:d7):oR ie pw w 11 (U (.ref 6)) 1 859 (fw (S0 w os)) (tM l1 gh cE p0 B0)=U (.next,fw (S1 w os),cE,p1):=by
 have h:=Tn w os;rw[← tD,← oF,← tE]at h;exact tN h
theorem To(w:aV)(os:d7):tF mi pw w 11 (U (.ref 6)) 1 625 (S1 w os) ⟨(tG l2 gh).wrap oQ tI id id,cE,p1,B0⟩=U (.next,S2 w os,cE,p2):=by kernel_rfl
theorem Tg(w:aV)(os:d7):oR ie pw w 11 (U (.ref 6)) 1 625 (fw (S1 w os)) (tM l2 gh cE p1 B0)=U (.next,fw (S2 w os),cE,p2):=by
 have h:=To w os;rw[← tD,← oF,← tE]at h;exact tN h
theorem Tp(w:aV)(os:d7):tF mi pw w 11 (U (.ref 6)) 1 658 (S2 w os) ⟨(tG l3 gh).wrap oQ tI id id,cE,p2,B0⟩=U (.next,S3 w os,cE,p3):=by kernel_rfl
theorem Th(w:aV)(os:d7):oR ie pw w 11 (U (.ref 6)) 1 658 (fw (S2 w os)) (tM l3 gh cE p2 B0)=U (.next,fw (S3 w os),cE,p3):=by
 have h:=Tp w os;rw[← tD,← oF,← tE]at h;exact tN h
theorem Tq(w:aV)(os:d7):tF mi pw w 11 (U (.ref 6)) 1 1321 (S3 w os) ⟨(tG l4 gh).wrap oQ tI id id,cE,p3,B0⟩=U (.next,S4 w os,cE,p4):=by kernel_rfl
theorem Ti(w:aV)(os:d7):oR ie pw w 11 (U (.ref 6)) 1 1321 (fw (S3 w os)) (tM l4 gh cE p3 B0)=U (.next,fw (S4 w os),cE,p4):=by
 have h:=Tq w os;rw[← tD,← oF,← tE]at h;exact tN h
theorem Sp(w:aV)(os:d7):topRun ie pw w 11 (U (.ref 6)) 2 (fw (S4 w os)) ⟨oQ .next,cE,p4,B0⟩=U (fw (S4 w os)):=by kernel_rfl
theorem OB:jw=l0++(l1++(l2++(l3++(l4++[])))):=by kernel_rfl
noncomputable abbrev MM:ae:=12+(1+(1590+(859+(625+(658+(1321+2))))))
theorem Yk(w:aV)(os:d7):topRun ie pw w 11 (U (.ref 6)) MM ⟨hv w.params,#[],oH,oO,os⟩ (x9 pw)=U (fw (S4 w os)):=by
 refine go_top (XU w os) (piece_block (OA w os) ?_);have h:restOf jw gh cE q0 B0=restOf (l0++(l1++(l2++(l3++(l4++[]))))) gh cE q0 B0:=aZ (λl=> restOf l gh cE q0 B0) OB;rw[h];exact tL (Te w os) (tL (Tf w os) (tL (Tg w os) (tL (Th w os) (tL (Ti w os) (piece_nil (Sp w os))))))
def H1(P:aT):cc:=absHeap (ft P) 763 {}
def fZ:mf:={pw with main:={pw.main with body:=pw.main.body.drop 130}}
def ku:aa ao:=pw.boundNames.filter λn=> !(n==S "law")
theorem Xw:∀w:aV,(fencedOpening ie pw w 12000).map (λs=> (s.heap,s.gens,s.drawn,s.toks))=U (hv w.params,#[],oH,oO):=
 boot_open (p:=pw) (by kernel_rfl) (by decide) (λs=> by kernel_rfl)
theorem YX:∀w:aV,((hv w.params).isNs mainGlobals && (#[]:c8 GenState).size==0,(hv w.params).objs.size,(hv w.params).nsMap mainGlobals "__annotations__")=(ag,11,U (.ref 6)):=λw=> by kernel_rfl
theorem U0:∀(w:aV) (os:d7),(staticsOk (yj pw.main.body) (hv w.params) (H1 w.params) && namesBound pw (H1 w.params) && gensDone ⟨H1 w.params,#[],{},1409,os⟩ && laidKept (hv w.params) (H1 w.params))=ag:=λw os=> by kernel_rfl
theorem U1:∀(w:aV) (os:d7),openSeen fZ ku (yj pw.main.body) (λs=> xlAt fZ [] s && recOk [] s) ag ⟨H1 w.params,#[],{},1409,os⟩=openGood fZ ku:=λw os=> by kernel_rfl
abbrev yI:aD->au:=λs=> xlAt fZ [] s && recOk [] s
theorem NK(w:aV)(os:d7):fw (S4 w os)=⟨H1 w.params,#[],{},1409,os⟩:=rfl
theorem Yl(w:aV)(os:d7):topRun ie pw w 11 (U (.ref 6)) MM ⟨hv w.params,#[],oH,oO,os⟩ (x9 pw)=U ⟨H1 w.params,#[],{},1409,os⟩:=(Yk w os).trans (aZ U (NK w os))
theorem UZ(w:aV):(λos=> ((staticsOk (yj pw.main.body) (hv w.params) (H1 w.params) && namesBound pw (H1 w.params) && gensDone ⟨H1 w.params,#[],{},1409,os⟩ && laidKept (hv w.params) (H1 w.params)),
    openSeen fZ ku (yj pw.main.body) yI ag ⟨H1 w.params,#[],{},1409,os⟩,(λs:aD=> s.heap) ⟨H1 w.params,#[],{},1409,os⟩))=λL=> (ag,openGood fZ ku,(λw:aV=> H1 w.params) w):=funext λos=> by
 rw[U0 w os,U1 w os]
theorem US:LeftO pw fZ ku yI (λs=> s.heap) (λw=> H1 w.params) 12000:=
 LeftO.of_pieces (H₀:=hv) (H₁:=H1) (gs₀:=#[]) (gs₁:=#[]) (d₀:=oH) (d₁:={}) (k₀:=oO) (k₁:=1409) (m₀:=11) (ann:=U (.ref 6)) (M:=MM)
  Xw YX Yl (by decide) UZ
noncomputable abbrev L0:=xU
theorem Yo:L0.row.wellSaid=ag:=(e5 aa1 _).trans (by kernel_rfl)
theorem Yz:decide (L0.foot≤(C0 L0.prog).length)=ag:=by kernel_rfl
theorem YA:L0.footing.all footLine=ag:=by
 have h:L0.footing.all aa5=ag:=by kernel_rfl
 rw[← aaX]at h;exact h
theorem YB:noClassBlock L0.prog L0.footing=ag:=(e5 (e5 aa2 _) _).trans (by kernel_rfl)
theorem YC:L2 (λn=> decide (63≤n)) L0.most=ag:=by kernel_rfl
theorem YD:L2 (λn=> decide (2 ^ 63≤n)) L0.bound=ag:=by kernel_rfl
theorem YE:noRoadLSs {strict:=ag,foot:=U L0.bound',writes:=L0.writes,may:=L0.may} L0.footing=ag:=(e5 (e5 aa3 _) _).trans (by kernel_rfl)
theorem YF:defStands L0.about L0.above=ag:=(e5 (e5 aa4 _) _).trans (by kernel_rfl)
theorem YG:L0.namesIt=ag:=(e5 aa0 _).trans (by kernel_rfl)
theorem Yp:([gu "type",gu "isinstance",gu "issubclass",gu "getattr",gu "hasattr"].all λn=> L0.about !=[n])=ag:=by kernel_rfl
theorem Yq:(L0.bound'.all λn=> !MK n ||L0.about==[n] ||!L0.reads n)=ag:=by
 have h:(L0.bound'.all λn=> !MF n ||L0.about==[n] ||!L0.reads n)=ag:=by kernel_rfl
 rw[← ME]at h;exact h
theorem Yr:(!L0.writes ||(Lm MV L0.prog.main.body).all λn=> !L0.reads n)=ag:=by kernel_rfl
theorem Ys:((Lm MV L0.prog.main.body).all λn=> !L0.reads n ||(drawsOf n L0.prog.main.body).all λa=> a.snd !=gu "attrgetter" && a.snd !=gu "methodcaller")=ag:=by kernel_rfl
theorem Yt:(C4 L0.prog L0.footing λD n=> (![gu "type",gu "isinstance",gu "issubclass",gu "getattr",gu "hasattr"].contains n ||List.lookup n D.names==U My) && (L0.may !=U n ||D.kind==MB ||List.lookup n D.names==U My))=ag:=(e5 (e5 (e5 CY _) _) _).trans (by kernel_rfl)
theorem Yu:L0.own.contains L0.name=ag:=by kernel_rfl
theorem Yv:(L0.own.eraseDups.length==L0.own.length)=ag:=by kernel_rfl
theorem Yw:(L0.own.all λn=> !MK n)=ag:=by
 have h:(L0.own.all λn=> !MF n)=ag:=by kernel_rfl
 rw[← ME]at h;exact h
theorem Yx:(C4 L0.prog L0.above λL n=> !L0.own.contains n)=ag:=(e5 (e5 (e5 CY _) _) _).trans (by kernel_rfl)
theorem Yy:(C4 L0.prog L0.footing λD n=> D.kind==MB ||List.lookup n D.names !=U NameKind.globalExplicit)=ag:=(e5 (e5 (e5 CY _) _) _).trans (by kernel_rfl)
theorem Yn:L0.wellSaid=ag:=
 eQ (eQ (eQ (eQ (eQ (eQ (eQ (eQ (eQ (eQ (eQ (eQ (eQ (eQ (eQ (eQ (eQ (eQ Yo Yz) YA) YB) YC) YD) YE) YF) YG) Yp) Yq) Yr) Ys) Yt) Yu) Yv) Yw) Yx) Yy
abbrev ug(w:aV)(h:cc):Prop:=∀b o,(H1 w.params).get? b=U o->h.get? b=U o
noncomputable def XT(s:aq a9):aQ:=s.elim ⟨0,0,0,0⟩ λs=> if h:s.ctorIdx=0 then MC.elim (motive_2:=λL=> aQ) s h λL L L L L L L L L p=> p else⟨0,0,0,0⟩
abbrev ko:DefRec:={name:=S "law",params:=(fa 130).1,body:=(fa 130).2.1,scope:=(fa 130).2.2,pos:=XT pw.main.body[130]?}
theorem TB:defOf fZ (S "law")=U (ko,[]):=by kernel_rfl
theorem TL:pw.theDef (S "law")=U (ko.params,ko.body,ko.scope):=by kernel_rfl
theorem TK:kwWritten? ko.params.kwonlyargs ko.params.kw_defaults=U []:=by kernel_rfl
noncomputable abbrev iG:OpenRow:=xU.row
theorem Xp:chainsOk fZ=ag:=by kernel_rfl
theorem Xq:(opening pw).tameTopW=ag:=by kernel_rfl
theorem Xr:(!bearImports (C0 pw))=ag:=by kernel_rfl
theorem Xs:(frees iG.toRowW && iG.within.isEmpty)=ag:=by kernel_rfl
theorem Xo:(chainsOk fZ && opensWell iG.prog && (frees iG.toRowW && iG.within.isEmpty))=ag:=eQ (eQ Xp (eQ Xq Xr)) Xs
theorem Og:iG.prog.bare:=⟨rfl,rfl,rfl,rfl,rfl,by decide+kernel⟩
theorem aam:iG.toRowW.promised:=⟨[.list []],by decide+kernel,by decide+kernel⟩
theorem TC(bQ:WalkO fZ ku (XL fZ []) ug iG.toRowW ko [] λf Z=> bQ f Z):xU.Holds:=
 holds_law Yn λi=> holds_open (r:=iG) (q:=fZ) (loose:=ku) (Xt:=yI) (XP:=XL fZ []) (Yf:=λs=> s.heap) (Ya:=λw=> H1 w.params) (YP:=ug) (N:=12000)
  US (λw s e b o h=> by rw[← e]at h;exact h) (λw h N y k b o e=> k _ _ (y b o e))
  (λs e=> xl_of s (B9.mp e).1) XL.keeps TB TL TK (λs e=> recFacts_of (B9.mp e).2) (by decide) i Xo Og aam bQ
end
noncomputable section
open PySem PySem.W PyProof.Rows PySem.Calls PySem.Spec
abbrev Fz:=av->aq af
def Sub(F G:Fz):Prop:=∀a o,F a=U o->G a=U o
theorem Sub.refl(F:Fz):Sub F F:=λL L e=> e
theorem Sub.trans{F G c:Fz}(a:Sub F G)(b:Sub G c):Sub F c:=λL L e=> b _ _ (a _ _ e)
noncomputable def Fz.ins(F:Fz)(a:av)(o:af):Fz:=λb=> if b=a then U o else F b
theorem Sub.ins{F:Fz}{a:av}{o:af}(h:F a=ah):Sub F (F.ins a o):=λb o' e=> by
 unfold Fz.ins
 split
 ·rename_i q;subst q;rw[h]at e;cases e
 ·exact e
theorem Fz.lq(F:Fz)(a:av)(o:af):F.ins a o a=U o:=bZ rfl
structure Ext(ex:aa av)(s s':aD):Prop where
 keep:∀a o,s.heap.get? a=some o->a∉ex->s'.heap.get? a=some o
 gens:s'.gens=s.gens
 os:s'.os=s.os
theorem Ext.weaken{b c:aa av}{s P:aD}(a:Ext b s P)(h:∀x∈b,x∈c):Ext c s P:=
 ⟨λx o e n=> a.keep x o e λm=> n (h x m),a.gens,a.os⟩
theorem Ext.toks{b:aa av}{s P:aD}(a:Ext b s P)(t:fM):Ext b s {P with toks:=t}:=⟨a.keep,a.gens,a.os⟩
noncomputable def lk(ls:aa (ao×aq ai))(x:ao):aq ai:=ls.foldr (λp q=> if x=p.1 then p.2 else q) ah
noncomputable def kF:aa (ao×aq ai)->ae->ai->aa (ao×aq ai)
 |[],_,_=> []
 |p::r,i,v=> Nat.casesOn (motive:=λL=> aa (ao×aq ai)) i ((p.1,U v)::r) λj=> p::kF r j v
theorem YL(ls:aa (ao×aq ai)):∀(i:ae) (v:ai),(kF ls i v).map (·.1)=ls.map (·.1):=by
 induction ls with
 |nil=> exact λL L=> rfl
 |cons p r D=>
  intro i v;cases i with
  |zero=> rfl
  |succ i=> exact aZ (p.1::·) (D i v)
theorem HP{j:Type}{i:ae}{a:j}{P:Prop}(h:([]:aa j)[i]?=U a):P:=bf (h.symm.trans List.getElem?_nil) (Option.some_ne_none a)
theorem Hj{r:aa (ao×aq ai)}{x y:ao}{i:ae}{v:aq ai}(n:y∉r.map (·.1))(h:r[i]?=U (x,v)):x≠y:=λe=> n (e ▸ cY (f5 h))
theorem Hi{ls:aa (ao×aq ai)}:∀{i:ae} {x:ao} {v:aq ai},(ls.map (·.1)).Nodup->ls[i]?=U (x,v)->lk ls x=v:=by
 induction ls with
 |nil=> exact λL h=> HP h
 |cons p r D=>
  intro i x v n h;cases i with
  |zero=> obtain rfl:p=(x,v):=bo h;exact bZ rfl
  |succ i=> exact(bW (Hj (dN.mp n).1 h)).trans (D (dN.mp n).2 h)
theorem zY{ls:aa (ao×aq ai)}{v:ai}:∀{i:ae} {x:ao} {u:aq ai},(ls.map (·.1)).Nodup->ls[i]?=U (x,u)->
  (λy=> if y=x then U v else lk ls y)=lk (kF ls i v):=by
 induction ls with
 |nil=> exact λL h=> HP h
 |cons p r D=>
  intro i x u n h
  funext z
  cases i with
  |zero=>
   obtain rfl:p=(x,u):=bo h;show(if z=x then U v else if z=x then u else lk r z)=if z=x then U v else lk r z
   split <;> rfl
  |succ i=>
   have k:=Hj (dN.mp n).1 h;show(if z=x then U v else if z=p.1 then p.2 else lk r z)=if z=p.1 then p.2 else lk (kF r i v) z
   rw[← e5 (D (dN.mp n).2 h) z];by_cases B:z=p.1
   ·rw[bZ B,bZ B,bW (λe=> k (e.symm.trans B))]
   ·rw[bW B,bW B]
theorem eA{P:aT}{a:av}{o:af}(h:(ft P).get a=U o)(D:a < 763)(t:o.isFreed=ak):(H1 P).get? a=U o:=
 CP.mpr ⟨by
  show(absHeap (ft P) 763 {}).objs[a]?=U o;rw[absHeap_at,bZ D,h];rfl,t⟩
noncomputable def cu:av:=145
def d1(P:aT)(F:Fz):Prop:=∀b o,b≠cu->(H1 P).get? b=U o->F b=U o
theorem d1.mono{P:aT}{F G:Fz}(T:d1 P F)(s:Sub F G):d1 P G:=λb o n e=> s b o (T b o n e)
noncomputable def pL(d:Data):aq (c8 e4):=if h:d.ctorIdx=3 then U (CK.elim (motive:=λL=> c8 e4) d h λl L=> l)else ah
theorem Qe{d:Data}{l:c8 e4}(h:pL d=U l):∃H,d=.dict l H:=by
 by_cases c:d.ctorIdx=3
 ·exact CK.elim (motive:=λd=> pL d=U l->∃H,d=.dict l H) d c (λa H h=> ⟨H,aZ (CK · H) (bo h)⟩) h
 ·exact nomatch ((yx c).symm.trans h)
def vv(o:af)(x:ao):aq ai:=(pL o.data).elim ah λl=> nsFind l x
def hH(P:aT):ao->aq ai:=vv (wO P)
def vq(P:aT):ao->aq ai:=vv (j0 P)
noncomputable def Kh(l:aa e4):au:=l.all λe=> bJ e.key.ctorIdx 6
theorem Zo{l:c8 e4}(h:Kh l.toList=ag):StrKeys l:=λe f=>
 x6.elim (motive:=λv=> ∃n t,v=.str n t) e.key (jT (eh.mp h e (KU.mpr f))) λn t=> ⟨n,t,rfl⟩
def uH(o:af):au:=(pL o.data).elim ak λl=> Kh l.toList
theorem qu{h:cc}{a:av}{o:af}(e:h.get? a=U o)(k:uH o=ag):h.Ns a (vv o):=by
 unfold uH at k;unfold vv;cases q:pL o.data with
 |none=> rw[q]at k;exact nomatch k
 |some l=>
  rw[q]at k;obtain⟨H,w⟩:=Qe q;exact⟨o,l,H,e,w,Zo k,λL=> rfl⟩
theorem PO(P:aT):uH (wO P)=ag:=by kernel_rfl
theorem PN(P:aT):uH (j0 P)=ag:=by kernel_rfl
theorem ZK(P:aT):(H1 P).get? 3=U (wO P):=eA (by kernel_rfl) (by decide) (by kernel_rfl)
theorem ZJ(P:aT):(H1 P).get? 0=U (j0 P):=eA (by kernel_rfl) (by decide) (by kernel_rfl)
theorem d1.mg{P:aT}{F:Fz}{h:cc}(T:d1 P F)(z:∀a o,F a=U o->h.get? a=U o):h.Ns 3 (hH P):=
 qu (z _ _ (T _ _ (by decide) (ZK P))) (PO P)
theorem d1.mb{P:aT}{F:Fz}{h:cc}(T:d1 P F)(z:∀a o,F a=U o->h.get? a=U o):h.Ns 0 (vq P):=
 qu (z _ _ (T _ _ (by decide) (ZJ P))) (PN P)
def GV(P:aT)(x:ao)(v:ai):Prop:=hH P x=U v∨(hH P x=ah∧vq P x=U v)
end
noncomputable section
open PySem PySem.Builtin
noncomputable def gd{j:Type}(c:au)(x:aq j):aq j:=bif c then x else ah
section
variable {j β:Type}{x:aq j}{C:Prop}
theorem nn{j:Type}{x:j}{C:Prop}(h:ah=U x):C:=nomatch h
theorem nf{C:Prop}(h:ak=ag):C:=nomatch h
theorem nm{j:Type}{x:j}{C:Prop}(h:x∈[]):C:=nomatch h
theorem aC{f:j->aq β}{r:β}(h:x.bind f=U r)(k:∀a,x=U a->f a=U r->C):C:=by
 cases x with
 |none=> cases h
 |some a=> exact k a rfl h
theorem bT{f:j->β}{r:β}(h:x.map f=U r)(k:∀a,x=U a->f a=r->C):C:=by
 cases x with
 |none=> cases h
 |some a=> exact k a rfl (bo h)
@[elab_as_elim] theorem fp{f:j->β}{r:β}{C:β->Prop}(h:x.map f=U r)(k:∀a,x=U a->C (f a)):C r:=bT h λa e q=> q ▸ k a e
@[elab_as_elim] theorem hj{a r:j}{C:j->Prop}(h:U a=U r)(k:C a):C r:=bo h ▸ k
theorem cg{c:au}{a:j}(h:gd c x=U a)(k:c=ag->x=U a->C):C:=by
 cases c with
 |false=> cases h
 |true=> exact k rfl h
@[elab_as_elim] theorem ix{c:au}{a r:j}{C:j->Prop}(h:gd c (U a)=U r)(k:c=ag->C a):C r:=cg h λe q=> hj q (k e)
theorem bu{a b:au}(h:(a && b)=ag):a=ag∧b=ag:=B9.mp h
end
inductive PV where
 |none |bool (b:au) |int (i:aj) |str (x:ao) |a8 (xs:aa aj) |rng (a b:aj)
 |fn (v:ai) |obj (c a:av)
 |tup (xs:aa PV) |list (xs:aa PV) |cV (ks:aa aj) (vs:aa PV) |aW (ks:aa ao) (vs:aa PV)
 |inst (c:av) (ns:aa ao) (vs:aa PV)
 deriving Inhabited
inductive Slot where
 |un |J (p:PV) |own (p:PV)
 deriving Inhabited
inductive RV where
 |J (p:PV) |bor (p:PV) |own (p:PV)
 deriving Inhabited
set_option genCtorIdx false
mutual
inductive CE where
 |lit (p:PV)
 |glb (x:ao) (p:PV)
 |var (i:ae)
 |cel (i:ae)
 |bin (op:jn) (a b:CE)
 |una (op:x5) (a:CE)
 |and (a b:CE)
 |or (a b:CE)
 |cmp (a:CE) (r:CR)
 |ite (c a b:CE)
 |call (f:CE) (as:di)
 |meth (o:CE) (m:ao) (as:di)
 |attr (o:CE) (m:ao)
 |idx (o i:CE)
 |slc (o lo hi:CE)
 |tup (as:di)
 |lst (as:di)
 |dct (ks vs:di)
 |comp (elt it:CE) (cond:CE) (caps:aa ae)
 |bad
inductive di where
 |nil
 |cons (e:CE) (r:di)
inductive CR where
 |one (op:gq) (e:CE)
 |cons (op:gq) (e:CE) (r:CR)
end
mutual
inductive CS where
 |asg (i:ae) (e:CE)
 |asgT (is:aa ae) (e:CE)
 |asgD (is:aa ae) (es:di)
 |app (i:ae) (e:CE)
 |ext (i:ae) (e:CE)
 |popS (i j:ae)
 |popX (j:ae)
 |upd (i:ae) (e:CE)
 |seti (i:ae) (k v:CE)
 |seta (i:ae) (m:ao) (v:CE)
 |expr (e:CE)
 |ret (e:CE)
 |retV (i:ae)
 |cont
 |ite (c:CE) (a b:CB)
 |whl (c:CE) (b:CB)
 |forV (i:ae) (e:CE) (b:CB)
 |forT (is:aa ae) (e:CE) (b:CB)
 |forE (i j:ae) (e:CE) (b:CB)
 |tryN (b:CB)
 |bad
inductive CB where
 |nil
 |cons (s:CS) (r:CB)
end
set_option genCtorIdx true
structure TG where
 kd:aa (ao×tC)
 ns:aa ao
 cs:aa ao
 gs:aa (ao×PV)
 ln:aa ao
noncomputable def s_(x:bL):ao:=gu x
noncomputable def Kq:Const->CE
 | .none=> .lit .none
 | .bool b=> .lit (.bool b)
 | .int i=> .lit (.int i)
 | .str s=> .lit (.str s)
 | .bytes b=> .lit (.a8 (b.map λc=> (c.toNat:aj)))
 |_=> .bad
noncomputable def idxOf(x:ao):aa ao->aq ae
 |[]=> ah
 |y::r=> bif x==y then U 0 else(idxOf x r).map (·+1)
def hl(G:TG)(x:ao):CE:=
 match G.kd.lookup x with
 |U .local=> (idxOf x G.ns).elim .bad .var
 |U .cell=> (idxOf x G.cs).elim .bad .cel
 |U .globalImplicit=> (G.gs.lookup x).elim .bad (.glb x)
 |_=> .bad
noncomputable def atC{j:Type}(e:aw)(n:ae)(k:e.ctorIdx=n->j):aq j:=if h:e.ctorIdx=n then U (k h)else ah
theorem pg{j:Type}{e:aw}{n:ae}{k:e.ctorIdx=n->j}{r:j}(h:atC e n k=U r):e.ctorIdx=n:=by
 by_cases c:e.ctorIdx=n
 ·exact c
 ·exact nn ((yx c).symm.trans h)
def iE(e:aw):aq (ao×aQ):=atC e 23 λh=> Mj.elim (motive_1:=λ_=> ao×aQ) e h λx p=> (x,p)
def mH(e:aw):aq (aw×ao×aQ):=atC e 20 λh=> Mh.elim (motive_1:=λ_=> aw×ao×aQ) e h λo m p=> (o,m,p)
def mU(e:aw):aq (aw×aa aw×aa kO×aQ):=atC e 16 λh=> Mi.elim (motive_1:=λ_=> aw×aa aw×aa kO×aQ) e h λf as T p=> (f,as,T,p)
def n7(e:aw):aq (aq aw×aq aw×aq aw×aQ):=atC e 26 λh=> Mk.elim (motive_1:=λ_=> aq aw×aq aw×aq aw×aQ) e h λa b c p=> (a,b,c,p)
def sP(e:aw):aq (aa aw×ae×aQ):=atC e 25 λh=> Ml.elim (motive_1:=λ_=> aa aw×ae×aQ) e h λl k p=> (l,k,p)
noncomputable def BE(s:a9):aq aw:=if h:s.ctorIdx=3 then Stmt.Return.elim (motive_2:=λ_=> aq aw) s h λe _=> e else ah
noncomputable def NW(s:a9):aq aw:=if h:s.ctorIdx=5 then U (Stmt.Assign.elim (motive_2:=λ_=> aw) s h λ_ e _=> e)else ah
def uD(e:aw):aq (aa kN×dZ):=atC e 8 λh=> Expr.ListComp.elim (motive_1:=λ_=> aa kN×dZ) e h λ_ g D _=> (g,D)
def zW(e:aw):aq (xO×aw×dZ):=atC e 4 λh=> Expr.Lambda.elim (motive_1:=λ_=> xO×aw×dZ) e h λa b D _=> (a,b,D)
def Ou(e:aw):aq aw:=atC e 2 λh=> Expr.BinOp.elim (motive_1:=λ_=> aw) e h λ_ _ r _=> r
def Pb(e:aw):aq (aa aw):=atC e 15 λh=> Expr.Compare.elim (motive_1:=λ_=> aa aw) e h λ_ _ r _=> r
noncomputable def zG:aa kN->aq kN
 |[g]=> U g
 |_=> ah
def xn(G:TG)(e:aw):aq ae:=(iE e).bind λq=> idxOf q.1 G.ns
def mE(G:TG)(x:ao):aq ae:=bif G.ln.contains x then ah else idxOf x G.ns
def KN(G:TG)(e:aw):aq ae:=(iE e).bind λq=> mE G q.1
noncomputable def hU(G:TG):aa aw->aq (aa ae)
 |[]=> U []
 |e::r=> (KN G e).bind λi=> (hU G r).map (i::·)
noncomputable def eD(D:dZ):aa ao:=(D.names.filter λp=> p.2==.free).map (·.1)
noncomputable def jy(l:aa (ao×tC)):aa (ao×tC):=l.map λp=> if p.2==.free then(p.1,.cell)else p
noncomputable def gA:aa (aq ae)->aa ae
 |[]=> []
 |U i::r=> i::gA r
 |ah::r=> 99999::gA r
def jz(G:TG)(D:dZ)(t:ao)(a:aj):au:=
 decide (a=0) && decide (D.kind=.function) && D.names.all (λq=> decide (q.2≠.cell) && (decide (q.2≠.local) ||decide (D.names.lookup q.1=U .local)) && (decide (q.2≠.free) ||(decide (G.kd.lookup q.1=U .cell) && (idxOf q.1 G.cs).isSome && !(q.1==("__debug__":ao)))))
  && decide ((jy D.names).lookup t=U .local) && !(t==("__debug__":ao))
noncomputable def isSet(e:aw):au:=e.ctorIdx==7
noncomputable def lK(f:aw->CE)(o:aq aw):CE:=o.elim (.lit .none) f
def iA(e:aw):au:=(mU e).elim ak λq=> q.2.1.isEmpty && q.2.2.1.isEmpty && (iE q.1).elim ak λx=> x.1==s_ "super"
def jM(G:TG)(D:dZ)(t:ao):TG:=⟨jy D.names,[t],eD D,G.gs,[]⟩
noncomputable def mV(f:aw->CE):aa aw->CE
 |[]=> .lit (.bool ag)
 |c::_=> f c
def Kr(f:aw->CE)(a:aa aw->di)(as:aa aw)(d':aQ)(q:aw×ao×aQ):CE:=
 bif !(iA q.1) && q.2.2.endLine==d'.line && bb as.length 30 then .meth (f q.1) q.2.1 (a as)else .bad
mutual
noncomputable def aE:ae->TG->aw->CE
 |0,_,_=> .bad
 |n+1,G,e=> match e with
  | .Constant c _ _=> Kq c
  | .Name x _=> hl G x
  | .BoolOp w Z _=> lR n G w Z
  | .BinOp l w r _=> .bin w (aE n G l) (aE n G r)
  | .UnaryOp w x _=> .una w (aE n G x)
  | .IfExp c a b _=> .ite (aE n G c) (aE n G a) (aE n G b)
  | .Compare l d B _=> (je n G d B).elim .bad (.cmp (aE n G l))
  | .Call f as T d'=> bif T.isEmpty then(mH f).elim (.call (aE n G f) (br n G as)) (Kr (aE n G) (br n G) as d')else .bad
  | .Attribute o m _=> bif iA o then .bad else .attr (aE n G o) m
  | .Subscript o i _=> (n7 i).elim (.idx (aE n G o) (aE n G i)) λq=> bif q.2.2.1.isNone then .slc (aE n G o) (lK (aE n G) q.1) (lK (aE n G) q.2.1)else .bad
  | .List s _=> .lst (br n G s)
  | .Tuple s _ _=> .tup (br n G s)
  | .Dict T Z _=> bif T.length==Z.length && c3 T.length 15 then((lT n G T).elim .bad λk=> .dct k (br n G Z))else .bad
  | .ListComp elt L D _=> (zG L).elim .bad λg=> (iE g.target).elim .bad λt=> bif jz G D t.1 g.is_async && bb g.ifs.length 2 then
    .comp (aE n (jM G D t.1) elt) (aE n G g.iter) (mV (aE n (jM G D t.1)) g.ifs) (gA ((eD D).map λx=> idxOf x G.cs))else .bad
  |_=> .bad
noncomputable def br:ae->TG->aa aw->di
 |0,_,l=> bif l.isEmpty then .nil else .cons .bad .nil
 |n+1,G,l=> match l with
  |[]=> .nil
  |e::r=> .cons (aE n G e) (br n G r)
noncomputable def lT:ae->TG->aa (aq aw)->aq di
 |0,_,_=> ah
 |n+1,G,l=> match l with
  |[]=> U .nil
  |o::r=> o.bind λe=> (lT n G r).map λq=> .cons (aE n G e) q
noncomputable def lR:ae->TG->BoolOp->aa aw->CE
 |0,_,_,_=> .bad
 |n+1,G,w,l=> match l with
  |[]=> .bad
  |e::r=> bif r.isEmpty then aE n G e else match w with
   | .And=> .and (aE n G e) (lR n G w r)
   | .Or=> .or (aE n G e) (lR n G w r)
noncomputable def je:ae->TG->aa gq->aa aw->aq CR
 |0,_,_,_=> ah
 |n+1,G,os,l=> match os with
  |[]=> ah
  |o::b=> match l with
   |[]=> ah
   |e::a=> bif isSet e then ah else bif b.isEmpty && a.isEmpty then U (.one o (aE n G e))else(je n G b a).map λr=> .cons o (aE n G e) r
end
noncomputable def sO(c Z:aa aw)(is:aa ae):au:=
 (c.length==2 ||c.length==3) && Z.length==c.length && is.length==c.length && decide is.Nodup && (!(Z.all (constantsAlone 8)) ||Z.all (foldedForSure 8)) &&
  (c.all λt=> t.pos.line==(c.head?.map (·.pos.line)).getD 0)
noncomputable def iz(e:aw):au:=c3 8 e.ctorIdx && c3 e.ctorIdx 10
noncomputable def lJ{j:Type}:aa j->aq j
 |[a]=> U a
 |_=> ah
noncomputable def jN{j:Type}:aa j->aq (j×j)
 |[a,b]=> U (a,b)
 |_=> ah
def qr(G:TG)(e:aw):aq (ae×ao×aa aw):=(mU e).bind λq=> (mH q.1).bind λa=> (xn G a.1).bind λi=> gd (q.2.2.1.isEmpty && a.2.2.endLine==q.2.2.2.line) (U (i,a.2.1,q.2.1))
def JK(G:TG)(e:aw):aq ae:=(qr G e).bind λq=> gd (q.2.2.isEmpty && q.2.1==s_ "pop") (U q.1)
def D1(G:TG)(t v:aw)(f:aw->CE)(a:aa aw->di):CS:=match t with
 | .Name x _=> (mE G x).elim .bad λi=> (JK G v).elim (.asg i (f v)) (.popS i)
 | .Tuple c _ _=> (hU G c).elim .bad λis=> (sP v).elim (.asgT is (f v)) λq=> bif sO c q.1 is then .asgD is (a q.1)else .bad
 | .Subscript o k _=> (xn G o).elim .bad λi=> .seti i (f k) (f v)
 | .Attribute o m _=> (xn G o).elim .bad λi=> .seta i m (f v)
 |_=> .bad
def HL(i:ae)(m:ao)(as:aa aw)(e:aw)(f:aw->CE):CS:=match as with
 |[]=> bif m==s_ "pop" then .popX i else .expr (f e)
 |a::r=> bif r.isEmpty then(bif m==s_ "append" then .app i (f a)else bif m==s_ "extend" then .ext i (f a)else bif m==s_ "update" then .upd i (f a)else .expr (f e))else .expr (f e)
noncomputable def oi:CE->aq ae
 | .var i=> U i
 |_=> ah
noncomputable def TZ:CE->au
 | .glb _ (.fn (.type t))=> t=="enumerate"
 |_=> ak
def FE(G:TG)(it:aw)(is:aa ae):aq ((ae×ae)×aw):=(mU it).bind λq=> (iE q.1).bind λx=> (lJ q.2.1).bind λa=> (jN is).bind λd=> gd (q.2.2.1.isEmpty && TZ (hl G x.1)) (U (d,a))
def Gk(G:TG)(t it:aw)(f:aw->CE)(b:CB):CS:=match t with
 | .Name x _=> (mE G x).elim .bad λi=> .forV i (f it) b
 | .Tuple c _ _=> (hU G c).elim .bad λis=> (FE G it is).elim (.forT is (f it) b) λq=> .forE q.1.1 q.1.2 (f q.2) b
 |_=> .bad
mutual
noncomputable def og:ae->TG->a9->CS
 |0,_,_=> .bad
 |n+1,G,s=> match s with
  | .Assign F v _=> (lJ F).elim .bad λt=> bif iz v then .bad else D1 G t v (aE n G) (br n G)
  | .Expr e _=> bif iz e then .bad else(qr G e).elim (.expr (aE n G e)) λq=> HL q.1 q.2.1 q.2.2 e (aE n G)
  | .Return v _=> v.elim (.ret (.lit .none)) λe=> ((iE e).bind λq=> oi (hl G q.1)).elim (.ret (aE n G e)) .retV
  | .Continue _=> .cont
  | .If c a b _=> .ite (aE n G c) (b7 n G a) (b7 n G b)
  | .While c b o _=> bif o.isEmpty then .whl (aE n G c) (b7 n G b)else .bad
  | .For t it b o _=> bif o.isEmpty then Gk G t it (aE n G) (b7 n G b)else .bad
  | .Try b g o f _=> bif !g.isEmpty && o.isEmpty && f.isEmpty then .tryN (b7 n G b)else .bad
  |_=> .bad
noncomputable def b7:ae->TG->aa a9->CB
 |0,_,l=> bif l.isEmpty then .nil else .cons .bad .nil
 |n+1,G,l=> match l with
  |[]=> .nil
  |s::r=> .cons (og n G s) (b7 n G r)
end
noncomputable def RV.read:RV->PV
 | .J p=> p | .bor p=> p | .own p=> p
noncomputable def RV.bR:RV->aq PV
 | .bor _=> ah | .J p=> U p | .own p=> U p
noncomputable def RV.slot:RV->aq Slot
 | .J p=> U (.J p) | .bor _=> ah | .own p=> U (.own p)
noncomputable def Slot.rv:Slot->aq RV
 | .un=> ah | .J p=> U (.J p) | .own p=> U (.bor p)
mutual
noncomputable def pd:PV->aq mh
 | .none=> U .none
 | .bool b=> U (.bool b)
 | .int i=> U (.int i)
 | .str x=> U (.str x)
 | .tup H=> (jH H).map .tuple
 | .list H=> (jH H).map .list
 |_=> ah
noncomputable def jH:aa PV->aq (aa mh)
 |[]=> U []
 |x::r=> (pd x).bind λd=> (jH r).map (d::·)
end
def ey(p q:PV):aq au:=(pd p).bind λd=> (pd q).bind λe=> gd (hu d && hu e) (U (ht d e))
noncomputable def aY(n:ae):au:=bb n 1048576
noncomputable def cb(i:aj):au:=decide (-4611686018427387904 < i) && decide (i < 4611686018427387904)
def wY(p:PV)(H:aa PV):aq au:=(pd p).bind λd=> (jH H).bind λN=> gd (hu d && x2 N) (U (N.any λy=> ht y d))
def ju{j:Type}(p:PV)(n:ae)(k:p.ctorIdx=n->j):aq j:=if h:p.ctorIdx=n then U (k h)else ah
theorem mF{j:Type}{p:PV}{n:ae}{k:p.ctorIdx=n->j}{r:j}(h:ju p n k=U r):p.ctorIdx=n:=by
 by_cases c:p.ctorIdx=n
 ·exact c
 ·exact nn ((yx c).symm.trans h)
def dk(p:PV):aq aj:=ju p 2 λh=> PV.int.elim (motive_1:=λ_=> aj) p h λi=> i
def gk(p:PV):aq ao:=ju p 3 λh=> PV.str.elim (motive_1:=λ_=> ao) p h λx=> x
def px(p:PV):aq au:=ju p 1 λh=> PV.bool.elim (motive_1:=λ_=> au) p h λb=> b
def oh(p:PV):aq (aa PV):=ju p 8 λh=> PV.tup.elim (motive_1:=λ_=> (aa PV)) p h λH=> H
abbrev truthy:PV->aq au:=px
def pin(p q:PV):aq au:=match q with
 | .list H=> wY p H
 | .tup H=> wY p H
 | .aW T _=> (gk p).elim ((dk p).bind λL=> gd T.isEmpty (U ak)) λx=> U (T.any (·==x))
 |_=> ah
noncomputable def vA:PV->aq au
 | .none=> U ag
 | .fn _=> ah
 |_=> U ak
def vc(p q:PV):aq au:=(vA q).bind λb=> gd b (vA p)
def ints2{j:Type}(f:aj->aj->j)(p q:PV):aq j:=(dk p).bind λa=> (dk q).map (f a)
def eE(w:gq)(p q:PV):aq au:=match w with
 | .Eq=> ey p q
 | .NotEq=> (ey p q).map (!·)
 | .In=> pin p q
 | .Is=> vc p q
 | .IsNot=> (vc p q).map (!·)
 | .Lt=> ints2 (λa b=> decide (a < b)) p q
 | .LtE=> ints2 (λa b=> decide (a≤b)) p q
 | .Gt=> ints2 (λa b=> decide (b < a)) p q
 | .GtE=> ints2 (λa b=> decide (b≤a)) p q
 |_=> ah
def binI(w:jn)(a b:aj):aq aj:=match w with
 | .Add=> U (a+b)
 | .Sub=> U (a - b)
 | .Mult=> gd (cb a ||cb b) (U (a * b))
 | .FloorDiv=> gd (!(b==0) && bb b.natAbs 1073741824) (U (a.fdiv b))
 | .Mod=> gd (!(b==0)) (U (a.fmod b))
 |_=> ah
def Ot(w:jn)(H:aa PV)(q:PV):aq RV:=match q with
 | .list K=> gd (w==.Add && aY (H.length+K.length)) (U (.own (.list (H++K))))
 | .int n=> gd (w==.Mult && cb n && aY (H.length * n.toNat)) (U (.own (.list (de n.toNat H).flatten)))
 |_=> ah
def binop(w:jn)(p q:PV):aq RV:=match p with
 | .int a=> (dk q).bind λb=> (binI w a b).map λi=> .J (.int i)
 | .list H=> Ot w H q
 |_=> ah
def Kz(w:x5)(p:PV):aq RV:=match w with
 | .Not=> (truthy p).map λb=> .J (.bool (!b))
 | .USub=> (dk p).map λa=> .J (.int (-a))
 |_=> ah
def iW{j:Type}(H:aa j)(i:aj):aq j:=
 gd (cb i && aY H.length) (bif decide (0≤i)then H[i.toNat]? else gd (decide (0≤i+H.length)) H[(i+H.length).toNat]?)
noncomputable def c1{K:Type}[BEq K]:aa K->aa PV->K->aq PV
 |k::T,v::Z,x=> if k==x then U v else c1 T Z x
 |_,_,_=> ah
noncomputable def cy{K:Type}[BEq K]:aa K->aa PV->K->PV->aa K×aa PV
 |k::T,v::Z,x,y=> if k==x then(k::T,y::Z)else let r:=cy T Z x y;(k::r.1,v::r.2)
 |_,_,x,y=> ([x],[y])
theorem zc{K:Type}[BEq K]{k x:K}{T:aa K}{v:PV}{Z:aa PV}:c1 (k::T) (v::Z) x=if k==x then U v else c1 T Z x:=rfl
theorem zi{K:Type}[BEq K]{k x:K}{T:aa K}{v y:PV}{Z:aa PV}:cy (k::T) (v::Z) x y=if k==x then(k::T,y::Z)else(k::(cy T Z x y).1,v::(cy T Z x y).2):=rfl
def g7(p q:PV):aq PV:=match p with
 | .list H=> (dk q).bind (iW H)
 | .tup H=> (dk q).bind (iW H)
 | .a8 H=> (dk q).bind λi=> gd (decide (0≤i) && aY H.length) ((H[i.toNat]?).map .int)
 | .cV T Z=> (dk q).bind (c1 T Z)
 | .aW T Z=> (gk q).bind (c1 T Z)
 |_=> ah
noncomputable def fF{j:Type}(H:aa j)(lo hi:aq aj):aa j:=
 (H.drop (lo.elim 0 (mn H.length))).take (hi.elim H.length (mn H.length) - lo.elim 0 (mn H.length))
noncomputable def lL:PV->aq (aq aj)
 | .none=> U ah
 | .int i=> U (U i)
 |_=> ah
def hh(p lo hi:PV):aq RV:=(lL lo).bind λl=> (lL hi).bind λh=> gd (cb (l.getD 0) && cb (h.getD 0)) (match p with
 | .list H=> gd (aY H.length) (U (.own (.list (fF H l h))))
 | .a8 H=> gd (aY H.length) (U (.J (.a8 (fF H l h))))
 |_=> ah)
noncomputable def pe{j:Type}(f:PV->aq j):aa PV->aq (aa j)
 |[]=> U []
 |p::r=> (f p).bind λa=> (pe f r).map (a::·)
abbrev fU:aa PV->aq (aa aj):=pe dk
abbrev strs?:aa PV->aq (aa ao):=pe gk
abbrev k8:aa PV->aq (aa au):=pe px
def i2:PV->aq (aa PV)
 | .list H=> U H
 | .tup H=> U H
 | .a8 H=> U (H.map .int)
 | .cV T _=> U (T.map .int)
 | .aW T _=> U (T.map .str)
 | .rng a b=> gd (cb a && cb b) (U ((dO (b - a).toNat).map λ(k:ae)=> PV.int (a+(k:aj))))
 |_=> ah
noncomputable def lp{j:Type}(a:j->j->au)(x:j):aa j->aa j
 |[]=> [x]
 |y::r=> if a x y then x::y::r else y::lp a x r
noncomputable def w9{j:Type}(a:j->j->au):aa j->aa j
 |[]=> []
 |x::r=> lp a x (w9 a r)
noncomputable def eg(a b:ao):au:=!(eC b.cps.toList a.cps.toList)
def xa(H:aa PV):aq (aa PV):=(strs? H).bind λP=> gd (bb P.length 64) (U ((w9 eg P).map .str))
def g9:PV->aq aj
 | .list H=> gd (aY H.length) (U H.length)
 | .tup H=> gd (aY H.length) (U H.length)
 | .a8 H=> gd (aY H.length) (U H.length)
 |_=> ah
def i5(p:PV):aq (aa PV):=ju p 9 λh=> PV.list.elim (motive_1:=λ_=> (aa PV)) p h λH=> H
noncomputable def lb{j:Type}:aa j->aq (j×aa j)
 |a::r=> U (a,r)
 |[]=> ah
noncomputable def isTup:PV->aq au
 | .tup _=> U ag
 | .none=> U ak | .bool _=> U ak | .int _=> U ak | .str _=> U ak
 |_=> ah
noncomputable def isBool:PV->aq au
 | .bool _=> U ag
 | .none=> U ak | .tup _=> U ak | .int _=> U ak | .str _=> U ak
 |_=> ah
noncomputable def Ug:PV->aq (aa PV)
 | .list H=> U H
 | .aW T _=> U (T.map .str)
 |_=> ah
noncomputable def Kw:PV->aq bL
 | .fn (.type t)=> U t
 |_=> ah
def Oh:aa (bL×(PV->aq RV)):=[
 ("len",λp=> (g9 p).map λn=> .J (.int n)),
 ("sorted",λp=> (Ug p).bind λH=> (xa H).map λl=> .own (.list l)),
 ("any",λp=> (i5 p).bind λH=> (k8 H).map λo=> .J (.bool (o.any id))),
 ("all",λp=> (i5 p).bind λH=> (k8 H).map λo=> .J (.bool (o.all id))),
 ("min",λp=> (i5 p).bind λH=> (fU H).bind λis=> (lb is).map λq=> .J (.int (q.2.foldl min q.1))),
 ("max",λp=> (i5 p).bind λH=> (fU H).bind λis=> (lb is).map λq=> .J (.int (q.2.foldl max q.1)))]
def Oi:aa (bL×(PV->PV->aq RV)):=[
 ("max",λp q=> (ints2 max p q).map λi=> .J (.int i)),
 ("min",λp q=> (ints2 min p q).map λi=> .J (.int i)),
 ("isinstance",λp q=> (Kw q).bind λt=> (bif t=="tuple" then isTup p else gd (t=="bool") (isBool p)).map λb=> .J (.bool b))]
noncomputable def lP{j:Type}(f:bL):aa (bL×j)->aq j
 |[]=> ah
 |q::r=> bif f==q.1 then U q.2 else lP f r
def Bt(t:aa (bL×(PV->aq RV)))(w:aa (bL×(PV->PV->aq RV)))(f:bL)(as:aa PV):aq RV:=match as with
 |[]=> ah
 |p::r=> match r with
  |[]=> (lP f t).bind λg=> g p
  |q::r=> gd r.isEmpty ((lP f w).bind λg=> g p q)
def ik:bL->aa PV->aq RV:=Bt Oh Oi
noncomputable def J0:PV->aq (aa PV)
 | .list H=> U H
 | .tup H=> U H
 | .a8 H=> U (H.map .int)
 |_=> ah
def Z0:aa (bL×(PV->aq RV)):=[
 ("list",λp=> (J0 p).bind λH=> gd (aY H.length) (U (.own (.list H)))),
 ("tuple",λp=> (oh p).map λH=> .J (.tup H)),
 ("bytes",λp=> (i5 p).bind λH=> (fU H).bind λis=> gd (aY is.length && is.all λi=> decide (0≤i) && decide (i < 256)) (U (.J (.a8 is)))),
 ("int",λp=> (px p).map λb=> .J (.int (bif b then 1 else 0))),
 ("range",λp=> (dk p).map λb=> .J (.rng 0 b))]
def Z1:aa (bL×(PV->PV->aq RV)):=[("range",λp q=> (dk p).bind λa=> (dk q).map λb=> .J (.rng a b))]
def hn:bL->aa PV->aq RV:=Bt Z0 Z1
structure bI where
 call:ai->aa PV->aq RV
def HE:aa (av×ao×av):=[(201,s_ "pair",191),(201,s_ "is_second",198),(283,s_ "threshold",273),(283,s_ "adapted",280),(630,s_ "get",608),(630,s_ "put",615),(630,s_ "ranges",620),
 (686,s_ "put",669),(686,s_ "get",676),(686,s_ "map_of",683)]
def jB(c:av)(m:ao):aq av:=(HE.find? λq=> q.1==c && q.2.1==m).map (·.2.2)
def yL:aa (av×ao):=[(201,s_ "pairs"),(201,s_ "seconds"),(283,s_ "base"),(283,s_ "least"),(283,s_ "most"),(283,s_ "skew"),(283,s_ "damp"),(283,s_ "bias"),(283,s_ "first"),
 (405,s_ "is_transitional"),(405,s_ "only_letters"),(405,s_ "hyphens"),(405,s_ "joiners"),(405,s_ "directions"),(405,s_ "contexts"),(405,s_ "lengths"),
 (630,s_ "default"),(630,s_ "starts"),(630,s_ "values"),(686,s_ "defaults"),(686,s_ "maps"),(686,s_ "properties"),(686,s_ "words")]
def k3(c:av)(m:ao):au:=yL.any λq=> q.1==c && q.2==m
noncomputable def isFn:PV->au
 | .fn _=> ag
 |_=> ak
def D7(p:PV)(m:ao):aq PV:=match p with
 | .inst c ns Z=> gd (k3 c m) ((c1 ns Z m).bind λq=> gd (!isFn q) (U q))
 |_=> ah
def u4(T:aa aj)(Z:aa PV)(k d:PV):aq PV:=(dk k).elim ((oh k).bind λH=> gd (T.isEmpty && (fU H).isSome) (U d)) λi=> U ((c1 T Z i).getD d)
def u5(T:aa ao)(Z:aa PV)(k d:PV):aq PV:=(gk k).elim ((oh k).bind λH=> gd (T.isEmpty && (fU H).isSome) (U d)) λi=> U ((c1 T Z i).getD d)
noncomputable def zC:RV->aq PV
 | .J p=> U p
 |_=> ah
def ha(O:bI)(r:RV)(m:ao)(as:aa PV):aq RV:=match r.read with
 | .cV T Z=> gd (m==s_ "get") ((jN as).bind λq=> (u4 T Z q.1 q.2).map .J)
 | .aW T Z=> gd (m==s_ "get") ((lJ as).elim ((jN as).bind λq=> (u5 T Z q.1 q.2).map .J) λk=> (gk k).map λx=> .J ((c1 T Z x).getD .none))
 | .inst c ns Z=> (zC r).bind λL=> (jB c m).bind λf=> gd (!(ns.contains m)) (O.call (.ref f) (.inst c ns Z::as))
 |_=> ah
noncomputable def b6:aa RV->aq (aa PV)
 |[]=> U []
 |r::B=> r.bR.bind λp=> (b6 B).map (p::·)
def Ao(T Z:aa PV):aq RV:=match T with
 |[]=> U (.own (.aW [] []))
 |k::_=> (gk k).elim ((dk k).bind λL=> (fU T).map λl=> let r:=(l.zip Z).foldl (λa p=> cy a.1 a.2 p.1 p.2) ([],[]);.own (.cV r.1 r.2))
  λL=> (strs? T).map λl=> let r:=(l.zip Z).foldl (λa p=> cy a.1 a.2 p.1 p.2) ([],[]);.own (.aW r.1 r.2)
def ON(O:bI)(f:PV)(as:aa RV):aq RV:=match f with
 | .fn v=> match v with
  | .builtin b=> ik b (as.map RV.read)
  | .type t=> hn t (as.map RV.read)
  | .ref a=> (b6 as).bind (O.call (.ref a))
  |_=> ah
 |_=> ah
noncomputable def compLoop(elt cond:PV->aq PV):aa PV->aq (aa PV)
 |[]=> U []
 |p::r=> (cond p).bind λc=> (truthy c).bind λt=> bif t then((elt p).bind λq=> (compLoop elt cond r).map (q::·))else compLoop elt cond r
noncomputable def Gy:CE->aq PV
 | .glb _ g=> U g
 |_=> ah
mutual
noncomputable def ev(O:bI)(c':aa PV)(V:aa Slot):CE->aq RV
 | .lit p=> U (.J p)
 | .glb _ p=> U (.J p)
 | .var i=> (V[i]?).bind Slot.rv
 | .cel i=> (c'[i]?).map .J
 | .bin w a b=> (ev O c' V a).bind λp=> (ev O c' V b).bind λq=> binop w p.read q.read
 | .una w a=> (ev O c' V a).bind λp=> Kz w p.read
 | .and a b=> (ev O c' V a).bind λr=> r.bR.bind λp=> (truthy p).bind λt=> bif t then ev O c' V b else U (.J p)
 | .or a b=> (ev O c' V a).bind λr=> r.bR.bind λp=> (truthy p).bind λt=> bif t then U (.J p)else ev O c' V b
 | .cmp a r=> (ev O c' V a).bind λp=> (kp O c' V p.read r).map λb=> .J (.bool b)
 | .ite c a b=> (ev O c' V c).bind λr=> (truthy r.read).bind λt=> bif t then ev O c' V a else ev O c' V b
 | .call f as=> (Gy f).bind λg=> (bO O c' V as).bind λB=> ON O g B
 | .meth o m as=> (ev O c' V o).bind λr=> (bO O c' V as).bind λB=> (b6 B).bind λps=> ha O r m ps
 | .attr o m=> (ev O c' V o).bind λr=> (D7 r.read m).map .J
 | .idx o i=> (ev O c' V o).bind λp=> (ev O c' V i).bind λq=> (g7 p.read q.read).map .J
 | .slc o lo hi=> (ev O c' V o).bind λp=> (ev O c' V lo).bind λl=> (ev O c' V hi).bind λh=> hh p.read l.read h.read
 | .tup as=> (bO O c' V as).bind λB=> (b6 B).bind λps=> gd (aY ps.length) (U (.J (.tup ps)))
 | .lst as=> (bO O c' V as).bind λB=> (b6 B).bind λps=> gd (aY ps.length) (U (.own (.list ps)))
 | .dct T Z=> (bO O c' V T).bind λH=> (bO O c' V Z).bind λvr=> (b6 H).bind λj=> (b6 vr).bind λD=> Ao j D
 | .comp elt it cond caps=> (ev O c' V it).bind λr=> r.bR.bind λp=> (i2 p).bind λps=> gd (aY ps.length)
   ((compLoop (λx=> (ev O (caps.map λi=> (c'[i]?).getD .none) [.J x] elt).bind RV.bR) (λx=> (ev O (caps.map λi=> (c'[i]?).getD .none) [.J x] cond).map RV.read) ps).map λn=> .own (.list n))
 | .bad=> ah
noncomputable def bO(O:bI)(c':aa PV)(V:aa Slot):di->aq (aa RV)
 | .nil=> U []
 | .cons e r=> (ev O c' V e).bind λp=> (bO O c' V r).map (p::·)
noncomputable def kp(O:bI)(c':aa PV)(V:aa Slot)(p:PV):CR->aq au
 | .one w e=> (ev O c' V e).bind λq=> eE w p q.read
 | .cons w e r=> (ev O c' V e).bind λq=> (eE w p q.read).bind λt=> bif t then kp O c' V q.read r else U ak
end
mutual
noncomputable def bC:CE->aa ae
 | .var i=> [i]
 | .bin _ a b=> cz a++cz b
 | .una _ a=> cz a
 | .and a b=> bC a++bC b
 | .or a b=> bC a++bC b
 | .cmp a r=> cz a++BD r
 | .ite c a b=> cz c++bC a++bC b
 | .call f as=> match f with
  | .glb _ (.fn (.ref _))=> eF as
  |_=> BC as
 | .meth o _ as=> cz o++eF as
 | .attr o _=> cz o
 | .idx o i=> cz o++cz i
 | .slc o lo hi=> cz o++cz lo++cz hi
 | .tup as=> eF as
 | .lst as=> eF as
 | .dct T Z=> eF T++eF Z
 | .comp _ it _ _=> bC it
 |_=> []
noncomputable def cz:CE->aa ae
 | .var _=> []
 | .bin _ a b=> cz a++cz b
 | .una _ a=> cz a
 | .and a b=> bC a++bC b
 | .or a b=> bC a++bC b
 | .cmp a r=> cz a++BD r
 | .ite c a b=> cz c++cz a++cz b
 | .call f as=> match f with
  | .glb _ (.fn (.ref _))=> eF as
  |_=> BC as
 | .meth o _ as=> cz o++eF as
 | .attr o _=> cz o
 | .idx o i=> cz o++cz i
 | .slc o lo hi=> cz o++cz lo++cz hi
 | .tup as=> eF as
 | .lst as=> eF as
 | .dct T Z=> eF T++eF Z
 | .comp _ it _ _=> bC it
 |_=> []
noncomputable def eF:di->aa ae
 | .nil=> []
 | .cons e r=> bC e++eF r
noncomputable def BC:di->aa ae
 | .nil=> []
 | .cons e r=> cz e++BC r
noncomputable def BD:CR->aa ae
 | .one _ e=> cz e
 | .cons _ e r=> cz e++BD r
end
noncomputable def mY(i:ae)(V:aa Slot):aa Slot:=match V[i]? with
 |U (.own p)=> V.set i (.J p)
 |_=> V
noncomputable def bg:aa ae->aa Slot->aa Slot
 |[],V=> V
 |i::r,V=> bg r (mY i V)
noncomputable def eG:PV->au
 | .inst ..=> ag
 |_=> ak
inductive Out where
 |nxt (σ:aa Slot) |ret (r:RV) (σ:aa Slot)
 deriving Inhabited
noncomputable def gH:aa ae->aa Slot->aa Slot->aa Slot
 |i::is,s::P,V=> gH is P (V.set i s)
 |_,_,V=> V
noncomputable def slots:aa RV->aq (aa Slot)
 |[]=> U []
 |r::B=> r.slot.bind λs=> (slots B).map (s::·)
noncomputable def z0(k:aa Slot->aq Out):Out->aq Out
 | .nxt V=> k V
 | .ret q τ=> U (.ret q τ)
noncomputable def HO(k:aa Slot->aq Out):Out->aq Out
 | .nxt V=> k V
 | .ret q τ=> U (.ret q τ)
noncomputable def forLoop(f:PV->aa Slot->aq Out):aa PV->aa Slot->aq Out
 |[],V=> U (.nxt V)
 |p::ps,V=> (f p V).bind (z0 (forLoop f ps))
noncomputable def whileLoop(c:aa Slot->aq (au×aa Slot))(f:aa Slot->aq Out):ae->aa Slot->aq Out
 |0,_=> ah
 |n+1,V=> (c V).bind λq=> bif q.1 then(f q.2).bind (z0 (whileLoop c f n))else U (.nxt q.2)
noncomputable def gC:ae->aa PV->aa PV
 |_,[]=> []
 |k,p::r=> .tup [.int k,p]::gC (k+1) r
def hS(is:aa ae)(p:PV)(V:aa Slot):aq (aa Slot):=(oh p).bind λH=> gd (H.length==is.length) (U (gH is (H.map .J) V))
def eW(O:bI)(c':aa PV)(c:CE)(V:aa Slot):aq (au×aa Slot):=
 (ev O c' (bg (cz c) V) c).bind λr=> (truthy r.read).map λb=> (b,bg (cz c) V)
def XC:Slot->aq (aa PV)
 | .own p=> i5 p
 |_=> ah
def vn(i:ae)(V:aa Slot):aq (aa PV):=(V[i]?).bind XC
def KG{K:Type}[BEq K](mk:aa K->aa PV->PV)(T:aa K)(Z:aa PV)(k:aa K)(t:aa PV):aq Slot:=
 gd (aY (T.length+k.length)) (U (let q:=(k.zip t).foldl (λa p=> cy a.1 a.2 p.1 p.2) (T,Z);.own (mk q.1 q.2)))
def PD(p:PV):aq (aa aj×aa PV):=ju p 10 λh=> PV.cV.elim (motive_1:=λ_=> (aa aj×aa PV)) p h λT Z=> (T,Z)
def PE(p:PV):aq (aa ao×aa PV):=ju p 11 λh=> PV.aW.elim (motive_1:=λ_=> (aa ao×aa PV)) p h λT Z=> (T,Z)
def B1(sl:Slot)(p:PV):aq Slot:=match sl with
 | .own q=> match q with
  | .cV T Z=> (PD p).bind λz=> KG .cV T Z z.1 z.2
  | .aW T Z=> (PE p).bind λz=> KG .aW T Z z.1 z.2
  |_=> ah
 |_=> ah
def BH(sl:Slot)(x p:PV):aq Slot:=match sl with
 | .own q=> match q with
  | .aW T Z=> (gk x).bind λx=> gd (aY T.length) (U (let z:=cy T Z x p;.own (.aW z.1 z.2)))
  | .cV T Z=> (dk x).bind λx=> gd (aY T.length) (U (let z:=cy T Z x p;.own (.cV z.1 z.2)))
  | .list H=> (dk x).bind λx=> gd (aY H.length && decide (0≤x) && decide (x < H.length)) (U (.own (.list (H.set x.toNat p))))
  |_=> ah
 |_=> ah
def BG(sl:Slot)(m:ao)(p:PV):aq Slot:=match sl with
 | .own q=> match q with
  | .inst c ns Z=> gd (k3 c m && bb ns.length 100) (U (let z:=cy ns Z m p;.own (.inst c z.1 z.2)))
  |_=> ah
 |_=> ah
noncomputable def uP:PV->aq (aa PV)
 | .list H=> U H
 | .tup H=> U H
 |_=> ah
noncomputable def isNone:RV->au
 | .J .none=> ag
 |_=> ak
def w0(i:ae)(V:aa Slot):Slot->aq Out
 | .own p=> bif eG p then ah else U (.ret (.own p) (V.set i .un))
 | .J p=> U (.ret (.J p) V)
 | .un=> ah
def NX(i:ae)(V:aa Slot)(r:RV):aq Out:=r.slot.bind λs=> gd (bb i V.length) (U (.nxt (V.set i s)))
mutual
noncomputable def aJ(W:ae)(O:bI)(c':aa PV):CS->aa Slot->aq Out
 | .asg i e,V=> (ev O c' (bg (bC e) V) e).bind (NX i (bg (bC e) V))
 | .asgT is e,V=> (ev O c' (bg (bC e) V) e).bind λr=> r.bR.bind λp=> (hS is p (bg (bC e) V)).map .nxt
 | .asgD is l,V=> (bO O c' (bg (eF l) V) l).bind λB=> (slots B).bind λP=> gd (P.length==is.length) (U (.nxt (gH is P (bg (eF l) V))))
 | .app i e,V=> (vn i (bg (bC e) V)).bind λH=> (ev O c' (bg (bC e) V) e).bind λr=> r.bR.bind λp=> gd (aY H.length) (U (.nxt ((bg (bC e) V).set i (.own (.list (H++[p]))))))
 | .ext i e,V=> (vn i (bg (cz e) V)).bind λH=> (ev O c' (bg (cz e) V) e).bind λr=> (uP r.read).bind λK=> gd (aY (H.length+K.length)) (U (.nxt ((bg (cz e) V).set i (.own (.list (H++K))))))
 | .popS i j,V=> (vn j V).bind λH=> H.getLast?.bind λp=> gd (aY H.length && bb i V.length) (U (.nxt ((V.set j (.own (.list H.dropLast))).set i (.J p))))
 | .popX _,_=> ah
 | .upd i e,V=> ((bg (bC e) V)[i]?).bind λsl=> (ev O c' (bg (bC e) V) e).bind λr=> r.bR.bind λp=> (B1 sl p).map λs=> .nxt ((bg (bC e) V).set i s)
 | .seti i k v,V=> ((bg (bC v++bC k) V)[i]?).bind λsl=> (ev O c' (bg (bC v++bC k) V) v).bind λr=> (ev O c' (bg (bC v++bC k) V) k).bind λq=>
   r.bR.bind λp=> q.bR.bind λx=> (BH sl x p).map λs=> .nxt ((bg (bC v++bC k) V).set i s)
 | .seta i m e,V=> ((bg (bC e) V)[i]?).bind λsl=> (ev O c' (bg (bC e) V) e).bind λr=> r.bR.bind λp=> (BG sl m p).map λs=> .nxt ((bg (bC e) V).set i s)
 | .expr e,V=> (ev O c' (bg (bC e) V) e).bind λr=> gd (isNone r) (U (.nxt (bg (bC e) V)))
 | .ret e,V=> (ev O c' (bg (bC e) V) e).bind λr=> r.bR.map λp=> .ret (.J p) (bg (bC e) V)
 | .retV i,V=> (V[i]?).bind (w0 i V)
 | .cont,_=> ah
 | .ite c a b,V=> (eW O c' c V).bind λq=> bif q.1 then aI W O c' a q.2 else aI W O c' b q.2
 | .whl c b,V=> whileLoop (eW O c' c) (λV=> aI W O c' b V) W V
 | .forV i e b,V=> (ev O c' (bg (bC e) V) e).bind λr=> r.bR.bind λp=> (i2 p).bind λps=> gd (bb i (bg (bC e) V).length) (forLoop (λp V=> aI W O c' b (V.set i (.J p))) ps (bg (bC e) V))
 | .forT is e b,V=> (ev O c' (bg (bC e) V) e).bind λr=> r.bR.bind λp=> (i2 p).bind λps=> forLoop (λp V=> (hS is p V).bind λe'=> aI W O c' b e') ps (bg (bC e) V)
 | .forE i j e b,V=> (ev O c' (bg (bC e) V) e).bind λr=> r.bR.bind λp=> (i5 p).bind λps=> forLoop (λp V=> (hS [i,j] p V).bind λe'=> aI W O c' b e') (gC 0 ps) (bg (bC e) V)
 | .tryN b,V=> aI W O c' b V
 | .bad,_=> ah
noncomputable def aI(W:ae)(O:bI)(c':aa PV):CB->aa Slot->aq Out
 | .nil,V=> U (.nxt V)
 | .cons s r,V=> (aJ W O c' s V).bind (HO λe'=> aI W O c' r e')
end
def ez(W:ae)(O:bI)(c':aa PV)(b:CB)(V:aa Slot):aq RV:=match aI W O c' b V with
 |U (.ret r _)=> U r
 |U (.nxt _)=> U (.J .none)
 |_=> ah
end
noncomputable section
open PySem PySem.W PyProof.Rows PySem.Calls PySem.Spec
def ND(o:af)(Z:aa ai):Prop:=∃n,o=listOf Z.toArray n
noncomputable abbrev eB(g:c8 ai)(n:ae):af:={cls:=.type "tuple",data:=.seq g n}
def NJ(o:af)(Z:aa ai):Prop:=∃n,o=eB Z.toArray n
def cH{K:Type}[d4 K]{w:aV}(knd:KeyKind pw w K)(o:af)(M:aa (K×ai)):Prop:=
 o.ExactDict∧bH λl H=> dE (o.data=.dict l H) (KeysOf knd l) (Pairs knd l.toList M) ((M.map (·.1)).Nodup)
def NA(w:aV)(o d:af)(c D:av)(M:aa (ao×ai)):Prop:=
 o=cZ c D∧cH (strKind pw w) d M
mutual
inductive Den(w:aV)(F:Fz):PV->ai->Prop
 |none:Den w F .none .none
 |bool (b):Den w F (.bool b) (.bool b)
 |int (i t):Den w F (.int i) (.int i t)
 |str (x t):Den w F (.str x) (.str x t)
 |a8 {xs:_} (b:c8 kX) (t):(b.toList.map λc=> (c.toNat:aj))=xs->Den w F (.a8 xs) (.bytes b t)
 |fn (v):Den w F (.fn v) v
 |obj {c a D o:_}:F a=some o->o=cZ c D->Den w F (.obj c a) (.ref a)
 |tup {xs a o vs:_}:F a=some o->NJ o vs->aH w F xs vs->Den w F (.tup xs) (.ref a)
 |list {xs a o vs:_}:F a=some o->ND o vs->aH w F xs vs->Den w F (.list xs) (.ref a)
 |cV {ks vs a o kvs:_}:F a=some o->(a==cO)=false->cH (ib pw w) o kvs->kvs.map (·.1)=ks->aH w F vs (kvs.map (·.2))->Den w F (.cV ks vs) (.ref a)
 |aW {ks vs a o kvs:_}:F a=some o->(a==cO)=false->cH (strKind pw w) o kvs->kvs.map (·.1)=ks->aH w F vs (kvs.map (·.2))->Den w F (.aW ks vs) (.ref a)
 |inst {c ns vs a D o d kvs:_}:F a=some o->F D=some d->NA w o d c D kvs->kvs.map (·.1)=ns->aH w F vs (kvs.map (·.2))->Den w F (.inst c ns vs) (.ref a)
 |rng {a b r o:_}:F r=some o->(ea λ(t₁ t₂ t₃:fM)=> o={cls:=.type "range",data:=.fields #[.int a t₁,.int b t₂,.int 1 t₃]})->Den w F (.rng a b) (.ref r)
inductive aH(w:aV)(F:Fz):aa PV->aa ai->Prop
 |nil:aH w F [] []
 |cons {x xs v vs:_}:Den w F x v->aH w F xs vs->aH w F (x::xs) (v::vs)
end
theorem Den.mono{w:aV}{F G:Fz}(s:Sub F G){p:PV}{v:ai}(h:Den w F p v):Den w G p v:=
 Den.rec (motive_1:=λp v _=> Den w G p v) (motive_2:=λps Z _=> aH w G ps Z) .none .bool .int .str .a8 .fn (λe q=> .obj (s _ _ e) q) (λe q _ l=> .tup (s _ _ e) q l) (λe q _ l=> .list (s _ _ e) q l)
  (λe n q k _ l=> .cV (s _ _ e) n q k l) (λe n q k _ l=> .aW (s _ _ e) n q k l) (λe X q k _ l=> .inst (s _ _ e) (s _ _ X) q k l) (λe q=> .rng (s _ _ e) q) .nil (λ_ _ a b=> .cons a b) h
def Inv(w:aV)(F:Fz)(v:ai):PV->Prop
 | .none=> v=.none
 | .bool b=> v=.bool b
 | .int i=> ∃t,v=.int i t
 | .str x=> ∃t,v=.str x t
 | .a8 H=> bH λb t=> v=.bytes b t∧(b.toList.map λc=> (c.toNat:aj))=H
 | .fn u=> v=u
 | .obj c a=> bH λD o=> bG (v=.ref a) (F a=U o) (o=cZ c D)
 | .tup H=> ea λa Z n=> bG (v=.ref a) (F a=U (eB Z.toArray n)) (aH w F H Z)
 | .list H=> ea λa Z n=> bG (v=.ref a) (F a=U (listOf Z.toArray n)) (aH w F H Z)
 | .cV T Z=> ea λa o M=> j5 (v=.ref a) (F a=U o) ((a==cO)=ak) (cH (ib pw w) o M) (M.map (·.1)=T) (aH w F Z (M.map (·.2)))
 | .aW T Z=> ea λa o M=> j5 (v=.ref a) (F a=U o) ((a==cO)=ak) (cH (strKind pw w) o M) (M.map (·.1)=T) (aH w F Z (M.map (·.2)))
 | .inst c ns Z=> gy λa D d M=> j5 (v=.ref a) (F a=U (cZ c D)) (F D=U d) (cH (strKind pw w) d M) (M.map (·.1)=ns) (aH w F Z (M.map (·.2)))
 | .rng a b=> gy λr N k l=> v=.ref r∧F r=U {cls:=.type "range",data:=.fields #[.int a N,.int b k,.int 1 l]}
section
variable {w:aV}{F:Fz}{v:ai}{C:ai->Prop}
theorem Den.inv{p:PV}(d:Den w F p v):Inv w F v p:=
 Den.casesOn (motive_1:=λp v _=> Inv w F v p) d rfl (λ_=> rfl) (λ_ t=> ⟨t,rfl⟩) (λ_ t=> ⟨t,rfl⟩) (λb t e=> ⟨b,t,rfl,e⟩) (λ_=> rfl) (λe q=> ⟨_,_,rfl,e,q⟩)
  (λe q l=> q.elim λn h=> ⟨_,_,n,rfl,h ▸ e,l⟩) (λe q l=> q.elim λn h=> ⟨_,_,n,rfl,h ▸ e,l⟩) (λe n q k l=> ⟨_,_,_,rfl,e,n,q,k,l⟩) (λe n q k l=> ⟨_,_,_,rfl,e,n,q,k,l⟩)
  (λe X q k l=> ⟨_,_,_,_,rfl,q.1 ▸ e,X,q.2,k,l⟩) (λe q=> by obtain⟨a,b,c,rfl⟩:=q;exact⟨_,a,b,c,rfl,e⟩)
@[elab_as_elim] theorem Den.dW{i:aj}(d:Den w F (.int i) v)(h:∀t,C (.int i t)):C v:=by obtain⟨t,rfl⟩:=d.inv;exact h t
@[elab_as_elim] theorem Den.jL{x:ao}(d:Den w F (.str x) v)(h:∀t,C (.str x t)):C v:=by obtain⟨t,rfl⟩:=d.inv;exact h t
@[elab_as_elim] theorem Den.tupK{H:aa PV}(d:Den w F (.tup H) v)(h:∀a Z n,F a=U (eB Z.toArray n)->aH w F H Z->C (.ref a)):C v:=by obtain⟨a,Z,n,rfl,e,l⟩:=d.inv;exact h a Z n e l
@[elab_as_elim] theorem Den.gD{H:aa PV}(d:Den w F (.list H) v)(h:∀a Z n,F a=U (listOf Z.toArray n)->aH w F H Z->C (.ref a)):C v:=by obtain⟨a,Z,n,rfl,e,l⟩:=d.inv;exact h a Z n e l
@[elab_as_elim] theorem Den.y8{T:aa aj}{Z:aa PV}(d:Den w F (.cV T Z) v)(h:∀a o M,F a=U o->(a==cO)=ak->cH (ib pw w) o M->M.map (·.1)=T->aH w F Z (M.map (·.2))->C (.ref a)):C v:=by obtain⟨a,o,M,rfl,A,Y,H,u,e⟩:=d.inv;exact h a o M A Y H u e
@[elab_as_elim] theorem Den.y9{T:aa ao}{Z:aa PV}(d:Den w F (.aW T Z) v)(h:∀a o M,F a=U o->(a==cO)=ak->cH (strKind pw w) o M->M.map (·.1)=T->aH w F Z (M.map (·.2))->C (.ref a)):C v:=by obtain⟨a,o,M,rfl,A,Y,H,u,e⟩:=d.inv;exact h a o M A Y H u e
end
@[elab_as_elim] theorem aH.ind{w:aV}{F:Fz}{C:aa PV->aa ai->Prop}{H:aa PV}{Z:aa ai}(h:aH w F H Z)(nil:C [] [])(cons:∀{x H v Z},Den w F x v->aH w F H Z->C H Z->C (x::H) (v::Z)):C H Z:=
 aH.rec (motive_1:=λ_ _ _=> eR) (motive_2:=λps Z _=> C ps Z) ⟨⟩ (λ_=> ⟨⟩) (λ_ _=> ⟨⟩) (λ_ _=> ⟨⟩) (λ_ _ _=> ⟨⟩) (λ_=> ⟨⟩) (λ_ _=> ⟨⟩) (λ_ _ _ _=> ⟨⟩) (λ_ _ _ _=> ⟨⟩) (λ_ _ _ _ _ _=> ⟨⟩) (λ_ _ _ _ _ _=> ⟨⟩) (λ_ _ _ _ _ _=> ⟨⟩) (λ_ _=> ⟨⟩) nil (λa b _ D=> cons a b D) h
section
variable {w:aV}{F:Fz}{H:aa PV}{Z:aa ai}
theorem aH.mono{G:Fz}(s:Sub F G)(h:aH w F H Z):aH w G H Z:=h.ind .nil λa _ D=> .cons (a.mono s) D
theorem aH.length(h:aH w F H Z):H.length=Z.length:=h.ind rfl λ_ _ D=> aZ (·+1) D
theorem aH.two{x:PV}{v:ai}(h:aH w F (x::H) (v::Z)):Den w F x v∧aH w F H Z:=by
 cases h with
 |cons a b=> exact⟨a,b⟩
theorem aH.get(h:aH w F H Z):∀{i:ae} {x:PV},H[i]?=U x->∃v,Z[i]?=U v∧Den w F x v:=
 h.ind (C:=λH Z=> ∀{i:ae} {x:PV},H[i]?=U x->∃v,Z[i]?=U v∧Den w F x v) (λh=> nn h) λa _ D i x h=> by
  cases i with
  |zero=> cases h;exact⟨_,rfl,a⟩
  |succ i=> exact D h
theorem aH.append{K:aa PV}{us:aa ai}(h:aH w F H Z)(k:aH w F K us):aH w F (H++K) (Z++us):=h.ind k λa _ D=> .cons a D
theorem aH.take(n:ae)(h:aH w F H Z):aH w F (H.take n) (Z.take n):=
 h.ind (λn=> by cases n <;> exact .nil) (λa _ D n=> by cases n with |zero=> exact .nil |succ n=> exact .cons a (D n)) n
theorem aH.drop(n:ae)(h:aH w F H Z):aH w F (H.drop n) (Z.drop n):=
 h.ind (λn=> by cases n <;> exact .nil) (λa b D n=> by cases n with |zero=> exact .cons a b |succ n=> exact D n) n
end
def bB(w:aV)(F:Fz):PV->af->Prop
 | .list H,o=> bH λZ n=> o=listOf Z.toArray n∧aH w F H Z
 | .cV T H,o=> ∃M,bG (cH (ib pw w) o M) (M.map (·.1)=T) (aH w F H (M.map (·.2)))
 | .aW T H,o=> ∃M,bG (cH (strKind pw w) o M) (M.map (·.1)=T) (aH w F H (M.map (·.2)))
 |_,_=> False
theorem bB.mono{w:aV}{F G:Fz}(s:Sub F G){p:PV}{o:af}(h:bB w F p o):bB w G p o:=by
 cases p <;> first |exact h.elim |(obtain⟨Z,n,e,d⟩:=h;exact⟨Z,n,e,d.mono s⟩)
theorem bB.den{w:aV}{F:Fz}{p:PV}{o:af}{a:av}(h:bB w F p o)(e:F a=U o)(n:(a==cO)=ak):Den w F p (.ref a):=by
 cases p with
 |list H=> obtain⟨Z,n,rfl,d⟩:=h;exact .list e ⟨n,rfl⟩ d
 |cV T H=> obtain⟨M,q,k,d⟩:=h;exact .cV e n q k d
 |aW T H=> obtain⟨M,q,k,d⟩:=h;exact .aW e n q k d
 |_=> exact h.elim
inductive aP(w:aV)(F:Fz)(own:aa (av×af)):PV->ai->Prop
 |J {p v:_}:Den w F p v->aP w F own p v
 |bor {p a o:_}:(a,o)∈own->bB w F p o->aP w F own p (.ref a)
 |borI {c ns vs x D d:_}:F x=some (cZ c D)->(D,d)∈own->bB w F (.aW ns vs) d->aP w F own (.inst c ns vs) (.ref x)
theorem aP.mono{w:aV}{F G:Fz}{a':aa (av×af)}{p:PV}{v:ai}(s:Sub F G)(h:aP w F a' p v):aP w G a' p v:=by
 induction h with
 |J d=> exact .J (d.mono s)
 |bor m o=> exact .bor m (o.mono s)
 |borI e m o=> exact .borI (s _ _ e) m (o.mono s)
inductive cq(w:aV)(F:Fz)(own:aa (av×af)):RV->ai->aa (av×af)->Prop
 |J {p v:_}:Den w F p v->cq w F own (.J p) v []
 |bor {p a o:_}:(a,o)∈own->bB w F p o->cq w F own (.bor p) (.ref a) []
 |own {p a o:_}:bB w F p o->cq w F own (.own p) (.ref a) [(a,o)]
 |borI {c ns vs x D d:_}:F x=some (cZ c D)->(D,d)∈own->bB w F (.aW ns vs) d->cq w F own (.bor (.inst c ns vs)) (.ref x) []
theorem cq.weak{w:aV}{F:Fz}{a':aa (av×af)}{r:RV}{v:ai}{t:aa (av×af)}(h:cq w F [] r v t):cq w F a' r v t:=by
 induction h with
 |J d=> exact .J d
 |bor m=> exact nm m
 |own o=> exact .own o
 |borI _ m=> exact nm m
theorem cq.mono{w:aV}{F G:Fz}{a':aa (av×af)}{r:RV}{v:ai}{t:aa (av×af)}(s:Sub F G)(h:cq w F a' r v t):cq w G a' r v t:=by
 induction h with
 |J d=> exact .J (d.mono s)
 |bor m o=> exact .bor m (o.mono s)
 |own o=> exact .own (o.mono s)
 |borI e m o=> exact .borI (s _ _ e) m (o.mono s)
inductive gY(w:aV)(F:Fz):Slot->aq ai->aa (av×af)->Prop
 |un {v:_}:gY w F .un v []
 |J {p v:_}:Den w F p v->gY w F (.J p) (some v) []
 |own {p a o:_}:bB w F p o->gY w F (.own p) (some (.ref a)) [(a,o)]
 |jb {c ns ps x D d:_}:F x=some (cZ c D)->bB w F (.aW ns ps) d->gY w F (.own (.inst c ns ps)) (some (.ref x)) [(D,d)]
theorem gY.mono{w:aV}{F G:Fz}(s:Sub F G){sl:Slot}{v:aq ai}{t:aa (av×af)}(h:gY w F sl v t):gY w G sl v t:=by
 induction h with
 |un=> exact .un
 |J d=> exact .J (d.mono s)
 |own o=> exact .own (o.mono s)
 |jb e o=> exact .jb (s _ _ e) (o.mono s)
inductive aR(w:aV)(F:Fz):aa Slot->aa (aq ai)->aa (av×af)->Prop
 |nil:aR w F [] [] []
 |cons {sl v t σ vs own:_}:gY w F sl v t->aR w F σ vs own->aR w F (sl::σ) (v::vs) (t++own)
section
variable {w:aV}{F:Fz}{V:aa Slot}{Z:aa (aq ai)}{ow:aa (av×af)}
theorem aR.un{v:aq ai}(q:aR w F V Z ow):aR w F (.un::V) (v::Z) ow:=.cons .un q
theorem aR.J{p:PV}{v:ai}(d:Den w F p v)(q:aR w F V Z ow):aR w F (.J p::V) (U v::Z) ow:=.cons (.J d) q
theorem aR.own{p:PV}{a:av}{o:af}(d:bB w F p o)(q:aR w F V Z ow):aR w F (.own p::V) (U (.ref a)::Z) ((a,o)::ow):=.cons (.own d) q
theorem aR.jb{c:av}{ns:aa ao}{ps:aa PV}{x D:av}{d:af}(e:F x=U (cZ c D))(o:bB w F (.aW ns ps) d)(q:aR w F V Z ow):aR w F (.own (.inst c ns ps)::V) (U (.ref x)::Z) ((D,d)::ow):=.cons (.jb e o) q
theorem aR.mono{G:Fz}(s:Sub F G)(h:aR w F V Z ow):aR w G V Z ow:=by
 induction h with
 |nil=> exact .nil
 |cons d _ D=> exact .cons (d.mono s) D
theorem aR.length(h:aR w F V Z ow):V.length=Z.length:=by
 induction h with
 |nil=> rfl
 |cons _ _ D=> exact aZ (·+1) D
theorem aR.at(h:aR w F V Z ow):∀{i:ae} {sl:Slot},V[i]?=U sl->ea λv t H=> dE (Z[i]?=U v) (gY w F sl v t) (ow.Perm (t++H)) (∀{G u B m},Sub F G->gY w G u B m->∃f,aR w G (V.set i u) (Z.set i B) f∧f.Perm (m++H)):=by
 induction h with
 |nil=> intro i sl e;cases e
 |@cons a v t V Z ow x q D=>
  intro i sl e;cases i with
  |zero=> cases e;exact⟨v,t,ow,rfl,x,.refl _,λs y=> ⟨_,.cons y (q.mono s),.refl _⟩⟩
  |succ i=>
   obtain⟨B,m,H,n,y,p,k⟩:=D e;exact⟨B,m,t++H,n,y,(p.append_left t).trans (f6 ..),λs z=>
    let⟨f,b,c⟩:=k s z
    ⟨t++f,.cons (x.mono s) b,(c.append_left t).trans (f6 ..)⟩⟩
theorem BI{j:Type}:∀{l:aa j} {i:ae} {v:j},l[i]?=U v->l.set i v=l
 |[],_,_,h=> nn h
 |a::l,0,v,h=> by cases h;rfl
 |a::l,i+1,v,h=> aZ (a::·) (BI h)
theorem aR.get{i:ae}{sl:Slot}{r:RV}(h:aR w F V Z ow)(e:V[i]?=U sl)(er:sl.rv=U r):∃v,Z[i]?=U (U v)∧cq w F ow r v []:=by
 obtain⟨v,t,H,n,x,p,_⟩:=h.at e;have m:∀q∈t,q∈ow:=λq I=> p.mem_iff.mpr (bk _ I)
 cases x with
 |un=> cases er
 |J d=> cases er;exact⟨_,n,.J d⟩
 |own o=> cases er;exact⟨_,n,.bor (m _ (.head _)) o⟩
 |jb x o=> cases er;exact⟨_,n,.borI x (m _ (.head _)) o⟩
def ke(w:aV)(F:Fz):Slot->ai->aa (av×af)->Prop
 | .un,_,_=> False
 | .J p,v,t=> Den w F p v∧t=[]
 | .own p,v,t=> bH λa o=> bG (v=.ref a) (t=[(a,o)]) (bB w F p o)
theorem ke.t{sl:Slot}{v:ai}{t:aa (av×af)}(h:ke w F sl v t):gY w F sl (U v) t:=by
 cases sl with
 |un=> exact h.elim
 |J p=> obtain⟨d,rfl⟩:=h;exact .J d
 |own p=> obtain⟨a,o,rfl,rfl,x⟩:=h;exact .own x
theorem aR.set{i:ae}(h:aR w F V Z ow)(hi:i < V.length):bH λO H=> ow.Perm (O++H)∧
  ∀{sl v t},ke w F sl v t->∃f,aR w F (V.set i sl) (Z.set i (U v)) f∧f.Perm (t++H):=by
 obtain⟨_,t,H,_,_,p,k⟩:=h.at (jR hi);exact⟨t,H,p,λy=> k (Sub.refl F) y.t⟩
theorem aR.wV{i:ae}{p:PV}(h:aR w F V Z ow)(e:V[i]?=U (.own p))(z:eG p=ak):ea λa o H=> yz (Z[i]?=U (U (.ref a))) (ow.Perm ((a,o)::H)) (bB w F p o) ((∀{sl v t},ke w F sl v t->∃f,aR w F (V.set i sl) (Z.set i (U v)) f∧f.Perm (t++H))) ((∀{B o'},bB w F B o'->∃f,aR w F (V.set i (.own B)) Z f∧f.Perm ((a,o')::H))) ((∃f,aR w F (V.set i .un) Z f∧f.Perm H)) ((∀{G},Sub F G->Den w G p (.ref a)->∃f,aR w G (V.set i (.J p)) Z f∧f.Perm H)):=by
 obtain⟨v,t,H,n,x,q,k⟩:=h.at e;have k':∀{G u m},Sub F G->gY w G u v m->∃f,aR w G (V.set i u) Z f∧f.Perm (m++H):=λs y=> by
  have:=k s y
  rwa [BI n]at this
 cases x with
 |jb=> cases z
 |@own _ a o x=> exact⟨a,o,H,n,q,x,λy=> k (Sub.refl F) y.t,λy=> k' (Sub.refl F) (.own y),k' (Sub.refl F) .un,λs d=> k' s (.J d)⟩
theorem aR.zN{i:ae}{c:av}{ns:aa ao}{ps:aa PV}(h:aR w F V Z ow)(e:V[i]?=U (.own (.inst c ns ps))):
  gy λx D d H=> j5 (Z[i]?=U (U (.ref x))) (F x=U (cZ c D)) (ow.Perm ((D,d)::H)) (bB w F (.aW ns ps) d) ((∀{a r S},bB w F (.aW a r) S->∃f,aR w F (V.set i (.own (.inst c a r))) Z f∧f.Perm ((D,S)::H))) ((∀{G},Sub F G->Den w G (.inst c ns ps) (.ref x)->∃f,aR w G (V.set i (.J (.inst c ns ps))) Z f∧f.Perm H)):=by
 obtain⟨v,t,H,n,x,q,k⟩:=h.at e;have k':∀{G u m},Sub F G->gY w G u v m->∃f,aR w G (V.set i u) Z f∧f.Perm (m++H):=λs y=> by
  have:=k s y
  rwa [BI n]at this
 cases x with
 |own x=> exact x.elim
 |@jb _ _ _ x D d b o=> exact⟨x,D,d,H,n,b,q,o,λy=> k' (Sub.refl F) (.jb b y),λs d=> k' s (.J d)⟩
end
abbrev MT:=aa (av×af)
structure Cx where
 w:aV
 env:fJ
 G:TG
 cps:aa PV
 cad:aa av
 s₀:aD
 F₀:Fz
 ex:aa av
 I:Fz->MT->Prop
 pin:aa (ao×ai):=[]
structure aG(X:Cx):Prop where
 fn:X.env.scope.kind=.function
 kd:X.env.scope.names=X.G.kd
 gl:X.env.globals=3
 bl:X.env.builtins=0
 ns:∀x∈X.G.ns,X.G.kd.lookup x=some .local
 nn:X.G.ns.Nodup
 gs:∀q∈X.G.gs,((q.1==("__debug__":ao))=false)∧∃v,GV X.w.params q.1 v∧∀F,d1 X.w.params F->Den X.w F q.2 v
 cs:∀(i:ae) (x:ao),X.G.cs[i]?=some x->∃c,X.cad[i]?=some c∧X.env.cells.lookup x=some c
 cn:∀x∈X.G.cs,(x==("__debug__":ao))=false
 dn:∀x∈X.G.ns,(x==("__debug__":ao))=false
 hL:X.s₀.heap.get? X.env.locals=none
 inv:∀F F' mt,X.I F mt->Sub F F'->(∀p∈mt,F' p.1=none)->X.I F' mt
 pk:∀q∈X.pin,q.1∈X.G.ln
structure St(X:Cx)(F:Fz)(mt:MT)(ls:aa (ao×aq ai))(own:MT)(s:aD):Prop where
 top:d1 X.w.params F
 sub:Sub X.F₀ F
 inv:X.I F mt
 ns:s.heap.Ns X.env.locals (lk ls)
 nm:ls.map (·.1)=X.G.ns
 ext:Ext X.ex X.s₀ s
 J:∀a o,F a=some o->s.heap.get? a=some o
 fL:F X.env.locals=none
 fr:∀a o,F a=some o->X.F₀ a=some o∨X.s₀.heap.get? a=none
 al:∀p∈mt++own,s.heap.get? p.1=some p.2∧F p.1=none∧p.1≠X.env.locals
 nd:((mt++own).map (·.1)).Nodup
 nw:∀p∈own,X.s₀.heap.get? p.1=none
 mx:∀p∈mt,p.1∈X.ex∨X.s₀.heap.get? p.1=none
 xm:∀a∈X.ex,a∈mt.map (·.1)
 ce:∀(i:ae) (c:av),X.cad[i]?=some c->ea λv o p=> dE (F c=some o) (o.data=.cell (some v)) (X.cps[i]?=some p) (Den X.w F p v)
 pn:∀q∈X.pin,lk ls q.1=some q.2
theorem e2{h:cc}{a:av}(e:h.objs.size≤a):h.get? a=ah:=by
 cases q:h.get? a with
 |none=> rfl
 |some o=> exact bf (dy q) (hs.mpr e)
theorem vy{P:aT}{F:Fz}{h:cc}(T:d1 P F)(z:∀a o,F a=U o->h.get? a=U o):h.NoLimit:=
 ⟨_,qu (z _ _ (T 2 (lE P) (by decide) (eA (by kernel_rfl) (by decide) (by kernel_rfl)))) (by kernel_rfl),by kernel_rfl⟩
section
variable {X:Cx}{F:Fz}{Y:MT}{ls:aa (ao×aq ai)}{a':MT}{s:aD}
theorem St.i7(S:St X F Y ls a' s){p:av×af}(m:p∈a'):(p.1==cO)=ak:=by
 cases q:(p.1==cO)with
 |false=> rfl
 |true=>
  have e:p.1=1:=eq_of_beq q;have:=(S.al p (bp _ m)).2.1;rw[e,S.top 1 _ (by decide) (eA (o:=mj X.w.params) (by kernel_rfl) (by decide) (by kernel_rfl))]at this;cases this
theorem St.toks(S:St X F Y ls a' s)(t:fM):St X F Y ls a' {s with toks:=t}:=
 ⟨S.top,S.sub,S.inv,S.ns,S.nm,S.ext.toks t,S.J,S.fL,S.fr,S.al,S.nd,S.nw,S.mx,S.xm,S.ce,S.pn⟩
theorem St.perm{f:MT}(S:St X F Y ls a' s)(p:a'.Perm f):St X F Y ls f s:=
 ⟨S.top,S.sub,S.inv,S.ns,S.nm,S.ext,S.J,S.fL,S.fr,λq I=> S.al q ((fe Y p).mem_iff.mpr I),
  ((fe Y p).map (·.1)).nodup_iff.mp S.nd,λq I=> S.nw q (p.mem_iff.mpr I),S.mx,S.xm,S.ce,S.pn⟩
theorem St.drop{t:MT}(S:St X F Y ls (t++a') s):St X F Y ls a' s:=
 ⟨S.top,S.sub,S.inv,S.ns,S.nm,S.ext,S.J,S.fL,S.fr,λq I=> S.al q (by
   rcases dc.mp I with h |h
   ·exact bk _ h
   ·exact bp _ (bp _ h)),
  S.nd.sublist ((aaC (List.sublist_append_right t a') Y).map _),
  λq I=> S.nw q (bp _ I),S.mx,S.xm,S.ce,S.pn⟩
theorem St.hP(S:St X F Y ls a' s){a:av}(h:s.heap.get? a=ah):X.s₀.heap.get? a=ah:=by
 cases q:X.s₀.heap.get? a with
 |none=> rfl
 |some o=>
  by_cases m:a∈X.ex
  ·obtain⟨p,z,e⟩:=bz.mp (S.xm a m)
   have:=(S.al p (bk _ z)).1;rw[e,h]at this;cases this
  ·rw[S.ext.keep a o q m]at h;cases h
theorem St.grow(S:St X F Y ls a' s){N:cc}{t:fM}(k:∀b o,s.heap.get? b=U o->N.get? b=U o):St X F Y ls a' {s with heap:=N,toks:=t}:=
 ⟨S.top,S.sub,S.inv,S.ns.keeps k,S.nm,⟨λa o e n=> k _ _ (S.ext.keep a o e n),S.ext.gens,S.ext.os⟩,λa o e=> k _ _ (S.J a o e),S.fL,S.fr,λp z=> ⟨k _ _ (S.al p z).1,(S.al p z).2⟩,S.nd,S.nw,S.mx,S.xm,S.ce,S.pn⟩
theorem St.grown(S:St X F Y ls a' s){N:cc}{t:fM}(k:∀b o,s.heap.get? b=U o->N.get? b=U o){a:av}{o:af}(D:s.heap.get? a=ah)(R:N.get? a=U o):
  St X F Y ls ((a,o)::a') {s with heap:=N,toks:=t}:=by
 have u:=S.grow (t:=t) k;have f:F a=ah:=by
  cases q:F a with
  |none=> rfl
  |some x=> rw[S.J a x q]at D;cases D
 have L:(Y++(a,o)::a').Perm ((a,o)::(Y++a')):=dA;refine⟨u.top,u.sub,u.inv,u.ns,u.nm,u.ext,u.J,u.fL,u.fr,λp z=> ?_,(L.map (·.1)).nodup_iff.mpr (dN.mpr ⟨λm=> ?_,S.nd⟩),λp z=> ?_,u.mx,u.xm,u.ce,u.pn⟩
 ·rcases bM.mp (L.mem_iff.mp z)with rfl |h
  ·refine⟨R,f,λe=> ?_⟩
   obtain⟨x,_,_,T,_⟩:=S.ns;rw[← e,D]at T;cases T
  ·exact u.al p h
 ·obtain⟨p,z,e⟩:=bz.mp m
  have:=(S.al p z).1;rw[e,D]at this;cases this
 ·rcases bM.mp z with rfl |h
  ·exact S.hP D
  ·exact S.nw p h
theorem St.push(S:St X F Y ls a' s){o:af}(t:o.isFreed=ak):
  St X F Y ls ((s.heap.objs.size,o)::a') {s with heap:=s.heap.push o}:=by
 have c:∀b o',s.heap.get? b=U o'->b≠s.heap.objs.size:=λb o' e q=> by
  subst q;exact bf (dy e) (fH _)
 have none_new:∀(G:Fz),(∀a o',G a=U o'->s.heap.get? a=U o')->G s.heap.objs.size=ah:=λG z=> by
  cases q:G s.heap.objs.size with
  |none=> rfl
  |some o'=> exact bf rfl (c _ _ (z _ _ q))
 refine⟨S.top,S.sub,S.inv,S.ns.push o,S.nm,⟨λa o' e n=> ew o (S.ext.keep a o' e n),S.ext.gens,S.ext.os⟩,
  λa o' e=> ew o (S.J a o' e),S.fL,S.fr,λp r=> ?_,?_,λp r=> ?_,S.mx,S.xm,S.ce,S.pn⟩
 ·rcases dc.mp r with h |h
  ·have:=S.al p (bk _ h)
   exact⟨ew o this.1,this.2⟩
  ·rcases bM.mp h with rfl |h
   ·exact⟨fh _ t,none_new F S.J,λq=> bf S.ns.lt (by show ¬X.env.locals < _;rw[← q];exact fH _)⟩
   ·have:=S.al p (bp _ h)
    exact⟨ew o this.1,this.2⟩
 ·have L:(Y++(s.heap.objs.size,o)::a').Perm ((s.heap.objs.size,o)::(Y++a')):=dA
  refine((L.map (·.1)).nodup_iff).mpr (dN.mpr ⟨λm=> ?_,S.nd⟩);obtain⟨p,r,e⟩:=bz.mp m;exact c _ _ (S.al p r).1 e
 ·rcases bM.mp r with rfl |h
  ·exact S.hP (e2 (dh _))
  ·exact S.nw p h
theorem St.put(S:St X F Y ls a' s){i:ae}{x:ao}{u:aq ai}{v:ai}{N:cc}{t:fM}(hi:ls[i]?=U (x,u))(c:∀q∈X.pin,q.1≠x)(b:X.G.ns.Nodup)(A:X.s₀.heap.get? X.env.locals=ah)
  (Z:N.Ns X.env.locals (λy=> if y=x then U v else lk ls y)) (g:gO X.env.locals s.heap N):St X F Y (kF ls i v) a' {s with heap:=N,toks:=t}:=by
 refine⟨S.top,S.sub,S.inv,?_,(YL ls i v).trans S.nm,⟨λa o e n=> ?_,S.ext.gens,S.ext.os⟩,λa o e=> ?_,S.fL,S.fr,λp z=> ?_,S.nd,S.nw,S.mx,S.xm,S.ce,λq I=> ?_⟩
 ·rw[← zY (by rw[S.nm];exact b) hi];exact Z
 ·by_cases q:a=X.env.locals
  ·rw[q,A]at e;cases e
  ·exact(g.2 a q).trans (S.ext.keep a o e n)
 ·by_cases q:a=X.env.locals
  ·rw[q,S.fL]at e;cases e
  ·exact(g.2 a q).trans (S.J a o e)
 ·have:=S.al p z
  exact⟨(g.2 _ this.2.2).trans this.1,this.2⟩
 ·have e:=e5 (zY (v:=v) (by rw[S.nm];exact b) hi) q.1
  rw[← e,bW (c q I)];exact S.pn q I
theorem St.freeze(D:∀F W Y,X.I F Y->Sub F W->(∀p∈Y,W p.1=ah)->X.I W Y){a:av}{o:af}(S:St X F Y ls ((a,o)::a') s):St X (F.ins a o) Y ls a' s∧Sub F (F.ins a o)∧F.ins a o a=U o:=by
 have A:=S.al (a,o) (bp _ (.head _));have H:Sub F (F.ins a o):=Sub.ins A.2.1;have L:(Y++(a,o)::a').Perm ((a,o)::(Y++a')):=dA;have V:=dN.mp ((L.map (·.1)).nodup_iff.mp S.nd);have x:∀p∈Y++a',F.ins a o p.1=ah:=λp z=> by
  have k:p.1≠a:=λe=> V.1 (bz.mpr ⟨p,z,e⟩)
  show(if p.1=a then U o else F p.1)=ah;rw[bW k];exact(S.al p (L.mem_iff.mpr (.tail _ z))).2.1
 refine⟨⟨S.top.mono H,S.sub.trans H,D _ _ _ S.inv H λp z=> x p (bk _ z),S.ns,S.nm,S.ext,λb o' e=> ?_,?_,λb o' e=> ?_,λp z=> ?_,V.2,λp z=> S.nw p (.tail _ z),S.mx,S.xm,λi c w=> ?_,S.pn⟩,H,F.lq a o⟩
 ·unfold Fz.ins at e
  split at e
  ·rename_i q;cases e;rw[q];exact A.1
  ·exact S.J b o' e
 ·show(if X.env.locals=a then U o else F X.env.locals)=ah
  rw[bW λe=> A.2.2 e.symm];exact S.fL
 ·unfold Fz.ins at e
  split at e
  ·rename_i q;rw[q];exact .inr (S.nw (a,o) (.head _))
  ·exact S.fr b o' e
 ·have:=S.al p (L.mem_iff.mpr (.tail _ z))
  exact⟨this.1,x p z,this.2.2⟩
 ·obtain⟨v,g,p,n,j,y,d⟩:=S.ce i c w
  exact⟨v,g,p,H _ _ n,j,y,d.mono H⟩
theorem St.upd{a:av}{o o':af}{N:cc}(S:St X F Y ls ((a,o)::a') s)(g:gO a s.heap N)(R:N.get? a=U o'):St X F Y ls ((a,o')::a') {s with heap:=N}:=by
 have A:=S.al (a,o) (bp _ (.head _));have L:(Y++(a,o)::a').Perm ((a,o)::(Y++a')):=dA;have V:=dN.mp ((L.map (·.1)).nodup_iff.mp S.nd);refine⟨S.top,S.sub,S.inv,S.ns.sameBut g (gM A.2.2),S.nm,⟨λb o e n=> ?_,S.ext.gens,S.ext.os⟩,λb o e=> ?_,S.fL,S.fr,λp z=> ?_,?_,λp z=> ?_,S.mx,S.xm,S.ce,S.pn⟩
 ·by_cases q:b=a
  ·rw[q,S.nw (a,_) (.head _)]at e;cases e
  ·exact(g.2 b q).trans (S.ext.keep b o e n)
 ·by_cases q:b=a
  ·rw[q,A.2.1]at e;cases e
  ·exact(g.2 b q).trans (S.J b o e)
 ·have c:(Y++(a,o')::a').Perm ((a,o')::(Y++a')):=dA
  rcases bM.mp (c.mem_iff.mp z)with rfl |h
  ·exact⟨R,A.2⟩
  ·have B:=S.al p (L.mem_iff.mpr (.tail _ h))
   have k:p.1≠a:=λe=> V.1 (bz.mpr ⟨p,h,e⟩)
   exact⟨(g.2 _ k).trans B.1,B.2⟩
 ·have c:(Y++(a,o')::a').Perm ((a,o')::(Y++a')):=dA
  exact(c.map (·.1)).nodup_iff.mpr (dN.mpr V)
 ·rcases bM.mp z with rfl |h
  ·exact S.nw (a,o) (.head _)
  ·exact S.nw p (.tail _ h)
theorem St.call{W:Fz}{N:MT}{P:aD}(S:St X F Y ls a' s)(u:Ext (Y.map (·.1)) s P)(C:Sub F W)(b:X.I W N)(B:∀a o,W a=U o->P.heap.get? a=U o)
  (r:∀a o,W a=U o->F a=U o∨s.heap.get? a=ah) (O:N.map (·.1)=Y.map (·.1)) (E:∀p∈N,P.heap.get? p.1=U p.2∧W p.1=ah):St X W N ls a' P:=by
 have x:∀a,s.heap.get? a≠ah->F a=ah->W a=ah:=λa e f=> by
  cases q:W a with
  |none=> rfl
  |some o=>
        rcases r a o q with h |h
        ·rw[f]at h;cases h
        ·exact bf h e
 obtain⟨M,l,K,T,L⟩:=id S.ns;have d:X.env.locals∉Y.map (·.1):=λm=> by
  obtain⟨p,z,e⟩:=bz.mp m;exact(S.al p (bk _ z)).2.2 e
 have k:∀p∈a',p.1∉Y.map (·.1):=λp z m=> by
  have V:=S.nd;rw[bj]at V;exact(c2.mp V).2.2 _ m _ (cY z) rfl
 have t:∀a o,F a=U o->a∉Y.map (·.1):=λa o e m=> by
  obtain⟨p,z,q⟩:=bz.mp m;have:=(S.al p (bk _ z)).2.1;rw[q,e]at this;cases this
 refine⟨S.top.mono C,S.sub.trans C,b,⟨M,l,K,u.keep _ _ T d,L⟩,S.nm,⟨λa o e n=> ?_,u.gens.trans S.ext.gens,u.os.trans S.ext.os⟩,B,x _ (by rw[T];exact λe=> nomatch e) S.fL,λa o e=> ?_,λp z=> ?_,?_,S.nw,λp z=> ?_,λa D=> by rw[O];exact S.xm a D,λi c w=> ?_,S.pn⟩
 ·by_cases m:a∈Y.map (·.1)
  ·exfalso
   obtain⟨p,z,q⟩:=bz.mp m;rcases S.mx p z with h |h
   ·exact n (q ▸ h)
   ·rw[q,e]at h;cases h
  ·exact u.keep _ _ (S.ext.keep a o e n) m
 ·rcases r a o e with h |h
  ·exact S.fr a o h
  ·exact .inr (S.hP h)
 ·rcases dc.mp z with h |h
  ·refine⟨(E p h).1,(E p h).2,λe=> ?_⟩
   exact d (by rw[← O,← e];exact cY h)
  ·have A:=S.al p (bp _ h)
   exact⟨u.keep _ _ A.1 (k p h),x _ (by rw[A.1];exact λe=> nomatch e) A.2.1,A.2.2⟩
 ·rw[bj,O,← bj];exact S.nd
 ·have:p.1∈Y.map (·.1):=by rw[← O];exact cY z
  obtain⟨q,I,e⟩:=bz.mp this;rw[← e];exact S.mx q I
 ·obtain⟨v,g,p,G,j,y,H⟩:=S.ce i c w
  exact⟨v,g,p,C _ _ G,j,y,H.mono C⟩
theorem St.adopt{a:av}{o:af}(S:St X F Y ls a' s)(h:s.heap.get? a=U o)(C:F a=ah)(A:a≠X.env.locals)(Z:a∉(Y++a').map (·.1))(x:X.s₀.heap.get? a=ah):St X F Y ls ((a,o)::a') s:=by
 have L:(Y++(a,o)::a').Perm ((a,o)::(Y++a')):=dA;refine⟨S.top,S.sub,S.inv,S.ns,S.nm,S.ext,S.J,S.fL,S.fr,λp z=> ?_,(L.map (·.1)).nodup_iff.mpr (dN.mpr ⟨Z,S.nd⟩),λp z=> ?_,S.mx,S.xm,S.ce,S.pn⟩
 ·rcases bM.mp (L.mem_iff.mp z)with rfl |z
  ·exact⟨h,C,A⟩
  ·exact S.al p z
 ·rcases bM.mp z with rfl |z
  ·exact x
  ·exact S.nw p z
end
variable {k:ae}{w:aV}{F:Fz}{Y:MT}{s:aD}{A:dC}{v:ai}{p:PV}{V:aa Slot}{X:Cx}{ls:aa (ao×aq ai)}{b' a':MT}{E Q:ai->aD->Prop}{n i:ae}{a:av}{Z:aa ai}{args:aa PV}{o:af}{H:aa PV}{r:RV}{I:Fz->MT->Prop}{x:ao}{c' ps:aa PV}{m pA wA:av}{h:cc}{rv:RV}{t:fM}{W:ae}{B:aa RV}{e:aw}{f:ai}{P:aT}{d':aQ}{D:fJ}{is:aa ae}{ns:aa ao}{G:TG}
theorem Fc(z:∀a o,F a=U o->h.get? a=U o){d:mh}(D:Den w F p v)(e:pd p=U d):∃as,oE h v d as:=by
 refine Den.rec (motive_1:=λp v L=> ∀d,pd p=U d->∃as,oE h v d as) (motive_2:=λps Z L=> ∀N,jH ps=U N->∃as,ReadsAll h Z N as)
  (λd e=> hj e ⟨_,.none⟩) (λb d e=> hj e ⟨_,.bool b⟩) (λi t d e=> hj e ⟨_,.int i t⟩) (λx t d e=> hj e ⟨_,.str x t⟩) (λb t k d e=> nn e) (λv d e=> nn e) (λq r d e=> nn e)
  (λq l r j d e=> fp e λN k=> ?_) (λq l r j d e=> fp e λN k=> ?_) (λa b c f g j d e=> nn e) (λa b c f g j d e=> nn e) (λa b c f g j d e=> nn e) (λa b d e=> nn e)
  (λN e=> hj e ⟨_,.nil⟩) (λa b m S N e=> aC e λd k e=> fp e λN k'=> ?_) D d e
 ·obtain⟨as,R⟩:=j N k
  obtain⟨n,rfl⟩:=l;exact⟨_,.tuple (z _ _ q) rfl rfl R⟩
 ·obtain⟨as,R⟩:=j N k
  obtain⟨n,rfl⟩:=l;exact⟨_,.list (z _ _ q) rfl rfl R⟩
 ·obtain⟨as,R⟩:=m d k
  obtain⟨s,y⟩:=S N k';exact⟨_,.cons R y⟩
theorem PL(z:∀a o,F a=U o->h.get? a=U o){N:aa mh}(l:aH w F ps Z)(e:jH ps=U N):∃as,ReadsAll h Z N as:=
 l.ind (λN e=> hj e ⟨_,.nil⟩) (λa _ D N e=> aC e λd k e=> fp e λN k'=> (Fc z a k).elim λ_ R=> (D _ k').elim λ_ v=> ⟨_,.cons R v⟩) N e
@[elab_as_elim] theorem aP.K{C:ai->Prop}(h:aP w F a' p v)(t:Den w F p v->C v)(hb:∀a o,(a,o)∈a'->bB w F p o->C (.ref a))(hi:eG p=ag->C v):C v:=by
 induction h with
 |J d=> exact t d
 |bor m o=> exact hb _ _ m o
 |borI e m o=> exact hi rfl
theorem St.mG(S:St X F Y ls (b'++a') s)(m:(a,o)∈a'):s.heap.get? a=U o:=
 (S.al (a,o) (bp _ (bp _ m))).1
@[elab_as_elim] theorem aP.gD{C:ai->Prop}(h:aP X.w F a' (.list H) v)(S:St X F Y ls (b'++a') s)(k:∀a Z n,s.heap.get? a=U (listOf Z.toArray n)->aH X.w F H Z->C (.ref a)):C v:=by
 exact h.K (λd=> d.gD λa Z n e l=> k a Z n (S.J _ _ e) l) (λa o m ow=> by obtain⟨Z,n,rfl,l⟩:=ow;exact k a Z n (S.mG m) l) λe=> nf e
@[elab_as_elim] theorem aP.tupK{C:ai->Prop}(h:aP X.w F a' (.tup H) v)(S:St X F Y ls (b'++a') s)(k:∀a Z n,s.heap.get? a=U (eB Z.toArray n)->aH X.w F H Z->C (.ref a)):C v:=by
 exact h.K (λd=> d.tupK λa Z n e l=> k a Z n (S.J _ _ e) l) (λ_ _ _ o=> o.elim) λe=> nf e
theorem aP.list(S:St X F Y ls (b'++a') s)(h:aP X.w F a' (.list H) v):ea λa Z n=> bG (v=.ref a) (s.heap.get? a=U (listOf Z.toArray n)) (aH X.w F H Z):=
 h.gD S λa Z n e d=> ⟨a,Z,n,rfl,e,d⟩
theorem aP.tup(S:St X F Y ls (b'++a') s)(h:aP X.w F a' (.tup H) v):ea λa Z n=> bG (v=.ref a) (s.heap.get? a=U (eB Z.toArray n)) (aH X.w F H Z):=
 h.tupK S λa Z n e d=> ⟨a,Z,n,rfl,e,d⟩
@[elab_as_elim] theorem aP.dW{i:aj}{C:ai->Prop}(h:aP X.w F a' (.int i) v)(k:∀t,C (.int i t)):C v:=
 h.K (λd=> d.dW k) (λ_ _ _ o=> o.elim) λe=> nf e
theorem aP.int{i:aj}(h:aP X.w F a' (.int i) v):∃t,v=.int i t:=h.dW λt=> ⟨t,rfl⟩
theorem aP.bool{b:au}(h:aP X.w F a' (.bool b) v):v=.bool b:=
 h.K (λd=> d.inv) (λ_ _ _ o=> o.elim) λe=> nf e
theorem aP.lh{u:ai}(h:aP X.w F a' (.fn u) v):v=u:=
 h.K (λd=> d.inv) (λ_ _ _ o=> o.elim) λe=> nf e
theorem aP.none(h:aP X.w F a' .none v):v=.none:=
 h.K (λd=> d.inv) (λ_ _ _ o=> o.elim) λe=> nf e
@[elab_as_elim] theorem aP.jL{C:ai->Prop}(h:aP X.w F a' (.str x) v)(k:∀t,C (.str x t)):C v:=
 h.K (λd=> d.jL k) (λ_ _ _ o=> o.elim) λe=> nf e
theorem aP.reads(S:St X F Y ls (b'++a') s){d:mh}(h:aP X.w F a' p v)(e:pd p=U d):∃as,oE s.heap v d as:=by
 cases h with
 |J D=> exact Fc S.J D e
 |borI=> exact nn e
 |bor m o=>
  cases p with
  |list H=>
   exact fp e λN k=> by
    obtain⟨Z,n,rfl,l⟩:=o;obtain⟨as,R⟩:=PL S.J l k;exact⟨_,.list (S.mG m) rfl rfl R⟩
  |cV=> exact nn e
  |aW=> exact nn e
  |_=> exact o.elim
theorem eZ{i:aj}(h:dk p=U i):p=.int i:=
 PV.int.elim (motive_1:=λp=> dk p=U i->p=.int i) p (mF h) (λa h=> by obtain rfl:a=i:=bo h;rfl) h
theorem jd{i:ao}(h:gk p=U i):p=.str i:=
 PV.str.elim (motive_1:=λp=> gk p=U i->p=.str i) p (mF h) (λa h=> by obtain rfl:a=i:=bo h;rfl) h
theorem aai{K:Type}[d4 K](M:aa (K×ai))(k:K):(dv M k).isSome=(M.map (·.1)).any (·==k):=by
 induction M with
 |nil=> rfl
 |cons p r D=>
  by_cases h:p.1=k
  ·simp[dv,xy,h]
  ·have hb:(p.1==k)=ak:=by simpa using h
   simp only[dv,xy,cv h,dG,hq,hb,sV]at D⊢;exact D
theorem cH.dictOf{K:Type}[d4 K]{knd:KeyKind pw w K}{M:aa (K×ai)}(d:cH knd o M)(e:h.get? a=U o):h.DictOf knd a M:=
 let⟨x,l,H,f,G,j,B⟩:=d;⟨o,l,H,e,x,f,G,j,B⟩
theorem aP.cV(S:St X F Y ls (b'++a') s){T:aa aj}{Z:aa PV}(h:aP X.w F a' (.cV T Z) v):
  bH λa M=> j4 (v=.ref a) ((a==cO)=ak) (s.heap.DictOf (ib pw X.w) a M) (M.map (·.1)=T) (aH X.w F Z (M.map (·.2))):=by
 refine h.K (λd=> d.y8 λa o M e n q k l=> ⟨_,_,rfl,n,q.dictOf (S.J _ _ e),k,l⟩) (λa o m ow=> by obtain⟨M,q,k,l⟩:=ow;exact⟨_,M,rfl,S.i7 (bp _ m),q.dictOf (S.mG m),k,l⟩) λe=> nf e
theorem aP.aW(S:St X F Y ls (b'++a') s){T:aa ao}{Z:aa PV}(h:aP X.w F a' (.aW T Z) v):
  bH λa M=> j4 (v=.ref a) ((a==cO)=ak) (s.heap.DictOf (strKind pw X.w) a M) (M.map (·.1)=T) (aH X.w F Z (M.map (·.2))):=by
 refine h.K (λd=> d.y9 λa o M e n q k l=> ⟨_,_,rfl,n,q.dictOf (S.J _ _ e),k,l⟩) (λa o m ow=> by obtain⟨M,q,k,l⟩:=ow;exact⟨_,M,rfl,S.i7 (bp _ m),q.dictOf (S.mG m),k,l⟩) λe=> nf e
theorem HH{a:aj}(h:cb a=ag):aaI a≤64:=by
 simp only[cb,cP,fQ]at h;exact intBits_le_64 (iI (by decide) h.1) (iI h.2 (by decide))
theorem jI(h:aY n=ag):n < 1048576:=by
 unfold aY at h;exact dg h
theorem fY(h:aY n=ag):n≤ej:=by
 exact bK (d6 (jI h)) (by decide)
theorem Gj(Z:aa ai):∀(m:ae) (L:aa ai),Lo (λA Y=> A++Y) L.toArray (de m Z.toArray)=(L++(de m Z).flatten).toArray
 |0,L=> by simp
 |m+1,L=> by
  rw[kM,kL,kM,tc,← bU,← Gj Z m (L++Z)];simp
theorem E9{w:aV}{F:Fz}{H:aa PV}{Z:aa ai}(h:aH w F H Z):∀m:ae,aH w F (de m H).flatten (de m Z).flatten
 |0=> .nil
 |m+1=> by
  rw[kM,tc,kM,tc];exact h.append (E9 h m)
theorem Ge(m:ae):(de m ([]:aa ai)).flatten=[]:=by
 induction m with
 |zero=> rfl
 |succ m D=> rw[kM,tc,D];rfl
theorem Ox{w:jn}{q:PV}{C:PV->PV->RV->Prop}(h:binop w p q=U rv)(g:∀a b i,binI w a b=U i->C (.int a) (.int b) (.J (.int i)))
  (Y:∀H K,(w==.Add && aY (H.length+K.length))=ag->C (.list H) (.list K) (.own (.list (H++K))))
  (v:∀H n,(w==.Mult && cb n && aY (H.length * n.toNat))=ag->C (.list H) (.int n) (.own (.list (de n.toNat H).flatten))):C p q rv:=by
 cases p with
 |int a=> exact aC h λb e h=> eZ e ▸ fp h λi hi=> g a b i hi
 |list H=>
  cases q with
  |list K=> exact ix h (Y H K)
  |int n=> exact ix h (v H n)
  |_=> exact nn h
 |_=> exact nn h
theorem TU{f:jn}{a b i:aj}{m:fM}(h:binI f a b=U i):Q (.int i s.toks) {s with toks:=s.toks+1}->aB (ay pw X.w) A (Dc f (.int a t) (.int b m)) Q E s:=by
 cases f with
 |Add=> exact hj h λK=> P.add_int K
 |Sub=> exact hj h λK=> sub_int' K
 |Mult=> exact ix h λO K=> P.mul_int K ((Bool.or_eq_true_iff.mp O).elim (λh=> IntMulOk.of_left (HH h)) λh=> IntMulOk.of_right (HH h))
 |Mod=> exact ix h λO K=> mod_int' (by simpa using O) K
 |FloorDiv=> exact ix h λO K=> floordiv_int (by simpa using(bu O).1) K (.inl (PyProof.noPylong_small (dg (bu O).2)))
 |_=> exact nn h
theorem Bu{f:jn}(S:St X F Y ls (b'++a') s){q:PV}{u:ai}
  (z:aP X.w F a' p v) (I:aP X.w F a' q u) (hb:binop f p q=U rv)
  (C:∀B P c,St X F Y ls (c++(b'++a')) P->cq X.w F a' rv B c->Q B P):aB (ay pw X.w) A (Dc f v u) Q E s:=by
 refine Ox (C:=λp q rv=> aP X.w F a' p v->aP X.w F a' q u->(∀B P c,St X F Y ls (c++(b'++a')) P->cq X.w F a' rv B c->Q B P)->aB (ay pw X.w) A (Dc f v u) Q E s) hb ?_ ?_ ?_ z I C
 ·intro a b i hi z I C
  exact z.dW λt=> I.dW λm=> TU hi (C _ _ [] (S.toks _) (.J (.int i _)))
 ·intro H K O z I C
  obtain⟨M,d⟩:=bu O;obtain rfl:=eq_of_beq M;refine z.gD S λa Z n D y=> I.gD S λb g l hb h=> ?_
  have e:Z.toArray++g.toArray=(Z++g).toArray:=by simp
  refine concat_meets ⟨_,D,rfl⟩ ⟨_,hb,rfl⟩ noFill_list_add seq_list_add PySem.F.slot_list_add PySem.F.entry_list_add (PySem.F.args_list_add_2 _ _)
   (list_addW a b Z.toArray g.toArray n l ah ah #[] #[] (by simpa[← y.length,← h.length]using fY d)) ⟨D,hb,?_⟩
  rw[e];exact C _ _ [(s.heap.objs.size,listOf (Z++g).toArray 0)] (S.push rfl) (.own ⟨_,_,rfl,y.append h⟩)
 ·intro H k O z I C
  obtain⟨M,d⟩:=bu O;obtain⟨M,W⟩:=bu M;obtain rfl:=eq_of_beq M;refine z.gD S λa Z n D y=> I.dW λm=> ?_
  replace W:-4611686018427387904 < k∧k < 4611686018427387904:=by simpa[cb]using W
  have j:=jI d;have o:=y.length;refine wpAny_binaryOp_repeat_ref (by decide) ⟨_,D,rfl⟩ (λP=> typeIs_int P k m) noFill_list_mul PySem.F.fills_int_mul Mt repeat_list PySem.F.slot_int_index.lookup
   (tQ Mt (typeIs_int s k m) PySem.F.entry_int_rmul (PySem.F.args_int_rmul_2 _ _) (int___rmul___int_list k m a Z.toArray n)
    ⟨D,rfl,⟨_,D,rfl⟩,tQ PySem.F.slot_list_mul ⟨_,D,rfl⟩ PySem.F.entry_list_mul (PySem.F.args_list_mul_2 _ _)
     (aaH a Z.toArray n k m (by simp[aaJ];exact⟨jQ (iI (by decide) W.1),iI W.2 (by decide)⟩) (by
      show ¬_ < Z.length * k.toNat;rw[← o];exact hs.mpr (bK (d6 j) (by decide))) (by
      simp[aaM,ej];rw[← o];exact bK (d6 j) (by decide)))
     ⟨D,?_⟩⟩)
  have e:Lo (λw x=> w++x) #[] (de (if Z.toArray.isEmpty=ag then 0 else k.toNat) Z.toArray)=(de k.toNat Z).flatten.toArray:=by
   have:=Gj Z (if Z.toArray.isEmpty=ag then 0 else k.toNat) [];simp only[LA]at this;rw[this];cases Z with
   |nil=> rw[Ge,Ge]
   |cons v Z=> simp
  rw[e];exact C _ _ [(s.heap.objs.size,listOf (de k.toNat Z).flatten.toArray 0)] (S.push rfl) (.own ⟨_,_,rfl,E9 y _⟩)
theorem yO{i:au}(h:px p=U i):p=.bool i:=
 PV.bool.elim (motive_1:=λp=> px p=U i->p=.bool i) p (mF h) (λa h=> by obtain rfl:a=i:=bo h;rfl) h
theorem xi(S:St X F Y ls (b'++a') s){b:au}{Q:au->aD->Prop}(z:aP X.w F a' p v)(hb:truthy p=U b)(K:Q b s):aB (ay pw X.w) A (M4 v) Q E s:=
 (yO hb ▸ z:aP X.w F a' (.bool b) v).bool ▸ kV K
theorem Xv{f:x5}(S:St X F Y ls (b'++a') s)
  (z:aP X.w F a' p v) (hb:Kz f p=U rv):(∀B g c,St X F Y ls (c++(b'++a')) g->cq X.w F a' rv B c->Q B g)->aB (ay pw X.w) A (unaryOp f v) Q E s:=by
 cases f with
 |Not=> exact fp hb λb e K=> not_of (xi S z e (K _ _ [] S (.J (.bool _))))
 |USub=> exact fp hb λa e K=> (eZ e ▸ z:aP X.w F a' (.int a) v).dW λt=> P.neg_int (K _ _ [] (S.toks _) (.J (.int _ _)))
 |_=> exact nn hb
theorem FH(S:St X F Y ls (b'++a') s){q:PV}{u:ai}{b:au}(z:aP X.w F a' p v)(I:aP X.w F a' q u)(h:ey p q=U b):gy λd e as o=> j4 (oE s.heap v d as) (oE s.heap u e o) (hu d=ag) (hu e=ag) (b=ht d e):=
 aC h λd M h=> aC h λe G h=> cg h λg h=> let⟨as,R⟩:=z.reads S M;let⟨o,l⟩:=I.reads S G;⟨d,e,as,o,R,l,(bu g).1,(bu g).2,(bo h).symm⟩
theorem Ky{a m c:ae}(h:a+70 < c)(k:m≤64):a+1+m < c:=
 bc (by rw[gn];exact fg (bK (fg k 1) (by decide)) a) h
def ub(w:aV)(A:dC)(E:ai->aD->Prop)(s:aD)(I:aD->Prop)(v u:ai)(c:au):Prop:=
 wpAny (ay pw w) A (Di .In v u) (λr P=> r=.bool c∧I P) E s
theorem J5{d:mh}(h:hu d=ag):d.depth≤64∧d.canLay0=ag:=by
 unfold hu at h;exact⟨gx (bu h).2,(bu h).1⟩
theorem in_dict{K:Type}[d4 K]{knd:KeyKind pw X.w K}{M:aa (K×ai)}{T:aa K}{k:K}(S:St X F Y ls (b'++a') s)(W:knd.is k v=ag)(ns:(a==cO)=ak)(D:s.heap.DictOf knd a M)(e:M.map (·.1)=T):ub X.w A E s (St X F Y ls (b'++a')) v (.ref a) (T.any (·==k)):=by
 rw[← e,← aai M k];exact wpAny_in_of W ns D.mapOf ⟨rfl,S.toks _⟩
theorem Rt(D:s.heap.DictOf (strKind pw w) a []):s.heap.DictOf (ib pw w) a []:=by
 obtain⟨o,l,H,R,x,u,_,d,_⟩:=D;have n:l.toList=[]:=by
  cases q:l.toList with
  |nil=> rfl
  |cons y r=> rw[q]at d;cases d
 have j:l=#[]:=by rw[← B8];exact n
 subst j;exact⟨o,#[],H,R,x,u,λL f=> by simp at f,.nil,gm⟩
theorem GN(S:St X F Y ls (b'++a') s){u:ai}{c:au}(z:aP X.w F a' p v)(h:wY p H=U c)
  (k:∀d N as,oE s.heap v d as->jH H=U N->x2 N=ag->d.canLay0=ag->min (CT N) d.depth≤64->ub X.w A E s (St X F Y ls (b'++a')) v u (N.any λy=> ht y d)):ub X.w A E s (St X F Y ls (b'++a')) v u c:=
 aC h λd M h=> aC h λN G h=> ix h λg=> let⟨as,R⟩:=z.reads S M
  k d N as R G (bu g).2 (J5 (bu g).1).2 (bK (Cv _ _) (J5 (bu g).1).1)
theorem TQ(N:A.units+70 < j1)(S:St X F Y ls (b'++a') s){q:PV}{u:ai}{c:au}(z:aP X.w F a' p v)(I:aP X.w F a' q u)(h:pin p q=U c):ub X.w A E s (St X F Y ls (b'++a')) v u c:=by
 cases q with
 |list H=> exact GN S z h λd r as R G b Q O=> let⟨o,l⟩:=I.reads S (aZ (L3 PyData.list) G)
   SeqAt.in_list_reads l R b Q (Ky N O) ⟨rfl,S⟩
 |tup H=> exact GN S z h λd r as R G b Q O=> let⟨o,l⟩:=I.reads S (aZ (L3 PyData.tuple) G)
   SeqAt.in_tuple_reads l R b Q (Ky N O) ⟨rfl,S⟩
 |aW T Z=>
  obtain⟨a,M,rfl,ns,D,W,_⟩:=I.aW S;replace h:(gk p).elim ((dk p).bind λ_=> gd T.isEmpty (U ak)) (λx=> U (T.any (·==x)))=U c:=h;cases e:gk p with
  |some x=>
   rw[e]at h;cases jd e;exact hj h (z.jL λt=> in_dict S (ic pw X.w x t) ns D W)
  |none=>
   rw[e]at h;refine aC h ?_;clear h;intro i e h;refine cg h ?_;clear h;intro f h;cases h;cases eZ e;have g:=xB.mp (W.trans (hr.mp f));subst g;exact z.dW λt=> in_dict S (oW pw X.w i t) ns (Rt D) rfl
 |_=> exact nn h
theorem VM{c:au}(z:aP X.w F a' p v)(h:vA p=U c):(v==jZ)=c:=by
 cases z with
 |J d=>
  have d:=d.inv;cases p with
  |none=> cases h;obtain rfl:v=.none:=d;rfl
  |bool=> cases h;obtain rfl:v=.bool _:=d;rfl
  |int=> cases h;obtain⟨_,rfl⟩:=d;rfl
  |str=> cases h;obtain⟨_,rfl⟩:=d;rfl
  |a8=> cases h;obtain⟨_,_,rfl,_⟩:=d;rfl
  |fn=> exact nn h
  |obj=> cases h;obtain⟨_,_,rfl,_⟩:=d;rfl
  |tup=> cases h;obtain⟨_,_,_,rfl,_⟩:=d;rfl
  |list=> cases h;obtain⟨_,_,_,rfl,_⟩:=d;rfl
  |cV=> cases h;obtain⟨_,_,_,rfl,_⟩:=d;rfl
  |aW=> cases h;obtain⟨_,_,_,rfl,_⟩:=d;rfl
  |inst=> cases h;obtain⟨_,_,_,_,rfl,_⟩:=d;rfl
  |rng=> cases h;obtain⟨_,_,_,_,rfl,_⟩:=d;rfl
 |bor m o=> cases p <;> first |exact bo h ▸ rfl |exact o.elim
 |borI=> exact bo h ▸ rfl
theorem GU{q:PV}{c:au}(h:vc p q=U c):q=.none∧vA p=U c:=
 aC h λb e h=> cg h λhb h=> ⟨(by subst hb;cases q <;> first |rfl |exact nomatch e),h⟩
theorem zP{j:Type}{f:aj->aj->j}{q:PV}{r:j}{C:PV->PV->j->Prop}(h:ints2 f p q=U r)(k:∀a b,C (.int a) (.int b) (f a b)):C p q r:=
 aC h λa e h=> bT h λb X h=> h ▸ eZ e ▸ eZ X ▸ k a b
theorem uB{f:aj->aj->au}{x:ai->ai->d8 ai}{q:PV}{u:ai}{b:au}(z:aP X.w F a' p v)(I:aP X.w F a' q u)(h:ints2 f p q=U b)(K:Q (.bool b) s)
  (k:∀a c t m,Q (.bool (f a c)) s->aB (ay pw X.w) A (x (.int a t) (.int c m)) Q E s):aB (ay pw X.w) A (x v u) Q E s:=
 zP (C:=λp q b=> aP X.w F a' p v->aP X.w F a' q u->Q (.bool b) s->aB (ay pw X.w) A (x v u) Q E s) h (λa c z I K=> z.dW λt=> I.dW λm=> k a c t m K) z I K
theorem GX{q:PV}{u:ai}{c:au}(z:aP X.w F a' p v)(I:aP X.w F a' q u)(h:vc p q=U c):u=.none∧(v==jZ)=c:=
 ⟨((GU h).1 ▸ I:aP X.w F a' .none u).none,VM z (GU h).2⟩
theorem Pd{f:gq}(S:St X F Y ls (b'++a') s){q:PV}{u:ai}{b:au}(N:A.units+70 < j1)
  (z:aP X.w F a' p v) (I:aP X.w F a' q u) (hb:eE f p q=U b) (K:∀i,St X F Y ls (b'++a') i->Q (.bool b) i):aB (ay pw X.w) A (Di f v u) Q E s:=by
 have g:=K s S;cases f with
 |Eq=> obtain⟨d,e,as,o,R,l,M,G,hb⟩:=FH S z I hb;exact eq_dataH R l M G (bc (fg (by decide) _) N) (hb ▸ g)
 |NotEq=>
  clear K
  revert g
  refine fp hb λc h g=> ?_
  obtain⟨d,e,as,o,R,l,M,G,hb⟩:=FH S z I h;exact ne_dataH R l M G (bc (fg (by decide) _) N) (hb ▸ g)
 |Lt=> exact uB z I hb g λ_ _ _ _=> P.lt_int
 |LtE=> exact uB z I hb g λ_ _ _ _=> P.le_int
 |Gt=> exact uB z I hb g λ_ _ _ _=> P.gt_int
 |GtE=> exact uB z I hb g λ_ _ _ _=> P.ge_int
 |Is=> obtain⟨e,h⟩:=GX z I hb;exact e ▸ is_none_gen (h ▸ g)
 |IsNot=>
  clear K
  revert g
  refine fp hb λc h g=> ?_
  obtain⟨e,h⟩:=GX z I h;exact e ▸ isnot_none_gen (h ▸ g)
 |In=> exact fN (TQ N S z I hb) (λr i h=> h.1 ▸ K _ h.2) λL L x=> x
 |_=> exact nn hb
section
theorem St.read(C:aG X){t:MT}(S:St X F Y ls (t++(b'++a')) s)(R:cq X.w F a' rv v t):
  ∃W,bG (St X W Y ls (b'++a') s) (Sub F W) (aP X.w W a' rv.read v):=by
 cases R with
 |J d=> exact⟨F,S,Sub.refl F,.J d⟩
 |bor m o=> exact⟨F,S,Sub.refl F,.bor m o⟩
 |borI e m o=> exact⟨F,S,Sub.refl F,.borI e m o⟩
 |@own p a o x=>
  have n:=S.i7 (.head _);obtain⟨u,H,e⟩:=St.freeze C.inv S;exact⟨_,u,H,.J ((x.mono H).den e n)⟩
theorem St.bR(C:aG X){t:MT}(S:St X F Y ls (t++(b'++a')) s)(R:cq X.w F a' rv v t)(e:rv.bR=U p):
  ∃W,bG (St X W Y ls (b'++a') s) (Sub F W) (Den X.w W p v):=by
 cases R with
 |J d=> cases e;exact⟨F,S,Sub.refl F,d⟩
 |bor m o=> cases e
 |borI _ m o=> cases e
 |@own p a o x=>
  cases e;have n:=S.i7 (.head _);obtain⟨u,H,e⟩:=St.freeze C.inv S;exact⟨_,u,H,(x.mono H).den e n⟩
theorem iZ{K:Type}[d4 K]:∀{M:aa (K×ai)} {Z:aa PV},aH w F Z (M.map (·.2))->∀(k:K),
  (∀p,c1 (M.map (·.1)) Z k=U p->∃v,dv M k=U v∧Den w F p v)∧(c1 (M.map (·.1)) Z k=ah->dv M k=ah):=by
 intro M
 induction M with
 |nil=> intro Z _ k;exact⟨λp e=> (by cases Z <;> exact nn e),λL=> rfl⟩
 |cons q r D=>
  intro Z l k;cases Z with
  |nil=> exact nomatch l.length
  |cons x Z=>
   by_cases h:q.1=k
   ·have u:c1 ((q::r).map (·.1)) (x::Z) k=U x:=by rw[dG,zc,bZ (by simpa using h)]
    have a:dv (q::r) k=U q.2:=by simp[dv,xy,h]
    rw[u,a];exact⟨λp e=> ⟨q.2,rfl,bo e ▸ l.two.1⟩,λe=> nomatch e⟩
   ·have u:c1 ((q::r).map (·.1)) (x::Z) k=c1 (r.map (·.1)) Z k:=by rw[dG,zc,bW (by simpa using h)]
    have a:dv (q::r) k=dv r k:=by simp[dv,xy,h]
    rw[u,a];exact D l.two.2 k
theorem aP.a8{H:aa aj}(h:aP X.w F a' (.a8 H) v):bH λb t=> v=.bytes b t∧(b.toList.map λc=> (c.toNat:aj))=H:=by
 cases h with
 |J d=> cases d with
  |a8 b t e=> exact⟨b,t,rfl,e⟩
 |bor m o=> exact o.elim
def lz(e:aw):au:=(n7 e).isNone
theorem ob{i':aw}(h:lz i'=ag)(o i:ai):subscripted i' ak o i=operate [o,i] (oV o i):=by
 cases i' <;> first |rfl |cases h
theorem Am{i:aj}(h:cb i=ag):-4611686018427387904 < i∧i < 4611686018427387904:=by
 simpa[cb]using h
theorem D3{j:Type}{H:aa j}{i:aj}{r:j}(h:iW H i=U r):(-4611686018427387904 < i∧i < 4611686018427387904)∧H.length < 1048576∧((0≤i∧H[i.toNat]?=U r)∨(i < 0∧0≤i+H.length∧H[(i+H.length).toNat]?=U r)):=
 cg h λO h=> ⟨Am (bu O).1,jI (bu O).2,by
  by_cases x:0≤i
  ·rw[cf x]at h;exact .inl ⟨x,h⟩
  ·rw[cv x]at h
   exact cg h λM h=> .inr ⟨oq.mp x,gx M,h⟩⟩
section
variable {j' i':aw}{u:ai}{r:PV}{i:aj}
theorem TN(g:lz i'=ag)(S:St X F Y ls (b'++a') s)(z:aP X.w F a' (.list H) v)(h:iW H i=U r)(K:∀B,Den X.w F r B->Q B s):aB (ay pw X.w) A (oA j' i' v (.int i t)) Q E s:=by
 refine z.gD S λa Z n D y=> ?_
 obtain⟨M,G,h⟩:=D3 h;have I:=y.length;have L:s.heap.IsList a Z.toArray:=⟨_,D,rfl,n,rfl⟩;refine jY (CO L) CN.lookup ?_ (ob g _ _);rcases h with ⟨x,e⟩ |⟨x,j,e⟩
 ·obtain⟨B,e,d⟩:=y.get e
  exact wpAny_getItem_list L x (iI M.2 (by decide)) (by simpa using e) (K _ d)
 ·obtain⟨B,e,d⟩:=y.get e
  exact Nb L (by lia) (by simp;lia) (jQ (iI (by decide) M.1)) (by simpa[← I]using e) (K _ d)
theorem TP(g:lz i'=ag)(S:St X F Y ls (b'++a') s)(z:aP X.w F a' (.tup H) v)(h:iW H i=U r)(K:∀B,Den X.w F r B->Q B s):aB (ay pw X.w) A (oA j' i' v (.int i t)) Q E s:=by
 refine z.tupK S λa Z n D y=> ?_
 obtain⟨M,G,h⟩:=D3 h;have I:=y.length;have L:IsTup s.heap a Z.toArray:=⟨_,D,rfl,n,rfl⟩;refine jY L.typeIs PySem.F.slot_tuple_getitem.lookup ?_ (ob g _ _);have c:∀j:ae,H[j]?=U r->Dn i H.length=U j->aB (ay pw X.w) A (oV (.ref a) (.int i t)) Q E s:=λj e f=> by
  obtain⟨B,e,d⟩:=y.get e;exact aaE L (jQ (iI (by decide) M.1)) (iI M.2 (by decide)) (by rwa [hW,← I]) (by simpa using e) (K _ d)
 rcases h with ⟨x,e⟩ |⟨x,f,e⟩
 ·have R:=(eO.mp e).1
  refine c _ e ?_;unfold Dn;simp only[bW (kJ.mpr x)];rw[bZ (by simp;exact⟨x,(K8 x).mp R⟩)]
 ·have R:=(eO.mp e).1
  refine c _ e ?_;unfold Dn;simp only[bZ x];rw[bZ (by simp;exact⟨f,by have:=Int.add_lt_add_right x (H.length:aj);rwa [K9]at this⟩)]
theorem TM(u:lz i'=ag){H:aa aj}(z:aP X.w F a' (.a8 H) v)(h:gd (decide (0≤i) && aY H.length) ((H[i.toNat]?).map PV.int)=U r)(K:∀B m,Den X.w F r B->Q B {s with toks:=m}):aB (ay pw X.w) A (oA j' i' v (.int i t)) Q E s:=by
 obtain⟨b,w,rfl,W⟩:=z.a8;refine cg h ?_;clear h;intro O h;refine bT h ?_;clear h;intro k e h;subst h;have x:=gx (bu O).1;have G:=jI (bu O).2;have R:=(eO.mp e).1;have q:b.toList.length=H.length:=by rw[← W];simp
 have g:aB (ay pw X.w) A (oV (.bytes b.toList.toArray w) (.int i t)) Q E s:=by
  refine getItem_bytes (q.symm ▸ d6 (bh G (by decide))) x (q.symm ▸ (K8 x).mp R) ?_;have a:((b.toList.getD i.toNat 0).toNat:aj)=k:=by
   rw[← W]at e;simp only[eP,jj]at e;obtain⟨c,n,j⟩:=e;rw[List.getD_eq_getElem?_getD,n];exact j
  rw[a];exact K _ _ (.int _ _)
 rw[Array.toArray_toList]at g;exact jY (mm _ _ _) CX.lookup g (ob u _ _)
theorem GK(t:lz i'=ag){g:Type}[d4 g]{knd:KeyKind pw X.w g}{M:aa (g×ai)}{Z:aa PV}{k:g}(D:s.heap.DictOf knd a M)(W:knd.is k u=ag)(l:aH X.w F Z (M.map (·.2)))(h:c1 (M.map (·.1)) Z k=U r)
  (K:∀B m,Den X.w F r B->Q B {s with toks:=m}):aB (ay pw X.w) A (oA j' i' (.ref a) u) Q E s:=by
 obtain⟨B,e,d⟩:=(iZ l k).1 r h;exact jY D.typeIs Mr.lookup (Nc W D.mapOf e (K _ _ d)) (ob t _ _)
end
theorem GL{j' i':aw}(g:lz i'=ag)(S:St X F Y ls (b'++a') s){q r:PV}{u:ai}
  (z:aP X.w F a' p v) (I:aP X.w F a' q u) (hb:g7 p q=U r) (K:∀B P,St X F Y ls (b'++a') P->Den X.w F r B->Q B P):
  wpAny (ay pw X.w) A (oA j' i' v u) Q E s:=by
 have Kt:∀B m,Den X.w F r B->Q B {s with toks:=m}:=λB m d=> K _ _ (S.toks m) d
 cases p with
 |list H=> exact aC hb λi e hb=> by cases eZ e;exact I.dW λt=> TN g S z hb λB d=> K _ _ S d
 |tup H=> exact aC hb λi e hb=> by cases eZ e;exact I.dW λt=> TP g S z hb λB d=> K _ _ S d
 |a8 H=> exact aC hb λi e hb=> by cases eZ e;exact I.dW λt=> TM g z hb Kt
 |cV T Z=>
  refine aC hb ?_;clear hb;intro i e hb;cases eZ e;obtain⟨a,M,rfl,ns,D,rfl,l⟩:=z.cV S;exact I.dW λt=> GK g D (oW pw X.w i t) l hb Kt
 |aW T Z=>
  refine aC hb ?_;clear hb;intro x e hb;cases jd e;obtain⟨a,M,rfl,ns,D,rfl,l⟩:=z.aW S;exact I.jL λt=> GK g D (ic pw X.w x t) l hb Kt
 |_=> exact nn hb
theorem BV{lo hi:aq aw}{p:aQ}(o i:ai):subscripted (.Slice lo hi ah p) ak o i=operate [i,o] (oV o i):=rfl
theorem part_of{q:PV}{k:aq aj}(h:aP X.w F a' q v)(e:lL q=U k):IsPart v k:=by
 cases q with
 |none=> cases e;obtain rfl:=h.none;exact .none
 |int i=> cases e;exact h.dW λt=> .int _ _
 |_=> exact nn e
theorem Y2{j':aw}{lo hi:aq aw}{sl:av}{f j:ai}(S:St X F Y ls ((sl,{cls:=.type "slice",data:=.fields #[f,j,.none]})::(b'++a')) s)
  {p o r:PV} {rv:RV} {v:ai} {Q:ai->aD->Prop}
  (z:aP X.w F a' p v) (I:aP X.w F a' o f) (C:aP X.w F a' r j) (hb:hh p o r=U rv)
  (K:∀B P c,St X F Y ls (c++(b'++a')) P->cq X.w F a' rv B c->Q B P):
  wpAny (ay pw X.w) A (oA j' (.Slice lo hi ah d') v (.ref sl)) Q E s:=by
 have g:s.heap.IsSliceOf sl f j .none:=⟨_,(S.al _ (bp _ (.head _))).1,rfl,rfl⟩;refine aC hb ?_;clear hb;intro l i hb;refine aC hb ?_;clear hb;intro h u hb;refine cg hb ?_;clear hb;intro x hb;have R:=part_of I i;have t:=part_of C u;cases p with
 |a8 H=>
  refine cg hb ?_;clear hb;intro O hb;cases hb;obtain⟨b,w,rfl,W⟩:=z.a8;have G:=jI O;have q:b.size=H.length:=by rw[← W];simp
  refine jY (mm _ _ _) CX.lookup (getItem_meets (mm _ _ _) (by decide) CX FB.entry_bytes_getitem (FB.args_bytes_getitem_2 _ _) (KBc.meets_slice2 b w _ R t)
   ⟨g,bK (KBc.size_picked_le b l h) (by rw[q];exact fY O),λm k=> K _ _ [] ((St.drop (t:=[_]) S).toks k) (.J (.a8 _ _ ?_))⟩) (BV _ _)
  exact KBc.ints_picked W l h
 |list H=>
  refine cg hb ?_;clear hb;intro O hb;cases hb;refine aP.gD (b':=(sl,_)::b') z S λa Z n D y=> ?_
  have G:=jI O;have q:=y.length;have L:s.heap.IsList a Z.toArray:=⟨_,D,rfl,n,rfl⟩;refine jY (CO L) CN.lookup (wpAny_getItem_list_slice L g R t .none (by simp) ?_ (by rw[hW,← q];exact fY O)) (BV _ _);have e:slicePick Z.toArray l h ah=(fF Z l h).toArray:=by
   rw[slicePick_plain];simp[fF]
  rw[e];have d:aH X.w F (fF H l h) (fF Z l h):=by
   unfold fF;rw[q];exact(y.drop _).take _
  exact K _ _ [(s.heap.objs.size,listOf (fF Z l h).toArray 0)] ((S.drop (t:=[_])).push rfl) (.own ⟨_,_,rfl,d⟩)
 |_=> exact nn hb
end
structure aX(k:ae)(A:dC):Prop where
 hd:A.handled=none
 dp:A.depth+4 * k < M0
 un:A.units+100 * k+100 < j1
theorem aX.mono{j:ae}(R:aX k A)(h:j≤k):aX j A:=⟨R.hd,bc (fg (tm 4 h) _) R.dp,bc (jS (fg (tm 100 h) _) 100) R.un⟩
theorem aX.to{d u:ae}{B:dC}(R:aX (k+1) A)(h:B.handled=ah)(M:B.depth=A.depth+d)(e:d≤4)(G:B.units≤A.units+u)(N:u≤100):aX k B:=by
 refine⟨h,bc ?_ R.dp,bc (jS ?_ 100) R.un⟩
 ·rw[M,gn,Cw,f7 d];exact fg (fg e _) _
 ·refine bK (jS G _) ?_
  rw[gn,Cw,f7 u];exact fg (fg N _) _
theorem aX.deeper(R:aX (k+1) A):aX k (A.deeper D):=R.to R.hd rfl (by decide) (dh _) (by decide)
theorem aX.Kx(R:aX k A):A.units+70 < j1:=bc (oy (iK _ _) (by decide)) R.un
theorem aX.u1(R:aX k A):A.units+1 < j1:=bc (fg (by decide) _) R.Kx
theorem aX.d0(R:aX k A):A.depth < M0:=bc (iK _ _) R.dp
def mC(w:aV)(h:cc):Prop:=∀b o,b≠cu->(H1 w.params).get? b=U o->h.get? b=U o
theorem d1.in(T:d1 w.params F)(z:∀a o,F a=U o->h.get? a=U o):mC w h:=λb o n e=> z _ _ (T b o n e)
def Kept(w:aV)(f:ai):Prop:=∀(M:me) (h:cc),mC w h->∃k,(k=Keeper.frame∨k=Keeper.machine∨k=Keeper.boundFrame)∧tH M h (keeperOf f) k
def t4(w:aV)(I:Fz->MT->Prop)(k:ae)(f:ai)(args:aa PV)(r:RV):Prop:=
 ∀(F:Fz) (Y:MT) (Z:aa ai) (A:dC) (s:aD) (Q:ai->aD->Prop) (E:ai->aD->Prop),aX k A->d1 w.params F->I F Y->aH w F args Z->
  (∀a o,F a=U o->s.heap.get? a=U o)->(∀p∈Y,s.heap.get? p.1=U p.2∧F p.1=ah)->(Y.map (·.1)).Nodup->
  (∀v P W N t,Ext (Y.map (·.1)) s P->Sub F W->I W N->(∀a o,W a=U o->P.heap.get? a=U o)->(∀a o,W a=U o->F a=U o∨s.heap.get? a=ah)->
   N.map (·.1)=Y.map (·.1)->(∀p∈N,P.heap.get? p.1=U p.2∧W p.1=ah)->cq w W [] r v t->(∀p∈t,P.heap.get? p.1=U p.2∧W p.1=ah∧s.heap.get? p.1=ah)->Q v P)->
  wpAny (ay pw w) A (bQ f Z) Q E s
def c5(w:aV)(I:Fz->MT->Prop)(k:ae)(f:ai)(args:aa PV)(r:RV):Prop:=Kept w f∧t4 w I k f args r
def cp(w:aV)(I:Fz->MT->Prop)(k:ae)(O:bI):Prop:=∀f args r,O.call f args=U r->c5 w I k f args r
theorem St.take{W:Fz}{N t:MT}{P:aD}(u:St X W N ls a' P)(S:St X F Y ls a' s)(O:N.map (·.1)=Y.map (·.1))(d:cq X.w W [] r v t)(l:∀p∈t,P.heap.get? p.1=U p.2∧W p.1=ah∧s.heap.get? p.1=ah):St X W N ls (t++a') P:=by
 cases d with
 |J d=> exact u
 |bor m=> exact Mine.nm m
 |borI _ m=> exact Mine.nm m
 |@own p a o x=>
  obtain⟨M,G,j⟩:=l (a,o) (.head _);refine u.adopt M G (λe=> ?_) (λm=> ?_) (S.hP j)
  ·obtain⟨Q,_,_,T,_⟩:=S.ns
   rw[← e,j]at T;exact nn T
  ·rw[bj,O,← bj]at m
   obtain⟨q,I,e⟩:=bz.mp m;have:=(S.al q I).1;rw[e,j]at this;exact Mine.nn this
theorem B2(c:t4 X.w X.I k f args r)(R:aX k A)(S:St X F Y ls a' s)(D:aH X.w F args Z)
  (K:∀v P W N t,St X W N ls (t++a') P->Sub F W->cq X.w W [] r v t->Q v P):aB (ay pw X.w) A (bQ f Z) Q E s:=by
 refine c F Y Z A s Q E R S.top S.inv D S.J (λp z=> ⟨(S.al p (bk _ z)).1,(S.al p (bk _ z)).2.1⟩) ?_ λv P W N t u C b B w O i d l=> ?_
 ·have:=S.nd
  rw[bj]at this;exact(c2.mp this).1
 ·exact K v P W N t ((S.call u C b B w O i).take S O d l) C d
theorem eM(C:aG X)(x:ao):X.env.kindOf x=X.G.kd.lookup x:=by unfold Env.kindOf;rw[C.kd]
theorem mZ:∀{l:aa ao} {i:ae},idxOf x l=U i->l[i]?=U x:=by
 intro l
 induction l with
 |nil=> intro i h;exact nn h
 |cons y r D=>
  intro i h;rw[idxOf]at h;cases q:x==y with
  |true=> rw[q]at h;cases h;rw[eq_of_beq q];rfl
  |false=> rw[q]at h;exact fp h λj e=> D e
theorem lg{j:Type}{O:bI}{x:aq j}{f:j->CE}{C:Prop}(h:ev O c' V (x.elim .bad f)=U rv)(k:∀a,x=U a->ev O c' V (f a)=U rv->C):C:=by
 cases x with
 |none=> exact nn h
 |some a=> exact k a rfl h
theorem zr{O:bI}{c:au}{e:CE}{C:Prop}(h:ev O c' V (bif c then e else .bad)=U rv)(k:c=ag->ev O c' V e=U rv->C):C:=by
 cases c with
 |false=> exact nn h
 |true=> exact k rfl h
theorem lookup_mem:∀{l:aa (ao×PV)},l.lookup x=U p->(x,p)∈l:=by
 intro l
 induction l with
 |nil=> intro h;exact nn h
 |cons q r D=>
  intro h;rw[show q=(q.1,q.2)from rfl,l5]at h;cases e:x==q.1 with
  |true=> rw[e]at h;cases h;rw[eq_of_beq e];exact .head _
  |false=> rw[e]at h;exact .tail _ (D h)
theorem St.m8(S:St X F Y ls a' s)(h:X.G.ns[i]?=U x):∃v,ls[i]?=U (x,v):=by
 rw[← S.nm,eP]at h;cases e:ls[i]? with
 |none=> rw[e]at h;cases h
 |some q=> rw[e]at h;cases h;exact⟨q.2,rfl⟩
def Kt(X:Cx)(F:Fz)(ls:aa (ao×aq ai))(b' a':MT)(rv:RV)(Q:ai->aD->Prop):Prop:=
 ∀v P W N t,St X W N ls (t++(b'++a')) P->Sub F W->cq X.w W a' rv v t->Q v P
def cI(X:Cx)(k:ae)(O:bI)(e:aw)(a:CE):Prop:=
 ∀(V:aa Slot) (rv:RV) (A:dC) (F:Fz) (Y:MT) (ls:aa (ao×aq ai)) (b' a':MT) (s:aD) (Q:ai->aD->Prop) (E:ai->aD->Prop),
  ev O X.cps V a=U rv->aX k A->St X F Y ls (b'++a') s->aR X.w F V (ls.map (·.2)) a'->Kt X F ls b' a' rv Q->aB (ay pw X.w) A (bt e X.env) Q E s
theorem cI.read{k:ae}{O:bI}{e:aw}{a:CE}(C:aG X)(c:cI X k O e a){V:aa Slot}{rv:RV}{Q:ai->aD->Prop}(f:ev O X.cps V a=U rv)(R:aX k A)(S:St X F Y ls (b'++a') s)
  (y:aR X.w F V (ls.map (·.2)) a') (K:∀v P W N,St X W N ls (b'++a') P->Sub F W->aP X.w W a' rv.read v->Q v P):aB (ay pw X.w) A (bt e X.env) Q E s:=
 c V rv A F Y ls b' a' s Q E f R S y λv P W N t u H r=> by
  obtain⟨i,l,g,b⟩:=u.read C r;exact K v P i N l (H.trans g) b
theorem cI.X3{k:ae}{O:bI}{e:aw}{a:CE}(C:aG X)(c:cI X k O e a){V:aa Slot}{rv:RV}{Q:ai->aD->Prop}(f:ev O X.cps V a=U rv)(R:aX k A)(S:St X F Y ls (b'++a') s)
  (y:aR X.w F V (ls.map (·.2)) a') (K:∀v P W N,St X W N ls (b'++a') P->Sub F W->aP X.w W a' rv.read v->(∀p,rv=.J p->Den X.w W p v)->Q v P):aB (ay pw X.w) A (bt e X.env) Q E s:=
 c V rv A F Y ls b' a' s Q E f R S y λv P W N t u H r=> by
  obtain⟨i,l,g,b⟩:=u.read C r;refine K v P i N l (H.trans g) b λp e=> ?_
  subst e;cases r with
  |J d=> exact d.mono g
theorem cI.bR{k:ae}{O:bI}{e:aw}{a:CE}(C:aG X)(c:cI X k O e a){V:aa Slot}{rv:RV}{p:PV}{Q:ai->aD->Prop}(f:ev O X.cps V a=U rv)(z:rv.bR=U p)(R:aX k A)(S:St X F Y ls (b'++a') s)
  (y:aR X.w F V (ls.map (·.2)) a') (K:∀v P W N,St X W N ls (b'++a') P->Sub F W->Den X.w W p v->Q v P):aB (ay pw X.w) A (bt e X.env) Q E s:=
 c V rv A F Y ls b' a' s Q E f R S y λv P W N t u H r=> by
  obtain⟨i,l,g,b⟩:=u.bR C r z;exact K v P i N l (H.trans g) b
theorem VF{O:bI}(C:aG X)(x:ao)(d':aQ):cI X k O (.Name x d') (hl X.G x):=by
 intro V rv A F Y ls b' a' s Q E f R S t K;cases W:X.G.kd.lookup x with
 |none=> rw[hl,W]at f;exact nn f
 |some kd=>
  rw[hl,W]at f;replace W:=(eM C x).trans W;cases kd with
  |«local»=>
   refine lg f ?_;clear f;intro i hi f;refine aC f ?_;clear f;intro sl g f;have T:=mZ hi;obtain⟨v,a,r⟩:=t.get g f;obtain⟨u,N⟩:=S.m8 T;have j:u=U v:=by rw[eP,N]at a;exact bo a
   exact o1 (tY C.fn W S.ns (Hi (by rw[S.nm];exact C.nn) (j ▸ N)) (K v s F Y [] S (Sub.refl F) r)) (C.dn x (f5 T))
  |cell=>
   refine lg f ?_;clear f;intro i hi f;have T:=mZ hi;obtain⟨c,w,I⟩:=C.cs i x T;obtain⟨v,o,p,n,j,y,H⟩:=S.ce i c w;replace f:(X.cps[i]?).map RV.J=U rv:=f;rw[y]at f;cases f;exact o1 (wpAny_loadName_cell C.fn W I ⟨o,S.J _ _ n,j⟩ (K v s F Y [] S (Sub.refl F) (.J H))) (C.cn x (f5 T))
  |globalImplicit=>
   refine lg f ?_;clear f;intro p z f;obtain⟨e,v,a,b⟩:=C.gs _ (lookup_mem z);cases f;have q:=K v s F Y [] S (Sub.refl F) (.J (b F S.top));have D:=S.top.mg S.J;rw[← C.gl]at D;have hb:=S.top.mb S.J;rw[← C.bl]at hb;refine md C.fn W ?_ e;rcases a with a |⟨M,G⟩
   ·exact tw D a q
   ·exact CJ D M hb G q
  |_=> exact nn f
theorem Pz{O:bI}(c:Const)(n:ae)(d':aQ):cI X k O (.Constant c n d') (Kq c):=by
 intro V rv A F Y ls b' a' s Q E f R S y K;cases c with
 |none=> cases f;exact bA (K _ s F Y [] S (Sub.refl F) (.J .none))
 |bool b=> cases f;exact bA (K _ s F Y [] S (Sub.refl F) (.J (.bool _)))
 |int i=> cases f;exact wpAny_Constant_int (K _ _ F Y [] (S.toks _) (Sub.refl F) (.J (.int _ _)))
 |str x=> cases f;exact Constant_str (K _ _ F Y [] (S.toks _) (Sub.refl F) (.J (.str _ _)))
 |bytes b=> cases f;exact wpAny_mkTextBytes (K _ _ F Y [] (S.toks _) (Sub.refl F) (.J (.a8 _ _ (by simp))))
 |_=> exact nn f
inductive fy(w:aV)(F:Fz)(own:MT):aa RV->aa ai->MT->Prop
 |nil:fy w F own [] [] []
 |cons {r rs v vs t ts:_}:cq w F own r v t->fy w F own rs vs ts->fy w F own (r::rs) (v::vs) (ts++t)
theorem aH.qt(h:aH w F [] Z):Z=[]:=kK h.length.symm
theorem fy.one{c:MT}(h:fy w F a' [r] Z c):∃v,Z=[v]∧cq w F a' r v c:=by
 cases h with
 |cons a b=> cases b;exact⟨_,rfl,a⟩
theorem cq.eY{t:MT}(h:cq w F a' (.J p) v t):t=[]∧Den w F p v:=by
 cases h with
 |J d=> exact⟨rfl,d⟩
theorem cq.n5{t:MT}(h:cq w F a' (.own p) v t):bH λa o=> bG (v=.ref a) (t=[(a,o)]) (bB w F p o):=by
 cases h with
 |own d=> exact⟨_,_,rfl,rfl,d⟩
inductive gX(w:aV)(F:Fz)(own:MT):aa PV->aa ai->Prop
 |nil:gX w F own [] []
 |cons {p ps v vs:_}:aP w F own p v->gX w F own ps vs->gX w F own (p::ps) (v::vs)
theorem St.BL{t c:MT}(S:St X F Y ls ((c++t)++(b'++a')) s):St X F Y ls (t++((c++b')++a')) s:=
 S.perm (by
  rw[bU,bU];exact(f6 c t (b'++a')))
theorem St.X4{M:Fz}{c:MT}(C:aG X)(h:fy X.w M a' B Z c):∀{F:Fz} {b':MT},Sub M F->St X F Y ls (c++(b'++a')) s->
  ∃W,bG (St X W Y ls (b'++a') s) (Sub F W) (gX X.w W a' (B.map RV.read) Z):=by
 induction h with
 |nil=> intro F b' _ S;exact⟨F,S,Sub.refl F,.nil⟩
 |@cons r B v Z t c a b D=>
  intro F b' H S;obtain⟨m,d,f,r⟩:=St.read C S.BL (a.mono H);rw[bU]at d;obtain⟨i,l,g,j⟩:=D (H.trans f) d;exact⟨i,l,f.trans g,.cons (r.mono g) j⟩
theorem St.reads{c:MT}(C:aG X)(S:St X F Y ls (c++(b'++a')) s)(h:fy X.w F a' B Z c):
  ∃W,bG (St X W Y ls (b'++a') s) (Sub F W) (gX X.w W a' (B.map RV.read) Z):=St.X4 C h (Sub.refl F) S
theorem St.RF{M:Fz}{c:MT}(C:aG X)(h:fy X.w M a' B Z c):∀{F:Fz} {b':MT} {ps:aa PV},Sub M F->St X F Y ls (c++(b'++a')) s->Mine.b6 B=U ps->
  ∃W,bG (St X W Y ls (b'++a') s) (Sub F W) (aH X.w W ps Z):=by
 induction h with
 |nil=> intro F b' ps _ S e;cases e;exact⟨F,S,Sub.refl F,.nil⟩
 |@cons r B v Z t c a b D=>
  intro F b' ps H S e;refine aC e ?_;clear e;intro p k e;refine bT e ?_;clear e;intro n k' e;obtain⟨m,d,f,r⟩:=St.bR C S.BL (a.mono H) k;rw[bU]at d;obtain⟨i,l,g,j⟩:=D (H.trans f) d k';exact⟨i,l,f.trans g,e ▸ .cons (r.mono g) j⟩
theorem St.b6{c:MT}(C:aG X)(S:St X F Y ls (c++(b'++a')) s)(h:fy X.w F a' B Z c)(e:Mine.b6 B=U ps):
  ∃W,bG (St X W Y ls (b'++a') s) (Sub F W) (aH X.w W ps Z):=St.RF C h (Sub.refl F) S e
def iU(X:Cx)(k:ae)(O:bI)(e:aw)(a:CE):Prop:=
 ∀(V:aa Slot) (rv:RV) (b:au) (A:dC) (F:Fz) (Y:MT) (ls:aa (ao×aq ai)) (b' a':MT) (s:aD) (Q:au->aD->Prop) (E:ai->aD->Prop),
  ev O X.cps V a=U rv->truthy rv.read=U b->aX k A->St X F Y ls (b'++a') s->aR X.w F V (ls.map (·.2)) a'->
  (∀P W N,St X W N ls (b'++a') P->Sub F W->Q b P)->aB (ay pw X.w) A (mq e X.env (bt e X.env)) Q E s
def fo(X:Cx)(k:ae)(O:bI)(l:aa aw)(a:di):Prop:=
 ∀(V:aa Slot) (d:aa RV) (A:dC) (F:Fz) (Y:MT) (ls:aa (ao×aq ai)) (b' a':MT) (s:aD) (d':aQ) (Q:aa ai->aD->Prop) (E:ai->aD->Prop),
  bO O X.cps V a=U d->aX k A->St X F Y ls (b'++a') s->aR X.w F V (ls.map (·.2)) a'->
  (∀Z P W N c,St X W N ls (c++(b'++a')) P->Sub F W->fy X.w W a' d Z c->Q Z P)->aB (ay pw X.w) A (spliced (d9 d' (du l X.env))) Q E s
def ue(X:Cx)(k:ae)(O:bI)(n:ae):Prop:=∀w Z d',cI X k O (.BoolOp w Z d') (lR n X.G w Z)∧iU X k O (.BoolOp w Z d') (lR n X.G w Z)
def pa(X:Cx)(k:ae)(O:bI)(n:ae):Prop:=
 ∀(d:aa gq) (B:aa aw) (z:CR),je n X.G d B=U z->oX d B=ak∧
 ∀(V:aa Slot) (p:PV) (v:ai) (b:au) (A:dC) (F:Fz) (Y:MT) (ls:aa (ao×aq ai)) (b' a':MT) (s:aD) (d':aQ) (E:ai->aD->Prop),
  kp O X.cps V p z=U b->aX k A->St X F Y ls (b'++a') s->aR X.w F V (ls.map (·.2)) a'->aP X.w F a' p v->
  (∀(Q:ai->aD->Prop),(∀P W N,St X W N ls (b'++a') P->Sub F W->Q (.bool b) P)->aB (ay pw X.w) A (Dh d' v d (oT B X.env)) Q E s)∧
  (∀(Q:au->aD->Prop),(∀P W N,St X W N ls (b'++a') P->Sub F W->Q b P)->aB (ay pw X.w) A (Dp d' v d (oT B X.env)) Q E s)
theorem uA{M:me}{l:aw}{d:aa gq}{B:aa aw}(O:oX d B=ak)
  (h:aB M A (bt l D) (λa m=> aB M A (Dh d' a d (oT B D)) Q E m) E s):aB M A (bt (.Compare l d B d') D) Q E s:=by
 show aB M A (do Dh d' (← bt l D) d (markedEach d B (oT B D))) Q E s;rw[L7 _ _ _ O];exact aM h
theorem y4{M:me}{l:aw}{d:aa gq}{B:aa aw}{g:d8 ai}{Q:au->aD->Prop}(O:oX d B=ak)
  (h:aB M A (bt l D) (λa m=> aB M A (Dp d' a d (oT B D)) Q E m) E s):aB M A (mq (.Compare l d B d') D g) Q E s:=by
 show aB M A (do Dp d' (← bt l D) d (markedEach d B (oT B D))) Q E s;rw[L7 _ _ _ O];exact aM h
theorem VP{w:gq}(h:isSet e=ak):behindInMarks w e=ak:=by
 cases e <;> first |rfl |cases h
theorem cI.truth{k:ae}{O:bI}{e:aw}{a:CE}(C:aG X)(c:cI X k O e a)(f:∀g,mq e X.env g=(do let v ← g;oZ e.pos;tR [v] (M4 v))):iU X k O e a:=by
 intro V rv b A F Y ls b' a' s Q E h l R S y K;refine isTrue_plain ?_ (f _);exact c.read C h R S y λv P W N u H r=> xi u r l (K P W N u H)
theorem uC{O:bI}(C:aG X){o:gq}(D:cI X k O e (aE n X.G e)){q:RV}{c:au}{P:ai->ai->aD->Prop}(I:ev O X.cps V (aE n X.G e)=U q)(w:eE o p q.read=U c)(R:aX k A)(S:St X F Y ls (b'++a') s)(y:aR X.w F V (ls.map (·.2)) a')(z:aP X.w F a' p v)
  (K:∀u g W N,St X W N ls (b'++a') g->Sub F W->aP X.w W a' q.read u->P u (.bool c) g):aB (ay pw X.w) A (bt e X.env) (λu m=> aB (ay pw X.w) A (Di o v u) (λr j=> P u r j) E m) E s:=
 D.read C I R S y λu g W N x H r=> Pd x R.Kx (z.mono H) r w λh f=> K u h W N f H r
theorem VN{j:Type}{c:au}{x:aq j}{r:j}{P:Prop}(h:(bif c then ah else x)=U r)(k:c=ak->x=U r->P):P:=by
 cases c
 ·exact k rfl h
 ·exact nn h
theorem Oo{j:Type}{c:au}{a r:j}{x:aq j}{P:Prop}(h:(bif c then U a else x)=U r)(M:c=ag->a=r->P)(G:x=U r->P):P:=by
 cases c
 ·exact G h
 ·exact M rfl (bo h)
theorem Ks{os:aa gq}{l:aa aw}{r:CR}(h:je n G os l=U r):gy λo b e a=> os=o::b∧l=e::a:=by
 cases n with
 |zero=> exact nn h
 |succ n=>
  cases os with
  |nil=> exact nn h
  |cons o os=>
   cases l with
   |nil=> exact nn h
   |cons e l=> exact⟨o,os,e,l,rfl,rfl⟩
theorem aau{O:bI}(C:aG X)(D:∀e,cI X k O e (aE n X.G e))(m:pa X k O n):pa X k O (n+1):=by
 intro d B z h;obtain⟨o,os,e,l,rfl,rfl⟩:=Ks h;refine VN (h) λi h=> Oo h (λg a=> ?_) λh=> bT h λr c' a=> ?_
 ·obtain⟨M,G⟩:=bu g
  obtain rfl:=hr.mp M;obtain rfl:=hr.mp G;subst a;refine⟨by simpa[oX]using VP i,λV p v b A F Y ls b' a' s d' E f R S y t=> aC f λq I f=> ⟨λQ K=> ?_,λQ K=> ?_⟩⟩
  ·exact chain_last (uC C (D e) I f R S y t λu P W N Z H ω=> K P W N Z H)
  ·exact CF (uC C (D e) I f R S y t λu P W N Z H ω=> kV (K P W N Z H))
 ·subst a
  obtain⟨o',os,e',l,rfl,rfl⟩:=Ks c';obtain⟨g,ih⟩:=m _ _ _ c';refine⟨by simpa[oX]using g,λV p v b A F Y ls b' a' s d' E f R S y t=> aC f λq I f=> aC f λc w f=> ⟨λQ K=> chain_link ?_,λQ K=> test_link ?_⟩⟩
  ·refine uC C (D e) I w R S y t λu P W N Z H r=> kV ?_
   cases c with
   |true=> exact(ih V _ u b A W N ls b' a' P d' E f R Z (y.mono H) r).1 Q λj T L S3 x=> K j T L S3 (H.trans x)
   |false=> obtain rfl:=bo f;exact K P W N Z H
  ·refine uC C (D e) I w R S y t λu P W N Z H r=> kV ?_
   cases c with
   |true=> exact(ih V _ u b A W N ls b' a' P d' E f R Z (y.mono H) r).2 Q λj T L S3 x=> K j T L S3 (H.trans x)
   |false=> obtain rfl:=bo f;exact K P W N Z H
section
variable {O:bI}
theorem aat:∀l,fo X k O l (br 0 X.G l):=by
 intro l V d A F Y ls b' a' s d' Q E h R S y K;cases l with
 |nil=> cases h;exact oB (K [] s F Y [] S (Sub.refl F) .nil)
 |cons=> exact nn h
theorem Ar(h:ev O X.cps V (aE n X.G e)=U rv)(H:aa aw):du (e::H) X.env=(ak,bt e X.env)::du H X.env:=by
 cases e <;> first |rfl |(cases n <;> exact nn h)
theorem aas(D:∀e,cI X k O e (aE n X.G e))(q:∀l,fo X k O l (br n X.G l)):∀l,fo X k O l (br (n+1) X.G l):=by
 intro l V d A F Y ls b' a' s d' Q E h R S y K;cases l with
 |nil=> cases h;exact oB (K [] s F Y [] S (Sub.refl F) .nil)
 |cons e r=>
  refine aC h ?_;clear h;intro p M h;refine bT h ?_;clear h;intro ps G h;refine xN ?_ (Ar M r);subst h;refine D e V p A F Y ls b' a' s _ E M R S y λv P W N t u H a=> ?_
  refine q r V ps A W N ls (t++b') a' P d' _ E G R (by rw[bU];exact u) (y.mono H) λZ T g j c f i b=> ?_
  refine K (v::Z) T g j (c++t) ?_ (H.trans i) (.cons (a.mono i) b);rw[bU]at f⊢;exact f
theorem sS:cI X k O e .bad:=λL L L L L L L L L L L h=> nn h
theorem B7:iU X k O e .bad:=λL L L L L L L L L L L L h=> nn h
theorem aap:ue X k O 0:=λw Z d'=> ⟨sS,B7⟩
theorem RE{a:RV}(h:a.bR=U p):a.read=p:=by cases a <;> cases h <;> rfl
noncomputable def n8:BoolOp->au
 | .And=> ak
 | .Or=> ag
theorem Ed{C:Prop}{w:BoolOp}{j:aw}{r:aa aw}(h:ev O X.cps V (lR (n+1) X.G w (e::j::r))=U rv)
  (k:∀a p t,ev O X.cps V (aE n X.G e)=U a->a.bR=U p->Mine.truthy p=U t->(t=n8 w->rv=.J p)->(t=!(n8 w)->ev O X.cps V (lR n X.G w (j::r))=U rv)->C):C:=by
 cases w with
 |And=> exact aC h λa D h=> aC h λp z h=> aC h λt l h=> k a p t D z l (λe=> by subst e;exact(bo h).symm) λe=> by subst e;exact h
 |Or=> exact aC h λa D h=> aC h λp z h=> aC h λt l h=> k a p t D z l (λe=> by subst e;exact(bo h).symm) λe=> by subst e;exact h
theorem aao(C:aG X)(f:∀e,cI X k O e (aE n X.G e))(o:∀e,iU X k O e (aE n X.G e))(m:ue X k O n):ue X k O (n+1):=by
 intro w Z d';cases Z with
 |nil=> exact⟨sS,B7⟩
 |cons e r=>
  cases r with
  |nil=>
   refine⟨λV rv A F Y ls b' a' s Q E h R S y K=> BoolOp_one (f e V rv A F Y ls b' a' s Q E h R S y K),λV rv b A F Y ls b' a' s Q E h l R S y K=> ?_⟩;cases w with
   |And=>
    refine isTrue_and (o e V rv b A F Y ls b' a' s _ E h l R S y λP W N u H=> ?_);cases b
    ·exact K P W N u H
    ·exact isTrue_and_nil (K P W N u H)
   |Or=>
    refine isTrue_or (o e V rv b A F Y ls b' a' s _ E h l R S y λP W N u H=> ?_);cases b
    ·exact isTrue_or_nil (K P W N u H)
    ·exact K P W N u H
  |cons j r=>
   refine⟨λV rv A F Y ls b' a' s Q E h R S y K=> Ed h λa p t D z l M G=> ?_,λV rv b A F Y ls b' a' s Q E h hb R S y K=> Ed h λa p t D z l M G=> ?_⟩
   ·have done:∀v i W N,t=n8 w->Den X.w W p v->St X W N ls (b'++a') i->Sub F W->Q v i:=λv i W N e d S2 H=> K v i W N [] S2 H (M e ▸ .J d)
    have next:∀i W N,t=!(n8 w)->St X W N ls (b'++a') i->Sub F W->aB (ay pw X.w) A (bt (.BoolOp w (j::r) d') X.env) Q E i:=λi W N e S2 H=>
     (m w (j::r) d').1 V rv A W N ls b' a' i Q E (G e) R S2 (y.mono H) λv B T L t S3 x=> K v B T L t S3 (H.trans x)
    cases w with
    |And=>
     refine BoolOp_and ((f e).bR C D z R S y λv P W N u H d=> xi u (aP.J d) l ?_);cases t
     ·exact done v P W N rfl d u H
     ·exact next P W N rfl u H
    |Or=>
     refine BoolOp_or ((f e).bR C D z R S y λv P W N u H d=> xi u (aP.J d) l ?_);cases t
     ·exact next P W N rfl u H
     ·exact done v P W N rfl d u H
   ·have c:Mine.truthy a.read=U t:=by rw[RE z];exact l
    have done:∀i W N,t=n8 w->St X W N ls (b'++a') i->Sub F W->Q t i:=λi W N e S2 H=> by
     have q:Mine.truthy p=U b:=by rw[M e]at hb;exact hb
     rw[l]at q;rw[bo q];exact K i W N S2 H
    have next:∀i W N,t=!(n8 w)->St X W N ls (b'++a') i->Sub F W->aB (ay pw X.w) A (mq (.BoolOp w (j::r) d') X.env (bt (.BoolOp w (j::r) d') X.env)) Q E i:=λi W N e S2 H=>
     (m w (j::r) d').2 V rv b A W N ls b' a' i Q E (G e) hb R S2 (y.mono H) λB T L S3 x=> K B T L S3 (H.trans x)
    cases w with
    |And=>
     refine isTrue_and (o e V a t A F Y ls b' a' s _ E D c R S y λi W N S2 H=> ?_);cases t
     ·exact done i W N rfl S2 H
     ·exact next i W N rfl S2 H
    |Or=>
     refine isTrue_or (o e V a t A F Y ls b' a' s _ E D c R S y λi W N S2 H=> ?_);cases t
     ·exact next i W N rfl S2 H
     ·exact done i W N rfl S2 H
theorem aav:pa X k O 0:=λL L L h=> nn h
theorem Ow(C:aG X)(D:∀e,cI X k O e (aE n X.G e))(l:aw)(w:jn)(r:aw)(d':aQ):cI X k O (.BinOp l w r d') (aE (n+1) X.G (.BinOp l w r d')):=by
 intro V rv A F Y ls b' a' s Q E h R S y K;replace h:ev O X.cps V (.bin w (aE n X.G l) (aE n X.G r))=U rv:=h;refine aC h ?_;clear h;intro p z h;refine aC h ?_;clear h;intro q I h;refine Dq ((D l).read C z R S y λv P W N L H a=> ?_);refine(D r).read C I R L (y.mono H) λu i x G S2 o b=> ?_
 exact Bu S2 (a.mono o) b h λB j t S3 r=> K B j x G t S3 (H.trans o) r
theorem Z6(C:aG X)(D:∀e,cI X k O e (aE n X.G e))(w:x5)(x:aw)(d':aQ):cI X k O (.UnaryOp w x d') (aE (n+1) X.G (.UnaryOp w x d')):=by
 intro V rv A F Y ls b' a' s Q E h R S y K;replace h:ev O X.cps V (.una w (aE n X.G x))=U rv:=h;refine aC h ?_;clear h;intro p z h;refine UnaryOp_ ((D x).read C z R S y λv P W N u H a=> ?_);exact Xv u a h λB j t S3 r=> K B j W N t S3 H r
theorem VQ(o:∀e,iU X k O e (aE n X.G e))(x:aw)(d':aQ):iU X k O (.UnaryOp .Not x d') (aE (n+1) X.G (.UnaryOp .Not x d')):=by
 intro V rv b A F Y ls b' a' s Q E h hb R S y K;replace h:ev O X.cps V (.una .Not (aE n X.G x))=U rv:=h;refine aC h ?_;clear h;intro p z h;refine bT h ?_;clear h;intro t l h;subst h;rw[← bo (hb)]at K;exact isTrue_not (o x V p t A F Y ls b' a' s _ E z l R S y K)
theorem G1(D:∀e,cI X k O e (aE n X.G e))(o:∀e,iU X k O e (aE n X.G e))(c a b:aw)(d':aQ):
  cI X k O (.IfExp c a b d') (aE (n+1) X.G (.IfExp c a b d'))∧iU X k O (.IfExp c a b d') (aE (n+1) X.G (.IfExp c a b d')):=by
 refine⟨λV rv A F Y ls b' a' s Q E h R S y K=> ?_,λV rv i A F Y ls b' a' s Q E h hb R S y K=> ?_⟩
 ·replace h:ev O X.cps V (.ite (aE n X.G c) (aE n X.G a) (aE n X.G b))=U rv:=h
  refine aC h ?_;clear h;intro r f h;refine aC h ?_;clear h;intro t l h;refine IfExp_ (o c V r t A F Y ls b' a' s _ E f l R S y λP W N u H=> ?_);have g:Kt X W ls b' a' rv Q:=λv j T L t S3 x=> K v j T L t S3 (H.trans x)
  cases t
  ·exact D b V rv A W N ls b' a' P Q E h R u (y.mono H) g
  ·exact D a V rv A W N ls b' a' P Q E h R u (y.mono H) g
 ·replace h:ev O X.cps V (.ite (aE n X.G c) (aE n X.G a) (aE n X.G b))=U rv:=h
  refine aC h ?_;clear h;intro r f h;refine aC h ?_;clear h;intro t l h;refine isTrue_IfExp (o c V r t A F Y ls b' a' s _ E f l R S y λP W N u H=> ?_);have g:∀j T L,St X T L ls (b'++a') j->Sub W T->Q i j:=λj T L S3 x=> K j T L S3 (H.trans x)
  cases t
  ·exact o b V rv i A W N ls b' a' P Q E h hb R u (y.mono H) g
  ·exact o a V rv i A W N ls b' a' P Q E h hb R u (y.mono H) g
theorem EW(C:aG X)(D:∀e,cI X k O e (aE n X.G e))(m:pa X k O n)(l:aw)(d:aa gq)(B:aa aw)(d':aQ):
  cI X k O (.Compare l d B d') (aE (n+1) X.G (.Compare l d B d'))∧iU X k O (.Compare l d B d') (aE (n+1) X.G (.Compare l d B d')):=by
 have g:∀{V:aa Slot} {rv:RV} {G:Prop},ev O X.cps V (aE (n+1) X.G (.Compare l d B d'))=U rv->(∀z r b,je n X.G d B=U z->ev O X.cps V (aE n X.G l)=U r->kp O X.cps V r.read z=U b->rv=.J (.bool b)->G)->G:=λ{V rv G} h k=> by
  replace h:ev O X.cps V ((je n X.G d B).elim .bad (.cmp (aE n X.G l)))=U rv:=h;exact lg h λz w h=> aC h λr f h=> bT h λb hb h=> k z r b w f hb h.symm
 refine⟨λV rv A F Y ls b' a' s Q E h R S y K=> g h λz r b w f hb e=> ?_,λV rv i A F Y ls b' a' s Q E h q R S y K=> g h λz r b w f hb e=> ?_⟩
 ·obtain⟨o,c⟩:=m d B z w
  refine uA o ((D l).read C f R S y λv P W N u H a=> ?_);exact(c V _ v b A W N ls b' a' P d' E hb R u (y.mono H) a).1 Q λj T L S3 x=> K _ j T L [] S3 (H.trans x) (e ▸ .J (.bool b))
 ·rw[e]at q
  obtain⟨o,c⟩:=m d B z w;refine y4 o ((D l).read C f R S y λv P W N u H a=> ?_);exact(c V _ v b A W N ls b' a' P d' E hb R u (y.mono H) a).2 Q λj T L S3 x=> bo (show U b=U i from q) ▸ K j T L S3 (H.trans x)
theorem U3(C:aG X)(q:∀l,fo X k O l (br n X.G l))(l:aa aw)(d':aQ):cI X k O (.List l d') (aE (n+1) X.G (.List l d')):=by
 intro V rv A F Y ls b' a' s Q E h R S y K;replace h:ev O X.cps V (.lst (br n X.G l))=U rv:=h;refine aC h ?_;clear h;intro B f h;refine aC h ?_;clear h;intro ps z h;refine cg h ?_;clear h;intro D h;refine wpAny_List (q l V B A F Y ls b' a' s d' _ E f R S y λZ P W N c u H a=> ?_);cases h;obtain⟨p,S2,w,d⟩:=u.b6 C a z;have I:=d.length;have r:=fY D;exact⟨by lia,K _ _ p N [(P.heap.objs.size,listOf Z.toArray 0)] (S2.push rfl) (H.trans w) (.own ⟨_,_,rfl,d⟩)⟩
theorem ZW(C:aG X)(q:∀l,fo X k O l (br n X.G l))(l:aa aw)(j:ae)(d':aQ):cI X k O (.Tuple l j d') (aE (n+1) X.G (.Tuple l j d')):=by
 intro V rv A F Y ls b' a' s Q E h R S r K;replace h:ev O X.cps V (.tup (br n X.G l))=U rv:=h;refine aC h ?_;clear h;intro B f h;refine aC h ?_;clear h;intro ps z h;refine cg h ?_;clear h;intro D h;refine yq (q l V B A F Y ls b' a' s d' _ E f R S r λZ P W N c u H a=> ?_);cases h;obtain⟨p,S2,w,d⟩:=u.b6 C a z;have I:=d.length;have t:=fY D;obtain⟨S3,x,y⟩:=St.freeze C.inv (S2.push (o:=eB Z.toArray 0) rfl);exact⟨by lia,K _ _ _ N [] S3 ((H.trans w).trans x) (.J (.tup y ⟨0,rfl⟩ (d.mono x)))⟩
theorem JG(C:aG X)(D:∀e,cI X k O e (aE n X.G e))(o:aq aw)(p:ev O X.cps V (lK (aE n X.G) o)=U r)(R:aX k A)(S:St X F Y ls (b'++a') s)(y:aR X.w F V (ls.map (·.2)) a')
  (K:∀v P W N,St X W N ls (b'++a') P->Sub F W->aP X.w W a' r.read v->Q v P):aB (ay pw X.w) A (evalPart o X.env) Q E s:=by
 cases o with
 |none=> cases p;exact ys (K _ s F Y S (Sub.refl F) (.J .none))
 |some e=> exact Na ((D e).read C p R S y K)
theorem YZ{q:aq aw×aq aw×aq aw×aQ}(h:n7 e=U q):e=.Slice q.1 q.2.1 q.2.2.1 q.2.2.2:=
 Mk.elim (motive_1:=λe=> n7 e=U q->e=.Slice q.1 q.2.1 q.2.2.1 q.2.2.2) e (pg h) (λa b c p h=> by obtain rfl:=bo (h);rfl) h
theorem TO(C:aG X)(D:∀e,cI X k O e (aE n X.G e))(v i:aw)(d':aQ):
  cI X k O (.Subscript v i d') (aE (n+1) X.G (.Subscript v i d')):=by
 intro V rv A F Y ls b' a' s Q E h R S y K;replace h:ev O X.cps V ((n7 i).elim (.idx (aE n X.G v) (aE n X.G i)) λq=> bif q.2.2.1.isNone then .slc (aE n X.G v) (lK (aE n X.G) q.1) (lK (aE n X.G) q.2.1)else .bad)=U rv:=h;cases g:n7 i with
 |none=>
  rw[g]at h;replace h:ev O X.cps V (.idx (aE n X.G v) (aE n X.G i))=U rv:=h;refine aC h ?_;clear h;intro p z h;refine aC h ?_;clear h;intro q hq h;refine bT h ?_;clear h;intro r e h;refine oz ((D v).read C z R S y λa P W N u H ra=> ?_);refine(D i).read C hq R u (y.mono H) λb s2 F2 G S2 w c=> ?_
  exact GL (by rw[lz,g];rfl) S2 (ra.mono w) c e λB j S3 d=> K B j F2 G [] S3 (H.trans w) (h ▸ .J d)
 |some q=>
  obtain⟨lo,hi,st,c'⟩:=q;rw[g]at h;cases YZ g;cases st with
  |some=> exact nn h
  |none=>
   replace h:ev O X.cps V (.slc (aE n X.G v) (lK (aE n X.G) lo) (lK (aE n X.G) hi))=U rv:=h;refine aC h ?_;clear h;intro p z h;refine aC h ?_;clear h;intro l I h;refine aC h ?_;clear h;intro hh o h;refine oz ((D v).read C z R S y λa P W N u H ra=> ?_);refine wpAny_Slice (JG C D lo I R u (y.mono H) λf s2 F2 G S2 w M=> ?_);refine JG C D hi o R S2 (y.mono (H.trans w)) λvh j T L S3 x Z=> ?_
   refine ys ?_;exact Y2 (S3.push rfl) (ra.mono (w.trans x)) (M.mono x) Z h λB m t S4 r=> K B m T L t S4 (H.trans (w.trans x)) r
end
theorem mD{j:Type}{f:PV->aq j}{mk:j->PV}(t:∀{p a},f p=U a->p=mk a):∀{ps:aa PV} {l:aa j},pe f ps=U l->ps=l.map mk:=by
 intro ps
 induction ps with
 |nil=> intro l h;cases h;rfl
 |cons p r D=> intro l h;exact aC h λa e h=> bT h λas X h=> by subst h;rw[t e,D X];rfl
theorem zb{j:Type}{mk:j->PV}{R:aa ai->aa j->Prop}(x:R [] [])(M:∀a v Z l,Den w F (mk a) v->R Z l->R (v::Z) (a::l)):∀{l:aa j} {Z:aa ai},aH w F (l.map mk) Z->R Z l:=by
 intro l
 induction l with
 |nil=> intro Z d;cases Z with |nil=> exact x |cons=> exact nomatch d.length
 |cons a l D=> intro Z d;cases Z with |nil=> exact nomatch d.length |cons v Z=> exact M a v Z l d.two.1 (D d.two.2)
theorem vb{is:aa aj}(d:aH w F H Z)(e:fU H=U is):tv Z is:=
 zb .nil (λa v Z l d r=> by cases d;exact .cons _ _ r) (mD eZ e ▸ d)
theorem Zp{is:aa ao}(d:aH w F H Z)(e:strs? H=U is):xM Z is:=
 zb .nil (λa v Z l d r=> by cases d;exact .cons _ _ r) (mD jd e ▸ d)
theorem Ee{is:aa au}(d:aH w F H Z)(e:k8 H=U is):LSm.BoolsAre Z is:=
 zb .nil (λa v Z l d r=> by cases d;exact .cons _ r) (mD yO e ▸ d)
theorem BS{w:aV}{F:Fz}:∀{Z:aa ai} {is:aa ao},xM Z is->aH w F (is.map .str) Z
 |_,_,.nil=> .nil
 |_,_,.cons y t r=> .cons (.str y t) (BS r)
theorem GQ{w:aV}{F:Fz}:∀{Z:aa ai} {is:aa aj},tv Z is->aH w F (is.map .int) Z
 |_,_,.nil=> .nil
 |_,_,.cons y t r=> .cons (.int y t) (GQ r)
theorem J6{m:ae}(h:n < 1048576)(e:n=m):(m:aj) < 9223372036854775808:=e ▸ c9.mpr (bh h (by decide))
theorem Hp{a m:ae}(h:a≤n - 1)(e:n=m+1):a < n:=by subst e;exact LO h
theorem fold_min:∀(is:aa aj) (i:aj),is.foldl min i∈i::is∧∀a∈i::is,is.foldl min i≤a
 |[],i=> ⟨.head _,λa h=> by simp at h;simp[h]⟩
 |j::r,i=> by
  obtain⟨M,G⟩:=fold_min r (min i j);refine⟨?_,λa h=> ?_⟩
  ·rw[kL]
   rcases bM.mp M with e |h
   ·rw[e]
    by_cases C:i≤j
    ·rw[sX C];exact .head _
    ·rw[sY (jQ (oq.mp C))];exact .tail _ (.head _)
   ·exact .tail _ (.tail _ h)
  ·rw[kL]
   have:=G (min i j) (.head _);rcases bM.mp h with e |h
   ·rw[e];exact xu this (Int.min_le_left _ _)
   ·rcases bM.mp h with e |h
    ·rw[e];exact xu this (Int.min_le_right _ _)
    ·exact G a (.tail _ h)
theorem fold_max:∀(is:aa aj) (i:aj),is.foldl max i∈i::is∧∀a∈i::is,a≤is.foldl max i
 |[],i=> ⟨.head _,λa h=> by simp at h;simp[h]⟩
 |j::r,i=> by
  obtain⟨M,G⟩:=fold_max r (max i j);refine⟨?_,λa h=> ?_⟩
  ·rw[kL]
   rcases bM.mp M with e |h
   ·rw[e]
    by_cases C:i≤j
    ·rw[xv C];exact .tail _ (.head _)
    ·rw[K4 (jQ (oq.mp C))];exact .head _
   ·exact .tail _ (.tail _ h)
  ·rw[kL]
   have:=G (max i j) (.head _);rcases bM.mp h with e |h
   ·rw[e];exact xu (Int.le_max_left _ _) this
   ·rcases bM.mp h with e |h
    ·rw[e];exact xu (Int.le_max_right _ _) this
    ·exact G a (.tail _ h)
theorem Ho:∀(a b:aa ae),eC a b=ag->eC b a=ak
 |[],[],h=> by simp[eC]at h
 |[],_::_,_=> rfl
 |_::_,[],h=> by simp[eC]at h
 |x::r,y::t,h=> by
  simp only[eC,jf,fQ,cP,eT]at h;simp only[eC,sW,Nl,KV,eT];rcases h with h |⟨e,h⟩
  ·exact⟨Nat.lt_asymm h,λe=> bf (e ▸ h) (fH x)⟩
  ·exact⟨λq=> fH x (e.symm ▸ q),λL=> Ho r t h⟩
theorem z2:∀(a b:aa ae),eC a b=ak->eC b a=ak->a=b
 |[],[],_,_=> rfl
 |[],_::_,h,_=> by simp[eC]at h
 |_::_,[],_,h=> by simp[eC]at h
 |x::r,y::t,h,N=> by
  simp only[eC,sW,Nl,KV,eT]at h N;have e:=LK (hs.mp N.1) (hs.mp h.1);subst e;rw[z2 r t (h.2 rfl) (N.2 rfl)]
theorem Hq:∀(a b c:aa ae),eC a b=ag->eC b c=ag->eC a c=ag
 |[],[],_,h,_=> by simp[eC]at h
 |[],_::_,[],_,h=> by simp[eC]at h
 |[],_::_,_::_,_,_=> rfl
 |_::_,[],_,h,_=> by simp[eC]at h
 |_::_,_::_,[],_,h=> by simp[eC]at h
 |x::r,y::t,z::u,h,N=> by
  simp only[eC,jf,fQ,cP,eT]at h N⊢;rcases h with h |⟨e,h⟩
  ·rcases N with N |⟨X,_⟩
   ·exact .inl (bh h N)
   ·exact .inl (X ▸ h)
  ·rcases N with N |⟨X,N⟩
   ·exact .inl (e.symm ▸ N)
   ·exact .inr ⟨e.trans X,Hq r t u h N⟩
theorem Hf{a b c:ao}(h:eg a b=ag)(N:eg b c=ag):eg a c=ag:=by
 unfold eg at *;simp only[hV]at *;cases q:eC c.cps.toList a.cps.toList with
 |false=> rfl
 |true=>
  cases f:eC a.cps.toList b.cps.toList with
  |true=> rw[Hq _ _ _ q f]at N;cases N
  |false=> rw[z2 _ _ f h]at q;rw[q]at N;cases N
theorem UO{a b:ao}(h:eg a b=ag)(N:eg b a=ag):a=b:=by
 unfold eg at *;simp only[hV]at *;have:=z2 _ _ N h;cases a;cases b;simp only[Str.mk.injEq];exact B8.mp this
theorem UP(a b:ao):eg a b=ag∨eg b a=ag:=by
 unfold eg;simp only[hV];cases q:eC b.cps.toList a.cps.toList with
 |false=> exact .inl rfl
 |true=> exact .inr (Ho _ _ q)
theorem zM{j:Type}(a:j->j->au)(x:j):∀l:aa j,(lp a x l).Perm (x::l)
 |[]=> .refl _
 |y::r=> by
  unfold lp
  split
  ·exact .refl _
  ·exact((zM a x r).cons y).trans (jg x y r)
theorem BN{j:Type}(a:j->j->au):∀l:aa j,(w9 a l).Perm l
 |[]=> .refl _
 |x::r=> (zM a x _).trans ((BN a r).cons x)
theorem GO(x:ao):∀l:aa ao,l.Pairwise (λa b=> eg a b=ag)->(lp eg x l).Pairwise (λa b=> eg a b=ag)
 |[],_=> by simp[lp]
 |y::r,h=> by
  unfold lp;have N:=l8.mp h
  split
  ·rename_i q
   refine l8.mpr ⟨λz B=> ?_,h⟩;rcases bM.mp B with rfl |B
   ·exact q
   ·exact Hf q (N.1 z B)
  ·rename_i q
   refine l8.mpr ⟨λz B=> ?_,GO x r N.2⟩;rcases bM.mp ((zM eg x r).mem_iff.mp B)with rfl |B
   ·exact(UP z y).resolve_left q
   ·exact N.1 z B
theorem BO:∀l:aa ao,(w9 eg l).Pairwise (λa b=> eg a b=ag)
 |[]=> .nil
 |x::r=> GO x _ (BO r)
theorem BP:∀{l c:aa ao},l.Perm c->l.Pairwise (λa b=> eg a b=ag)->c.Pairwise (λa b=> eg a b=ag)->l=c
 |[],_,p,_,_=> p.nil_eq
 |x::r,[],p,_,_=> by have:=p.length_eq;simp at this
 |x::r,y::t,p,h,N=> by
  have M:=l8.mp h;have G:=l8.mp N;have e:x=y:=by
   have m1:=p.mem_iff.mp (.head _);have D:=p.mem_iff.mpr (.head _);rcases bM.mp m1 with e |m1
   ·exact e
   ·rcases bM.mp D with e |D
    ·exact e.symm
    ·exact UO (M.1 y D) (G.1 x m1)
  subst e;rw[BP (aaA p) M.2 G.2]
theorem JT:∀(l:aa ao),sortedS l=ag->l.Pairwise (λa b=> eg a b=ag):=by
 have c:∀(l:aa ao) (x:ao),risingS x l=ag->(x::l).Pairwise (λa b=> eg a b=ag):=by
  intro l
  induction l with
  |nil=> intro x _;simp
  |cons y r D=>
   intro x h;simp only[risingS,cP]at h;have p:=D y h.2;refine l8.mpr ⟨λz B=> ?_,p⟩;have d:eg x y=ag:=by unfold eg;exact h.1
   rcases bM.mp B with rfl |B
   ·exact d
   ·exact Hf d ((l8.mp p).1 z B)
 intro l h;cases l with
 |nil=> exact .nil
 |cons x r=> exact c r x h
theorem gX.one(h:gX w F a' [p] Z):∃v,Z=[v]∧aP w F a' p v:=by
 cases h with |cons a b=> cases b;exact⟨_,rfl,a⟩
theorem gX.two{q:PV}(h:gX w F a' [p,q] Z):bH λv u=> bG (Z=[v,u]) (aP w F a' p v) (aP w F a' q u):=by
 cases h with |cons a b=> cases b with |cons c d=> cases d;exact⟨_,_,rfl,a,c⟩
def Kb(X:Cx)(F:Fz)(Y:MT)(ls:aa (ao×aq ai))(b' a':MT)(rv:RV)(Q:ai->aD->Prop):Prop:=
 ∀v P W t,St X W Y ls (t++(b'++a')) P->Sub F W->cq X.w W a' rv v t->Q v P
theorem Kb.J{P:aD}(K:Kb X F Y ls b' a' (.J p) Q)(S:St X F Y ls (b'++a') P)(d:Den X.w F p v):Q v P:=K v P F [] S (Sub.refl F) (.J d)
theorem UT(S:St X F Y ls (b'++a') s){n:aj}(z:aP X.w F a' p v)(h:g9 p=U n)(K:Kb X F Y ls b' a' (.J (.int n)) Q):aB (ay pw X.w) A (bQ (.builtin "len") [v]) Q E s:=by
 cases p with
 |a8 H=>
  refine cg h ?_;clear h;intro B h;cases h;obtain⟨b,t,rfl,W⟩:=z.a8;have:=jI B;exact KBw.len_K W (d6 (bh this (by decide))) (K.J (S.toks _) (.int _ _))
 |tup H=>
  refine cg h ?_;clear h;intro B h;refine z.tupK S λa Z n D y=> ?_
  cases h;have:=jI B;have I:=y.length;refine aaG ⟨_,D,rfl,n,rfl⟩ (by simp;exact J6 this I) ?_;rw[show Z.toArray.size=H.length by simp[I]];exact K.J (S.toks _) (.int _ _)
 |list H=>
  refine cg h ?_;clear h;intro B h;refine z.gD S λa Z n D y=> ?_
  cases h;have:=jI B;have I:=y.length;refine aaF ⟨_,D,rfl,n,rfl⟩ (by simp;exact J6 this I) ?_;rw[show Z.toArray.size=H.length by simp[I]];exact K.J (S.toks _) (.int _ _)
 |_=> exact nn h
theorem NR(C:A.handled=ah)(S:St X F Y ls (b'++a') s){o:aa au}(z:aP X.w F a' (.list H) v)(h:k8 H=U o)(K:Kb X F Y ls b' a' (.J (.bool (o.any id))) Q):
  wpAny (ay pw X.w) A (bQ (.builtin "any") [v]) Q E s:=by
 obtain⟨a,Z,n,rfl,D,y⟩:=z.list S;have hb:=Ee y h;have L:s.heap.IsList a Z.toArray:=⟨_,D,rfl,n,rfl⟩;refine call_any_walk (Dx L ?_);refine⟨s.heap.objs.size,[s.heap.objs.size,a],[s.heap.objs.size],Z.toArray.size,_,_,λi=> (o[i]?).getD ak,rfl,C7 (A:=A.in1) C _ a (e3 (dy D)) Z.toArray,
  ⟨⟨_,fh _ rfl,rfl,rfl⟩,L.push _⟩,λi v P c d m p=> ?_,λN V W=> ?_⟩
 ·obtain⟨b,e,rfl⟩:=hb.get i v (by simpa using m)
  simp only[e,xI]at p;exact kV p
 ·have e:((dO Z.toArray.size).any λi=> (o[i]?).getD ak)=o.any id:=by
   rw[hW,hb.length];exact LSm.range_any o
  rw[e];exact K.J (S.grow (L5 W)) (.bool _)
theorem NQ(C:A.handled=ah)(S:St X F Y ls (b'++a') s){o:aa au}(z:aP X.w F a' (.list H) v)(h:k8 H=U o)(K:Kb X F Y ls b' a' (.J (.bool (o.all id))) Q):
  wpAny (ay pw X.w) A (bQ (.builtin "all") [v]) Q E s:=by
 obtain⟨a,Z,n,rfl,D,y⟩:=z.list S;have hb:=Ee y h;have L:s.heap.IsList a Z.toArray:=⟨_,D,rfl,n,rfl⟩;refine call_all_walk (Dx L ?_);refine⟨s.heap.objs.size,[s.heap.objs.size,a],[s.heap.objs.size],Z.toArray.size,_,_,λi=> (o[i]?).getD ag,rfl,C7 (A:=A.in1) C _ a (e3 (dy D)) Z.toArray,
  ⟨⟨_,fh _ rfl,rfl,rfl⟩,L.push _⟩,λi v P c d m p=> ?_,λN V W=> ?_⟩
 ·obtain⟨b,e,rfl⟩:=hb.get i v (by simpa using m)
  simp only[e,xI]at p;exact kV p
 ·have e:((dO Z.toArray.size).all λi=> (o[i]?).getD ag)=o.all id:=by
   rw[hW,hb.length];exact LSm.range_all o
  rw[e];exact K.J (S.grow (L5 W)) (.bool _)
theorem Vz(C:A.handled=ah)(S:St X F Y ls (b'++a') s){i:aj}{is:aa aj}(z:aP X.w F a' (.list H) v)(h:fU H=U (i::is))(K:Kb X F Y ls b' a' (.J (.int (is.foldl min i))) Q):
  wpAny (ay pw X.w) A (bQ (.builtin "min") [v]) Q E s:=by
 obtain⟨a,Z,n,rfl,D,y⟩:=z.list S;have hi:=vb y h;obtain⟨H,e⟩:=hi.allInts.items;have u:i::is=H.toList.map (·.1):=by rw[← hi.numsOf,← MZ,← e]
 have q:H.size=is.length+1:=by have:=aZ te u;simpa using this.symm
 have L:s.heap.IsList a Z.toArray:=⟨_,D,rfl,n,rfl⟩;rw[e]at L;refine min_intList C L (q ▸ ji _) λv N V w W=> ?_
 obtain⟨t,rfl⟩:=intItems_at w;obtain⟨M,G⟩:=argBest_lt (gP H) (H.size - 1);have m1:gP H (ya (λi j=> decide (gP H i < gP H j)) (H.size - 1))∈i::is:=by
  rw[u,ym];exact getD_mem (by rw[bx,oo];exact Hp M q)
 have k:∀b∈i::is,gP H (ya (λi j=> decide (gP H i < gP H j)) (H.size - 1))≤b:=λb hb=> by
  rw[u]at hb;obtain⟨j,o,rfl⟩:=mem_getD hb;rw[bx,oo]at o;rw[← ym];exact G j (LM o)
 obtain⟨g1,R⟩:=fold_min is i;have c:=K3 (k _ g1) (R _ m1);rw[c];exact K.J (S.grow W) (.int _ _)
theorem Vo(C:A.handled=ah)(S:St X F Y ls (b'++a') s){i:aj}{is:aa aj}(z:aP X.w F a' (.list H) v)(h:fU H=U (i::is))(K:Kb X F Y ls b' a' (.J (.int (is.foldl max i))) Q):
  wpAny (ay pw X.w) A (bQ (.builtin "max") [v]) Q E s:=by
 obtain⟨a,Z,n,rfl,D,y⟩:=z.list S;have hi:=vb y h;obtain⟨H,e⟩:=hi.allInts.items;have u:i::is=H.toList.map (·.1):=by rw[← hi.numsOf,← MZ,← e]
 have q:H.size=is.length+1:=by have:=aZ te u;simpa using this.symm
 have L:s.heap.IsList a Z.toArray:=⟨_,D,rfl,n,rfl⟩;rw[e]at L;refine max_intList C L (q ▸ ji _) λv N V w W=> ?_
 obtain⟨t,rfl⟩:=intItems_at w;obtain⟨M,G⟩:=argBest_gt (gP H) (H.size - 1);have m1:gP H (ya (λi j=> decide (gP H i > gP H j)) (H.size - 1))∈i::is:=by
  rw[u,ym];exact getD_mem (by rw[bx,oo];exact Hp M q)
 have k:∀b∈i::is,b≤gP H (ya (λi j=> decide (gP H i > gP H j)) (H.size - 1)):=λb hb=> by
  rw[u]at hb;obtain⟨j,o,rfl⟩:=mem_getD hb;rw[bx,oo]at o;rw[← ym];exact G j (LM o)
 obtain⟨g1,R⟩:=fold_max is i;have c:=K3 (R _ m1) (k _ g1);rw[c];exact K.J (S.grow W) (.int _ _)
theorem Y9(S:St X F Y ls (b'++a') s){K:aa PV}(z:aP X.w F a' (.list H) v)(h:xa H=U K)(C:Kb X F Y ls b' a' (.own (.list K)) Q):
  wpAny (ay pw X.w) A (bQ (.builtin "sorted") [v]) Q E s:=by
 refine aC h ?_;clear h;intro P g h;refine cg h ?_;clear h;intro B h;refine z.gD S λa Z n D y=> ?_
 cases h;replace B:P.length < 64:=dg B;have d:=Zp y g;have L:s.heap.IsList a Z.toArray:=⟨_,D,rfl,n,rfl⟩;have q:Z.length=P.length:=by
  rw[← y.length,mD jd g,bx]
 refine sorted_strs L d (q.symm ▸ B) λT i M G j=> ?_
 have e:=BP (G.trans (BN eg P).symm) (JT i j) (BO P);subst e;obtain⟨c,w⟩:=sortedAll_at s.heap Z T;have u:=S.grown (t:=s.toks) (λb o e=> sortedAll_old e) (e2 (hX _)) w;exact C _ _ F [(s.heap.objs.size+1,jX "list" T c)] u (Sub.refl F) (.own ⟨T.toList,c,by simp[W.listOf,jX],BS M⟩)
theorem Kj:∀(T:aa ao),strs? (T.map PV.str)=U T
 |[]=> rfl
 |k::r=> (show(strs? (r.map PV.str)).map (k::·)=_ by rw[Kj r];rfl)
theorem Uh{M:aa (ao×ai)}{L:c8 ai}(h:tB (λi v=> ∃k x,M[i]?=U (k,x)∧(M3 pw w).is k v=ag) L M.length):xM L.toList (M.map (·.1)):=by
 obtain⟨B,m⟩:=h;have d:∀(M:aa (ao×ai)) (Z:aa ai),M.length=Z.length->(∀(j:ae) (v:ai),Z[j]?=U v->∃k x,M[j]?=U (k,x)∧(M3 pw w).is k v=ag)->xM Z (M.map (·.1)):=by
  intro M
  induction M with
  |nil=> intro Z I _;cases Z with |nil=> exact .nil |cons=> cases I
  |cons q r D=>
   intro Z I a;cases Z with
   |nil=> cases I
   |cons v Z=>
    obtain⟨k,x,e,G⟩:=a 0 v rfl;simp only[Cj,xK]at e;subst e;obtain⟨t,rfl⟩:=CV G;exact .cons _ _ (D Z (by simpa using I) λj v o=> by
     obtain⟨k,x,e,G⟩:=a (j+1) v (by simpa using o);exact⟨k,x,by simpa using e,G⟩)
 exact d M L.toList (by simp[B]) λj v o=> m j v (by simpa using o)
theorem Y7(C:A.handled=ah)(S:St X F Y ls (b'++a') s){T:aa ao}{us K:aa PV}(z:aP X.w F a' (.aW T us) v)(h:xa (T.map .str)=U K)(P:Kb X F Y ls b' a' (.own (.list K)) Q):
  wpAny (ay pw X.w) A (bQ (.builtin "sorted") [v]) Q E s:=by
 unfold xa at h;rw[Kj]at h;refine cg h ?_;clear h;intro B h;cases h;replace B:T.length < 64:=dg B;obtain⟨a,M,rfl,c',D,y,l⟩:=z.aW S;obtain⟨H,r⟩:=D.dictAt;have g:M.length=T.length:=by rw[← y,bx]
 refine Calls.call_function_entry kind_sorted plain_sorted entry_sorted (args_sorted1 _) ?_;unfold aaT;refine aM (bA ?_);refine aM (kdu_collect (kdl_dict c') C r (bK (d6 (g.symm ▸ B)) (by decide)) λN V L f x=> ?_);have d:=Uh x;rw[y]at d;have I:L.toList.length=M.length:=by rw[oo];exact x.1
 refine aM (wpAny_newList ?_ (by rw[I,g];exact bK (d6 B) (by decide)));have R:(N.push (jX "list" L.toList.toArray 0)).get? N.objs.size=U (jX "list" L.toList.toArray 0):=fh _ rfl;refine aM (mw (Ds slot_list_sort ⟨_,R,rfl⟩ entry_list_sort (list_sort_treeK strKind_oneLt R d.keysOf (λp t d' e=> keyKind_strs (by rw[← e];exact d)) (by rw[I,g];exact B) λk a1 a2=> ⟨_,rfl,?_⟩) (args_list_sort _)));refine bA ⟨_,rfl,?_⟩;obtain⟨i,h1,G,j⟩:=sorted_out_str d a1 a2;have e:=BP (G.trans (BN eg T).symm) (JT i j) (BO T);subst e;obtain⟨c,w⟩:=sortedHeap_at R;have O:∀b o,s.heap.get? b=U o->(sortedHeap (N.push (jX "list" L.toList.toArray 0)) N.objs.size L.toList ((arrOf k).map (·.2))).get? b=U o:=λb o e=> by
  have hb:=f b o e;have n:=dy hb;rw[sortedHeap_old (e3 n) (by rw[size_push'];exact xG n),xY _ _ _ (e3 n)];exact hb
 have nn:s.heap.get? N.objs.size=ah:=by
  cases q:s.heap.get? N.objs.size with
  |none=> rfl
  |some o=> exact bf (dy (f _ _ q)) (fH _)
 have u:=S.grown (t:=V) O nn w;have m:∀(Z:c8 ai) (c:ae),jX "list" Z c=W.listOf Z.toList.toArray c:=λZ c=> by simp[W.listOf,jX]
 exact P _ _ F [(N.objs.size,jX "list" _ c)] u (Sub.refl F) (.own ⟨_,c,m _ c,BS h1⟩)
theorem Jz{t:aa (bL×(PV->aq RV))}{w:aa (bL×(PV->PV->aq RV))}{f:bL}{as:aa PV}{C:aa PV->Prop}(h:Bt t w f as=U rv)(i:∀p g,lP f t=U g->g p=U rv->C [p])(Y:∀p q g,lP f w=U g->g p q=U rv->C [p,q]):C as:=by
 cases as with
 |nil=> exact nn h
 |cons p r=>
  cases r with
  |nil=> exact aC h λg e h=> i p g e h
  |cons q r=>
   refine cg h ?_;clear h;intro e h;cases r with
   |cons=> exact nomatch e
   |nil=> exact aC h λg e h=> Y p q g e h
theorem xd{j:Type}{f:bL}{t:aa (bL×j)}{g:j}{C:bL->j->Prop}(h:lP f t=U g)(k:∀q∈t,C q.1 q.2):C f g:=by
 induction t with
 |nil=> exact nn h
 |cons q r D=>
  replace h:(bif f==q.1 then U q.2 else lP f r)=U g:=h;cases e:f==q.1 with
  |true=> rw[e]at h;rw[eq_of_beq e];exact bo h ▸ k q (.head _)
  |false=> rw[e]at h;exact D h λx T=> k x (.tail _ T)
theorem fc{j:Type}{P:j->Prop}{a:j}{l:aa j}(h:P a)(t:∀x∈l,P x):∀x∈a::l,P x:=gL.mpr ⟨h,t⟩
theorem pU{j:Type}{P:j->Prop}:∀x∈([]:aa j),P x:=λL h=> nm h
theorem kv(h:i5 p=U H):p=.list H:=
 PV.list.elim (motive_1:=λp=> i5 p=U H->p=.list H) p (mF h) (λa h=> by obtain rfl:a=H:=bo h;rfl) h
theorem Z5{x:bL}(h:Kw p=U x):p=.fn (.type x):=by
 cases p with
 |fn v=> cases v <;> first |(cases h;rfl) |exact nn h
 |_=> exact nn h
theorem uG{j:Type}{l:aa j}{q:j×aa j}(h:lb l=U q):l=q.1::q.2:=by cases l <;> cases h;rfl
theorem T2(S:St X F Y ls (b'++a') s){b:au}(r:aP X.w F a' p v)(h:isTup p=U b)(K:Kb X F Y ls b' a' (.J (.bool b)) Q):aB (ay pw X.w) A (bQ (.builtin "isinstance") [v,.type "tuple"]) Q E s:=by
 cases p with
 |none=> cases h;obtain rfl:=r.none;exact IsiPair.NoneType_tuple (K.J (S.toks _) (.bool _))
 |bool=> cases h;obtain rfl:=r.bool;exact IsiPair.bool_tuple (K.J (S.toks _) (.bool _))
 |int=> cases h;exact r.dW λt=> IsiPair.int_tuple (K.J (S.toks _) (.bool _))
 |str=> cases h;exact r.jL λt=> IsiPair.str_tuple (K.J (S.toks _) (.bool _))
 |tup=> cases h;exact r.tupK S λa Z n D y=> IsiPair.tuple_tuple D rfl (K.J S (.bool _))
 |_=> exact nn h
theorem TY(S:St X F Y ls (b'++a') s){b:au}(r:aP X.w F a' p v)(h:isBool p=U b)(K:Kb X F Y ls b' a' (.J (.bool b)) Q):aB (ay pw X.w) A (bQ (.builtin "isinstance") [v,.type "bool"]) Q E s:=by
 cases p with
 |none=> cases h;obtain rfl:=r.none;exact IsiPair.NoneType_bool (K.J (S.toks _) (.bool _))
 |bool=> cases h;obtain rfl:=r.bool;exact IsiPair.bool_bool (K.J S (.bool _))
 |int=> cases h;exact r.dW λt=> IsiPair.int_bool (K.J (S.toks _) (.bool _))
 |str=> cases h;exact r.jL λt=> IsiPair.str_bool (K.J (S.toks _) (.bool _))
 |tup=> cases h;exact r.tupK S λa Z n D y=> IsiPair.tuple_bool D rfl (K.J (S.toks _) (.bool _))
 |_=> exact nn h
theorem Om(C:A.handled=ah){f:bL}(S:St X F Y ls (b'++a') s)(z:gX X.w F a' ps Z)(h:ik f ps=U rv)(B:Kb X F Y ls b' a' rv Q):
  wpAny (ay pw X.w) A (bQ (.builtin f) Z) Q E s:=by
 refine Jz (C:=λas=> gX X.w F a' as Z->aB (ay pw X.w) A (bQ (.builtin f) Z) Q E s) h (λp g D h z=> ?_) (λp q g D h z=> ?_) z
 ·obtain⟨v,rfl,r⟩:=z.one
  refine xd (C:=λf g=> g p=U rv->aB (ay pw X.w) A (bQ (.builtin f) [v]) Q E s) D (fc ?_ (fc ?_ (fc ?_ (fc ?_ (fc ?_ (fc ?_ pU)))))) h
  ·exact λh=> bT h λn e h=> UT S r e (h ▸ B)
  ·intro h
   refine aC h ?_;clear h;intro H e h;refine bT h λl j G=> ?_
   cases p with
   |list K=> cases e;exact Y9 S r j (G ▸ B)
   |aW T us=> cases e;exact Y7 C S r j (G ▸ B)
   |_=> exact nn e
  ·exact λh=> aC h λH e h=> bT h λo j h=> NR C S (kv e ▸ r) j (h ▸ B)
  ·exact λh=> aC h λH e h=> bT h λo j h=> NQ C S (kv e ▸ r) j (h ▸ B)
  ·exact λh=> aC h λH e h=> aC h λis j h=> bT h λq y h=> Vz C S (kv e ▸ r) (uG y ▸ j) (h ▸ B)
  ·exact λh=> aC h λH e h=> aC h λis j h=> bT h λq y h=> Vo C S (kv e ▸ r) (uG y ▸ j) (h ▸ B)
 ·obtain⟨v,u,rfl,P,L⟩:=z.two
  refine xd (C:=λf g=> g p q=U rv->aB (ay pw X.w) A (bQ (.builtin f) [v,u]) Q E s) D (fc ?_ (fc ?_ (fc ?_ pU))) h
  ·refine λh=> bT h λm e h=> zP (C:=λp q m=> aP X.w F a' p v->aP X.w F a' q u->RV.J (.int m)=rv->_) e (λa b P L h=> ?_) P L h
   refine P.dW λt=> L.dW λi=> max_two_ints C λN V W=> ?_
   have x:=S.grow (t:=V) W;by_cases w:b > a
   ·rw[bZ w];rw[xv (jQ w)]at h;exact(h ▸ B:Kb X F Y ls b' a' _ Q).J x (.int _ _)
   ·rw[bW w];rw[K4 (kJ.mp w)]at h;exact(h ▸ B:Kb X F Y ls b' a' _ Q).J x (.int _ _)
  ·refine λh=> bT h λm e h=> zP (C:=λp q m=> aP X.w F a' p v->aP X.w F a' q u->RV.J (.int m)=rv->_) e (λa b P L h=> ?_) P L h
   refine P.dW λt=> L.dW λi=> min_two_ints C λN V W=> ?_
   have x:=S.grow (t:=V) W;by_cases w:b < a
   ·rw[bZ w];rw[sY (jQ w)]at h;exact(h ▸ B:Kb X F Y ls b' a' _ Q).J x (.int _ _)
   ·rw[bW w];rw[sX (kJ.mp w)]at h;exact(h ▸ B:Kb X F Y ls b' a' _ Q).J x (.int _ _)
  ·intro h
   refine aC h ?_;clear h;intro t e h;refine bT h ?_;clear h;intro b j h;replace L:aP X.w F a' (.fn (.type t)) u:=Z5 e ▸ L;obtain rfl:=L.lh;cases c:t=="tuple" with
   |true=> rw[c]at j;rw[eq_of_beq c];exact T2 S P j (h ▸ B)
   |false=> rw[c]at j;exact cg j λc j=> by rw[eq_of_beq c];exact TY S P j (h ▸ B)
variable {O:bI}
theorem St.BM(s:aD):s.heap.get? s.heap.objs.size=ah:=e2 (dh _)
theorem OC{ns:aa aj}(h:∀n∈ns,0≤n∧n < 256):((byteArr ns).toList.map λc=> (c.toNat:aj))=ns:=KBa.ints_make h
theorem TJ{b:c8 kX}{Q:au->aD->Prop}(h:Q ak s):aB (ay pw X.w) A (Ma (.bytes b t)) Q E s:=by
 unfold Ma;refine aM (wpAny_specialOf (mm s b t) FB.slot_bytes_len.lookup ?_);generalize a:("bytes.__len__":bL)=c
 wp_delta
 rw[show splitId c=U ("bytes","__len__")from by subst a;decide+kernel];subst a;refine aM (wpAny_isInstance (b:=ag) (mm s b t) (by rw[isSubtype_type];kernel_rfl) ?_);refine Du (λp=> bf p (by decide)) (λL=> ?_);refine Du (λL=> ?_) (λp=> bf (by decide+kernel) p);refine aM (yw (mm s b t) ?_);exact bA h
theorem RL{R:iM->aD->Prop}{b:c8 kX}(C:A.handled=ah)(q:b.size≤ej)(S:av)(l:ai)(B:ae)(d:s.heap.get? S=U {cls:=.type "list",data:=.seq #[] B})
  (m:∀N V T k,(∀b o,b≠S->s.heap.get? b=U o->N.get? b=U o)->N.get? S=U {cls:=.type "list",dict:=ah,data:=.seq T k,slots:=#[]}->
   tB (λi v=> ∃c u,b[i]?=U c∧v=.int (c.toNat:aj) u) T b.size->R (.ok (.ret l)) {s with heap:=N,toks:=V}):
  wpAny (ay pw X.w) A.in1 (xQ (.ref S) (.bytes b t) l)
   (λw P=> match w with | .done f=> R (.ok f) P | .again k=> k.quiet=ag∧gv (ay pw X.w) A k R P) (λe P=> R (.error e) P) s:=by
 have D:=dy d;have E:=e3 D;have H:S∉[s.heap.objs.size]:=λO=> E (d5.mp O)
 have W:=(MI (prog:=pw) (w:=X.w) (A:=A.in1) C s.heap.objs.size b t).toS;have g:∀(h:cc) (n V:ae),MG h s.heap.objs.size b t 0->(∀b o,b≠S->s.heap.get? b=U o->h.get? b=U o)->
   h.get? S=U {cls:=.type "list",data:=.seq #[] n}->gv (ay pw X.w) A (.builtin "list.extend.loop" ⟨[.ref S,.ref s.heap.objs.size,l],[]⟩) R {s with heap:=h,toks:=V}:=by
  intro h n V r K y;refine codeAny_extend_loopS W q S H l b.size 0 _ #[] n rfl (gp _) r y (ItemsOf.nil _) λP T k O a x=> ?_
  rw[Moved.eq_with O];refine m P.heap P.toks T k (λb o hb e=> O.heap b o (λz=> ?_) (K b o hb e)) a x;rcases bM.mp z with Q |z
  ·exact hb Q
  ·exact bf (dy e) (by rw[d5.mp z];exact fH _)
 unfold xQ;refine aM (yw (mm s b t) ?_);have M:aaK (.ref S) (.bytes b t)=ak:=rfl;have G:(x7 "bytes"==x7 "list")=ak:=by decide
 have j:(x7 "bytes"==x7 "tuple")=ak:=by decide
 simp only[M,G,j,xq,sU,o3];refine aM (MH ?_);refine aM (mw (TJ ?_));have I:MG (s.heap.push {cls:=.type "bytes_iterator",data:=.fields #[.bytes b t,.int 0 0]}) s.heap.objs.size b t 0:=⟨_,fh _ rfl,rfl,rfl⟩;have y:=ew {cls:=.type "bytes_iterator",data:=.fields #[.bytes b t,.int 0 0]} d;refine Du (λp=> bf p (by decide+kernel)) (λL=> bA ⟨plainId_quiet F.plain_extend_loop _,g _ B _ I (λb o L e=> ew _ e) y⟩)
theorem TR{R:iM->aD->Prop}{b:c8 kX}(C:A.handled=ah)(q:b.size≤ej)(S:av)(d:s.heap.get? S=U {cls:=.type "list",data:=.seq #[]})
  (m:∀N V T k,(∀b o,b≠S->s.heap.get? b=U o->N.get? b=U o)->N.get? S=U {cls:=.type "list",dict:=ah,data:=.seq T k,slots:=#[]}->
   tB (λi v=> ∃c u,b[i]?=U c∧v=.int (c.toNat:aj) u) T b.size->R (.ok (.ret .none)) {s with heap:=N,toks:=V}):
  wpAny (ay pw X.w) A.in1 (Builtin.«list.__init__» ⟨[.ref S,.bytes b t],[]⟩)
   (λw P=> match w with | .done f=> R (.ok f) P | .again k=> k.quiet=ag∧gv (ay pw X.w) A k R P) (λe P=> R (.error e) P) s:=by
 show aB _ _ (do let O ← L9 (.ref S);aaN (.ref S) (λL=> #[]);letGo O.toList.reverse;xQ (.ref S) (.bytes b t) .none) _ _ s;refine aM ?_;unfold L9;refine aM (wpAny_seqItems d rfl (bA ?_));show aB _ _ (updateSeq S (λL=> #[]) >>=λL=> letGo (#[]:c8 ai).toList.reverse >>=λL=> xQ (.ref S) (.bytes b t) .none) _ _ s;refine aM (wpAny_updateSeq d rfl ?_);have g:=jm (MA (λL=> (#[]:c8 ai))) d rfl;have h:∀b o,b≠S->s.heap.get? b=U o->(s.heap.update S (MA (λL=> (#[]:c8 ai)))).get? b=U o:=
  λb o hb e=> (jl _ _ (gM hb)).trans e
 refine aM (wpAny_letGo ?_);refine RL C q S .none _ g λN V T k W a x=> ?_
 exact m N V T k (λb o hb e=> W b o hb (h b o hb e)) a x
theorem OK{b:c8 kX}(C:A.handled=ah)(q:b.size≤ej)
  (p:∀N V T k,(∀b o,s.heap.get? b=U o->N.get? b=U o)->
   N.get? s.heap.objs.size=U {cls:=.type "list",dict:=ah,data:=.seq T k,slots:=#[]}->tB (λi v=> ∃c u,b[i]?=U c∧v=.int (c.toNat:aj) u) T b.size->Q (.ref s.heap.objs.size) {s with heap:=N,toks:=V}):
  wpAny (ay pw X.w) A (bQ (.type "list") [.bytes b t]) Q E s:=by
 refine callType_codes (Q₁:=λf m=> f=.ref s.heap.objs.size∧m={s with heap:=s.heap.push {cls:=.type "list",data:=.seq #[]}}) F.called_list (F.typeCall_list_1 _) F.entry_list_init
  (code_list_new _ ⟨rfl,rfl⟩) λf m l=> ?_
 obtain⟨rfl,rfl⟩:=l;have d:(s.heap.push {cls:=.type "list",data:=.seq #[]}).get? s.heap.objs.size=U {cls:=.type "list",data:=.seq #[]}:=fh _ rfl;refine⟨⟨_,d,rfl⟩,F.args_list_init_2 _ _,TR (A:=A.in1) C q _ d λN V T k W a x=> ?_⟩;exact⟨rfl,p N V T k (λb o e=> W b o (e3 (dy e)) (ew _ e)) a x⟩
theorem OD{b:c8 kX}{L:c8 ai}{H:aa aj}(T:(b.toList.map λc=> (c.toNat:aj))=H)(h:tB (λi v=> ∃c u,b[i]?=U c∧v=.int (c.toNat:aj) u) L b.size):aH w F (H.map .int) L.toList:=by
 subst T;obtain⟨B,m⟩:=h;have d:∀(c':aa kX) (Z:aa ai),c'.length=Z.length->(∀(j:ae) (v:ai),Z[j]?=U v->bH λc u=> c'[j]?=U c∧v=.int (c.toNat:aj) u)->aH w F ((c'.map λc=> (c.toNat:aj)).map .int) Z:=by
  intro c'
  induction c' with
  |nil=> intro Z I _;cases Z with |nil=> exact .nil |cons=> cases I
  |cons c r D=>
   intro Z I a;cases Z with
   |nil=> cases I
   |cons v Z=>
    obtain⟨k,u,M,G⟩:=a 0 v rfl;simp only[Cj,xK]at M;subst M G;exact .cons (.int _ _) (D Z (by simpa using I) λj v o=> by
     obtain⟨k,u,M,G⟩:=a (j+1) v (by simpa using o);exact⟨k,u,by simpa using M,G⟩)
 exact d b.toList L.toList (by simp[B]) λj v o=> by
  obtain⟨c,u,M,G⟩:=m j v (by simpa using o);exact⟨c,u,by simpa using M,G⟩
theorem Z3(C:A.handled=ah)(S:St X F Y ls (b'++a') s)(r:aP X.w F a' p v)(e:J0 p=U H)(B:aY H.length=ag)(K:Kb X F Y ls b' a' (.own (.list H)) Q):aB (ay pw X.w) A (bQ (.type "list") [v]) Q E s:=by
 cases p with
 |a8 H=>
  cases e;rw[bx]at B;obtain⟨b,t,rfl,l⟩:=r.a8;have I:b.size=H.length:=by rw[← l];simp
  refine OK C (by rw[I];exact fY B) λN V T k f O x=> ?_
  exact K _ _ F [(s.heap.objs.size,W.listOf T k)] (S.grown f (St.BM s) O) (Sub.refl F) (.own ⟨T.toList,k,by simp[W.listOf],OD l x⟩)
 |tup H=>
  cases e;refine r.tupK S λa us n D y=> ?_
  have I:=y.length;refine Df a (.inr rfl) D rfl rfl (λN c l O=> ?_) (by rw[hW,← I];exact fY B);exact K _ _ F [(s.heap.objs.size,W.listOf us.toArray c)] (S.grown l (St.BM s) O) (Sub.refl F) (.own ⟨us,c,rfl,y⟩)
 |list H=>
  cases e;refine r.gD S λa us n D y=> ?_
  have I:=y.length;refine Df a (.inl rfl) D rfl rfl (λN c l O=> ?_) (by rw[hW,← I];exact fY B);exact K _ _ F [(s.heap.objs.size,W.listOf us.toArray c)] (S.grown l (St.BM s) O) (Sub.refl F) (.own ⟨us,c,rfl,y⟩)
 |_=> exact nn e
theorem xj(h:oh p=U H):p=.tup H:=
 PV.tup.elim (motive_1:=λp=> oh p=U H->p=.tup H) p (mF h) (λa h=> by obtain rfl:a=H:=bo h;rfl) h
theorem Z4(S:St X F Y ls (b'++a') s)(r:aP X.w F a' (.tup H) v)(K:Kb X F Y ls b' a' (.J (.tup H)) Q):aB (ay pw X.w) A (bQ (.type "tuple") [v]) Q E s:=by
 have d:Den X.w F (.tup H) v:=r.K (λd=> d) (λ_ _ _ o=> o.elim) λe=> nf e
 exact d.tupK (λa Z n e l d=> call_tuple_tup ⟨_,S.J _ _ e,rfl,n,rfl⟩ (K.J S d)) d
theorem Z2(C:A.handled=ah)(S:St X F Y ls (b'++a') s){is:aa aj}(r:aP X.w F a' (.list H) v)(hi:fU H=U is)(B:(aY is.length && is.all λi=> decide (0≤i) && decide (i < 256))=ag)(K:Kb X F Y ls b' a' (.J (.a8 is)) Q):aB (ay pw X.w) A (bQ (.type "bytes") [v]) Q E s:=by
 refine r.gD S λa us n D y=> ?_
 have b:=vb y hi;have q:=b.length;have f:∀n∈is,0≤n∧n < 256:=λn Z=> let h:=bu (eh.mp (bu B).2 n Z);⟨gx h.1,gx h.2⟩
 refine call_bytes_ints ⟨_,D,rfl,n,rfl⟩ b f (by have:=fY (bu B).1;lia) C λN t k W=> ?_
 exact K.J (S.grow W) (.a8 _ _ (OC f))
theorem BZ(C:aG X)(i:A.handled=ah){f:bL}(S:St X F Y ls (b'++a') s)(z:gX X.w F a' ps Z)(h:hn f ps=U rv)(K:Kb X F Y ls b' a' rv Q):
  wpAny (ay pw X.w) A (bQ (.type f) Z) Q E s:=by
 have mk:∀{a b:aj} {o:af} {m:ae},(ea λ(N k l:fM)=> o={cls:=.type "range",data:=.fields #[.int a N,.int b k,.int 1 l]})->RV.J (.rng a b)=rv->Q (.ref s.heap.objs.size) {s with heap:=s.heap.push o,toks:=m}:=λ{a b o m} R e=> by
  obtain⟨S3,x,y⟩:=St.freeze C.inv ((S.push (o:=o) (by obtain⟨_,_,_,rfl⟩:=R;rfl)).toks m);exact K _ _ _ [] S3 x (e ▸ .J (.rng y R))
 refine Jz (C:=λas=> gX X.w F a' as Z->aB (ay pw X.w) A (bQ (.type f) Z) Q E s) h (λp g D h z=> ?_) (λp q g D h z=> ?_) z
 ·obtain⟨v,rfl,r⟩:=z.one
  refine xd (C:=λf g=> g p=U rv->aB (ay pw X.w) A (bQ (.type f) [v]) Q E s) D (fc ?_ (fc ?_ (fc ?_ (fc ?_ (fc ?_ pU))))) h
  ·exact λh=> aC h λH e h=> cg h λB h=> Z3 i S r e B (bo h ▸ K)
  ·exact λh=> bT h λH e h=> Z4 S (xj e ▸ r) (h ▸ K)
  ·exact λh=> aC h λH e h=> aC h λis j h=> cg h λB h=> Z2 i S (kv e ▸ r) j B (bo h ▸ K)
  ·refine λh=> bT h λb e h=> ?_
   obtain rfl:=(yO e ▸ r:aP X.w F a' (.bool b) v).bool;refine call_int_bool ?_;cases b <;> exact(h ▸ K:Kb X F Y ls b' a' _ Q).J (S.toks _) (.int _ _)
  ·refine λh=> bT h λb e h=> ?_
   replace r:aP X.w F a' (.int b) v:=eZ e ▸ r;exact r.dW λt=> call_range_1 (mk ⟨_,_,_,rfl⟩ h)
 ·obtain⟨v,u,rfl,P,L⟩:=z.two
  refine xd (C:=λf g=> g p q=U rv->aB (ay pw X.w) A (bQ (.type f) [v,u]) Q E s) D (fc ?_ pU) h;refine λh=> aC h λa e h=> bT h λb j h=> ?_
  replace P:aP X.w F a' (.int a) v:=eZ e ▸ P;replace L:aP X.w F a' (.int b) u:=eZ j ▸ L;exact P.dW λt=> L.dW λm=> call_range_2 (mk ⟨_,_,_,rfl⟩ h)
def K0(P:aT):kQ:=[(201,nI),(200,nH P),(191,lC),(198,lD),(184,lA),(283,rH),(282,rG P),(273,nN),(280,nO),(266,nM),(405,wU),(404,wR P),(402,rZ),
 (630,I6),(629,I5 P),(601,Bo),(608,Bp),(615,Bq),(620,jF),(686,Jg),(685,Jf P),(662,i9),(669,hJ),(676,hK),(683,hM),(2,lE P)]
theorem T6(P:aT):(K0 P).all (λq=> decide (q.1 < 763) && !(q.1==cu))=ag:=by kernel_rfl
theorem T8(P:aT):(K0 P).map (λq=> (ft P).get q.1)=(K0 P).map (λq=> U q.2):=by kernel_rfl
theorem T7(P:aT):(K0 P).all (λq=> !q.2.isFreed)=ag:=by kernel_rfl
theorem Gn:∀{K:kQ},K.lookup a=U o->(a,o)∈K:=by
 intro K
 induction K with
 |nil=> intro h;exact nn h
 |cons q r D=>
  intro h;rw[show q=(q.1,q.2)from rfl,l5]at h;cases e:a==q.1 with
  |true=> rw[e]at h;cases h;rw[eq_of_beq e];exact .head _
  |false=> rw[e]at h;exact .tail _ (D h)
theorem Ah{j β:Type}{f g:j->β}:∀{l:aa j},l.map f=l.map g->∀x∈l,f x=g x
 |_::_,h,x,T=> by
  simp only[dG,Cg]at h;rcases bM.mp T with rfl |T
  ·exact h.1
  ·exact Ah h.2 x T
theorem iB(T:mC w h):(K0 w.params).In h:=λa o e=> by
 have m:=Gn e;have M:=eh.mp (T6 w.params) _ m;have G:=Ah (T8 w.params) _ m;have j:=eh.mp (T7 w.params) _ m;exact T a o (by simpa using(bu M).2) (eA G (gx (bu M).1) (by simpa using j))
noncomputable def pY(K:kQ)(c:av):au:=jo K (.ref c) "__getattribute__"==U (U (.builtin "object.__getattribute__")) && jo K (.ref c) "__getattr__"==U ah
def attrOk(K:kQ)(c:av)(m:ao):au:=pY K c && (clsIn K c).any (·.hasDict) && jo K (.ref c) m==U ah
def vu(K:kQ)(c:av)(m:ao)(f:av):au:=pY K c && jo K (.ref c) m==U (U (.ref f)) && typeIn K (.ref f)==U (.type "function")
theorem N6(P:aT):yL.all (λq=> attrOk (K0 P) q.1 q.2)=ag:=by kernel_rfl
theorem Vw(P:aT):HE.all (λq=> vu (K0 P) q.1 q.2.1 q.2.2)=ag:=by kernel_rfl
theorem D6{c:av}{m:ao}(P:aT)(h:k3 c m=ag):attrOk (K0 P) c m=ag:=by
 obtain⟨q,I,e⟩:=ot.mp h;simp only[cP,eT]at e;have:=eh.mp (N6 P) q I;rw[e.1,e.2]at this;exact this
theorem Al{c:av}{m:ao}{f:av}(P:aT)(h:jB c m=U f):vu (K0 P) c m f=ag:=
 bT h λq e h=> by
  subst h;have:=eh.mp (Vw P) q (Ly e);have z:=Lk e;obtain⟨p1,p2⟩:=bu z;rw[eq_of_beq p1,eq_of_beq p2]at this;exact this
theorem Ki(x:ao)(v:ai):MD x v=v.isStr x:=by cases v <;> simp[MD,Value.isStr,eq_comm]
theorem i4{d:af}{M:aa (ao×ai)}(D:cH (strKind pw w) d M)(m:ao):hY m d=U (dv M m):=by
 obtain⟨_,l,H,u,W,z,_⟩:=D;unfold hY;rw[u];have e:=z.find m;have j:(l.toList.find? λe=> (strKind pw w).is m e.key)=l.toList.find? (·.key.isStr m):=by
  congr 1;funext e;exact Ki m e.key
 rw[j]at e;cases q:l.toList.find? (·.key.isStr m)with
 |some x=> rw[q]at e;dsimp only at e⊢;rw[q];dsimp only;rw[← e];rfl
 |none=>
  rw[q]at e;dsimp only at e⊢;rw[q];dsimp only;have a:(l.toList.any (·.refKey))=ak:=by
   rw[ta];intro x T;obtain⟨k,b,_⟩:=W x (KU.mp T);obtain⟨t,v⟩:=CV b;simp[aaV,v]
  rw[a];simp only[sU,o3];rw[← e];rfl
theorem D8{o:aw}(h:iA o=ak)(a:ao)(D:fJ)(g:d8 ai):C9 o a D g=g:=by
 cases o with
 |Call f as T p=>
  cases f with
  |Name x B=>
   cases as with
   |cons=> rfl
   |nil=>
    cases T with
    |cons=> rfl
    |nil=>
     have hb:(x !=("super":ao))=ag:=aZ (!·) (h);exact bZ (show((x !=("super":ao)) ||_ ||_ ||_)=ag by rw[hb];rfl)
  |_=> rfl
 |_=> rfl
theorem yM{o:aw}{a:ao}(h:iA o=ak):bt (.Attribute o a d') D=(do
   let ov ← bt o D
   oZ d'.atName
   let r ← tR [ov] (oU ov a ag)
   MW o ov r
   pure r):=by
 show(do
   let ov ← C9 o a D (bt o D)
   oZ d'.atName
   let r ← tR [ov] (oU ov a ag)
   MW o ov r
   pure r)=_
 rw[D8 h]
theorem aP.inst(S:St X F Y ls (b'++a') s){c:av}{Z:aa PV}(h:aP X.w F a' (.inst c ns Z) v):
  gy λa D d M=> j4 (v=.ref a) (InstAt s.heap a (cZ c D) c (U d)) (cH (strKind pw X.w) d M) (M.map (·.1)=ns) (aH X.w F Z (M.map (·.2))):=by
 cases h with
 |bor m o=> exact o.elim
 |borI e m o=>
  obtain⟨M,q,k,l⟩:=o;exact⟨_,_,_,M,rfl,⟨S.J _ _ e,rfl,rfl,S.mG m⟩,q,k,l⟩
 |J dd=>
  cases dd with
  |inst e P q k l=>
   obtain⟨rfl,b⟩:=q;exact⟨_,_,_,_,rfl,⟨S.J _ _ e,rfl,rfl,S.J _ _ P⟩,b,k,l⟩
theorem PM:∀{p:PV} {v:ai},Den w F p v->C1 v=ag∨∃u,p=.fn u:=by
 intro p v h;cases h <;> first |(exact .inl rfl) |exact .inr ⟨_,rfl⟩
theorem N3(S:St X F Y ls (b'++a') s){q:PV}{m:ao}(z:aP X.w F a' p v)(h:D7 p m=U q)(K:∀B P,St X F Y ls (b'++a') P->Den X.w F q B->Q B P):
  wpAny (ay pw X.w) A (oU v m ag) Q E s:=by
 cases p with
 |inst c ns Z=>
  refine cg h ?_;clear h;intro w h;refine aC h ?_;clear h;intro b e h;refine cg h ?_;clear h;intro t h;cases h;obtain⟨a,D,d,M,rfl,I,o,rfl,l⟩:=z.inst S;obtain⟨x,G⟩:=bu (D6 X.w.params w);obtain⟨g,k⟩:=bu x;obtain⟨i,n,j⟩:=CZ k;obtain⟨B,e,f⟩:=(iZ l m).1 q e;have r:=(PM f).resolve_right λ⟨u,e⟩=> by subst e;exact nomatch t
  refine get_value (iB (S.top.in S.J)) I (eq_of_beq (bu g).1) ?_ r (K _ _ (S.toks _) f);unfold tJ;rw[n,eq_of_beq G];show(W.ownOf i (U d) m).bind _=_;unfold W.ownOf;rw[bZ j];show(hY m d).bind _=_;rw[i4 o m,e];rfl
 |_=> exact nn h
theorem N5(C:aG X)(D:∀e,cI X k O e (aE n X.G e))(o:aw)(m:ao)(d':aQ):cI X k O (.Attribute o m d') (aE (n+1) X.G (.Attribute o m d')):=by
 intro V rv A F Y ls b' a' s Q E h R S y K;replace h:ev O X.cps V (bif iA o then .bad else .attr (aE n X.G o) m)=U rv:=h;cases g:iA o with
 |true=> rw[g]at h;exact nn h
 |false=>
  rw[g]at h;refine aC h ?_;clear h;intro r f h;refine bT h ?_;clear h;intro q e h;refine CC ((D o).read C f R S y λv P W N u H a=> ?_) (yM g);exact N3 u a e λB i S2 d=> K B i W N [] S2 H (h ▸ .J d)
section
def notAttr(e:aw):au:=(mH e).isNone
theorem pC{f:aw}{as:aa aw}(h:notAttr f=ag):
  bt (.Call f as [] d') D=(do ye d' (← bt f D) [] (d9 d' (du as D)) (yb d' (yk [] D))):=by
 cases f <;> first |rfl |cases h
theorem gK(d':aQ):∀(l:aa (au×d8 ai)),(d9 d' l).any (·.1)=l.any (·.1)
 |[]=> rfl
 |q::r=> by
  obtain⟨b,t⟩:=q;show(b ||(d9 d' r).any (·.1))=(b ||r.any (·.1));rw[gK d' r]
theorem hF:∀{n:ae} {l:aa aw} {B:aa RV},bO O X.cps V (br n X.G l)=U B->(du l X.env).any (·.1)=ak:=by
 intro n
 induction n with
 |zero=> intro l B h;cases l with |nil=> rfl |cons=> exact nn h
 |succ n D=>
  intro l B h;cases l with
  |nil=> rfl
  |cons e r=> exact aC h λp M h=> bT h λps G h=> by rw[Ar M r];exact D G
theorem gc(g:∀l,fo X k O l (br n X.G l)){l:aa aw}{Q:Args->aD->Prop}(h:bO O X.cps V (br n X.G l)=U B)(R:aX k A)(S:St X F Y ls (b'++a') s)
  (y:aR X.w F V (ls.map (·.2)) a') (K:∀Z P W N c,St X W N ls (c++(b'++a')) P->Sub F W->fy X.w W a' B Z c->Q ⟨Z,[]⟩ P):
  wpAny (ay pw X.w) A (evalArgs f ag (d9 d' (du l X.env)) []) Q E s:=by
 cases l with
 |nil=> cases n <;> (cases h;exact aaD (K [] s F Y [] S (Sub.refl F) .nil))
 |cons e r=>
  cases n with
  |zero=> exact nn h
  |succ n=>
   have q:=g (e::r) V B A F Y ls b' a' s d' (λZ P=> Q ⟨Z,[]⟩ P) E h R S y K;exact aC h λp M L=> by rw[Ar M r]at q⊢;exact Mc q
theorem lu{M:me}(e:∀a,v≠.ref a):tH M h (keeperOf v) .machine:=by
 cases v <;> first |exact Looks.now |exact bf rfl (e _)
theorem Tb{f:CE}{g:PV}(h:Gy f=U g):ev O c' V f=U (.J g):=by
 cases f <;> first |(cases h;rfl) |exact nn h
theorem OM(C:aG X)(z:cp X.w X.I k O)(D:∀e,cI X k O e (aE n X.G e))(q:∀l,fo X k O l (br n X.G l))(f:aw)(as:aa aw)(d':aQ)(hf:notAttr f=ag):
  cI X k O (.Call f as [] d') (aE (n+1) X.G (.Call f as [] d')):=by
 intro V rv A F Y ls b' a' s Q E h R S y K;replace h:ev O X.cps V ((mH f).elim (.call (aE n X.G f) (br n X.G as)) (Kr (aE n X.G) (br n X.G) as d'))=U rv:=h;rw[Option.isNone_iff_eq_none.mp hf]at h;replace h:ev O X.cps V (.call (aE n X.G f) (br n X.G as))=U rv:=h;refine aC h ?_;clear h;intro g hg h;refine aC h ?_;clear h;intro B e' h;have f':ev O X.cps V (aE n X.G f)=U (.J g):=Tb hg;have I:((d9 d' (du as X.env)).any (·.1) ||([]:aa (aq ao×d8 ai)).any (·.1.isNone))=ak:=by rw[gK,hF e'];rfl
 cases g with
 |fn v=>
  refine tr ((D f).read C f' R S y λfv P W N u H ra=> ?_) (pC hf);obtain rfl:=ra.lh;cases fv with
  |builtin b=>
   refine f9 (P:=λL=> eR) I (λh L=> ⟨_,.inr (.inl rfl),lu (λL e=> by cases e)⟩) ?_;refine gc q e' R u (y.mono H) λZ i p G ts S2 w r=> ⟨trivial,?_⟩
   obtain⟨F3,S3,x,M⟩:=S2.reads C r;exact Om R.hd S3 M h λv m o t S4 c' c=> K v m o G t S4 ((H.trans w).trans (x.trans c')) c
  |type t=>
   refine f9 (P:=λL=> eR) I (λh L=> ⟨_,.inr (.inl rfl),lu (λL e=> by cases e)⟩) ?_;refine gc q e' R u (y.mono H) λZ i p G ts S2 w r=> ⟨trivial,?_⟩
   obtain⟨F3,S3,x,M⟩:=S2.reads C r;exact BZ C R.hd S3 M h λv m o t S4 c' c=> K v m o G t S4 ((H.trans w).trans (x.trans c')) c
  |ref a=>
   refine aC h ?_;clear h;intro ps g' h;obtain⟨j,cc⟩:=z _ _ _ h;refine f9 I (λh T=> j _ h T) ?_;refine gc q e' R u (y.mono H) λZ i p G ts S2 w r=> ⟨S2.top.in S2.J,?_⟩
   obtain⟨F3,S3,x,dd⟩:=S2.b6 C r g';exact B2 cc R S3 dd λv m o h' t S4 c' d=> K v m o h' t S4 ((H.trans w).trans (x.trans c')) d.weak
  |_=> exact nn h
 |_=> exact nn h
theorem qo{o:aw}{a:ao}{t:aQ}{args:aa aw}(h:iA o=ak)(I:(t.endLine==d'.line)=ag)(Z:bb args.length 30=ag)(z:(du args D).any (·.1)=ak):
  bt (.Call (.Attribute o a t) args [] d') D=(do
   let ov ← bt o D
   oZ t.atName
   let(f,first) ← tR [ov] (yh ov a (do return (← yi o D).getD ag))
   ye d' f first (d9 d' (du args D)) (yb d' (yk [] D))):=by
 show(do
  let ov ← C9 o a D (bt o D)
  oZ t.atName
  methodCall o a t d' D ov (args.length+([]:aa kO).length) (d9 d' (du args D)) (yb d' (yk [] D)))=_
 rw[D8 h];have b:MY (args.length+([]:aa kO).length) (d9 d' (du args D)) (yb d' (yk [] D))=ag:=by
  unfold MY;have M:(d9 d' (du args D)).all (λx=> !x.1)=ag:=by
   have:=gK d' (du args D);rw[z]at this;rw[eh];intro x T;have:=(ta.mp this) x T;simpa using this
  rw[M];have n:args.length < 30:=dg Z;show(ag && (List.all [] _:au) && decide (args.length+0+(if([]:aa (aq ao×d8 ai)).isEmpty then 0 else 1) < 30))=ag;simp[n]
 unfold methodCall;rw[b];refine aZ (bt o D >>=·) (funext λov=> aZ (oZ t.atName >>=·) (funext λL=> ?_));refine aZ (tR [ov] (yh ov a (do return (← yi o D).getD ag)) >>=·) (funext λq=> ?_);unfold methodCallPos;rw[I,bZ (show(!ag ||ag)=ag from rfl)];obtain⟨f,first⟩:=q;exact pure_bind _ _
theorem pH{T:aa ao}{Z:aa PV}{m:ao}(h:T.contains m=ak):c1 T Z m=ah:=by
 induction T generalizing Z with
 |nil=> cases Z <;> rfl
 |cons x r D=>
  cases Z with
  |nil=> rfl
  |cons v Z=>
   simp only[List.contains_cons,sW]at h;have y:(x==m)=ak:=by
    have:=h.1;simp only[kY]at this⊢;exact λe=> this e.symm
   simp only[zc,y,sU,o3];exact D h.2
theorem GR{w:aV}:∀{Z:aa ai} {is:aa aj},tv Z is->ItemsAre (ib pw w) is Z
 |_,_,.nil=> .nil
 |_,_,.cons n t r=> .cons (oW pw w n t) (GR r)
theorem ZV{K:Type}[d4 K]{knd:KeyKind pw X.w K}{d:av}{is:aa aj}{dflt:ai}(N:A.units+1 < j1)(V:(d==cO)=ak)(D:s.heap.DictOf knd d [])
  (v:s.heap.get? a=U (eB Z.toArray n)) (hi:tv Z is) (h:Q dflt {s with toks:=s.toks+(is.length+1)}):aB (ay pw X.w) A (bQ (.builtin "dict.get") [.ref d,.ref a,dflt]) Q E s:=by
 have u:s.heap.DictOfH (tupleKind (ib pw X.w)) d []:=by
  obtain⟨o,l,H,R,x,e,_,z,_⟩:=D;refine⟨o,l,H,R,x,e,?_,by simp,gm⟩;cases q:l.toList with
  |nil=> rfl
  |cons y r=> rw[q]at z;cases z
 exact yf xX D.typeIs CL (Mm _ _ _) (meetsH_dict_get_default (tupleKind (ib pw X.w)) d a V dflt)
  ⟨tupleKind_room_in1 N,is,[],⟨_,Z.toArray,n,v,rfl,rfl,by simpa using GR hi⟩,u,h⟩
theorem zD(h:zC r=U p):r=.J p:=by cases r <;> first |(cases h;rfl) |exact nn h
theorem aH.Py(h:aH w F (p::ps) Z):bH λv us=> bG (Z=v::us) (Den w F p v) (aH w F ps us):=by
 cases h with
 |cons a b=> exact⟨_,_,rfl,a,b⟩
theorem aH.n4(h:aH w F [p] Z):∃v,Z=[v]∧Den w F p v:=by
 cases Z with
 |nil=> exact nomatch h.length
 |cons v Z=>
  cases Z with
  |nil=> exact⟨v,rfl,h.two.1⟩
  |cons=> exact nomatch h.length
theorem aH.pair{q:PV}(h:aH w F [p,q] Z):bH λv u=> bG (Z=[v,u]) (Den w F p v) (Den w F q u):=by
 cases Z with
 |nil=> exact nomatch h.length
 |cons v Z=> obtain⟨u,rfl,d⟩:=h.two.2.n4;exact⟨v,u,rfl,h.two.1,d⟩
theorem sE{j:Type}{l:aa j}{a:j}(h:lJ l=U a):l=[a]:=by
 cases l with
 |nil=> exact nn h
 |cons x r=> cases r <;> first |(cases h;rfl) |exact nn h
theorem kH{j:Type}{l:aa j}{q:j×j}(h:jN l=U q):l=[q.1,q.2]:=by
 cases l with
 |nil=> exact nn h
 |cons x r=>
  cases r with
  |nil=> exact nn h
  |cons y r=> cases r <;> first |(cases h;rfl) |exact nn h
theorem Fb{K:Type}[d4 K]{M:aa (K×ai)}{us:aa PV}{d:PV}(l:aH w F us (M.map (·.2)))(c:Den w F d v)(k:K):Den w F ((c1 (M.map (·.1)) us k).getD d) ((dv M k).getD v):=by
 obtain⟨g1,R⟩:=iZ l k;cases q:c1 (M.map (·.1)) us k with
 |some p=> obtain⟨B,n,j⟩:=g1 p q;rw[n];exact j
 |none=> rw[R q];exact c
theorem Gw{g:Type}[d4 g]{knd:KeyKind pw X.w g}{M:aa (g×ai)}{us:aa PV}{k':g}{u:ai}{d:PV}(V:(a==cO)=ak)(D:s.heap.DictOf knd a M)(l:aH X.w F us (M.map (·.2)))(W:knd.is k' u=ag)(c:Den X.w F d v)
  (K:∀B m,Den X.w F ((c1 (M.map (·.1)) us k').getD d) B->Q B {s with toks:=m}):aB (ay pw X.w) A (bQ (.builtin "dict.get") [.ref a,u,v]) Q E s:=
 yf xX D.typeIs CL (Mm _ _ _) (meets_dict_get_default knd _ W V _) ⟨_,D.mapOf,K _ _ (Fb l c k')⟩
theorem Gv{g:Type}[d4 g]{knd:KeyKind pw X.w g}{M:aa (g×ai)}{T:aa g}{u:ai}{d:PV}(S:St X F Y ls (b'++a') s)(N:A.units+1 < j1)(V:(a==cO)=ak)(D:s.heap.DictOf knd a M)(W:M.map (·.1)=T)(z:Den X.w F (.tup H) u)(c:Den X.w F d v)
  (f:(T.isEmpty && (fU H).isSome)=ag) (K:∀m,Den X.w F d v->Q v {s with toks:=m}):aB (ay pw X.w) A (bQ (.builtin "dict.get") [.ref a,u,v]) Q E s:=by
 obtain⟨j,G⟩:=bu f;obtain⟨is,hi⟩:=xJ.mp G;obtain rfl:M=[]:=xB.mp (W.trans (hr.mp j));cases z with
 |tup b e h=>
  obtain⟨i,rfl⟩:=e;exact ZV N V D (S.J _ _ b) (vb h hi) (K _ c)
theorem SY{M:aa (aj×ai)}{us:aa PV}{q d:PV}{u:ai}(h:u4 (M.map (·.1)) us p q=U d)(N:A.units+1 < j1)(S:St X F Y ls (b'++a') s)(V:(a==cO)=ak)(D:s.heap.DictOf (ib pw X.w) a M)(l:aH X.w F us (M.map (·.2)))(b:Den X.w F p u)(c:Den X.w F q v)
  (K:∀B m,Den X.w F d B->Q B {s with toks:=m}):aB (ay pw X.w) A (bQ (.builtin "dict.get") [.ref a,u,v]) Q E s:=by
 cases hi:dk p with
 |some i=>
  rw[u4,hi]at h;obtain rfl:=bo h;rw[eZ hi]at b;refine b.dW λt=> ?_
  exact Gw V D l (oW pw X.w i _) c K
 |none=>
  rw[u4,hi]at h;refine aC h ?_;clear h;intro H T h;refine cg h ?_;clear h;intro f h;obtain rfl:=bo h;rw[xj T]at b;exact Gv S N V D rfl b c f λm c=> K _ _ c
theorem S5{M:aa (ao×ai)}{us:aa PV}{q d:PV}{u:ai}(h:u5 (M.map (·.1)) us p q=U d)(N:A.units+1 < j1)(S:St X F Y ls (b'++a') s)(V:(a==cO)=ak)(D:s.heap.DictOf (strKind pw X.w) a M)(l:aH X.w F us (M.map (·.2)))(b:Den X.w F p u)(c:Den X.w F q v)
  (K:∀B m,Den X.w F d B->Q B {s with toks:=m}):aB (ay pw X.w) A (bQ (.builtin "dict.get") [.ref a,u,v]) Q E s:=by
 cases hi:gk p with
 |some i=>
  rw[u5,hi]at h;obtain rfl:=bo h;rw[jd hi]at b;refine b.jL λt=> ?_
  exact Gw V D l (ic pw X.w i _) c K
 |none=>
  rw[u5,hi]at h;refine aC h ?_;clear h;intro H T h;refine cg h ?_;clear h;intro f h;obtain rfl:=bo h;rw[xj T]at b;exact Gv S N V D rfl b c f λm c=> K _ _ c
section
variable {o:aw}{m:ao}{as:aa aw}{ov:ai}
theorem HF{G:av}{g:Type}[d4 g]{knd:KeyKind pw X.w g}{M:aa (g×ai)}(d:aG X)(f:∀l,fo X k O l (br n X.G l))(b:bO O X.cps V (br n X.G as)=U B)(a:b6 B=U ps)(R:aX k A)(S:St X F Y ls (b'++a') s)(y:aR X.w F V (ls.map (·.2)) a')
  (I:((d9 d' (du as X.env)).any (·.1) ||([]:aa (aq ao×d8 ai)).any (·.1.isNone))=ak) (r:ov=.ref G) (D:s.heap.DictOf knd G M) (t:m=s_ "get") (K2:∀Z j T C,St X T C ls (b'++a') j->Sub F T->aH X.w T ps Z->aB (ay pw X.w) A (bQ (.builtin "dict.get") (.ref G::Z)) Q E j):
  wpAny (ay pw X.w) A (yh ov m (do return (← yi o X.env).getD ag)) (λq N=> aB (ay pw X.w) A (ye d' q.1 q.2 (d9 d' (du as X.env)) []) Q E N) E s:=by
 subst r t;refine Dj D.typeIs Mq xX PySem.F.type_dict_get D.mapOf.noDict ?_;refine f9 (P:=λL=> eR) I (λh L=> ⟨_,.inr (.inl rfl),lu (λL e=> by cases e)⟩) ?_;refine gc f b R S y λZ i p z c S2 w H=> ⟨trivial,?_⟩
 obtain⟨T,S3,x,dd⟩:=S2.b6 d H a;exact K2 Z i T z S3 (w.trans x) dd
theorem Vt{c:av}{us:aa PV}(C:aG X)(z:cp X.w X.I k O)(HS:∀es,fo X k O es (br n X.G es))(i':bO O X.cps V (br n X.G as)=U B)(h':b6 B=U ps)(R:aX k A)(S:St X F Y ls (b'++a') s)(y:aR X.w F V (ls.map (·.2)) a')
  (g':((d9 d' (du as X.env)).any (·.1) ||([]:aa (aq ao×d8 ai)).any (·.1.isNone))=ak) (e:ha O r m ps=U rv) (H:r.read=.inst c ns us) (ra:aP X.w F a' r.read ov) (L:∀p,r=.J p->Den X.w F p ov) (K:∀v P W N t,St X W N ls (t++(b'++a')) P->Sub F W->cq X.w W a' rv v t->Q v P):aB (ay pw X.w) A (yh ov m (do return (← yi o X.env).getD ag)) (λq l'=> aB (ay pw X.w) A (ye d' q.1 q.2 (d9 d' (du as X.env)) []) Q E l') E s:=by
 rw[H]at ra;rw[ha,H]at e;refine aC e ?_;clear e;intro p a e;refine aC e ?_;clear e;intro f f' e;refine cg e ?_;clear e;intro e' e;have c':=L p (zD a);rw[show p=.inst c ns us from(by rw[zD a]at H;exact H)]at c';obtain⟨ad,D,d,M,rfl,I,u,rfl,l⟩:=ra.inst S;obtain⟨h0,G⟩:=bu (Al X.w.params f');obtain⟨g,h1⟩:=bu h0;obtain⟨j,b⟩:=z _ _ _ e;refine C3 (iB (S.top.in S.J)) I (eq_of_beq (bu g).1) (eq_of_beq (bu g).2) (eq_of_beq h1) (eq_of_beq G) ?_ ?_
 ·show(hY m d).map (·.isSome)=U ak
  rw[i4 u m,(iZ l m).2 (pH (by simpa using e'))];rfl
 ·refine f9 g' (λh T=> j _ h T) ?_
  refine gc HS i' R S (y) λZ i F2 m' ts S2 w r=> ⟨S2.top.in S2.J,?_⟩
  obtain⟨F3,S3,x,dd⟩:=S2.b6 C r h';exact B2 b R S3 (.cons (c'.mono (w.trans x)) dd) λv s4 F4 j' t S4 k' d=> K v s4 F4 j' t S4 (w.trans (x.trans k')) d.weak
end
theorem Vv(C:aG X)(HO:cp X.w X.I k O)(HE:∀e,cI X k O e (aE n X.G e))(HS:∀es,fo X k O es (br n X.G es))(o:aw)(m:ao)(g':aQ)(as:aa aw)(d':aQ):
  cI X k O (.Call (.Attribute o m g') as [] d') (aE (n+1) X.G (.Call (.Attribute o m g') as [] d')):=by
 intro V rv A F Y ls b' a' s Q E h R S y K;replace h:ev O X.cps V (bif !(iA o) && g'.endLine==d'.line && bb as.length 30 then .meth (aE n X.G o) m (br n X.G as)else .bad)=U rv:=h;refine zr h ?_;clear h;intro w h;refine aC h ?_;clear h;intro r f h;refine aC h ?_;clear h;intro B b h;refine aC h λps a e=> ?_
 obtain⟨w,hn⟩:=bu w;obtain⟨hs,hl⟩:=bu w;have z:=hF b;have I:((d9 d' (du as X.env)).any (·.1) ||([]:aa (aq ao×d8 ai)).any (·.1.isNone))=ak:=by rw[gK,z];rfl
 refine tK ((HE o).X3 C f R S y λov P W N u H p rf=> ?_) (qo (by simpa using hs) hl hn z);cases c':r.read with
 |cV ks us=>
  rw[c']at p;rw[ha,c']at e;obtain⟨G,_,e1,f',D,_,_⟩:=p.cV u;refine cg e ?_;clear e;intro hm e;refine aC e ?_;clear e;intro q hq e;refine bT e λd hd er=> HF C HS b a R u (y.mono H) I e1 D (eq_of_beq hm) λZ j T L S3 e' dd=> ?_
  obtain⟨h',M,hv,_,g,rfl,l⟩:=(p.mono e').cV S3;cases e1.symm.trans hv;rw[kH hq]at dd;obtain⟨v1,i,rfl,d1,d2⟩:=dd.pair;exact SY hd R.u1 S3 f' g l d1 d2 λv' t' dv=> K v' _ T L [] (S3.toks _) (H.trans e') (er ▸ .J dv)
 |aW ks us=>
  rw[c']at p;rw[ha,c']at e;obtain⟨G,_,e1,f',D,_,_⟩:=p.aW u;refine cg e ?_;clear e;intro hm e;refine HF C HS b a R u (y.mono H) I e1 D (eq_of_beq hm) λZ j T L S3 e' dd=> ?_
  obtain⟨h',M,hv,_,g,rfl,l⟩:=(p.mono e').aW S3;cases e1.symm.trans hv;cases ho:lJ ps with
  |some k1=>
   rw[ho]at e;refine bT e ?_;clear e;intro x hx e;rw[sE ho,jd hx]at dd;obtain⟨v1,rfl,d1⟩:=dd.n4;refine d1.jL λt=> ?_
   refine yf xX g.typeIs CL (PySem.F.args_dict_get_2 _ _) (meets_dict_get (strKind pw X.w) _ (ic pw X.w x _) f') ⟨_,g.mapOf,?_⟩;exact K _ _ T L [] (S3.toks _) (H.trans e') (e ▸ .J (Fb l .none x))
  |none=>
   rw[ho]at e;refine aC e ?_;clear e;intro q hq e;refine bT e λd hd er=> ?_
   rw[kH hq]at dd;obtain⟨v1,i,rfl,d1,d2⟩:=dd.pair;exact S5 hd R.u1 S3 f' g l d1 d2 λv' t' dv=> K v' _ T L [] (S3.toks _) (H.trans e') (er ▸ .J dv)
 |inst c ns us=> exact Vt C HO HS b a R u (y.mono H) I e c' p rf λv s4 F4 i' t S4 j'=> K v s4 F4 i' t S4 (H.trans j')
 |_=> rw[ha,c']at e;exact nn e
end
def Rl(X:Cx)(F:Fz)(Y:MT)(V:aa Slot)(b':MT)(s:aD):Prop:=bH λls a'=> aR X.w F V (ls.map (·.2)) a'∧St X F Y ls (b'++a') s
theorem J2(ls:aa (ao×aq ai)):∀(i:ae) (v:ai),(kF ls i v).map (·.2)=(ls.map (·.2)).set i (U v):=by
 induction ls with
 |nil=> exact λL L=> rfl
 |cons p r D=>
  intro i v;cases i with
  |zero=> rfl
  |succ i=> exact aZ (p.2::·) (D i v)
inductive fk(w:aV)(F:Fz):aa Slot->aa ai->MT->Prop
 |nil:fk w F [] [] []
 |cons {sl sls v vs t ts:_}:ke w F sl v t->fk w F sls vs ts->fk w F (sl::sls) (v::vs) (ts++t)
theorem cq.slot{t:MT}{sl:Slot}(r:cq w F a' rv v t)(h:rv.slot=U sl):ke w F sl v t:=by
 cases r with
 |J d=> cases h;exact⟨d,rfl⟩
 |bor m o=> cases h
 |borI _ m o=> cases h
 |own o=> cases h;exact⟨_,_,rfl,rfl,o⟩
theorem fy.slots{c:MT}(r:fy w F a' B Z c):∀{d:aa Slot},Mine.slots B=U d->fk w F d Z c:=by
 induction r with
 |nil=> intro d h;cases h;exact .nil
 |cons a b D=> intro d h;exact aC h λs M h=> fp h λP G=> .cons (a.slot M) (D G)
theorem aH.slots:∀{ps:aa PV} {Z:aa ai},aH w F ps Z->fk w F (ps.map .J) Z []:=by
 intro ps
 induction ps with
 |nil=> intro Z d;cases Z with |nil=> exact .nil |cons=> exact nomatch d.length
 |cons p r D=> intro Z d;cases Z with |nil=> exact nomatch d.length |cons v Z=> exact fk.cons (ts:=[]) ⟨d.two.1,rfl⟩ (D d.two.2)
section
theorem Rl.len(C:aG X)(R:Rl X F Y V b' s):V.length=X.G.ns.length:=by
 obtain⟨ls,a',h,S⟩:=R;have:=h.length;rw[bx]at this;rw[this,← S.nm,bx]
set_option tactic.hygienic true in
theorem Rl.mY(C:aG X)(R:Rl X F Y V b' s)(i:ae):∃W,Sub F W∧Rl X W Y (Mine.mY i V) b' s:=by
 have f1:∀{r:aq Slot} {τ:aa Slot},V[i]?=r->(match r with |U (.own p)=> V.set i (.J p) |_=> V)=τ->Mine.mY i V=τ:=λ{r τ} e q=> by unfold Mine.mY;rw[e];exact q
 cases e:V[i]? with
 |none=> rw[f1 e rfl];exact⟨F,Sub.refl F,R⟩
 |some sl=>
 cases sl with
 |own p=>
  rw[f1 e rfl];obtain⟨ls,a',h,S⟩:=R;by_cases z:eG p=ag
  ·cases p <;> first |cases z |skip
   rename_i c ns ps
   obtain⟨x,D,d,Z,_,b,L,ow,_,v⟩:=h.zN e;have S1:=S.perm ((fe b' L).trans dA);obtain⟨S2,H,j⟩:=St.freeze C.inv S1;obtain⟨M,q,k,l⟩:=ow;obtain⟨f,N,B⟩:=v H (.inst (H _ _ b) j ⟨rfl,q⟩ k (l.mono H));exact⟨_,H,ls,f,N,S2.perm (fe b' B.symm)⟩
  replace z:eG p=ak:=by simpa using z
  obtain⟨a,o,Z,_,L,ow,_,_,_,v⟩:=h.wV e z;have S1:=S.perm ((fe b' L).trans dA);have n:=S1.i7 (.head _);obtain⟨S2,H,j⟩:=St.freeze C.inv S1;obtain⟨f,N,B⟩:=v H ((ow.mono H).den j n);exact⟨_,H,ls,f,N,S2.perm (fe b' B.symm)⟩
 |_=> rw[f1 e rfl];exact⟨F,Sub.refl F,R⟩
theorem Rl.bg(C:aG X):∀(l:aa ae) {F:Fz} {V:aa Slot},Rl X F Y V b' s->∃W,Sub F W∧Rl X W Y (Mine.bg l V) b' s
 |[],F,_,R=> ⟨F,Sub.refl F,R⟩
 |i::r,F,V,R=> by
  obtain⟨F1,B,a⟩:=R.mY C i;obtain⟨p,w,D⟩:=Rl.bg C r a;exact⟨p,B.trans w,D⟩
theorem hQ(C:aG X){sl:Slot}{t:MT}{Q:fO->aD->Prop}(T:X.G.ns[i]?=U x)(L:x∉X.G.ln)(hi:i < V.length)(S:St X F Y ls (t++(b'++a')) s)(y:aR X.w F V (ls.map (·.2)) a')
  (h:ke X.w F sl v t) (K:∀P,Rl X F Y (V.set i sl) b' P->Q () P):aB (ay pw X.w) A (tU X.env x v) Q E s:=by
 obtain⟨u,w⟩:=S.m8 T;obtain⟨O,H,R,k⟩:=y.set hi;obtain⟨f,N,B⟩:=k h;have W:=(eM C x).trans (C.ns x (f5 T));refine tZ W S.ns (λM Z g=> K _ ?_) (by rw[C.fn];rfl);have S1:=S.put (t:=s.toks+1) w (λq I e=> L (e ▸ C.pk q I)) C.nn C.hL Z g;refine⟨_,f,by rw[J2];exact N,?_⟩;have S2:St X F Y (kF ls i v) (O++(b'++(t++H))) {s with heap:=M,toks:=s.toks+1}:=S1.perm (by
  refine(fe t (fe b' R)).trans ?_;refine(fe t (f6 b' O H)).trans ?_;refine(f6 t O (b'++H)).trans ?_;exact fe O (f6 t b' H))
 exact(St.drop S2).perm (fe b' B.symm)
theorem BR(C:aG X):∀{is:aa ae} {c:aa (ai->d8 fO)} {d:aa Slot} {Z:aa ai} {f:MT} {V:aa Slot} {ls:aa (ao×aq ai)} {a':MT} {s:aD} {Q:fO->aD->Prop},
  is.length=c.length->(∀(j:ae) (i:ae) (t:ai->d8 fO),is[j]?=U i->c[j]?=U t->∃x,dE (X.G.ns[i]?=U x) (x∉X.G.ln) (i < V.length) (∀{s:aD} {v:ai} {Q:fO->aD->Prop},aB (ay pw X.w) A (tU X.env x v) Q E s->aB (ay pw X.w) A (t v) Q E s))->
  St X F Y ls (f++(b'++a')) s->aR X.w F V (ls.map (·.2)) a'->fk X.w F d Z f->d.length=is.length->(∀P,Rl X F Y (gH is d V) b' P->Q () P)->aB (ay pw X.w) A (C8 c Z) Q E s:=by
 intro is c d Z f V ls a' s Q I l S y h B K
 induction h generalizing is c V ls a' s with
 |nil=>
  obtain rfl:is=[]:=kK B.symm;obtain rfl:c=[]:=kK I.symm;have q:aB (ay pw X.w) A (pure ()) Q E s:=bA (K s ⟨ls,a',y,S⟩);exact q
 |@cons sl d v Z m n a b D=>
  cases is with
  |nil=> cases B
  |cons i is=>
  cases c with
  |nil=> cases I
  |cons t c=>
   obtain⟨x,T,L,hi,g⟩:=l 0 i t rfl rfl;refine tX (g ?_);have u:=St.BL S;refine hQ C T L hi u y a λP H=> ?_
   obtain⟨e,r,G,S2⟩:=H;rw[bU]at S2;refine D (jW I) (λj p w M G=> ?_) S2 G (jW B) K;obtain⟨N,R,z,k,o⟩:=l (j+1) p w M G;exact⟨N,R,z,by rw[Lw];exact k,o⟩
end
section
theorem VI(h:cc)(o:af):∀p∈[(h.objs.size,o)],h.get? p.1=ah:=λp z=> by
 simp only[bM,ox,t2]at z;subst z;exact e2 (dh _)
theorem Ext.push(s:aD)(o:af):Ext [] s {s with heap:=s.heap.push o}:=⟨λa x e L=> ew o e,rfl,rfl⟩
theorem St.Z8{o':af}{N:cc}(S:St X F Y ls ((a,o)::a') s)(W:∀b x,b≠a->s.heap.get? b=U x->N.get? b=U x)(R:N.get? a=U o'):St X F Y ls ((a,o')::a') {s with heap:=N,toks:=t}:=by
 have A:=S.al (a,o) (bp _ (.head _));have L:(Y++(a,o)::a').Perm ((a,o)::(Y++a')):=dA;have V:=dN.mp ((L.map (·.1)).nodup_iff.mp S.nd);obtain⟨M,l,H,T,f⟩:=id S.ns;refine⟨S.top,S.sub,S.inv,⟨M,l,H,W _ _ (gM A.2.2) T,f⟩,S.nm,⟨λb o e n=> ?_,S.ext.gens,S.ext.os⟩,λb o e=> ?_,S.fL,S.fr,λp z=> ?_,?_,λp z=> ?_,S.mx,S.xm,S.ce,S.pn⟩
 ·by_cases q:b=a
  ·rw[q,S.nw (a,_) (.head _)]at e;cases e
  ·exact W b _ q (S.ext.keep b o e n)
 ·by_cases q:b=a
  ·rw[q,A.2.1]at e;cases e
  ·exact W b _ q (S.J b o e)
 ·have c:(Y++(a,o')::a').Perm ((a,o')::(Y++a')):=dA
  rcases bM.mp (c.mem_iff.mp z)with rfl |h
  ·exact⟨R,A.2⟩
  ·have B:=S.al p (L.mem_iff.mpr (.tail _ h))
   have k:p.1≠a:=λe=> V.1 (bz.mpr ⟨p,h,e⟩)
   exact⟨W _ _ k B.1,B.2⟩
 ·have c:(Y++(a,o')::a').Perm ((a,o')::(Y++a')):=dA
  exact(c.map (·.1)).nodup_iff.mpr (dN.mpr V)
 ·rcases bM.mp z with rfl |h
  ·exact S.nw (a,o) (.head _)
  ·exact S.nw p (.tail _ h)
theorem St.Fm{N:cc}(S:St X F Y ls ((a,o)::a') s)(W:∀b x,b≠a->s.heap.get? b=U x->N.get? b=U x):St X F Y ls a' {s with heap:=N,toks:=t}:=by
 have A:=S.al (a,o) (bp _ (.head _));have L:(Y++(a,o)::a').Perm ((a,o)::(Y++a')):=dA;have V:=dN.mp ((L.map (·.1)).nodup_iff.mp S.nd);obtain⟨M,l,H,T,f⟩:=id S.ns;refine⟨S.top,S.sub,S.inv,⟨M,l,H,W _ _ (gM A.2.2) T,f⟩,S.nm,⟨λb o e n=> ?_,S.ext.gens,S.ext.os⟩,λb o e=> ?_,S.fL,S.fr,λp z=> ?_,V.2,λp z=> S.nw p (.tail _ z),S.mx,S.xm,S.ce,S.pn⟩
 ·by_cases q:b=a
  ·rw[q,S.nw (a,_) (.head _)]at e;cases e
  ·exact W b _ q (S.ext.keep b o e n)
 ·by_cases q:b=a
  ·rw[q,A.2.1]at e;cases e
  ·exact W b _ q (S.J b o e)
 ·have B:=S.al p (L.mem_iff.mpr (.tail _ z))
  have k:p.1≠a:=λe=> V.1 (bz.mpr ⟨p,z,e⟩)
  exact⟨W _ _ k B.1,B.2⟩
structure Src(w:aV)(A:dC)(F₀:Fz)(target:aw)(ps:aa PV)(it:ai)(G:ae->MT->Prop):Prop where
 item:∀(X:Cx),X.w=w->(∀F F' mt,X.I F mt->Sub F F'->(∀p∈mt,F' p.1=none)->X.I F' mt)->∀(i:ae) (p:PV) (F:Fz) (mt:MT) (ls:aa (ao×aq ai)) (own its:MT) (s:aD) (Q:aq ai->aD->Prop) (E:ai->aD->Prop),ps[i]?=some p->Sub F₀ F->G i its->St X F mt ls (its++own) s->
  (∀v s',(∀(Q2:fO->aD->Prop) (E2:ai->aD->Prop),(∀s2 F2 its2,G (i+1) its2->St X F2 mt ls (its2++own) s2->Sub F F2->Den X.w F2 p v->Q2 () s2)->aB (ay pw X.w) A (Dl target it v) Q2 E2 s')->Q (some v) s')->
  aB (ay pw X.w) A (pyNext it) Q E s
 done:∀(X:Cx),X.w=w->∀(F:Fz) (mt:MT) (ls:aa (ao×aq ai)) (own its:MT) (s:aD) (Q:aq ai->aD->Prop) (E:ai->aD->Prop),Sub F₀ F->G ps.length its->St X F mt ls (its++own) s->
  (∀s' its',St X F mt ls (its'++own) s'->Q none s')->aB (ay pw X.w) A (pyNext it) Q E s
 self:∀(X:Cx),X.w=w->∀(F:Fz) (mt:MT) (ls:aa (ao×aq ai)) (own its:MT) (s:aD) (Q:ai->aD->Prop) (E:ai->aD->Prop),Sub F₀ F->G 0 its->St X F mt ls (its++own) s->Q it s->
  aB (ay pw X.w) A (yn it) Q E s
noncomputable def wZ(n:bL):au:=!(["enumerate","zip","dict_itemiterator","dict_reverseitemiterator","odict_iterator","itertools.zip_longest","itertools.pairwise"].contains n)
set_option tactic.hygienic true in
theorem UW{target:aw}{I:av}{T:bL}{Q:fO->aD->Prop}(R:s.heap.get? I=U o)(w:o.cls=.type T)(k:wZ T=ag)(K:Q () s):
  wpAny (ay pw X.w) A (Dl target (.ref I) v) Q E s:=by
 have b:(["enumerate","zip","dict_itemiterator","dict_reverseitemiterator","odict_iterator","itertools.zip_longest","itertools.pairwise"].contains T)=ak:=by simpa[wZ]using k
 have S:∀a,aB (ay pw X.w) A (Dl (.Tuple [] 0 ⟨0,0,0,0⟩) (.ref I) (.ref a)) Q E s:=by
  intro a;refine aM (wpAny_load R ?_);rw[w];generalize o.data=d;cases d with
  |fields Z=>
   show aB _ A (if(List.contains _ T && _)=ag then _ else _) Q E s;rw[b];exact bA K
  |_=> exact bA K
 cases target with
 |Tuple c j p=> cases v with
  |ref a=> exact S a
  |_=> exact bA K
 |List c p=> cases v with
  |ref a=> exact S a
  |_=> exact bA K
 |_=> exact bA K
theorem Src.Xn{I:av}{c:aa av}{P:ae->ai->Prop}{f:ae->cc->Prop}{M:Fz}{target:aw}{T:bL}(W:Walks pw w A I c [I] ps.length P f)(l:∀b∈c,b=I∨∃o,M b=U o)
  (r:∀i h,f i h->∃o,h.get? I=U o∧o.cls=.type T) (k:wZ T=ag) (m:∀i p v,ps[i]?=U p->P i v->Den w M p v):
  Src w A M target ps (.ref I) (λi g=> ∃o,g=[(I,o)]∧∀h,h.get? I=U o->(∀b x,M b=U x->h.get? b=U x)->f i h) where
 item:=by
  rintro X rfl D i p F Y ls a' g s Q E z H ⟨o,rfl,d⟩ S K
  have R:=(S.al (I,o) (bp _ (.head _))).1;have c':i < ps.length:=(eO.mp z).1;refine W.item i s Q E c' (d _ R λb x e=> S.J b x (H b x e)) λv N V a L G=> ?_
  obtain⟨o',B,b'⟩:=r _ _ L;have q:∀b x,b≠I->s.heap.get? b=U x->N.get? b=U x:=λb x n e=> G b x (by simpa using n) e
  have u:St X F Y ls ([(I,o')]++a') {s with heap:=N,toks:=V}:=S.Z8 q B;refine K v _ λt E2 K2=> UW B b' k ?_
  refine K2 _ F [(I,o')] ⟨o',rfl,λC Z j=> W.frame (i+1) N C L λb hb x e=> ?_⟩ u (Sub.refl F) ((m i p v z a).mono H);rcases l b hb with rfl |⟨y,O⟩
  ·rw[B]at e;cases e;exact Z
  ·have:N.get? b=U y:=u.J b y (H b y O)
   rw[this]at e;cases e;exact j b _ O
 done:=by
  rintro X rfl F Y ls a' g s Q E H ⟨o,rfl,d⟩ S K
  have R:=(S.al (I,o) (bp _ (.head _))).1;refine W.done s Q E (d _ R λb x e=> S.J b x (H b x e)) λN V G=> ?_
  exact K _ [] (St.Fm S λb x n e=> G b x (by simpa using n) e)
 self:=by
  rintro X rfl F Y ls a' g s Q E H ⟨o,rfl,d⟩ S K
  have R:=(S.al (I,o) (bp _ (.head _))).1;exact W.self 0 s Q E (d _ R λb x e=> S.J b x (H b x e)) K
theorem X2(a b:aj):CH a b 1=((b - a).toNat:aj):=by
 unfold CH;simp only[show((1:aj) > 0) by decide,o4];split <;> lia
theorem Y3{a b:aj}(D:-4611686018427387904 < a∧a < 4611686018427387904)(hb:-4611686018427387904 < b∧b < 4611686018427387904):aaQ a b 1=ag:=by
 have e:(2:aj) ^ 62=4611686018427387904:=by decide
 exact small_one (by rw[e];exact jQ D.1) (by rw[e];exact D.2) (by rw[e];exact jQ hb.1) (by rw[e];exact hb.2)
theorem Ak{j:Type}{x a:j}{R:j->Prop}(M:R x)(G:R a):∀b∈[x,a],R b:=by
 intro b hb;rcases bM.mp hb with rfl |hb
 ·exact M
 ·exact d5.mp hb ▸ G
def uc(X:Cx)(A:dC)(F:Fz)(Y:MT)(ls:aa (ao×aq ai))(a':MT)(s:aD)(target:aw)(Q:ai->aD->Prop)(ps:aa PV):Prop:=
 ∀it P g G,Src X.w A F target ps it G->G 0 g->St X F Y ls (g++a') P->(∀p∈g,s.heap.get? p.1=ah)->Ext [] s P->Q it P
section
variable {target:aw}
theorem qd{c:aa av}{P:ae->ai->Prop}{f:ae->cc->Prop}{T:bL}{m:ae}(K:uc X A F Y ls a' s target Q ps)(S:St X F Y ls a' s)(W:Walks pw X.w A s.heap.objs.size c [s.heap.objs.size] m P f)(B:m=ps.length)
  (l:∀b∈c,b=s.heap.objs.size∨∃o,F b=U o) (r:∀i h,f i h->∃o,h.get? s.heap.objs.size=U o∧o.cls=.type T) (k:wZ T=ag) (I:∀i p v,ps[i]?=U p->P i v->Den X.w F p v)
  (d:∀h,h.get? s.heap.objs.size=U o->(∀b x,F b=U x->h.get? b=U x)->f 0 h) (t:o.isFreed=ak):Q (.ref s.heap.objs.size) {s with heap:=s.heap.push o}:=
 K _ _ [(s.heap.objs.size,o)] _ (Src.Xn (B ▸ W) l r k I) ⟨o,rfl,d⟩ (S.push t) (VI s.heap o) (Ext.push s o)
theorem J1(l:aH X.w F H Z)(i:ae)(p:PV)(v:ai)(z:H[i]?=U p)(a:Z.toArray[i]?=U v):Den X.w F p v:=by
 obtain⟨u,M,G⟩:=l.get z;cases M.symm.trans (List.getElem?_toArray.symm.trans a);exact G
theorem GY{g:Type}[d4 g]{knd:KeyKind pw X.w g}{f:g->PV}{M:aa (g×ai)}(t:∀k v,knd.is k v=ag->Den X.w F (f k) v)(C:A.handled=ah)(S:St X F Y ls a' s)(e:F a=U o)(V:(a==cO)=ak)(q:cH knd o M)
  (K:uc X A F Y ls a' s target Q ((M.map (·.1)).map f)):aB (ay pw X.w) A (yn (.ref a)) Q E s:=by
 have D:=S.J _ _ e;obtain⟨x,l,H,P,L,b,c⟩:=q;refine wpAny_pyIter_dict V ⟨o,l,D,x,P,L,b,c⟩ (qd K S (Walks.dictKeys (knd:=knd) C _ a (e3 (dy D)) M H) (by rw[bx,bx]) (Ak (.inl rfl) (.inr ⟨_,e⟩)) (λi h q=> ?_) (T:="dict_keyiterator") (by decide) (λi p v z I=> ?_) (λh n j=> ⟨⟨_,n,rfl,rfl⟩,⟨o,l,j _ _ e,x,P,L,b,c⟩⟩) rfl)
 ·obtain⟨⟨o,d,G,_⟩,_⟩:=q;exact⟨o,d,G⟩
 ·obtain⟨r,y,d,G⟩:=I
  rw[eP,eP,d]at z;exact bo z ▸ t r v G
theorem T3{b:c8 kX}(C:A.handled=ah)(S:St X F Y ls a' s)(K:uc X A F Y ls a' s target Q ((b.toList.map λc=> (c.toNat:aj)).map .int)):aB (ay pw X.w) A (yn (.bytes b t)) Q E s:=by
 refine MH (qd K S (MI C _ b t) (by simp) (λb hb=> ?_) (λi h q=> ?_) (T:="bytes_iterator") (by decide) (λi p v z I=> ?_) (λh n j=> ⟨_,n,rfl,rfl⟩) rfl)
 ·exact .inl (d5.mp hb)
 ·obtain⟨o,M,G,_⟩:=q;exact⟨o,M,G⟩
 ·obtain⟨c,u,M,rfl⟩:=I
  rw[eP,eP,Array.getElem?_toList,M]at z;exact bo z ▸ .int _ _
theorem Yh{a b:aj}(z:((dO (b - a).toNat).map λ(k:ae)=> PV.int (a+(k:aj)))[i]?=U p):Den X.w F p (.int (a+(i:aj) * 1) t):=by
 rw[eP]at z;refine fp z λj o=> ?_
 have I:=(eO.mp o).1;rw[tf]at I;cases (td I).symm.trans o;rw[K5];exact .int _ _
theorem T4{I:av}{a b:aj}(e:h.get? I=U {cls:=.type "range_iterator",data:=.fields #[gQ a,gQ (CH a b 1),gQ 1]}):IsRangeIter h I (a+((0:ae):aj) * 1) (((b - a).toNat:aj) - ((0:ae):aj)) 1:=by
 rw[X2]at e;show h.get? _=_;rw[e];simp
end
theorem qe(C:A.handled=ah)(S:St X F Y ls a' s){target:aw}(d:Den X.w F p v)(hi:i2 p=U ps)
  (K:uc X A F Y ls a' s target Q ps):aB (ay pw X.w) A (yn v) Q E s:=by
 cases p with
 |list H=>
  refine d.gD λa Z m e l=> ?_
  cases hi;have D:=S.J _ _ e;refine Dx ⟨_,D,rfl,m,rfl⟩ (qd K S (C7 C _ a (e3 (dy D)) Z.toArray) l.length.symm (Ak (.inl rfl) (.inr ⟨_,e⟩)) (λi h q=> ?_) (T:="list_iterator") (by decide) (J1 l) (λh n j=> ⟨⟨_,n,rfl,rfl⟩,⟨_,j _ _ e,rfl,m,rfl⟩⟩) rfl);obtain⟨⟨o,f,G,_⟩,_⟩:=q;exact⟨o,f,G⟩
 |tup H=>
  refine d.tupK λa Z m e l=> ?_
  cases hi;have D:=S.J _ _ e;refine wpAny_pyIter_tuple ⟨_,D,rfl,m,rfl⟩ (qd K S (Walks.tuple C _ a (e3 (dy D)) Z.toArray) l.length.symm (Ak (.inl rfl) (.inr ⟨_,e⟩)) (λi h q=> ?_) (T:="tuple_iterator") (by decide) (J1 l) (λh n j=> ⟨⟨_,n,rfl,rfl⟩,⟨_,j _ _ e,rfl,m,rfl⟩⟩) rfl);obtain⟨⟨o,f,G,_⟩,_⟩:=q;exact⟨o,f,G⟩
 |cV T us=>
  refine d.y8 λa o M e V q W l=> ?_
  cases hi;subst W;exact GY (f:=.int) (λk v h=> by obtain⟨t,rfl⟩:=Value.isInt_shape h;exact .int _ _) C S e V q K
 |aW T us=>
  refine d.y9 λa o M e V q W l=> ?_
  cases hi;subst W;exact GY (f:=.str) (λk v h=> by obtain⟨t,rfl⟩:=CV h;exact .str _ _) C S e V q K
 |a8 H=>
  obtain⟨b,t,rfl,W⟩:=d.inv;cases hi;subst W;exact T3 C S K
 |rng c u=>
  obtain⟨r,N,P,R,rfl,e⟩:=d.inv;refine cg hi ?_;clear hi;intro O hi;cases hi;refine wpAny_pyIter_range (S.J _ _ e) (Y3 (Am (bu O).1) (Am (bu O).2)) (qd K S (Walks.range C _ c 1 (u - c).toNat) (by rw[bx,tf]) (λb hb=> .inl (d5.mp hb)) (λi h st=> ⟨_,st,rfl⟩) (T:="range_iterator") (by decide) (λi p v z I=> ?_) (λh n j=> ?_) rfl)
  ·obtain⟨t,rfl⟩:=I
   exact Yh z
  ·exact T4 n
 |_=> exact nn hi
theorem pW(h:isSet e=ak)(x:ai):foldedSetIterable e X.env x=pure x:=by
 cases e <;> first |rfl |cases h
theorem Au(h:ev O X.cps V (aE n X.G e)=U rv):isSet e=ak:=by
 cases e <;> first |rfl |(cases n <;> exact nn h)
end
theorem Kg{K:Type}[d4 K]{q:K×ai}{r:aa (K×ai)}{k:K}(h:q.1≠k)(v:ai):fx (q::r) k v=q::fx r k v:=by
 unfold fx;simp only[hq,cv h,sV,dG,bW h]
 split <;> rfl
theorem Kf{K:Type}[d4 K]{q:K×ai}{r:aa (K×ai)}{k:K}(h:q.1=k)(v:ai)(V:((q::r).map (·.1)).Nodup):fx (q::r) k v=(q.1,v)::r:=by
 unfold fx;have n:k∉r.map (·.1):=by rw[← h];exact(dN.mp V).1
 simp only[hq,h,decide_true,Bool.true_or,o4,dG];rw[map_store_of_not_mem r k v n]
theorem Zm{K:Type}[d4 K]:∀{r:aa (K×ai)} {k x:K} {v:ai},x∈(fx r k v).map (·.1)->x=k∨x∈r.map (·.1):=by
 intro r k x v h;unfold fx at h
 split at h
 ·rw[dM]at h
  obtain⟨q,I,e⟩:=bz.mp h;refine .inr (bz.mpr ⟨q,I,?_⟩);simp only[Function.comp]at e
  split at e <;> exact e
 ·rw[bj]at h
  rcases dc.mp h with h |h
  ·exact .inr h
  ·simp at h;exact .inl h
theorem xc{K:Type}[d4 K]:∀{M:aa (K×ai)} {k:K} {v:ai},(M.map (·.1)).Nodup->((fx M k v).map (·.1)).Nodup
 |[],k,v,_=> by simp[fx]
 |q::r,k,v,V=> by
  by_cases h:q.1=k
  ·rw[Kf h v V];exact V
  ·rw[Kg h v]
   have b:=dN.mp V;refine dN.mpr ⟨λm=> ?_,xc b.2⟩;rcases Zm m with e |m
   ·exact h e
   ·exact b.1 m
theorem zj{K:Type}[d4 K]{k:K}(d:Den w F p v):∀{M:aa (K×ai)} {Z:aa PV},(M.map (·.1)).Nodup->aH w F Z (M.map (·.2))->
  (fx M k v).map (·.1)=(cy (M.map (·.1)) Z k p).1∧aH w F (cy (M.map (·.1)) Z k p).2 ((fx M k v).map (·.2)):=by
 intro M
 induction M with
 |nil=> intro Z _ l;cases Z with |cons=> exact nomatch l.length |nil=> exact⟨rfl,show aH w F [p] [v]from .cons d .nil⟩
 |cons q r D=>
  intro Z V l;cases Z with
  |nil=> exact nomatch l.length
  |cons x Z=>
   obtain⟨a,b⟩:=l.two;by_cases h:q.1=k
   ·rw[Kf h v V,show cy ((q::r).map (·.1)) (x::Z) k p=(q.1::r.map (·.1),p::Z) by rw[dG,zi,bZ (by simpa using h)]]
    exact⟨rfl,.cons d b⟩
   ·obtain⟨e,G⟩:=D (dN.mp V).2 b
    rw[Kg h v,show cy ((q::r).map (·.1)) (x::Z) k p=(q.1::(cy (r.map (·.1)) Z k p).1,x::(cy (r.map (·.1)) Z k p).2) by rw[dG,zi,bW (by simpa using h)]];exact⟨aZ (q.1::·) e,.cons a G⟩
theorem Ft{K:Type}[d4 K]:∀{i M:aa (K×ai)} {us Z:aa PV},(M.map (·.1)).Nodup->aH w F Z (M.map (·.2))->aH w F us (i.map (·.2))->
  (tT M i).map (·.1)=(((i.map (·.1)).zip us).foldl (λa p=> cy a.1 a.2 p.1 p.2) (M.map (·.1),Z)).1∧
  aH w F (((i.map (·.1)).zip us).foldl (λa p=> cy a.1 a.2 p.1 p.2) (M.map (·.1),Z)).2 ((tT M i).map (·.2))∧((tT M i).map (·.1)).Nodup:=by
 intro i
 induction i with
 |nil=> intro M us Z V d l;cases us with |nil=> exact⟨rfl,d,V⟩ |cons=> exact nomatch l.length
 |cons q r D=>
  intro M us Z V d l;cases us with
  |nil=> exact nomatch l.length
  |cons x us=>
   obtain⟨e,G⟩:=zj (k:=q.1) l.two.1 V d;have:=D (M:=fx M q.1 q.2) (xc V) G l.two.2;rw[e]at this;exact this
theorem pI{K:Type}[d4 K]{knd:KeyKind pw w K}{M:aa (K×ai)}(d:h.DictOf knd a M):∃o,h.get? a=U o∧cH knd o M:=let⟨o,l,H,e,x,r⟩:=d;⟨o,e,x,l,H,r.1,r.2.1,r.2.2.1,r.2.2.2⟩
def uf(X:Cx)(k:ae)(O:bI)(n:ae):Prop:=
 ∀(T:aa (aq aw)) (Z:aa aw) (d:di) (t u:aa RV) (g a:aa PV) (V:aa Slot) (A:dC) (F:Fz) (Y:MT) (ls:aa (ao×aq ai)) (b' a':MT) (s:aD) (d':aQ) (Q:aa (ai×ai)->aD->Prop) (E:ai->aD->Prop),
  lT n X.G T=U d->bO O X.cps V d=U t->bO O X.cps V (br n X.G Z)=U u->b6 t=U g->b6 u=U a->T.length=Z.length->aX k A->St X F Y ls (b'++a') s->aR X.w F V (ls.map (·.2)) a'->
  (∀b P W N,St X W N ls (b'++a') P->Sub F W->aH X.w W g (b.map (·.1))->aH X.w W a (b.map (·.2))->Q b P)->aB (ay pw X.w) A (evalPairs (pairTrees T Z X.env d')) Q E s
structure Pack(X:Cx)(k:ae)(O:bI)(n:ae):Prop where
 e:∀e,cI X k O e (aE n X.G e)
 t:∀e,iU X k O e (aE n X.G e)
 s:∀es,fo X k O es (br n X.G es)
 b:ue X k O n
 r:pa X k O n
 d:uf X k O n
def yy(w:aV)(k:ae)(O:bI)(n:ae):Prop:=∀I,cp w I k O->∀X,aG X->X.w=w->X.I=I->Pack X k O n
def uo(O:bI)(c':aa PV)(e:CE):PV->aq PV:=λx=> (ev O c' [.J x] e).bind RV.bR
def yQ(O:bI)(c':aa PV)(e:CE):PV->aq PV:=λx=> (ev O c' [.J x] e).map RV.read
def yE(Z:ae->Fz->MT->Prop):Prop:=∀i F W Y,Z i F Y->Sub F W->(∀p∈Y,W p.1=ah)->Z i W Y
inductive gW(EP:PV->PV->Prop)(c:PV->au):aa PV->aa PV->Prop
 |nil:gW EP c [] []
 |skip {l d x:_}:gW EP c l d->c x=false->gW EP c (l++[x]) d
 |keep {l d x q:_}:gW EP c l d->c x=true->EP x q->gW EP c (l++[x]) (d++[q])
def o7(X:Cx)(A:dC)(Z a:Fz->MT->Prop)(elt:aw)(x:PV)(f:PV->Prop):Prop:=
 ∀(F:Fz) (Y:MT) (ls:aa (ao×aq ai)) (b' a':MT) (s:aD) (Q:ai->aD->Prop) (E:ai->aD->Prop),St X F Y ls (b'++a') s->aR X.w F [.J x] (ls.map (·.2)) a'->Z F Y->
  (∀v P W N q,St X W N ls (b'++a') P->Sub F W->Den X.w W q v->f q->a W N->Q v P)->aB (ay pw X.w) A (bt elt X.env) Q E s
def yH(X:Cx)(A:dC)(Z a:Fz->MT->Prop)(w:aa aw)(x:PV)(b:au):Prop:=
 ∀(F:Fz) (Y:MT) (ls:aa (ao×aq ai)) (b' a':MT) (s:aD) (Q:au->aD->Prop) (E:ai->aD->Prop),St X F Y ls (b'++a') s->aR X.w F [.J x] (ls.map (·.2)) a'->Z F Y->
  (∀P W N,St X W N ls (b'++a') P->Sub F W->(if b then Z W N else a W N)->Q b P)->aB (ay pw X.w) A (forIn w ag λc r=> if r=ag then do let ok ← mq c X.env (bt c X.env);pure (xr ok)else pure (xr r)) Q E s
def Nt(X:Cx)(M:Fz)(G:ae->MT->Prop)(L:av)(Z:ae->Fz->MT->Prop)(f:PV->PV->Prop)(c:PV->au)(ps:aa PV)(m:ae)(s:aD):Prop:=
 yD λi F Y V g done o=> DB (m=ps.length+1 - i) (i≤ps.length) (Sub M F) (G i g) (Rl X F Y V (g++[(L,o)]) s) (V.length=1) (bB X.w F (.list done) o) (gW f c (ps.take i) done) (done.length≤i) (Z i F Y)
theorem Pk{t:ao}(C:aG X)(x':X.G.ns=[t])(v':t∉X.G.ln){elt k' target:aw}{f':aa aw}{n':dZ}{it:ai}{L:av}{M:Fz}{G:ae->MT->Prop}{Z:ae->Fz->MT->Prop}{EP:PV->PV->Prop}{c:PV->au}
  (E:Src X.w A M target ps it G) (B':ps=[]∨∃I,target=.Name t I) (Q:∀i F W Y,Z i F Y->Sub F W->(∀p∈Y,W p.1=ah)->Z i W Y) (hT:∀i x,ps[i]?=U x->yH X A (Z i) (Z (i+1)) f' x (c x)) (hE:∀i x,ps[i]?=U x->c x=ag->o7 X A (Z i) (Z (i+1)) elt x (EP x)) (B:aY ps.length=ag)
  {F:Fz} {Y g:MT} {V:aa Slot} {o:af} (Rr:Rl X F Y V (g++[(L,o)]) s) (c':V.length=1) (H:Sub M F) (O:G 0 g) (r':Z 0 F Y) (R:bB X.w F (.list []) o) {j:iM->aD->Prop}
  (p':∀P W l' h k o' f qs,Sub M W->St X W l' h (k++([(L,o')]++f)) P->bB X.w W (.list qs) o'->gW EP c ps qs->Z ps.length W l'->j (.ok .next) P):
  gv (ay pw X.w) A (.compLoop (.ListComp elt [⟨target,k',f',0⟩] n' d') 0 it (.ref L) X.env) j s:=by
 refine codeAny_loop rfl (Nt X M G L Z EP c ps) ?_ (ps.length+1) ⟨0,F,Y,V,g,[],o,rfl,gp _,H,O,Rr,c',R,.nil,gp _,r'⟩
 rintro m s ⟨i,F,Y,V,g,done,o,rfl,hi,H,O,⟨ls,a',C',S⟩,c',R,hq,i',hj⟩
 rw[bU]at S;show aB _ A ((compTurn (.ListComp elt [⟨target,k',f',0⟩] n' d') 0 it (.ref L) X.env).onRaise (λx=> do oY x X.env;theTreesLotGoes x)) _ _ s;refine wpAny_noted ?_;rw[compTurn_list];refine aM (yv (aM ?_));rcases Cu hi with n |rfl
 ·have z:=jR n
  have hm:=List.getElem_mem n;obtain⟨I,rfl⟩:=B'.resolve_left (List.ne_nil_of_mem hm);have j':ps.take (i+1)=ps.take i++[ps[i]]:=by rw[LC,z];rfl
  have g':=LW (xG n) (jV i);refine E.item X rfl C.inv i ps[i] F Y ls ([(L,o)]++a') g s _ _ z H O S λv P KG=> ?_
  refine aM (KG _ _ λs2 F2 a h' S2 w d=> ?_);have q':St X F2 Y ls ([]++((a++[(L,o)])++a')) s2:=by rw[bU];exact S2
  have T:X.G.ns[0]?=U t:=by rw[x'];rfl
  refine aM (j3 (hQ (sl:=.J ps[i]) C T v' (by rw[c'];exact L1) q' (C'.mono w) ⟨d,rfl⟩ λs3 e=> ?_));have A':V.set 0 (.J ps[i])=[.J ps[i]]:=by
   match V,c' with
   |[y],_=> rfl
  rw[A']at e;obtain⟨b,K,e',S3⟩:=e;refine aM (hT i _ z F2 Y b _ K s3 _ _ S3 e' (Q i F F2 Y hj w λp z=> (S2.al p (bk _ z)).2.1) λs4 F4 m' S4 r b'=> ?_);cases hc:c ps[i]with
  |false=>
   rw[hc]at b';exact bA ⟨rfl,_,g',i+1,F4,m',_,a,done,o,rfl,n,(H.trans w).trans r,h',⟨b,K,e'.mono r,S4⟩,rfl,(R.mono w).mono r,j' ▸ hq.skip hc,jU i',b'⟩
  |true=>
   rw[hc]at b';refine aM (aM (hE i _ z hc F4 m' b _ K s4 _ _ S4 (e'.mono r) b' λu s5 F5 E' q S5 D du s' u'=> ?_));have S6:=S5.perm (f:=(L,o)::(a++K)) (by rw[bU];exact dA);obtain⟨us,m,rfl,l⟩:=(R.mono (w.trans (r.trans D)));have t':=S6.al (L,_) (bp _ (.head _));refine aM (Dv ⟨m,t'.1⟩ (λN y' z'=> ?_) (by rw[hW,← l.length];exact(have:=fY B;by lia)));obtain⟨D',w'⟩:=y';have S8:=(S6.upd z' w').perm (f:=(a++[(L,_)])++K) (by rw[bU];exact dA.symm);exact bA (bA ⟨rfl,_,g',i+1,F5,E',_,a,done++[q],_,rfl,n,((H.trans w).trans r).trans D,h',⟨b,K,e'.mono (r.trans D),S8⟩,rfl,⟨us++[u],D',by simp[iN],l.append (.cons du .nil)⟩,j' ▸ hq.keep hc s',by rw[da];exact iL i',u'⟩)
 ·rw[Cq]at hq
  refine E.done X rfl F Y ls ([(L,o)]++a') g s _ _ H O S λP k S'=> ?_
  exact bA (p' P F Y ls k o a' done H S' R hq hj)
theorem Pg{a fc:PV->aq PV}:∀{ps n:aa PV},compLoop a fc ps=U n->∀x∈ps,bH λv b=> bG (fc x=U v) (truthy v=U b) ((b=ag->∃q,a x=U q)):=by
 intro ps
 induction ps with
 |nil=> intro n _ x T;exact nm T
 |cons p r D=>
  intro n h x T;refine aC h ?_;clear h;intro c w h;refine aC h ?_;clear h;intro t l h;have f:(t=ag->∃q,a p=U q)∧∃o,compLoop a fc r=U o:=by
   cases t with
   |true=> exact aC h λq M h=> bT h λd G L=> ⟨λL=> ⟨q,M⟩,d,G⟩
   |false=> exact⟨λe=> (nf e),n,h⟩
  obtain⟨M,o,G⟩:=f;rcases bM.mp T with rfl |T
  ·exact⟨c,t,w,l,M⟩
  ·exact D G x T
theorem E0{a fc:PV->aq PV}{x:PV}{e:aa PV}(G:compLoop a fc [x]=U e):∀{l d:aa PV},compLoop a fc l=U d->compLoop a fc (l++[x])=U (d++e):=by
 intro l
 induction l with
 |nil=> intro d h;cases h;exact G
 |cons p r D=>
  intro d h;refine aC h ?_;clear h;intro c w h;refine aC h ?_;clear h;intro t u h;show(fc p).bind _=_;rw[w];show(truthy c).bind _=_;rw[u];cases t with
  |false=> exact D h
  |true=>
   refine aC h ?_;clear h;intro q M h;refine bT h ?_;clear h;intro n j h;subst h;show(a p).bind _=_;rw[M];show(compLoop a fc (r++[x])).map _=_;rw[D j];rfl
def cB(fc:PV->aq PV)(x:PV):au:=(fc x).bind truthy==U ag
theorem um{fc:PV->aq PV}{x v:PV}{b:au}(M:fc x=U v)(G:truthy v=U b):cB fc x=b:=by
 rw[cB,M];show(truthy v==U ag)=b;rw[G];cases b <;> rfl
theorem Pf{a fc:PV->aq PV}{l d:aa PV}(h:gW (λx q=> a x=U q) (cB fc) l d):(∀x∈l,bH λv b=> fc x=U v∧truthy v=U b)->compLoop a fc l=U d:=by
 have o:∀{x v:PV} {b:au},fc x=U v->truthy v=U b->compLoop a fc [x]=bif b then(a x).bind (λq=> U [q])else U []:=λ{x v b} M G=> by
  show(fc x).bind _=_;rw[M];show(truthy v).bind _=_;rw[G];rfl
 induction h with
 |nil=> exact λL=> rfl
 |@skip l d x _ w D=>
  intro c;obtain⟨v,b,M,G⟩:=c x (bp _ (.head _));rw[um M G]at w;subst w;have:=E0 (o M G) (D λy E=> c y (bk _ E))
  rwa [fu]at this
 |@keep l d x q _ w f D=>
  intro c;obtain⟨v,b,M,G⟩:=c x (bp _ (.head _));rw[um M G]at w;subst w;exact E0 ((o M G).trans (by rw[f];rfl)) (D λy E=> c y (bk _ E))
theorem y3:∀(g:aa (ao×tC)) (L:aa (ao×av)),(∀q∈g,q.2=.free->∃c,D.cells.lookup q.1=U c)->
  (forIn g L (λ(x:ao×tC) (c':aa (ao×av))=> (if x.2==.free then do let c ← cellOf D x.1;pure (xr ((x.1,c)::c'))else pure (xr c'):d8 (ForInStep (aa (ao×av))))))=
   (pure ((((g.filter λp=> p.2==.free).map (·.1)).reverse.map λx=> (x,(D.cells.lookup x).getD 0))++L):d8 (aa (ao×av)))
 |[],L,_=> rfl
 |(x,kd)::r,L,h=> by
  rw[List.forIn_cons];by_cases W:kd=.free
  ·subst W
   obtain⟨c,w⟩:=h (x,.free) (.head _) rfl;have e:cellOf D x=pure c:=by unfold cellOf;rw[w]
   simp only[DA,o4,e,pure_bind];rw[y3 r _ λq I=> h q (.tail _ I)];simp[w]
  ·have hb:(kd==Mx)=ak:=by simpa using W
   simp only[hb,sU,o3,pure_bind];rw[y3 r _ λq I=> h q (.tail _ I)];simp[hb]
theorem EV{a:dZ}(h:∀q∈a.names,q.2=.free->∃c,D.cells.lookup q.1=U c):
  Dg a D=pure ((eD a).reverse.map λx=> (x,(D.cells.lookup x).getD 0)):=by
 have:=y3 a.names [] h;rw[fu]at this;unfold Dg;exact(bind_pure _).trans this
theorem U2{f:ao->av}:∀{l:aa ao},x∈l->(l.map λx=> (x,f x)).lookup x=U (f x):=by
 intro l
 induction l with
 |nil=> intro h;exact nm h
 |cons y r D=>
  intro h;rw[dG,l5];by_cases e:x=y
  ·subst e;simp
  ·have hb:(x==y)=ak:=by simpa using e
   rw[hb];exact D ((bM.mp h).resolve_left e)
theorem DZ:∀{l:aa ao},(∀x∈l,(idxOf x G.cs).isSome=ag)->∀i:ae,(gA (l.map λx=> idxOf x G.cs))[i]?=(l[i]?).bind λx=> idxOf x G.cs:=by
 intro l
 induction l with
 |nil=> intro _ i;rfl
 |cons y r D=>
  intro h i;obtain⟨j,o⟩:=xJ.mp (h y (.head _));rw[dG,o];cases i with
  |zero=> exact o.symm
  |succ i=> exact D (λx T=> h x (.tail _ T)) i
theorem NO{l:aa ao}(h:∀x∈l,(idxOf x G.cs).isSome=ag)(e:l[i]?=U x):∃j,(gA (l.map λx=> idxOf x G.cs))[i]?=U j∧idxOf x G.cs=U j:=by
 obtain⟨j,o⟩:=xJ.mp (h x (f5 e));exact⟨j,by rw[DZ h,e];exact o,o⟩
theorem NP{l:aa ao}(h:∀x∈l,(idxOf x G.cs).isSome=ag){j:ae}(e:(gA (l.map λx=> idxOf x G.cs))[i]?=U j):∃x,l[i]?=U x∧idxOf x G.cs=U j:=by
 rw[DZ h]at e;exact aC e λx M f=> ⟨x,M,f⟩
def BU(X:Cx)(H:MT):Fz->MT->Prop:=λF Y=> X.I F Y∧Y.map (·.1)=H.map (·.1)
def n9(X:Cx)(D:dZ):aa PV:=(gA ((eD D).map λx=> idxOf x X.G.cs)).map λi=> (X.cps[i]?).getD PV.none
theorem St.off{N:cc}(S:St X F Y ls a' s)(h:dE (a≠X.env.locals) (F a=ah) ((∀p∈Y++a',p.1≠a)) (X.s₀.heap.get? a=ah))(g:gO a s.heap N):St X F Y ls a' {s with heap:=N}:=by
 obtain⟨M,G,j,B⟩:=h;refine⟨S.top,S.sub,S.inv,S.ns.sameBut g M.symm,S.nm,⟨λb o e n=> ?_,S.ext.gens,S.ext.os⟩,λb o e=> ?_,S.fL,S.fr,λp z=> ⟨(g.2 _ (j p z)).trans (S.al p z).1,(S.al p z).2⟩,S.nd,S.nw,S.mx,S.xm,S.ce,S.pn⟩
 ·refine(g.2 b λq=> ?_).trans (S.ext.keep b o e n)
  rw[q,B]at e;cases e
 ·refine(g.2 b λq=> ?_).trans (S.J b o e)
  rw[q,G]at e;cases e
def yG(X:Cx)(A:dC)(elt:aw)(w:aa aw)(D:dZ)(t:ao)(H:MT)(Z:ae->Fz->MT->Prop)(f:PV->PV->Prop)(c:PV->au)(ps:aa PV):Prop:=
 ∀a,aG a->a.w=X.w->a.I=BU X H->a.G=⟨jy D.names,[t],eD D,X.G.gs,[]⟩->a.cps=n9 X D->(∀i x,ps[i]?=U x->yH a A (Z i) (Z (i+1)) w x (c x))∧∀i x,ps[i]?=U x->c x=ag->o7 a A (Z i) (Z (i+1)) elt x (f x)
theorem BF{D:dZ}{t:ao}(S:jz G D t 0=ag):j5 (D.kind=.function) (∀x∈D.names,x.2≠.cell) (∀x∈D.names,x.2=.local->D.names.lookup x.1=U .local)
  (∀x∈eD D,bG (G.kd.lookup x=U .cell) ((idxOf x G.cs).isSome=ag) ((x==("__debug__":ao))=ak)) ((jy D.names).lookup t=U .local) ((t==("__debug__":ao))=ak):=by
 simp only[jz,cP,fQ,eh,jf,hV]at S;obtain⟨⟨⟨⟨_,b⟩,a⟩,n⟩,d⟩:=S;refine⟨b,λx T=> (a x T).1.1,λx T I=> (a x T).1.2.resolve_left λh=> h I,λx T=> ?_,n,d⟩;obtain⟨q,r,rfl⟩:=bz.mp T;have O:=l6.mp r;have:=(a q O.1).2.resolve_left λh=> h (by simpa using O.2)
 exact⟨this.1.1,this.1.2,this.2⟩
theorem yZ{D:dZ}(C:aG X)(t:∀x∈eD D,(idxOf x X.G.cs).isSome=ag)(x:ao)(T:x∈eD D):bH λj c=> bG (idxOf x X.G.cs=U j) (X.cad[j]?=U c) (X.env.cells.lookup x=U c):=by
 obtain⟨j,o⟩:=xJ.mp (t x T);obtain⟨c,M,G⟩:=C.cs j x (mZ o);exact⟨j,c,o,M,G⟩
def oa(X:Cx)(D:dZ)(t:ao)(L:av)(r:aD)(F1:Fz)(H:MT):Cx:=
 {w:=X.w,env:=compEnvC D ((eD D).reverse.map λx=> (x,(X.env.cells.lookup x).getD 0)) L X.env,G:=⟨jy D.names,[t],eD D,X.G.gs,[]⟩,cps:=n9 X D,cad:=((gA ((eD D).map λx=> idxOf x X.G.cs)).map λi=> (X.cad[i]?).getD 0),s₀:=r,F₀:=F1,ex:=H.map (·.1),I:=BU X H}
theorem Zq{D:dZ}{t:ao}{L:av}{r:aD}{F1:Fz}{H:MT}(C:aG X)(S:jz X.G D t 0=ag)(A:r.heap.get? L=ah):aG (oa X D t L r F1 H):=by
 obtain⟨b,_,_,l,E,d⟩:=BF S;have f:∀x∈eD D,X.G.kd.lookup x=U .cell:=λx T=> (l x T).casesOn λa _ _=> a
 have h:∀x∈eD D,(idxOf x X.G.cs).isSome=ag:=λx T=> (l x T).casesOn λ_ a _=> a
 have o:∀x∈[t],x=t:=λx T=> d5.mp T
 refine⟨b,?_,C.gl,C.bl,λx T=> o x T ▸ E,dN.mpr ⟨λm=> nm m,gm⟩,C.gs,λi x hi=> ?_,λx T=> (l x T).casesOn λ_ _ a=> a,λx T=> o x T ▸ d,A,λF W Y M G g=> ⟨C.inv F W Y M.1 G g,M.2⟩,λq I=> nm I⟩
 ·show D.names.map (λ(n,k)=> if(k==.free && X.env.scope.kind==.function && X.env.kindOf n==U .cell)then(n,.cell)else(n,k))=jy D.names
  unfold jy;refine Ck λq I=> ?_
  obtain⟨n,kd⟩:=q;by_cases e:kd=.free
  ·subst e
   have O:=f n (bz.mpr ⟨(n,.free),l6.mpr ⟨I,rfl⟩,rfl⟩);simp[C.fn,eM C,O]
  ·have hb:(kd==Mx)=ak:=by simpa using e
   simp[hb]
 ·have T:x∈eD D:=f5 hi
  obtain⟨j,c,M,G,g⟩:=yZ C h x T;obtain⟨K,B,N⟩:=NO h hi;obtain rfl:=bo (M.symm.trans N);refine⟨c,?_,?_⟩
  ·show((gA _).map _)[i]?=U c
   rw[eP,B];exact aZ U (show(X.cad[j]?).getD 0=c by rw[G];rfl)
  ·show((eD D).reverse.map _).lookup x=U c
   rw[U2 (Lz.mpr T),g];rfl
theorem Ext.As{r i:aD}(h:Ext [] r i)(D:i.heap.get? a=ah):r.heap.get? a=ah:=by
 cases e:r.heap.get? a with
 |none=> rfl
 |some o=> rw[h.keep a o e (λm=> nm m)]at D;exact nn D.symm
theorem St.HQ(S:St X F Y ls a' s)(D:s.heap.get? a=ah):F a=ah:=by
 cases e:F a with
 |none=> rfl
 |some o=> rw[S.J a o e]at D;exact nn D.symm
theorem Zs{sc:dZ}{t:ao}{L D:av}{g:MT}{r W:aD}{l:cc}{V:fM}(C:aG X)(S:jz X.G sc t 0=ag)(S1:St X F Y ls a' r)(S2:St X F Y ls (g++a') W)(N:∀p∈g,r.heap.get? p.1=ah)(f:Ext [] r W)
  (O:∀b o,W.heap.get? b=U o->l.get? b=U o) (b':l.get? D=U o) (u:l.Ns L λx=> ([]:aa (ao×ai)).reverse.lookup x) (d:W.heap.get? L=ah) (R:W.heap.get? D=ah) (s:D≠L):
  St (oa X sc t L r F Y) F Y [(t,ah)] ((g++[(D,o)])++[]) {W with heap:=l,toks:=V}:=by
 rw[fu];have Z:=λp (z:p∈Y++g)=> S2.al p (bU Y g a' ▸ bk a' z)
 refine⟨S1.top,Sub.refl _,⟨S1.inv,rfl⟩,?_,rfl,⟨λa o e ω=> O _ _ (f.keep a o e (λm=> nm m)),f.gens,f.os⟩,λa o e=> O _ _ (S2.J a o e),S2.HQ d,λa o e=> .inl e,λp z=> ?_,?_,λp z=> ?_,λp z=> .inl (cY z),λa ha=> ha,λi c w=> ?_,λq I=> nm I⟩
 ·have e:lk [(t,ah)]=λx=> ([]:aa (ao×ai)).reverse.lookup x:=by
   funext x
   show(if x=t then ah else ah)=ah
   split <;> rfl
  rw[e];exact u
 ·rw[← bU]at z
  rcases dc.mp z with z |z
  ·have B:=Z p z
   refine⟨O _ _ B.1,B.2.1,λe=> ?_⟩;have:W.heap.get? L=U p.2:=(show p.1=L from e) ▸ B.1;exact nn (d.symm.trans this)
  ·obtain rfl:=d5.mp z
   exact⟨b',S2.HQ R,s⟩
 ·have A:=S2.nd
  rw[← bU,bj]at A⊢;refine c2.mpr ⟨(c2.mp A).1,by simp,λa ha b hb e=> ?_⟩;obtain rfl:=d5.mp hb;obtain⟨p,z,rfl⟩:=bz.mp ha;have B:=(Z p z).1;rw[e,R]at B;exact nn B
 ·rcases dc.mp z with z |z
  ·exact N p z
  ·obtain rfl:=d5.mp z
   exact f.As R
 ·obtain⟨_,_,_,hf,_,_⟩:=BF S
  have h:∀x∈eD sc,(idxOf x X.G.cs).isSome=ag:=λx T=> (hf x T).casesOn λ_ a _=> a
  have P:((gA ((eD sc).map λx=> idxOf x X.G.cs)).map λi=> (X.cad[i]?).getD 0)[i]?=U c:=w;rw[eP]at P;refine bT P λj hj e=> ?_
  obtain⟨x,T,Q⟩:=NP h hj;obtain⟨K,k,M,G,h3⟩:=yZ C h x (f5 T);obtain rfl:=bo (M.symm.trans Q);rw[G]at e;obtain rfl:k=c:=e;obtain⟨v,oc,E,n,e2,y,H⟩:=S1.ce K k G;refine⟨v,oc,E,n,e2,?_,H⟩;show((gA _).map _)[i]?=U E;rw[eP,hj];exact aZ U (show(X.cps[K]?).getD PV.none=E by rw[y];rfl)
theorem VJ{a l:cc}{L:av}(c:h.push {cls:=.type "list",dict:=ah,data:=.seq ([]:aa ai).toArray}=a)(F:L=h.objs.size+1)(m:gO L (a.push o) l):
  j4 (∀b o,h.get? b=U o->l.get? b=U o) (l.get? h.objs.size=U (iN #[] 0)) (h.get? L=ah) (h.get? h.objs.size=ah) (h.objs.size≠L):=by
 subst c F;have d:h.objs.size≠h.objs.size+1:=e3 (jV _);exact⟨λb o e=> m.extBut b o (e3 (xG (dy e))) (ew _ (ew _ e)),m.extBut _ _ d (ew _ (fh _ rfl)),e2 (hX _),e2 (dh _),d⟩
theorem Zr{v:dZ}{t:ao}{L D:av}{W:Fz}{N g f:MT}{h:aa (ao×aq ai)}{r P:aD}(S1:St X F Y ls a' r)(u:St (oa X v t L r F Y) W N h (g++([(D,o)]++f)) P)(d:r.heap.get? L=ah)(R:r.heap.get? D=ah)(s:D≠L):
  bG (dE (L≠X.env.locals) (W L=ah) (∀p∈N++([(D,o)]++a'),p.1≠L) (X.s₀.heap.get? L=ah)) (St X W N ls ([(D,o)]++a') P) (Sub F W):=by
 have B:=S1.call ⟨u.ext.keep,u.ext.gens,u.ext.os⟩ u.sub u.inv.1 u.J u.fr u.inv.2 λp z=> have b:=u.al p (bk _ z);⟨b.1,b.2.1⟩
 have i:(D,o)∈g++([(D,o)]++f):=bp _ (.head _);have j:=u.al (D,o) (bp _ i);have c:∀a,r.heap.get? a=ah->a≠X.env.locals:=λa e q=> by
  obtain⟨M,_,_,T,_⟩:=S1.ns;rw[← q,e]at T;exact nn T
 have x:∀a,r.heap.get? a=ah->∀p∈a',p.1≠a:=λa e p z q=> by
  have:=(S1.al p (bp _ z)).1;rw[q,e]at this;exact nn this
 refine⟨⟨c _ d,u.fL,λp z=> ?_,S1.hP d⟩,B.adopt j.1 j.2.1 (c _ R) (λm=> ?_) (S1.hP R),u.sub⟩
 ·rcases dc.mp z with z |z
  ·exact(u.al p (bk _ z)).2.2
  ·rcases bM.mp z with rfl |z
   ·exact s
   ·exact x _ d p z
 ·rw[bj]at m
  rcases dc.mp m with m |m
  ·have V:=u.nd
   rw[bj]at V;exact(c2.mp V).2.2 _ m _ (cY i) rfl
  ·obtain⟨p,z,q⟩:=bz.mp m
   exact x _ R p z q
theorem EZ(C:aG X){elt c' target:aw}{t:ao}{fp:aQ}{w:aa aw}{D:dZ}{h':aq (ai->d8 fO)}(S:jz X.G D t 0=ag)(w':isSet c'=ak)(hh:A.handled=ah)
  (i':aB (ay pw X.w) A (bt c' X.env) (λv P=> t9 λF1 H b' p ps=> ∃Z:ae->Fz->MT->Prop,bH λEP c=> DC (St X F1 H ls (b'++a') P) (Den X.w F1 p v) (i2 p=U ps) (aY ps.length=ag) ((ps=[]∨∃I,target=.Name t I)) (Z 0 F1 H) (yE Z) (yG X A elt w D t H Z EP c ps) ((∀v P W N t n a m,P.heap.Ns a m->(dE (a≠X.env.locals) (W a=ah) ((∀p∈N++(t++(b'++a')),p.1≠a)) (X.s₀.heap.get? a=ah))->St X W N ls (t++(b'++a')) P->Sub F1 W->gW EP c ps n->Z ps.length W N->cq X.w W a' (.own (.list n)) v t->compPost (ay pw X.w) A E h' Q v a (.ok .next) P))) E s):
  wpAny (ay pw X.w) A (MS (.ListComp elt [⟨target,c',w,0⟩] D d') D X.env fp (newList []) ak (bt c' X.env) h') Q E s:=by
 obtain⟨n',V,p',hf,_,_⟩:=BF S;have m':=EV λq hq e=> by
  obtain⟨j,c,_,_,h⟩:=yZ C (λx T=> (hf x T).casesOn λ_ a _=> a) q.1 (bz.mpr ⟨q,l6.mpr ⟨hq,by simp[e]⟩,rfl⟩);exact⟨c,h⟩
 refine wpAny_comprehension_free rfl (pW w') m' n' p' (fN i' (λv r HH=> ?_) λω ω h=> h);clear m' p' hf i';obtain⟨F1,H,b',p,ps,Z,EP,c,S1,d,v',B,x',s',hJ,HE,K⟩:=HH;refine qe (target:=target) hh S1 d v' λy' i g G SR O S2 u' g'=> ?_
 refine o2 (wpAny_newFunctionEnv V (by intro y hy;exact nm hy) (λl e' f'=> ?_) n');dsimp only at e' f'⊢;generalize l':i.heap.push {cls:=.type "list",dict:=ah,data:=.seq ([]:aa ai).toArray}=H2 at e' f'⊢;have F:H2.objs.size=i.heap.objs.size+1:=by rw[← l',tA]
 generalize H2.objs.size=L at F e' f'⊢;obtain⟨A',t',nL,R,k'⟩:=VJ l' F f';have r':=g'.As nL;have b:=Zq (F1:=F1) (H:=H) C S r';obtain⟨hT,u⟩:=HE _ b rfl rfl rfl rfl;have M:=Zs (V:=i.toks+([]:aa (ao×ai)).length) C S S1 S2 u' g' A' t' e' nL R k';have q':gv (ay pw (oa X D t L r F1 H).w) A (.compLoop (.ListComp elt [⟨target,c',w,0⟩] D d') 0 y' (.ref i.heap.objs.size) (oa X D t L r F1 H).env) (compPost (ay pw X.w) A E h' Q (.ref i.heap.objs.size) L) {i with heap:=l,toks:=i.toks+([]:aa (ao×ai)).length}:=by
  refine Pk b rfl (λm=> nm m) SR x' hJ hT u B ⟨[(t,ah)],[],.un .nil,M⟩ rfl (Sub.refl _) O s' ⟨[],0,rfl,.nil⟩ λP W N z' k o' f n B' j' ow z o=> ?_
  obtain⟨x1,Y,x3⟩:=Zr S1 j' r' (g'.As R) k';exact K (.ref i.heap.objs.size) _ W N [(i.heap.objs.size,o')] n L (lk z') j'.ns x1 Y B' z o (.own ow)
 refine codeAny_compStart_list q' (SR.self (oa X D t L r F1 H) rfl F1 H [(t,ah)] ([(i.heap.objs.size,iN #[] 0)]++[]) g _ _ _ (Sub.refl _) O ?_ q');rw[← bU];exact M
theorem y5(C:aG X){elt k target:aw}{t:ao}{w:aa aw}{D:dZ}(S:jz X.G D t 0=ag)(i:isSet k=ak)(z:A.handled=ah)
  (y:aB (ay pw X.w) A (bt k X.env) (λv P=> t9 λF1 H b' p ps=> ∃Z:ae->Fz->MT->Prop,bH λf c=> DC (St X F1 H ls (b'++a') P) (Den X.w F1 p v) (i2 p=U ps) (aY ps.length=ag) ((ps=[]∨∃I,target=.Name t I)) (Z 0 F1 H) (yE Z) (yG X A elt w D t H Z f c ps) ((∀v P W x t n,St X W x ls (t++(b'++a')) P->Sub F1 W->gW f c ps n->Z ps.length W x->cq X.w W a' (.own (.list n)) v t->Q v P))) E s):
  wpAny (ay pw X.w) A (bt (.ListComp elt [⟨target,k,w,0⟩] D d') X.env) Q E s:=by
 rw[eval_ListComp];refine EZ (ls:=ls) (a':=a') C S i z (fN y (λv r d=> ?_) λL L h=> h);obtain⟨F1,H,b',p,ps,Z,f,c,M,G,j,B,l,Y,b,q,K⟩:=d;exact⟨F1,H,b',p,ps,Z,f,c,M,G,j,B,l,Y,b,q,λv P W x t n a m O R u T g o rv=> ⟨m,O,λN F=> K v _ W x t n (u.off R F) T g o rv⟩⟩
theorem SW{l:aa kN}{g:kN}(h:zG l=U g):l=[g]:=by
 cases l with
 |nil=> exact nn h
 |cons x r=> cases r <;> first |(cases h;rfl) |exact nn h
theorem qs{q:ao×aQ}(h:iE e=U q):e=.Name q.1 q.2:=
 Mj.elim (motive_1:=λe=> iE e=U q->e=.Name q.1 q.2) e (pg h) (λx p h=> by obtain rfl:=bo (h);rfl) h
theorem Xx(z:cp X.w X.I k O)(Y:MT):cp X.w (BU X Y) k O:=λf args r e=>
 ⟨(z f args r e).1,λF Y Z A s Q E R T I D B o V KK=> (z f args r e).2 F Y Z A s Q E R T I.1 D B o V λv P W N t n j y H x q a u=> KK v P W N t n j ⟨y,q.trans I.2⟩ H x q a u⟩
theorem cond_of{f:aw->CE}{w:aa aw}(h:bb w.length 2=ag):(w=[]∧mV f w=.lit (.bool ag))∨∃c,w=[c]∧mV f w=f c:=by
 cases w with
 |nil=> exact .inl ⟨rfl,rfl⟩
 |cons c r=>
  cases r with
  |nil=> exact .inr ⟨c,rfl,rfl⟩
  |cons=> exact bf (dg h) (by simp)
theorem Pj{g:kN}{t:aw}(M:g.target=t)(G:g.is_async=0):g=⟨t,g.iter,g.ifs,0⟩:=by
 subst M;cases g;cases G;rfl
theorem Zw{cond:CE}{w:aa aw}{x v:PV}{b:au}(P:Pack X k O n)(R:aX k A)(f:(w=[]∧cond=.lit (.bool ag))∨∃c,w=[c]∧cond=aE n X.G c)(M:yQ O X.cps cond x=U v)(G:truthy v=U b):
  yH X A (λ_ _=> eR) (λ_ _=> eR) w x b:=by
 intro F Y ls b' a' s Q E S y _ K;rcases f with ⟨rfl,rfl⟩ |⟨a,rfl,rfl⟩
 ·obtain rfl:v=.bool ag:=(bo M).symm
  obtain rfl:ag=b:=bo G;exact Dz (K s F Y S (Sub.refl _) trivial)
 ·refine bT M ?_;clear M;intro g d M
  subst M;exact wpAny_tests_one (P.t a _ g b A F Y ls b' a' s _ _ d G R S y λm o e S4 r=> K m o e S4 r (by cases b <;> exact trivial))
theorem Rr{elt:aw}{x q:PV}(C:aG X)(P:Pack X k O n)(R:aX k A)(h:uo O X.cps (aE n X.G elt) x=U q):o7 X A (λ_ _=> eR) (λ_ _=> eR) elt x (λq=> uo O X.cps (aE n X.G elt) x=U q):=by
 intro F Y ls b' a' s Q E S y _ K;exact aC h λg d B=> (P.e elt).bR C d B R S y λu f o a t D b=> K u f o a q t D b h trivial
theorem Pl(C:aG X)(HO:cp X.w X.I k O)(HA:yy X.w k O n)(P:Pack X k O n)(elt:aw)(L:aa kN)(D:dZ)(d':aQ):cI X k O (.ListComp elt L D d') (aE (n+1) X.G (.ListComp elt L D d')):=by
 intro V rv A F Y ls b' a' s Q E h R S y K;replace h:ev O X.cps V ((zG L).elim .bad λg=> (iE g.target).elim .bad λt=> bif jz X.G D t.1 g.is_async && bb g.ifs.length 2 then .comp (aE n (jM X.G D t.1) elt) (aE n X.G g.iter) (mV (aE n (jM X.G D t.1)) g.ifs) (gA ((eD D).map λx=> idxOf x X.G.cs))else .bad)=U rv:=h;refine lg h ?_;clear h;intro g hg h;refine lg h ?_;clear h;intro t l h;refine zr h ?_;clear h;intro c' h;refine aC h ?_;clear h;intro r f h;refine aC h ?_;clear h;intro p hp h;refine aC h ?_;clear h;intro ps g' h;refine cg h ?_;clear h;intro B h;refine bT h ?_;clear h;intro h' I h;obtain⟨c',f'⟩:=bu c';have e':=gx (bu (bu (bu (bu c').1).1).1).1;rw[SW hg,Pj (qs l) e'];have Z:∀x∈ps,bH λv b=> bG (yQ O (n9 X D) (mV (aE n (jM X.G D t.1)) g.ifs) x=U v) (truthy v=U b) (b=ag->∃q,uo O (n9 X D) (aE n (jM X.G D t.1) elt) x=U q):=Pg I
 refine y5 (ls:=ls) (a':=a') C (e' ▸ c') (Au f) R.hd ((P.e g.iter).bR C f hp R S y λv s1 F1 H S1 sb d=> ?_);refine⟨F1,H,b',p,ps,λ_ _ _=> eR,λx q=> uo O (n9 X D) (aE n (jM X.G D t.1) elt) x=U q,cB (yQ O (n9 X D) (mV (aE n (jM X.G D t.1)) g.ifs)),S1,d,g',B,.inr ⟨_,rfl⟩,trivial,λ_ _ _ _ _ _ _=> trivial,λa C' hw hI hG m=> ?_,λv s' W N t o u i z _ rv=> ?_⟩
 ·have c:=HA a.I (by rw[hI];exact Xx HO _) a C' hw rfl
  replace hG:a.G=jM X.G D t.1:=hG;rw[← hG,← m]at Z⊢;refine⟨λ_ x T=> ?_,λ_ x T w=> ?_⟩
  ·obtain⟨v,b,M,G,_⟩:=Z x (f5 T)
   rw[um M G];exact Zw c R (cond_of f') M G
  ·obtain⟨v,b,M,G,j⟩:=Z x (f5 T)
   rw[um M G]at w;exact(j w).elim λq j=> Rr C' c R j
 ·have e:=Pf z λx T=> let⟨v,b,M,G,_⟩:=Z x T;⟨v,b,M,G⟩
  obtain rfl:h'=o:=bo (I.symm.trans e);subst h;exact K v s' W N t u (sb.trans i) rv
theorem aar:uf X k O 0:=λL L L L L L L L L L L L L L L L L L h=> nn h
theorem aaq(C:aG X)(D:∀e,cI X k O e (aE n X.G e))(HD:uf X k O n):uf X k O (n+1):=by
 intro ks Z d t u g j' V A F Y ls b' a' s d' Q E W f a h m I R S y K;cases ks with
 |nil=>
  cases Z with
  |cons=> cases I
  |nil=> cases W;cases f;cases a;cases h;cases m;exact pairTrees_nil_walk (K [] s F Y S (Sub.refl F) .nil .nil)
 |cons o r=>
  cases Z with
  |nil=> cases I
  |cons v Z=>
   refine aC W ?_;clear W;intro e ho W;refine bT W ?_;clear W;intro q hq W;subst W ho;refine aC f ?_;clear f;intro kp M f;refine bT f ?_;clear f;intro c' G f;subst f;refine aC a ?_;clear a;intro vp j a;refine bT a ?_;clear a;intro h' h4 a;subst a;refine aC h ?_;clear h;intro pk N h;refine bT h ?_;clear h;intro f' h6 h;subst h;refine aC m ?_;clear m;intro pv b m;refine bT m ?_;clear m;intro g' h8 m;subst m;refine pairTrees_cons_walk ((D e).bR C M N R S y λP s1 F1 H S1 B l=> ?_);refine(D v).bR C j b R S1 (y.mono B) λvv i p e' S2 w d2=> ?_
   refine HD r Z q c' h' f' g' V A p e' ls b' a' i d' _ E hq G h4 h6 h8 (jW I) R S2 (y.mono (B.trans w)) λi' s3 T L S3 x z c=> ?_
   exact K _ s3 T L S3 (B.trans (w.trans x)) (.cons (l.mono (w.trans x)) z) (.cons (d2.mono x) c)
theorem ZR:∀{n:ae} {T:aa (aq aw)} {d:di},lT n G T=U d->T.all (·.isSome)=ag:=by
 intro n
 induction n with
 |zero=> intro T d h;exact nn h
 |succ n D=>
  intro T d h;cases T with
  |nil=> rfl
  |cons o r=> exact aC h λe R h=> bT h λq I h=> by rw[Lb,R,D I];rfl
theorem carry{K:Type}[d4 K]{knd:KeyKind pw w K}{mk:K->PV}(W:∀{k v},Den w F (mk k) v->knd.is k v=ag):∀{l:aa K} {b:aa (ai×ai)},aH w F (l.map mk) (b.map (·.1))->∃M:aa (K×ai),bG (xT knd b M) (M.map (·.1)=l) (M.map (·.2)=b.map (·.2)):=by
 intro l
 induction l with
 |nil=>
  intro b h;cases b with
  |nil=> exact⟨[],trivial,rfl,rfl⟩
  |cons p r=> exact nomatch h.length
 |cons k l D=>
  intro b h;cases b with
  |nil=> exact nomatch h.length
  |cons p r=>
   obtain⟨M,d,G,j⟩:=D h.two.2;exact⟨(k,p.2)::M,⟨W h.two.1,rfl,d⟩,aZ (k::·) G,aZ (p.2::·) j⟩
theorem OP{g:aa PV}{l:aa ao}{b:aa (ai×ai)}(h:strs? g=U l)(d:aH w F g (b.map (·.1))):∃M:aa (ao×ai),bG (xT (strKind pw w) b M) (M.map (·.1)=l) (M.map (·.2)=b.map (·.2)):=
 carry (λd=> by cases d;exact ic pw w _ _) (mD jd h ▸ d)
theorem OO{g:aa PV}{l:aa aj}{b:aa (ai×ai)}(h:fU g=U l)(d:aH w F g (b.map (·.1))):∃M:aa (aj×ai),bG (xT (ib pw w) b M) (M.map (·.1)=l) (M.map (·.2)=b.map (·.2)):=
 carry (λd=> by cases d;exact oW pw w _ _) (mD eZ h ▸ d)
theorem Vs{K:Type}[d4 K]{M:aa (K×ai)}{us:aa PV}{l:aa K}(d:M.map (·.1)=l)(G:aH w F us (M.map (·.2))):
  (tT [] M).map (·.1)=((l.zip us).foldl (λa p=> cy a.1 a.2 p.1 p.2) (([]:aa K),([]:aa PV))).1∧aH w F ((l.zip us).foldl (λa p=> cy a.1 a.2 p.1 p.2) (([]:aa K),([]:aa PV))).2 ((tT [] M).map (·.2)):=by
 subst d;have:=Ft (M:=[]) gm .nil G;exact⟨this.1,this.2.1⟩
theorem Fw{K:Type}[d4 K](knd:KeyKind pw w K)(e:h.get? a=U {cls:=.type "dict",data:=.dict #[]}):h.DictOf knd a []:=
 ⟨_,#[],0,e,⟨rfl,rfl,rfl⟩,rfl,λL f=> by simp at f,.nil,gm⟩
theorem PF{T:aa (aq aw)}{d:di}{H:aa RV}{j:aa PV}(B:lT n X.G T=U d)(f:bO O X.cps V d=U H)(i:b6 H=U j):j.length=T.length:=by
 induction T generalizing n d H j with
 |nil=>
  cases n with
  |zero=> exact nn B
  |succ n=>
   obtain rfl:=bo B;obtain rfl:[]=H:=bo f;obtain rfl:[]=j:=bo i;rfl
 |cons o r D=>
  cases n with
  |zero=> exact nn B
  |succ n=>
   refine aC B ?_;clear B;intro e _ B;refine bT B ?_;clear B;intro q I B;subst B;refine aC f ?_;clear f;intro p _ f;refine bT f ?_;clear f;intro ps a f;subst f;exact aC i λc _ i=> bT i λG b e=> by subst e;exact aZ (·+1) (D I a b)
theorem E7{T:aa (aq aw)}{Z:aa aw}{d:di}{H vr:aa RV}{j D:aa PV}(P:Pack X k O n)(R:aX k A)(S:St X F Y ls (b'++a') s)(y:aR X.w F V (ls.map (·.2)) a')(K:∀v s' W h' t,St X W h' ls (t++(b'++a')) s'->Sub F W->cq X.w W a' rv v t->Q v s')
  (B:lT n X.G T=U d) (f:bO O X.cps V d=U H) (g':bO O X.cps V (br n X.G Z)=U vr) (i:b6 H=U j) (f':b6 vr=U D) (q:T.length=Z.length) (I:c3 T.length 15=ag) (x:T≠[])
  {g:Type} [d4 g] (knd:KeyKind pw X.w g) (l:aa g) (mk:aa g->aa PV->PV) (e':∀F o T Z,(∃M,bG (cH knd o M) (M.map (·.1)=T) (aH X.w F Z (M.map (·.2))))->bB X.w F (mk T Z) o)
  (c':∀F (b:aa (ai×ai)),aH X.w F j (b.map (·.1))->∃M:aa (g×ai),bG (xT knd b M) (M.map (·.1)=l) (M.map (·.2)=b.map (·.2)))
  (r:rv=.own (mk ((l.zip D).foldl (λa p=> cy a.1 a.2 p.1 p.2) (([]:aa g),([]:aa PV))).1 ((l.zip D).foldl (λa p=> cy a.1 a.2 p.1 p.2) (([]:aa g),([]:aa PV))).2)):
  wpAny (ay pw X.w) A (bt (.Dict T Z d') X.env) Q E s:=by
 subst r;have S1:St X F Y ls (((s.heap.objs.size,{cls:=.type "dict",data:=.dict #[]})::b')++a') {s with heap:=s.heap.push {cls:=.type "dict",data:=.dict #[]}}:=S.push rfl;refine wpAny_Dict_walk (knd:=knd) (ZR B) q x (dg I) ?_;refine P.d T Z d H vr j D V A F Y ls _ a' _ d' _ E B f g' i f' q R S1 y λb s2 F2 i' S2 w z c=> ?_
 obtain⟨M,h1,G,h3⟩:=c' F2 b z;have L:=S2.al (s.heap.objs.size,_) (bp _ (.head _));refine⟨M,h1,Fw knd L.1,λN u m=> ?_⟩;obtain⟨C,h,e⟩:=pI u;have S3:=(St.upd S2 m h).toks (s2.toks+b.length);obtain⟨g1,g2⟩:=Vs G (by rw[h3];exact c);exact K _ _ F2 i' [(s.heap.objs.size,C)] S3 w (.own (e' F2 C _ _ ⟨_,e,g1,g2⟩))
theorem PG(C:aG X)(P:Pack X k O n)(T:aa (aq aw))(Z:aa aw)(d':aQ):cI X k O (.Dict T Z d') (aE (n+1) X.G (.Dict T Z d')):=by
 intro V rv A F Y ls b' a' s Q E h R S y K;replace h:ev O X.cps V (bif T.length==Z.length && c3 T.length 15 then(lT n X.G T).elim .bad λk=> .dct k (br n X.G Z)else .bad)=U rv:=h;refine zr h ?_;clear h;intro q h;refine lg h ?_;clear h;intro z B h;refine aC h ?_;clear h;intro H f h;refine aC h ?_;clear h;intro vr a h;refine aC h ?_;clear h;intro j i h;refine aC h λD m u=> ?_
 have I:=eq_of_beq (bu q).1;have c:=PF B f i;cases j with
 |nil=>
  obtain rfl:T=[]:=kK c.symm;obtain rfl:Z=[]:=kK I.symm;refine wpAny_Dict_empty ?_;have S1:=S.push (o:={cls:=.type "dict",data:=.dict #[]}) rfl;obtain⟨o,w,dd⟩:=pI (Fw (strKind pw X.w) (fh s.heap rfl));rw[fh _ rfl]at w;obtain rfl:=bo w;exact K _ _ F Y [(s.heap.objs.size,_)] S1 (Sub.refl F) (bo (u) ▸ .own ⟨[],dd,rfl,.nil⟩)
 |cons p r=>
  have v:T≠[]:=λe=> by rw[e]at c;exact nomatch c
  cases g:gk p with
  |some x=>
   rw[Ao,g]at u;exact bT u λl t h=> E7 P R S y K B f a i m I (bu q).2 v (strKind pw X.w) l .aW (λF o T Z h=> h) (λF b d=> OP t d) h.symm
  |none=>
   rw[Ao,g]at u;exact aC u λL L h=> bT h λl t h=> E7 P R S y K B f a i m I (bu q).2 v (ib pw X.w) l .cV (λF o T Z h=> h) (λF b d=> OO t d) h.symm
theorem Of{m:ae}(h:aE m X.G e=.bad):cI X k O e (aE m X.G e):=h ▸ sS
theorem XI:Pack X k O 0:=⟨λL=> sS,λL=> B7,aat,aap,aav,aar⟩
theorem OI(f:aw)(as:aa aw)(p:kO)(r:aa kO)(d':aQ):aE (n+1) X.G (.Call f as (p::r) d')=.bad:=rfl
theorem XH(z:cp X.w X.I k O)(C:aG X)(g:yy X.w k O n):Pack X k O (n+1):=by
 have P:=g X.I z X C rfl rfl;have h:∀e,cI X k O e (aE (n+1) X.G e):=by
  intro e;cases e with
  |BoolOp w Z d'=> exact(P.b w Z d').1
  |BinOp l w r d'=> exact Ow C P.e l w r d'
  |UnaryOp w x d'=> exact Z6 C P.e w x d'
  |IfExp c a b d'=> exact(G1 P.e P.t c a b d').1
  |Compare l d B d'=> exact(EW C P.e P.r l d B d').1
  |Call f as T d'=>
   cases T with
   |nil=>
    cases t:notAttr f with
    |true=> exact OM C z P.e P.s f as d' t
    |false=>
     cases f <;> first |exact KY (t) |exact Vv C z P.e P.s _ _ _ _ _
   |cons p r=>
    exact Of (OI f as p r d')
  |Constant c j d'=> exact Pz c j d'
  |Attribute o m d'=> exact N5 C P.e o m d'
  |Subscript v i d'=> exact TO C P.e v i d'
  |Name x d'=> exact VF C x d'
  |List q d'=> exact U3 C P.s q d'
  |Tuple q j d'=> exact ZW C P.s q j d'
  |Dict T Z d'=> exact PG C P T Z d'
  |ListComp elt L D d'=> exact Pl C z g P elt L D d'
  |_=> exact sS
 refine⟨h,?_,aas P.e P.s,aao C P.e P.t P.b,aau C P.e P.r,aaq C P.e P.d⟩;intro e;cases e with
 |BoolOp w Z d'=> exact(P.b w Z d').2
 |UnaryOp w x d'=>
  cases w with
  |Not=> exact VQ P.t x d'
  |_=> exact(h _).truth C λu=> rfl
 |IfExp c a b d'=> exact(G1 P.e P.t c a b d').2
 |Compare l d B d'=> exact(EW C P.e P.r l d B d').2
 |_=> exact(h _).truth C λu=> rfl
theorem dU{w:aV}{k:ae}{O:bI}:∀n,yy w k O n
 |0=> λI z X C L L=> XI
 |n+1=> λI z X C a j=> by
  subst a j;exact XH z C (dU n)
theorem map_snd{u:aq ai}{v:aq ai}(N:ls[i]?=U (x,u))(a:(ls.map (·.2))[i]?=U v):u=v:=by
 rw[eP,N]at a;exact bo a
theorem JS{x:aq (aq ai)}{b:av}(M:x=U (U (.ref a)))(G:x=U (U (.ref b))):a=b:=CW (bo (bo (M.symm.trans G)))
theorem fV(C:aG X){b:aQ}(T:X.G.ns[i]?=U x)(S:St X F Y ls a' s)(a:(ls.map (·.2))[i]?=U (U v))(K:Q v s):aB (ay pw X.w) A (bt (.Name x b) X.env) Q E s:=by
 obtain⟨u,N⟩:=S.m8 T;obtain rfl:=map_snd N a;have O:=f5 T;exact o1 (tY C.fn ((eM C x).trans (C.ns x O)) S.ns (Hi (by rw[S.nm];exact C.nn) N) K) (C.dn x O)
theorem sG{B:PV}{o':af}{N:cc}(y:aR X.w F V (ls.map (·.2)) a')(S:St X F Y ls (b'++a') s)(e:V[i]?=U (.own p))(D:(ls.map (·.2))[i]?=U (U (.ref a)))
  (g:gO a s.heap N) (R:N.get? a=U o') (ow:bB X.w F B o') (z:eG p=ak:=by rfl):Rl X F Y (V.set i (.own B)) b' {s with heap:=N,toks:=t}:=by
 obtain⟨b,o,H,w,L,_,_,h,_⟩:=y.wV e z;obtain rfl:=JS D w;have S1:=S.perm ((fe b' L).trans dA);have S2:=S1.upd g R;obtain⟨f,G,p2⟩:=h ow;exact⟨ls,f,G,(S2.perm (dA.symm.trans (fe b' p2.symm))).toks t⟩
theorem Bz(y:aR X.w F V (ls.map (·.2)) a')(S:St X F Y ls (b'++a') s)(e:V[i]?=U (.own p))(z:eG p=ak:=by rfl):bH λa o=> dE ((ls.map (·.2))[i]?=U (U (.ref a))) ((a,o)∈a') (s.heap.get? a=U o) (bB X.w F p o):=by
 obtain⟨a,o,H,w,L,ow,_⟩:=y.wV e z;have m:=L.mem_iff.mpr (.head _);exact⟨a,o,w,m,S.mG m,ow⟩
theorem sF(y:aR X.w F V (ls.map (·.2)) a')(S:St X F Y ls (b'++a') s)(e:V[i]?=U (.own p))(D:(ls.map (·.2))[i]?=U (U (.ref a)))(z:eG p=ak:=by rfl):∃o,bG ((a,o)∈a') (s.heap.get? a=U o) (bB X.w F p o):=by
 obtain⟨b,o,w,m,g,ow⟩:=Bz y S e z;obtain rfl:=JS w D;exact⟨o,m,g,ow⟩
theorem B3{o:aw}(h:xn X.G o=U i):bH λx b=> o=.Name x b∧X.G.ns[i]?=U x:=
 aC h λq I h=> ⟨q.1,q.2,qs I,mZ h⟩
theorem pf(h:mE G x=U i):G.ns[i]?=U x∧x∉G.ln:=by
 cases q:G.ln.contains x with
 |true=> rw[mE,q]at h;exact nn h
 |false=> rw[mE,q]at h;exact⟨mZ h,λm=> by rw[ou.mpr m]at q;cases q⟩
theorem B4{o:aw}(h:KN X.G o=U i):bH λx b=> bG (o=.Name x b) (X.G.ns[i]?=U x) (x∉X.G.ln):=
 aC h λq I h=> ⟨q.1,q.2,qs I,(pf h).1,(pf h).2⟩
theorem wW(C:aG X)(q:∀l,fo X k O l (br n X.G l)){xp t d:aQ}{m:ao}{T id:bL}{args:aa aw}
  (g:PlainAttrs T) (j:PySem.Slot T m id) (u:typeOf (.builtin id)=pure (.type "method_descriptor")) (hT:∀F o,bB X.w F p o->o.cls=.type T∧o.dict=ah)
  (hx:X.G.ns[i]?=U x) (I:(t.endLine==d.line)=ag) (hn:bb args.length 30=ag) (e:V[i]?=U (.own p)) (f:bO O X.cps V (br n X.G args)=U B)
  (R:aX k A) (y:aR X.w F V (ls.map (·.2)) a') (S:St X F Y ls (b'++a') s)
  (K:∀a Z P W N c,(ls.map (·.2))[i]?=U (U (.ref a))->St X W N ls (c++(b'++a')) P->Sub F W->fy X.w W a' B Z c->aB (ay pw X.w) A (bQ (.builtin id) (.ref a::Z)) Q E P) (z:eG p=ak:=by rfl):
  wpAny (ay pw X.w) A (bt (.Call (.Attribute (.Name x xp) m t) args [] d) X.env) Q E s:=by
 obtain⟨a,o,H,hm,D,ow⟩:=Bz y S e z;have z:=hF f;have c':((d9 d (du args X.env)).any (·.1) ||([]:aa (aq ao×d8 ai)).any (·.1.isNone))=ak:=by rw[gK,z];rfl
 refine tK (fV C hx S H ?_) (qo rfl I hn z);obtain⟨M,G⟩:=hT F o ow;refine Dj ⟨o,D,M⟩ g j u (λb eb=> by cases eb;exact⟨o,D,G⟩) ?_;refine f9 (P:=λL=> eR) c' (λh L=> ⟨_,.inr (.inl rfl),lu (λL e=> by cases e)⟩) ?_;exact gc q f R S y λZ s2 v d' c S2 w r=> ⟨trivial,K a Z s2 v d' c H S2 w r⟩
def fR(X:Cx)(F:Fz)(b':MT):Out->dD->aD->Prop
 | .nxt e',fl,P=> fl=.next∧bH λW N=> Sub F W∧Rl X W N e' b' P
 | .ret r e',fl,P=> ∃v,fl=.ret v∧ea λW N t=> bG (Sub F W) (Rl X W N e' (t++b') P) (cq X.w W [] r v t)
theorem fR.sub{W:Fz}{o:Out}{fl:dD}{P:aD}(H:Sub F W)(h:fR X W b' o fl P):fR X F b' o fl P:=by
 cases o with
 |nxt=> obtain⟨e,p,G,w,r⟩:=h;exact⟨e,p,G,H.trans w,r⟩
 |ret=> obtain⟨v,e,p,G,t,w,r,a⟩:=h;exact⟨v,e,p,G,t,H.trans w,r,a⟩
@[elab_as_elim] theorem fR.next{z Z:Out}{fl:dD}{k:aa Slot->aq Out}{C:dD->Prop}(o:fR X F b' z fl s)(h:HO k z=U Z)
  (M:∀V W Y,k V=U Z->Sub F W->Rl X W Y V b' s->C .next) (j:∀v,fR X F b' Z (.ret v) s->C (.ret v)):C fl:=by
 cases z with
 |nxt V=> obtain⟨rfl,W,Y,H,R⟩:=o;exact M V W Y h H R
 |ret p τ=> cases h;obtain⟨v,rfl,_⟩:=id o;exact j v o
@[elab_as_elim] theorem fR.loop{z Z:Out}{fl:dD}{k:aa Slot->aq Out}{C:dD->Prop}(o:fR X F b' z fl s)(h:z0 k z=U Z)
  (M:∀V W Y,k V=U Z->Sub F W->Rl X W Y V b' s->C .next) (j:∀v,fR X F b' Z (.ret v) s->C (.ret v)):C fl:=by
 cases z with
 |nxt V=> obtain⟨rfl,W,Y,H,R⟩:=o;exact M V W Y h H R
 |ret p τ=> cases h;obtain⟨v,rfl,_⟩:=id o;exact j v o
def cX(X:Cx)(k W:ae)(O:bI)(st:a9)(c':CS):Prop:=
 ∀(V:aa Slot) (Z:Out) (A:dC) (F:Fz) (Y:MT) (b':MT) (s:aD) (Q:dD->aD->Prop) (E:ai->aD->Prop),
  aJ W O X.cps c' V=U Z->aX k A->Rl X F Y V b' s->(∀fl P,fR X F b' Z fl P->Q fl P)->aB (ay pw X.w) A (iO st X.env) Q E s
def gZ(X:Cx)(k W:ae)(O:bI)(b:aa a9)(v:CB):Prop:=
 ∀(V:aa Slot) (Z:Out) (A:dC) (F:Fz) (Y:MT) (b':MT) (s:aD) (Q:dD->aD->Prop) (E:ai->aD->Prop),
  aI W O X.cps v V=U Z->aX k A->Rl X F Y V b' s->(∀fl P,fR X F b' Z fl P->Q fl P)->aB (ay pw X.w) A (ei b X.env) Q E s
theorem fG{v:aw}(h:iz v=ak)(t:aq aw)(j:ae)(D:fJ):tV v t j D=pure ak:=by
 cases v <;> first |exact Eq.refl (pure ak) |exact nf h.symm
theorem jD(C:aG X):interactive X.env=ak:=by unfold interactive;rw[C.fn];rfl
theorem N0(C:aG X)(P:Pack X k O n)(x:ao)(b:aQ)(v:aw)(d':aQ)(T:X.G.ns[i]?=U x)(L:x∉X.G.ln)(w:iz v=ak):cX X k W O (.Assign [.Name x b] v d') (.asg i (aE n X.G v)):=by
 intro V Z A F Y b' s Q E h R q;obtain⟨F1,B,ls,a',y,S⟩:=q.bg C (bC (aE n X.G v));refine aC h ?_;clear h;intro r f h;refine aC h ?_;clear h;intro sl g h;refine ix h λhi K=> mr ?_ (fG w _ _ _)
 refine P.e v _ r A F1 Y ls b' a' s _ E f R S y λval e j N t u H a=> ?_
 exact hQ C T L (dg hi) u (y.mono H) (a.slot g) λp D=> K _ p ⟨rfl,j,N,B.trans H,D⟩
theorem Yb(C:aG X)(P:Pack X k O n)(v:aw)(d':aQ):cX X k W O (.Return (U v) d') (.ret (aE n X.G v)):=by
 intro V Z A F Y b' s Q E h R q;obtain⟨F1,B,ls,a',y,S⟩:=q.bg C (bC (aE n X.G v));refine aC h ?_;clear h;intro r f h;refine fp h λp z K=> ?_
 exact iP ((P.e v).bR C f z R S y λval e j N u H d=> K _ e ⟨val,rfl,j,N,[],B.trans H,⟨ls,a',y.mono H,u⟩,.J d⟩)
theorem X7(d':aQ):cX X k W O (.Return ah d') (.ret (.lit .none)):=by
 intro V Z A F Y b' s Q E h R q;obtain⟨ls,a',y,S⟩:=q;refine hj h λK=> ?_
 exact wpAny_Return_none (K _ s ⟨.none,rfl,F,Y,[],Sub.refl F,⟨ls,a',y,S⟩,.J .none⟩)
@[elab_as_elim] theorem X8{Z:Out}{C:Out->Prop}(h:w0 i V (.own p)=U Z)(k:eG p=ak->C (.ret (.own p) (V.set i .un))):C Z:=by
 cases z:eG p with
 |true=> rw[w0,z]at h;exact nn h
 |false=> rw[w0,z]at h;exact hj h (k z)
theorem X9(C:aG X)(b d':aQ)(T:X.G.ns[i]?=U x):cX X k W O (.Return (U (.Name x b)) d') (.retV i):=by
 intro V Z A F Y b' s Q E h R q;obtain⟨ls,a',y,S⟩:=q;refine aC h ?_;clear h;intro sl g h;cases sl with
 |un=> exact nn h
 |own p=>
   refine X8 h λz K=> ?_
   obtain⟨a,o,H,w,L,ow,_,_,⟨f,N,c⟩,_⟩:=y.wV g z;have S1:=S.perm ((fe b' (L.trans (Cf _ c.symm))).trans dA);exact iP (fV C T S w (K _ s ⟨.ref a,rfl,F,Y,[(a,o)],Sub.refl F,⟨ls,f,N,S1⟩,.own ow⟩))
 |J p=>
  obtain⟨v,w,r⟩:=y.get g rfl;refine hj h λK=> ?_
  have d:=r.eY.2;exact iP (fV C T S w (K _ s ⟨v,rfl,F,Y,[],Sub.refl F,⟨ls,a',y,S⟩,.J d⟩))
theorem JU{b:CB}{P:Prop}(h:ez W O c' b V=U r)(i:∀τ,aI W O c' b V=U (.ret r τ)->P)(Y:∀τ,aI W O c' b V=U (.nxt τ)->.J .none=r->P):P:=by
 cases e:aI W O c' b V with
 |none=> rw[ez,e]at h;exact nn h
 |some o=>
  rw[ez,e]at h;cases o with
  |ret q τ=> exact i τ (bo h ▸ e)
  |nxt τ=> exact Y τ e (bo h)
theorem GW(h:isNone r=ag):r=.J .none:=by
 cases r with
 |J p=> cases p <;> first |rfl |exact nf h
 |_=> exact nf h
theorem FJ(C:aG X)(P:Pack X k O n)(v:aw)(d':aQ)(w:iz v=ak):cX X k W O (.Expr v d') (.expr (aE n X.G v)):=by
 intro V T A F Y b' s Q E h R q;obtain⟨F1,B,ls,a',y,S⟩:=q.bg C (bC (aE n X.G v));refine aC h ?_;clear h;intro r f h;refine ix h λZ K=> ?_
 exact j2 ((P.e v).bR C (GW Z ▸ f) rfl R S y λval e j N u H d=> K _ e ⟨rfl,j,N,B.trans H,ls,a',y.mono H,u⟩) (jD C) (fG w _ _ _)
theorem uF(C:aG X)(P:Pack X k O n)(c:aw){e':aa Slot}{b:au}{Q:au->aD->Prop}(h:eW O X.cps (aE n X.G c) V=U (b,e'))(R:aX k A)(q:Rl X F Y V b' s)
  (K:∀e W N,Sub F W->Rl X W N e' b' e->Q b e):aB (ay pw X.w) A (mq c X.env (bt c X.env)) Q E s:=by
 obtain⟨F1,B,ls,a',y,S⟩:=q.bg C (cz (aE n X.G c));refine aC h ?_;clear h;intro r f h;refine bT h ?_;clear h;intro a hb h;obtain⟨rfl,rfl⟩:=jk h;exact P.t c _ r _ A F1 Y ls b' a' s Q E f hb R S y λe W N u H=> K e W N (B.trans H) ⟨ls,a',y.mono H,u⟩
theorem T5(C:aG X)(P:Pack X k O n)(m:∀b,gZ X k W O b (b7 n X.G b))(c:aw)(a b:aa a9)(d':aQ):cX X k W O (.If c a b d') (.ite (aE n X.G c) (b7 n X.G a) (b7 n X.G b)):=by
 intro V Z A F Y b' s Q E h R d K;refine aC h ?_;clear h;intro q w h;refine mu (uF C P c w R d λe j N H l=> ?_);obtain⟨t,e'⟩:=q;cases t with
 |true=> exact m a e' Z A j N b' e Q E h R l λfl i o=> K fl i (o.sub H)
 |false=> exact m b e' Z A j N b' e Q E h R l λfl i o=> K fl i (o.sub H)
theorem Oz:∀b,gZ X k W O b (b7 0 X.G b):=by
 intro b V Z A F Y b' s Q E h R q K;cases b with
 |nil=> exact fi (K _ s (bo h ▸ ⟨rfl,F,Y,Sub.refl F,q⟩))
 |cons=> exact nn h
theorem Oy(f:∀st,cX X k W O st (og n X.G st))(m:∀b,gZ X k W O b (b7 n X.G b)):∀b,gZ X k W O b (b7 (n+1) X.G b):=by
 intro b V Z A F Y b' s Q E h R q K;cases b with
 |nil=> exact fi (K _ s (bo h ▸ ⟨rfl,F,Y,Sub.refl F,q⟩))
 |cons st r=>
  refine aC h ?_;clear h;intro z g h;refine cK (f st V z A F Y b' s _ E g R q λfl P o=> o.next h (λe' j N e H l=> ?_) λv=> K _ _);exact m r e' Z A j N b' P Q E e R l λfl i o=> K fl i (o.sub H)
def Turn(X:Cx)(A:dC)(M:Fz)(target:aw)(S:aa a9)(f:PV->aa Slot->aq Out):Prop:=
 ∀(p:PV) (v:ai) (V:aa Slot) (Z:Out) (F:Fz) (Y b':MT) (s:aD) (Q:dD->aD->Prop) (l u:ai->aD->Prop),f p V=U Z->Sub M F->Den X.w F p v->Rl X F Y V b' s->
  (∀fl P,fR X F b' Z fl P->Q fl P)->aB (ay pw X.w) A (kR target X.env v) (λL j=> aB (ay pw X.w) A (ei S X.env) Q l j) u s
def NB(X:Cx)(M:Fz)(G:ae->MT->Prop)(b':MT)(f:PV->aa Slot->aq Out)(ps:aa PV)(Z:Out)(m:ae)(s:aD):Prop:=
 t9 λi F Y V g=> j5 (m=ps.length+1 - i) (i≤ps.length) (Sub M F) (G i g) (Rl X F Y V (g++b') s) (forLoop f (ps.drop i) V=U Z)
theorem fR.drop{g:MT}{Z:Out}{u:ai}(o:fR X F (g++b') Z (.ret u) s):fR X F b' Z (.ret u) s:=by
 cases Z with
 |ret q τ=>
  obtain⟨u,e,T,L,f,x,⟨b,K,a,S3⟩,d⟩:=o;have S4:St X T L b (g++((f++b')++K)) s:=S3.perm (by
   rw[bU,bU,bU];exact f6 f g (b'++K))
  exact⟨u,e,T,L,f,x,⟨b,K,a,St.drop S4⟩,d⟩
 |_=> exact nomatch o.1
theorem zA{M:Fz}{target:aw}{it:ai}{G:ae->MT->Prop}{I:aa a9}{f:PV->aa Slot->aq Out}{Z:Out}{g:MT}{R:iM->aD->Prop}(C:aG X)(E:Src X.w A M target ps it G)(T:Turn X A M target I f)
  (h:forLoop f ps V=U Z) (H:Sub M F) (O:G 0 g) (q:Rl X F Y V (g++b') s) (K:∀fl P,fR X M b' Z fl P->R (.ok fl) P):
  gv (ay pw X.w) A (.forLoop target it I [] X.env) R s:=by
 refine MQ (NB X M G b' f ps Z) ?_ (ps.length+1)
  ⟨0,F,Y,V,g,by lia,gp _,H,O,q,by simpa using h⟩
 rintro m s ⟨i,F,Y,V,g,rfl,hi,H,O,⟨ls,a',y,S⟩,t⟩
 rw[bU]at S;rcases Cu hi with n |rfl
 ·have l:ps[i]?=U ps[i]:=by simp[n]
  rw[List.drop_eq_getElem_cons n,forLoop]at t;refine E.item X rfl C.inv i ps[i] F Y ls (b'++a') g s _ _ l H O S λv P r=> ?_
  refine r _ _ λB p a c S2 w d=> ?_
  rw[← bU]at S2;have D:Rl X p Y V (a++b') B:=⟨ls,a',y.mono w,S2⟩;have b:=H.trans w;refine aC t ?_;clear t;intro z e t;refine T ps[i] v V z p Y (a++b') B _ _ _ e b d D λfl j o=> o.loop t (λe' N L t x Q=> ?_) λu o=> K _ j (o.drop.sub b)
  exact⟨ps.length+1 - (i+1),LW (xG n) (jV i),i+1,N,L,e',a,rfl,n,b.trans x,c,Q,t⟩
 ·rw[Lf]at t
  refine E.done X rfl F Y ls (b'++a') g s _ _ H O S λP k W=> ?_
  refine fi (K _ P (bo t ▸ ⟨rfl,F,Y,H,ls,a',y,?_⟩));exact St.drop W
theorem SH(C:aG X)(P:Pack X k O n)(m:∀b,gZ X k W O b (b7 n X.G b))(xp:aQ)(it:aw)(b:aa a9)(d':aQ)(T:X.G.ns[i]?=U x)(L:x∉X.G.ln):
  cX X k W O (.For (.Name x xp) it b [] d') (.forV i (aE n X.G it) (b7 n X.G b)):=by
 intro V Z A F Y b' s Q E h R q K;obtain⟨F1,B,ls,a',y,S⟩:=q.bg C (bC (aE n X.G it));refine aC h ?_;clear h;intro r f h;refine aC h ?_;clear h;intro p z h;refine aC h ?_;clear h;intro ps c' h;refine cg h ?_;clear h;intro hi h;refine tW ((P.e it).bR C f z R S y λv s' F' N u H d=> ?_) (pW (Au f));refine qe (target:=.Name x xp) R.hd u d c' λh' s2 g G SR hG S2 ω ω=> ?_
 rw[← bU]at S2;refine zA C SR ?_ h (Sub.refl _) hG ⟨ls,a',y.mono H,S2⟩ λfl j o=> K fl j (o.sub (B.trans H))
 intro p v M i' F2 f' I s4 t E1 E2 hf w e D K2;obtain⟨e',g',l,S4⟩:=D;have a:i < M.length:=by
  rw[Rl.len C ⟨e',g',l,S4⟩];exact(eO.mp T).1
 refine j3 (hQ (t:=[]) (sl:=.J p) C T L a S4 l ⟨e,rfl⟩ λs5 c=> ?_);exact m b _ _ A F2 f' I s5 t E1 hf R c K2
theorem aak(C:aG X)(P:Pack X k O n)(N:∀b,gZ X k W O b (b7 n X.G b))(c:aw)(b:aa a9)(d':aQ):cX X k W O (.While c b [] d') (.whl (aE n X.G c) (b7 n X.G b)):=by
 intro V Z A F Y b' s Q E h R f K;refine wpAny_While ?_;refine codeAny_whileLoop (λm s=> ea λl Y V=> bG (Sub F l) (Rl X l Y V b' s) (whileLoop (eW O X.cps (aE n X.G c)) (λV=> aI W O X.cps (b7 n X.G b) V) m V=U Z)) ?_ W ⟨F,Y,V,Sub.refl F,f,h⟩
 rintro m s ⟨F1,H,I,B,a,M⟩
 cases m with
 |zero=> exact nn M
 |succ m=>
  refine aC M ?_;clear M;intro q w M;refine uF C P c w R a λi p G r D=> ?_
  have d:=B.trans r;obtain⟨t,v⟩:=q;cases t with
  |false=> exact fi (K _ i (bo M ▸ ⟨rfl,p,G,d,D⟩))
  |true=> exact aC M λz hb M=> N b v z A p G b' i _ _ hb R D λfl j o=> o.loop M (λy T L M x e=> ⟨m,jV m,T,L,y,d.trans x,e,M⟩) λu o=> K _ j (o.sub d)
theorem KO:∀{c:aa aw} {is:aa ae},hU X.G c=U is->is.length=c.length∧∀(j i:ae) (t:aw),is[j]?=U i->c[j]?=U t->bH λx b=> bG (t=.Name x b) (X.G.ns[i]?=U x) (x∉X.G.ln):=by
 intro c
 induction c with
 |nil=> intro is h;cases h;exact⟨rfl,λj i t M L=> nn M⟩
 |cons e r D=>
  intro is h;refine aC h ?_;clear h;intro i M h;refine bT h ?_;clear h;intro d G h;subst h;obtain⟨I,D⟩:=D G;refine⟨aZ (·+1) I,λj p t n f=> ?_⟩;cases j with
  |zero=> cases n;cases f;exact B4 M
  |succ j=> exact D j p t n f
theorem D2:∀{c:aa aw} {is:aa ae},hU X.G c=U is->assignEach c X.env=c.map λt=> (ak,kR t X.env):=by
 intro c
 induction c with
 |nil=> intro is _;rfl
 |cons e r D=>
  intro is h;refine aC h ?_;clear h;intro i M h;refine bT h ?_;clear h;intro d G h;obtain⟨x,b,rfl,_⟩:=B4 M;show(ak,kR (.Name x b) X.env)::assignEach r X.env=_;rw[D G];rfl
theorem xk(C:aG X)(k:A.handled=ah){c:aa aw}{j:ae}{I:aQ}{e':aa Slot}{Q:fO->aD->Prop}(w:hU X.G c=U is)(g:hS is p V=U e')(d:Den X.w F p v)
  (y:aR X.w F V (ls.map (·.2)) a') (S:St X F Y ls (b'++a') s) (K:∀P,Rl X F Y e' b' P->Q () P):aB (ay pw X.w) A (kR (.Tuple c j I) X.env v) Q E s:=by
 refine aC g ?_;clear g;intro H T g;refine cg g ?_;clear g;intro B g;cases g;cases xj T;replace B:H.length=is.length:=eq_of_beq B;refine d.tupK λa us m e l=> ?_
 ·skip
  obtain⟨n,Z⟩:=KO w;have D:=S.J _ _ e;have f:=D2 w;refine Dr k ⟨_,D,rfl,m,rfl⟩ (by rw[f];simp;rw[← n,← B,l.length]) (by rw[f];simp[Ll]) λN W=> ?_
  rw[f];have u:St X F Y ls ([]++(b'++a')) {s with heap:=N}:=S.grow (t:=s.toks) λb o r=> W b o (e3 (dy r)) r
  refine BR C (is:=is) (by simp[n]) (λh i t M G=> ?_) u y (by simpa using l.slots) (by simp[B]) K;simp only[dM,eP,jj]at G;obtain⟨z,G,rfl⟩:=G;obtain⟨x,O,rfl,T,L⟩:=Z h i z M G;have hi:i < V.length:=by
   rw[Rl.len C ⟨ls,a',y,S⟩];exact(eO.mp T).1
  exact⟨x,T,L,hi,λq=> j3 q⟩
theorem SG(C:aG X)(P:Pack X k O n)(m:∀b,gZ X k W O b (b7 n X.G b)){c:aa aw}(j:ae)(I:aQ)(it:aw)(b:aa a9)(d':aQ)(hv:hU X.G c=U is):
  cX X k W O (.For (.Tuple c j I) it b [] d') (.forT is (aE n X.G it) (b7 n X.G b)):=by
 intro V Z A F Y b' s Q E h R q K;obtain⟨F1,B,ls,a',y,S⟩:=q.bg C (bC (aE n X.G it));refine aC h ?_;clear h;intro r f h;refine aC h ?_;clear h;intro p z h;refine aC h ?_;clear h;intro ps a h;refine tW ((P.e it).bR C f z R S y λv s' F' N u H d=> ?_) (pW (Au f));refine qe (target:=.Tuple c j I) R.hd u d a λg' i g G SR hG S2 L L=> ?_
 rw[← bU]at S2;refine zA C SR ?_ h (Sub.refl _) hG ⟨ls,a',y.mono H,S2⟩ λfl s3 o=> K fl s3 (o.sub (B.trans H))
 intro p v M T F2 e' f' s4 Q2 l E2 t w e D K2;obtain⟨h',i',c',S4⟩:=D;exact aC t λj' x t=> xk C R.hd hv x e c' S4 λs5 R5=> m b _ _ A F2 e' f' s5 Q2 l t R R5 K2
theorem VO{v:aw}{c:aa aw}{j:ae}{I:aQ}(l:∀Z h p,v≠.Tuple Z h p):kU [.Tuple c j I] v D=pure ah:=by
 cases v <;> first |exact Eq.refl (pure ah) |exact bf rfl (l _ _ _)
theorem NY(C:aG X)(P:Pack X k O n){c:aa aw}(j:ae)(I:aQ)(v:aw)(d':aQ)(a:hU X.G c=U is)(w:iz v=ak)(l:∀Z o p,v≠.Tuple Z o p):
  cX X k W O (.Assign [.Tuple c j I] v d') (.asgT is (aE n X.G v)):=by
 intro V T A F Y b' s Q E h R q;obtain⟨F1,B,ls,a',y,S⟩:=q.bg C (bC (aE n X.G v));refine aC h ?_;clear h;intro r f h;refine aC h ?_;clear h;intro p z h;refine fp h λe' x K=> ?_
 refine CA ((P.e v).bR C f z R S y λu e m N G H d=> ?_) (show tV v (U (.Tuple c j I)) d'.line X.env=pure ak from fG w _ _ _) (VO l);exact xk C R.hd a x d (y.mono H) G λi D=> K _ i ⟨rfl,m,N,B.trans H,D⟩
theorem By(h:bB X.w F (.list H) o):o.cls=.type "list"∧o.dict=ah:=by obtain⟨Z,n,rfl,_⟩:=h;exact⟨rfl,rfl⟩
theorem XD{T:aa aj}(h:bB X.w F (.cV T H) o):o.cls=.type "dict"∧o.dict=ah:=by obtain⟨M,⟨x,_⟩,_⟩:=h;exact⟨x.1,x.2.1⟩
theorem XE{T:aa ao}(h:bB X.w F (.aW T H) o):o.cls=.type "dict"∧o.dict=ah:=by obtain⟨M,⟨x,_⟩,_⟩:=h;exact⟨x.1,x.2.1⟩
theorem uO{a:aw}(h:ev O c' V (aE n G a)=U r):bO O c' V (br (n+1) G [a])=U [r]:=by
 cases n with
 |zero=> exact nn h
 |succ n=>
  show(ev O c' V (aE (n+1) G a)).bind _=_;rw[h];rfl
theorem z1(h:vn i V=U H):V[i]?=U (.own (.list H)):=
 aC h λsl e h=> by
  cases sl with
  |own p=> rw[e,kv h]
  |_=> exact nn h
theorem NS(C:aG X)(P:Pack X k O n)(z:Pack X k O (n+1))(b t e:aQ)(a:aw)(d':aQ)(T:X.G.ns[i]?=U x)(I:(t.endLine==e.line)=ag):
  cX X k W O (.Expr (.Call (.Attribute (.Name x b) (s_ "append") t) [a] [] e) d') (.app i (aE n X.G a)):=by
 intro V j' A F Y b' s Q E h R q;obtain⟨F1,i',ls,a',y,S⟩:=q.bg C (bC (aE n X.G a));refine aC h ?_;clear h;intro H g h;refine aC h ?_;clear h;intro r f h;refine aC h ?_;clear h;intro p hp h;refine ix h λB K=> ?_
 replace g:=z1 g;refine j2 (wW (B:=[r]) C z.s xW Mu Mw (λF o ow=> By ow) T I rfl g (uO f) R y S λG Z s' F' h' c D u sb M=> ?_) (jD C) rfl;obtain⟨F2,S2,w,dd⟩:=u.b6 C M (ps:=[p]) (by rw[b6,hp];rfl);obtain⟨v,rfl,d⟩:=dd.n4;have j:=y.mono (sb.trans w);obtain⟨o,_,L,us,m,rfl,l⟩:=sF j S2 g D;have c':=l.length;refine Dv ⟨m,L⟩ (λN f' g'=> ?_) (by rw[hW,← c'];exact fY B);obtain⟨m',e'⟩:=f';refine K _ _ ⟨rfl,F2,h',i'.trans (sb.trans w),sG (t:=s'.toks) j S2 g D g' e' ⟨us++[_],m',by simp[iN],l.append (.cons d .nil)⟩⟩
theorem RJ{K:aa PV}(E:uP p=U K)(S:St X F Y ls (b'++a') s)(c:aP X.w F a' p v):gy λT b Z m=> dE (v=.ref b) (s.heap.get? b=U {cls:=.type T,data:=.seq Z.toArray m}) (aH X.w F K Z) (T="list"∨T="tuple"):=by
 cases p with
 |list Q=> cases E;obtain⟨b,Z,m,e,g,l⟩:=c.list S;exact⟨_,b,Z,m,e,g,l,.inl rfl⟩
 |tup Q=> cases E;obtain⟨b,Z,m,e,g,l⟩:=c.tup S;exact⟨_,b,Z,m,e,g,l,.inr rfl⟩
 |_=> exact nn E
theorem RI{G b:av}{us g:aa ai}{m D:ae}{T:bL}(k:T="list"∨T="tuple")(L:s.heap.get? G=U (iN us.toArray m))(hb:s.heap.get? b=U {cls:=.type T,data:=.seq g.toArray D})(d:us.length+g.length≤ej)
  (K:∀N I,N.get? G=U (iN (us++g).toArray I)->gO G s.heap N->Q .none {s with heap:=N}):aB (ay pw X.w) A (bQ (.builtin "list.extend") [.ref G,.ref b]) Q E s:=by
 have c:=CQ (h:=s.heap) (l:=G) (items:=us.toArray) (n:=m) L (λH=> H++g.toArray);have e:us.toArray++g.toArray=(us++g).toArray:=by simp
 rw[e]at c;have w:=K _ _ c (tx ..);replace d:us.toArray.size+g.toArray.size≤ej:=d;rcases k with rfl |rfl
 ·exact tQ CM ⟨_,L,rfl⟩ Mp (Mn _ _) (AutoSeq1.list_extend_list_list_0 G us.toArray m b g.toArray D (extend_door d) (bK (iK _ _) d) (jU d)) ⟨L,hb,w⟩
 ·exact tQ CM ⟨_,L,rfl⟩ Mp (Mn _ _) (AutoSeq1.list_extend_list_tuple_0 G us.toArray m b g.toArray D (extend_door d) (bK (iK _ _) d) (jU d)) ⟨L,hb,w⟩
theorem RK(C:aG X)(P:Pack X k O n)(z:Pack X k O (n+1))(xp t d:aQ)(a:aw)(d':aQ)(hx:X.G.ns[i]?=U x)(I:(t.endLine==d.line)=ag):
  cX X k W O (.Expr (.Call (.Attribute (.Name x xp) (s_ "extend") t) [a] [] d) d') (.ext i (aE n X.G a)):=by
 intro V g' A F Y b' s Q E h R q;obtain⟨F1,f',ls,a',y,S⟩:=q.bg C (cz (aE n X.G a));refine aC h ?_;clear h;intro H g h;refine aC h ?_;clear h;intro r f h;refine aC h ?_;clear h;intro K hy h;refine ix h λB c'=> ?_
 replace g:=z1 g;refine j2 (wW (B:=[r]) C z.s xW CM PySem.F.type_list_extend (λF o ow=> By ow) hx I rfl g (uO f) R y S λG Z s' F' e' ts D u sb M=> ?_) (jD C) rfl;obtain⟨p,S2,w,dd⟩:=u.reads C M;obtain⟨v,rfl,c⟩:=dd.one;obtain⟨T,b,ws,m2,rfl,hb,l2,hT⟩:=RJ hy S2 c;have e:=y.mono (sb.trans w);obtain⟨o,_,L,us,m,rfl,l⟩:=sF e S2 g D;exact RI hT L hb (by rw[← l.length,← l2.length];exact fY B) λN m' e1 j=> c' _ _ ⟨rfl,p,e',f'.trans (sb.trans w),sG (t:=s'.toks) e S2 g D j e1 ⟨us++ws,_,rfl,l.append l2⟩⟩
theorem ZQ(n:ae)(G:TG)(O:bI)(c':aa PV)(V:aa Slot):bO O c' V (br n G [])=U []:=by cases n <;> rfl
theorem fy.qt{c:MT}(h:fy w F a' [] Z c):Z=[]∧c=[]:=by cases h;exact⟨rfl,rfl⟩
theorem P8{j:Type}{us:aa j}{v:j}(a:us[us.length - 1]?=U v):us.toArray.eraseIdxIfInBounds (us.length - 1)=us.dropLast.toArray:=by
 have n:=(eO.mp a).1;apply B8.mp;simp[Array.eraseIdxIfInBounds,n,List.eraseIdx_eq_take_drop_succ,Ci,Cz (bc (gp _) n)]
theorem XR{G:av}{us:aa ai}{m:ae}(L:s.heap.get? G=U (iN us.toArray m))(a:us[us.length - 1]?=U v)(d:us.length≤ej)
  (K:∀N I,N.get? G=U (iN us.dropLast.toArray I)->gO G s.heap N->Q v {s with heap:=N}):aB (ay pw X.w) A (bQ (.builtin "list.pop") [.ref G]) Q E s:=
 tQ Mv ⟨_,L,rfl⟩ PySem.F.entry_list_pop (PySem.F.args_list_pop_1 _) (MeetsSeq.list_pop_last G us.toArray m v (by simpa using a) d) ⟨L,
  K _ _ (P8 a ▸ CQ (h:=s.heap) (l:=G) (items:=us.toArray) (n:=m) L (λH=> H.eraseIdxIfInBounds (us.length - 1))) (tx ..)⟩
theorem XS(C:aG X)(P:Pack X k O n){j:ae}{y:ao}(f t r:aQ)(i:X.G.ns[j]?=U y)(I:(t.endLine==r.line)=ag)(B:aY H.length=ag)
  (g:V[j]?=U (.own (.list H))) (z:H.getLast?=U p) (R:aX k A) (w:aR X.w F V (ls.map (·.2)) a') (S:St X F Y ls (b'++a') s)
  (K:∀v e W q,Sub F W->Den X.w W p v->Rl X W q (V.set j (.own (.list H.dropLast))) b' e->Q v e):
  wpAny (ay pw X.w) A (bt (.Call (.Attribute (.Name y f) (s_ "pop") t) [] [] r) X.env) Q E s:=by
 refine wW (B:=[]) C P.s xW Mv PySem.F.type_list_pop (λF o ow=> By ow) i I rfl g (ZQ ..) R w S λG Z e W q c D u T M=> ?_
 obtain⟨rfl,rfl⟩:=M.qt;have x:=w.mono T;obtain⟨o,_,L,us,m,rfl,l⟩:=sF x u g D;obtain⟨v,a,d⟩:=l.get (List.getLast?_eq_getElem? ▸ z);rw[l.length]at a;exact XR L a (by rw[← l.length];exact fY B) λN m' b h=> K v _ W q T d (sG (t:=e.toks) x u g D h b ⟨us.dropLast,m',rfl,by rw[Ci,Ci,l.length];exact l.take _⟩)
theorem XQ(C:aG X)(P:Pack X k O n){j:ae}{y:ao}(b f t m d':aQ)(T:X.G.ns[i]?=U x)(L:x∉X.G.ln)(G:X.G.ns[j]?=U y)(I:(t.endLine==m.line)=ag):
  cX X k W O (.Assign [.Name x b] (.Call (.Attribute (.Name y f) (s_ "pop") t) [] [] m) d') (.popS i j):=by
 intro V Z A F Y b' s Q E h R q;obtain⟨ls,a',u,S⟩:=q;refine aC h ?_;clear h;intro H g h;refine aC h ?_;clear h;intro p z h;refine ix h λB K=> ?_
 obtain⟨B,hi⟩:=bu B;refine mr (XS C P f t m G I B (z1 g) z R u S λv c o N a d l=> ?_) rfl;obtain⟨e,r,w,S2⟩:=l;exact hQ (sl:=.J p) C T L (by rw[Lw];exact dg hi) S2 w ⟨d,rfl⟩ λM D=> K _ M ⟨rfl,o,N,a,D⟩
theorem aH.set(d:Den w F p v):∀{H:aa PV} {Z:aa ai} {i:ae},aH w F H Z->aH w F (H.set i p) (Z.set i v):=by
 intro H
 induction H with
 |nil=> intro Z i l;cases Z with |nil=> exact .nil |cons=> exact nomatch l.length
 |cons x H D=>
  intro Z i l;cases Z with
  |nil=> exact nomatch l.length
  |cons u Z=>
   cases i with
   |zero=> exact .cons d l.two.2
   |succ i=> exact .cons l.two.1 (D l.two.2)
theorem YO{us:aa ai}{m:ae}{y:aj}{val:ai}{Q:fO->aD->Prop}(L:s.heap.get? a=U (iN us.toArray m))(x:0≤y)(M:y < us.length)(B:us.length≤ej)
  (K:∀N I,N.get? a=U (iN (us.set y.toNat val).toArray I)->gO a s.heap N->Q () {s with heap:=N,toks:=s.toks}):aB (ay pw X.w) A (yp (.ref a) (.int y t) val) Q E s:=by
 have k:s.TypeIs (.ref a) "list":=⟨_,L,rfl⟩;have C:=fitsIndex_of x (by unfold ej at B;lia:y < 2 ^ 63);clear B;unfold yp
 try with_reducible refine mw ?_
 first |refine aM (bA ?_) |skip
 refine aM (Nh k (by decide) ?_);refine aM (M9 k M1
  (Ds M1 k entry_list_setitem ?_ (args_list_setitem _ _ _)))
 show aB _ _ (aaL (.int y t) >>=_) _ _ s;refine aM (wpAny_listSubscript_int C ?_);obtain⟨j,rfl⟩:=xt x;have o:j < us.toArray.size:=by simp;lia
 have c:=CQ L (·.setIfInBounds j val);have e:us.toArray.setIfInBounds j val=(us.set j val).toArray:=by simp
 rw[e]at c;show aB _ _ ((seqItemAt a j >>=λr=> pure (r.map (j,·))) >>=_) _ _ s;refine aM (aM (wpAny_seqItemAt L rfl (bA ?_)));rw[Array.getElem?_eq_getElem o];show aB _ _ (setSeqItemAt a j val >>=_) _ _ s;refine aM (wpAny_setSeqItemAt L rfl ?_);have w:=K _ _ c (tx ..)
 first
  |exact aM (bA (bA ⟨.none,rfl,bA w⟩))
  |exact bA ⟨.none,rfl,bA w⟩
theorem J3{g:Type}[d4 g]{knd:KeyKind pw X.w g}{M:aa (g×ai)}{us:aa PV}{k':g}{G:av}{P val:ai}{Q:fO->aD->Prop}(dd:cH knd o M)(l:aH X.w F us (M.map (·.2)))(W:knd.is k' P=ag)(B:aY (M.map (·.1)).length=ag)(y:s.heap.get? G=U o)(d:Den X.w F p val)
  (K:∀N C f t,N.get? G=U C->gO G s.heap N->cH knd C f->f.map (·.1)=(cy (M.map (·.1)) us k' p).1->aH X.w F (cy (M.map (·.1)) us k' p).2 (f.map (·.2))->Q () {s with heap:=N,toks:=t}):aB (ay pw X.w) A (yp (.ref G) P val) Q E s:=by
 refine Ni W (dd.dictOf y) (λN u m=> ?_) (by rw[bx]at B;exact fY B);obtain⟨C,h,e⟩:=pI u;obtain⟨L,L,L,L,L,L,V⟩:=dd;obtain⟨n,j⟩:=zj d V l;exact K _ _ _ _ h m e n j
theorem YN{g y:PV}{u:Slot}{G:av}{P val:ai}{Q:fO->aD->Prop}(h:BH (.own g) y p=U u)(ow:bB X.w F g o)(z:Den X.w F y P)(d:Den X.w F p val)(L:s.heap.get? G=U o)
  (K:∀N C q t,N.get? G=U C->gO G s.heap N->bB X.w F q C->u=.own q->Q () {s with heap:=N,toks:=t}):aB (ay pw X.w) A (yp (.ref G) P val) Q E s:=by
 cases g with
 |aW D Z=>
  refine aC h ?_;clear h;intro x T h;refine cg h ?_;clear h;intro B h;obtain⟨M,dd,rfl,l⟩:=ow;rw[jd T]at z;refine z.jL λt=> ?_
  exact J3 dd l (ic pw X.w x _) B L d λN C f t n j a b c=> K N C (.aW _ _) t n j ⟨f,a,b,c⟩ (bo h).symm
 |cV D Z=>
  refine aC h ?_;clear h;intro x T h;refine cg h ?_;clear h;intro B h;obtain⟨M,dd,rfl,l⟩:=ow;rw[eZ T]at z;refine z.dW λt=> ?_
  exact J3 dd l (oW pw X.w x _) B L d λN C f t n j a b c=> K N C (.cV _ _) t n j ⟨f,a,b,c⟩ (bo h).symm
 |list H=>
  refine aC h ?_;clear h;intro w T h;refine cg h ?_;clear h;intro B h;obtain⟨B,i⟩:=bu B;obtain⟨B,e⟩:=bu B;obtain⟨us,m,rfl,l⟩:=ow;rw[eZ T]at z;refine z.dW λt=> ?_
  exact YO L (gx e) (by rw[← l.length];exact gx i) (by rw[← l.length];exact fY B) λN I n j=> K N _ (.list _) s.toks n j ⟨us.set w.toNat val,I,rfl,l.set d⟩ (bo h).symm
 |_=> exact nn h
theorem YM{sl u:Slot}{y:PV}(h:BH sl y p=U u):∃o,sl=.own o∧eG o=ak:=by
 cases sl with
 |own o=> exact⟨o,rfl,by cases o <;> first |rfl |exact nn h⟩
 |_=> exact nn h
theorem YR(C:aG X)(P:Pack X k O n)(b M d':aQ)(a v:aw)(T:X.G.ns[i]?=U x)(hc:iz v=ak):
  cX X k W O (.Assign [.Subscript (.Name x b) a M] v d') (.seti i (aE n X.G a) (aE n X.G v)):=by
 intro V Z A F Y b' s Q E h R Rr;obtain⟨F1,B,ls,a',c',S⟩:=Rr.bg C (bC (aE n X.G v)++bC (aE n X.G a));refine aC h ?_;clear h;intro sl g h;refine aC h ?_;clear h;intro r f h;refine aC h ?_;clear h;intro q I h;refine aC h ?_;clear h;intro p hp h;refine aC h ?_;clear h;intro y hy h;refine fp h λg' m K=> ?_
 obtain⟨f',rfl,hi⟩:=YM m;refine M6 ((P.e v).bR C f hp R S c' λval s' F' e' u H d=> ?_) (fG hc _ _ _);obtain⟨ad,o,D,_,_,_⟩:=Bz (c'.mono H) u g hi;refine fV C T u D ((P.e a).bR C I hy R u (c'.mono H) λkv s2 F2 G S2 w z=> ?_);have l:=c'.mono (H.trans w);obtain⟨o',_,L,ow⟩:=sF l S2 g D hi;exact YN m ow z (d.mono w) L λN o2 q t e1 j c e=> K _ _ ⟨rfl,F2,G,B.trans (H.trans w),e ▸ sG l S2 g D j e1 c hi⟩
theorem KH{g:Type}[d4 g]{knd:KeyKind pw X.w g}{M i:aa (g×ai)}{us Z:aa PV}{G b:av}{C:af}(dd:cH knd o M)(l:aH X.w F Z (M.map (·.2)))(z:s.heap.get? G=U o)(t:F G=ah)(j:F b=U C)(J:s.heap.get? b=U C)(k:(b==cO)=ak)(f:cH knd C i)(l2:aH X.w F us (i.map (·.2)))(B:aY ((M.map (·.1)).length+(i.map (·.1)).length)=ag)
  (K:∀N n r,N.get? G=U n->gO G s.heap N->cH knd n r->r.map (·.1)=(((i.map (·.1)).zip us).foldl (λa p=> cy a.1 a.2 p.1 p.2) (M.map (·.1),Z)).1->aH X.w F (((i.map (·.1)).zip us).foldl (λa p=> cy a.1 a.2 p.1 p.2) (M.map (·.1),Z)).2 (r.map (·.2))->Q .none {s with heap:=N,toks:=s.toks}):
  wpAny (ay pw X.w) A (bQ (.builtin "dict.update") [.ref G,.ref b]) Q E s:=by
 have R:G≠b:=λe=> by rw[← e,t]at j;cases j
 refine yf Ms (dd.dictOf z).typeIs PySem.F.entry_dict_update (PySem.F.args_dict_update_2 _ _) (meets_dict_update knd G b R k) ⟨M,i,dd.dictOf z,f.dictOf J,(by rw[bx,bx]at B;exact fY B),λN u L m=> ?_⟩;obtain⟨n,c,d⟩:=pI u;obtain⟨L,L,L,L,L,L,V⟩:=dd;obtain⟨y,H,_⟩:=Ft V l l2;exact K _ _ _ c m d y H
theorem aab{g:PV}{u:Slot}{G:av}(h:B1 (.own g) p=U u)(ow:bB X.w F g o)(d:Den X.w F p v)(L:s.heap.get? G=U o)(t:F G=ah)(J:∀b o,F b=U o->s.heap.get? b=U o)
  (K:∀N n q,N.get? G=U n->gO G s.heap N->bB X.w F q n->u=.own q->Q .none {s with heap:=N,toks:=s.toks}):aB (ay pw X.w) A (bQ (.builtin "dict.update") [.ref G,v]) Q E s:=by
 cases g with
 |cV T Z=>
  cases p with
  |cV k us=>
   obtain⟨M,dd,rfl,l⟩:=ow;refine cg h ?_;clear h;intro B h;refine d.y8 λb C i j y f Y l2=> ?_
   subst Y;exact KH dd l L t j (J _ _ j) y f l2 B λN n r a b c d e=> K N n (.cV _ _) a b ⟨r,c,d,e⟩ (bo h).symm
  |_=> exact nn h
 |aW T Z=>
  cases p with
  |aW k us=>
   obtain⟨M,dd,rfl,l⟩:=ow;refine cg h ?_;clear h;intro B h;refine d.y9 λb C i j y f Y l2=> ?_
   subst Y;exact KH dd l L t j (J _ _ j) y f l2 B λN n r a b c d e=> K N n (.aW _ _) a b ⟨r,c,d,e⟩ (bo h).symm
  |_=> exact nn h
 |_=> exact nn h
theorem aaa{sl u:Slot}(h:B1 sl p=U u):∃o,bG (sl=.own o) (eG o=ak) (∀F Z,bB X.w F o Z->Z.cls=.type "dict"∧Z.dict=ah):=by
 cases sl with
 |own o=>
  cases o with
  |cV=> exact⟨_,rfl,rfl,λF Z ow=> XD ow⟩
  |aW=> exact⟨_,rfl,rfl,λF Z ow=> XE ow⟩
  |_=> exact nn h
 |_=> exact nn h
theorem aac(C:aG X)(z:Pack X k O (n+1))(xp t cp:aQ)(a:aw)(d':aQ)(T:X.G.ns[i]?=U x)(I:(t.endLine==cp.line)=ag):
  cX X k W O (.Expr (.Call (.Attribute (.Name x xp) (s_ "update") t) [a] [] cp) d') (.upd i (aE n X.G a)):=by
 intro V Z A F Y b' s Q E h R Rr;obtain⟨F1,B,ls,a',y,S⟩:=Rr.bg C (bC (aE n X.G a));refine aC h ?_;clear h;intro sl g h;refine aC h ?_;clear h;intro r f h;refine aC h ?_;clear h;intro p hp h;refine fp h λg' m K=> ?_
 obtain⟨f',rfl,hi,hT⟩:=aaa m;refine j2 (wW C z.s Mq Ms PySem.F.type_dict_update hT T I rfl g (uO f) R y S (λG ws P F' c' ts D u H M=> ?_) hi) (jD C) rfl;obtain⟨F2,S2,w,c⟩:=u.b6 C M (by rw[b6,hp];rfl);obtain⟨v,rfl,d⟩:=c.n4;have l:=y.mono (H.trans w);obtain⟨o,hm,L,ow⟩:=sF l S2 g D hi;exact aab m ow d L (S2.al (G,o) (bp _ (bp _ hm))).2.1 (λb o=> S2.J b o) λN o3 q e1 j e' e=> K _ _ ⟨rfl,F2,c',B.trans (H.trans w),e ▸ sG l S2 g D j e1 e' hi⟩
theorem ZT(m:∀b,gZ X k W O b (b7 n X.G b))(b:aa a9)(u:xV)(g:aa xV)(d':aQ):cX X k W O (.Try b (u::g) [] [] d') (.tryN (b7 n X.G b)):=by
 intro V Z A F Y b' s Q E h R q K;refine M7 (m b V Z A F Y b' s _ _ h R q λfl P o=> ?_);have r:=K fl P o;clear K h R q;cases Z with
 |nxt e'=> obtain⟨rfl,_⟩:=o;exact fi r
 |ret p τ=> obtain⟨v,rfl,_⟩:=o;exact r
theorem k4{st:a9}:cX X k W O st .bad:=by
 exact λL L L L L L L L L h=> nn h
noncomputable def vw(D:fJ)(a:ae)(c:aa aw):aa ao:=c.filterMap λ
  | .Name id d'=> if D.kindOf id==U .local && d'.line==a then U id else ah
  |_=> ah
theorem m8(C:aG X)(a:ae):∀{c:aa aw} {is:aa ae},hU X.G c=U is->(c.all λt=> t.pos.line==a)=ag->
  (vw X.env a c).length=is.length∧∀(q i:ae),is[q]?=U i->∃x,bG ((vw X.env a c)[q]?=U x) (X.G.ns[i]?=U x) (x∉X.G.ln):=by
 intro c
 induction c with
 |nil=> intro is h _;cases h;exact⟨rfl,λq i M=> nn M⟩
 |cons e r D=>
  intro is h I;refine aC h ?_;clear h;intro i M h;refine bT h ?_;clear h;intro d G h;subst h;obtain⟨x,b,rfl,T,L⟩:=B4 M;rw[Lb]at I;obtain⟨y,D⟩:=D G (bu I).2;have W:=(eM C x).trans (C.ns x (f5 T));have f:vw X.env a (.Name x b::r)=x::vw X.env a r:=by
   have z:(b.line==a)=ag:=(bu I).1;exact ov (by show(if(X.env.kindOf x==U .local && b.line==a)=ag then U x else ah)=U x;rw[W,z];rfl)
  rw[f];refine⟨aZ (·+1) y,λq p n=> ?_⟩;cases q with
  |zero=> cases n;exact⟨x,rfl,T,L⟩
  |succ q=> exact D q p n
def NH(X:Cx)(is:aa ae)(w:d8 (aq (aa ao))):Prop:=w=pure ah∨∃g:aa ao,bG (w=pure (U g)) (g.length=is.length) (∀(q i:ae),is[q]?=U i->∃x,bG (g[q]?=U x) (X.G.ns[i]?=U x) (x∉X.G.ln))
theorem ve{j:Type}{P:j->Prop}{c:Prop}[Decidable c]{a b:j}(M:P a)(G:¬c->P b):P (if c then a else b):=by
 by_cases h:c
 ·rw[bZ h];exact M
 ·rw[bW h];exact G h
theorem Zt(C:aG X){c Z:aa aw}{j h:ae}{I D:aQ}(a:hU X.G c=U is)(S:sO c Z is=ag):
  kU [.Tuple c j I] (.Tuple Z h D) X.env=pure ah∨∃g:aa ao,bG (kU [.Tuple c j I] (.Tuple Z h D) X.env=pure (U g)) (g.length=is.length) (∀(q i:ae),is[q]?=U i->∃x,bG (g[q]?=U x) (X.G.ns[i]?=U x) (x∉X.G.ln)):=by
 simp only[sO,cP]at S;obtain⟨⟨⟨⟨⟨M,G⟩,f⟩,B⟩,k⟩,Y⟩:=S;have N:=m8 C _ a Y;show NH X is _;unfold kU;dsimp only;refine ve (.inl rfl) λL=> ve (.inl rfl) λL=> ve (.inl rfl) λL=> ve (.inl rfl) λt=> ?_
 rw[bW λw=> by rw[w]at k;simp[t]at k];exact .inr ⟨_,rfl,N.1,N.2⟩
theorem fk.snoc{d:aa Slot}{c t:MT}{sl:Slot}(b:fk w F d Z c)(h:ke w F sl v t):fk w F (d++[sl]) (Z++[v]) (t++c):=by
 induction b with
 |nil=> simpa using fk.cons h .nil
 |cons a b D=> simpa using fk.cons a D
theorem fk.rev{d:aa Slot}{c:MT}(h:fk w F d Z c):∃e,fk w F d.reverse Z.reverse e∧e.Perm c:=by
 induction h with
 |nil=> exact⟨[],.nil,.refl _⟩
 |@cons _ _ _ _ t c a b D=>
  obtain⟨e,h,p⟩:=D;refine⟨t++e,by simpa using h.snoc a,?_⟩;exact(fe t p).trans List.perm_append_comm
theorem fk.length{d:aa Slot}{c:MT}(h:fk w F d Z c):d.length=Z.length:=by
 induction h with
 |nil=> rfl
 |cons _ _ D=> exact aZ (·+1) D
theorem YJ:∀{P:aa Slot} {V:aa Slot} {i:ae} {x:Slot},i∉is->gH is P (V.set i x)=(gH is P V).set i x:=by
 induction is with
 |nil=> exact λ_=> rfl
 |cons j is D=>
  intro P V i x h;cases P with
  |nil=> rfl
  |cons s P=>
   show gH is P ((V.set i x).set j s)=(gH is P (V.set j s)).set i x;rw[List.set_comm _ _ (λe=> h (by rw[e];exact .head _)),D λm=> h (.tail _ m)]
theorem YK:∀{P:aa Slot} {V:aa Slot} {i:ae} {x:Slot},is.length=P.length->gH (is++[i]) (P++[x]) V=(gH is P V).set i x:=by
 induction is with
 |nil=> intro P V i x h;obtain rfl:=kK h.symm;rfl
 |cons j is D=>
  intro P V i x h;cases P with
  |nil=> exact bf h (by simp)
  |cons s P=> exact D (jW h)
theorem YI:∀{P:aa Slot} {V:aa Slot},is.length=P.length->is.Nodup->gH is.reverse P.reverse V=gH is P V:=by
 induction is with
 |nil=> intro P V h _;obtain rfl:=kK h.symm;rfl
 |cons i is D=>
  intro P V h k;cases P with
  |nil=> exact bf h (by simp)
  |cons s P=>
   have b:=dN.mp k;have I:=jW h;rw[Cp,Cp,YK (by simpa using I),D I b.2];exact(YJ b.1).symm
theorem NV(C:aG X)(z:Pack X k O n){c:aa aw}(j:ae)(I:aQ)(Z:aa aw)(e':ae)(vp d':aQ)(hv:hU X.G c=U is)(h':sO c Z is=ag):
  cX X k W O (.Assign [.Tuple c j I] (.Tuple Z e' vp) d') (.asgD is (br n X.G Z)):=by
 intro V u' A F Y b' s Q E h R Rr K;obtain⟨F1,k',ls,a',y,S⟩:=Rr.bg C (eF (br n X.G Z));refine aC h ?_;clear h;intro B hr h;refine aC h ?_;clear h;intro ss m' h;refine cg h ?_;clear h;intro hz h;cases h;replace hz:ss.length=is.length:=eq_of_beq hz;have i':=h';simp only[sO,cP,eT,fQ]at i';obtain⟨⟨⟨⟨⟨M,G⟩,h3⟩,h4⟩,_⟩,_⟩:=i';have f':∀(Q:ai->aD->Prop) (E:ai->aD->Prop),(∀(us:aa ai) (P:aD) (F':Fz) (c':MT) (f:MT) (a:av),us.length=is.length->IsTup P.heap a us.toArray->St X F' c' ls (f++(b'++a')) P->Sub F1 F'->fk X.w F' ss us f->Q (.ref a) P)->
   wpAny (ay pw X.w) A (bt (.Tuple Z e' vp) X.env) Q E s:=by
  intro Q E K;refine yq (z.s Z _ B A F1 Y ls b' a' s vp _ E hr R S y λus P F' c' s' u H a=> ?_);have so:=a.slots m';have hl:=so.length.symm.trans hz;refine⟨?_,?_⟩
  ·rw[hl,h3]
   simp only[jf,eT]at M;unfold ej;lia
  ·have S2:=u.push (o:={cls:=.type "tuple",data:=.seq us.toArray}) rfl
   exact K us _ F' c' s' _ hl ⟨_,fh _ rfl,rfl,0,rfl⟩ (St.drop (t:=[_]) S2) H so
 obtain⟨hl,hn⟩:=KO hv;have he:=D2 hv;have p':∀{F:Fz} {a':MT} {ls:aa (ao×aq ai)} {s:aD} {i:ae} {x:ao},aR X.w F (bg (eF (br n X.G Z)) V) (ls.map (·.2)) a'->St X F Y ls (b'++a') s->X.G.ns[i]?=U x->i < (bg (eF (br n X.G Z)) V).length:=λy S T=> by
  rw[Rl.len C ⟨_,_,y,S⟩];exact(eO.mp T).1
 have li:∀{i:ae} {x:ao},X.G.ns[i]?=U x->i < (bg (eF (br n X.G Z)) V).length:=λT=> p' y S T
 rcases Zt C hv h' with d |⟨g,d,g',l'⟩
 ·refine CA (f' _ _ λus P F' c' f a o' l u H so=> ?_) (rfl) d
  obtain⟨o,ha,w,m,hd⟩:=l;refine Dr R.hd ⟨o,ha,w,m,hd⟩ (by rw[he];simp;lia) (by rw[he];simp[Ll]) λN hk=> ?_
  rw[he];have S2:=u.grow (t:=P.toks) λb o r=> hk b o (e3 (dy r)) r
  refine BR C (by simp[hl]) (λe' i t M G=> ?_) S2 (y.mono H) so hz λs2 D=> K _ s2 ⟨rfl,F',c',k'.trans H,D⟩
  simp only[dM,eP,jj]at G;obtain⟨t',G,rfl⟩:=G;obtain⟨x,xp,rfl,T,L⟩:=hn e' i t' M G;exact⟨x,T,L,li T,λq=> j3 q⟩
 ·refine L4 (f' _ _ λus P F' c' f a o' l u H so=> ?_) (rfl) d
  obtain⟨o,ha,w,m,hd⟩:=l;have n':g.length=us.toArray.size:=by simp;lia
  rw[n'];refine Nj R.hd ⟨o,ha,w,m,hd⟩ λN hk=> ?_
  obtain⟨r',q',e⟩:=so.rev;have S2:St X F' c' ls (r'++(b'++a')) {P with heap:=N}:=(u.grow (t:=P.toks) λb o r=> hk b o (e3 (dy r)) r).perm (aaz _ e.symm);show aB _ _ (C8 (g.reverse.map λn=> yc X.env n) us.reverse) _ _ _;refine BR C (is:=is.reverse) (by simp[g']) (λq i t M G=> ?_) S2 (y.mono H) q' (by simpa using hz) λs2 D=> K _ s2 ⟨rfl,F',c',k'.trans H,?_⟩
  ·simp only[eP,jj]at G
   obtain⟨v,G,rfl⟩:=G;have hq:q < is.length:=by have:=(eO.mp M).1;simpa using this
   rw[Ls hq]at M;rw[Ls (by lia)]at G;obtain⟨x,p,j',L⟩:=l' _ i M;rw[g']at G;rw[G]at p;cases p;exact⟨v,j',L,li j',λqq=> yr qq⟩
  ·rw[YI hz.symm h4]at D
   exact D
theorem St.KI{g k:MT}{N:cc}(S:St X F Y ls (g++a') s)(W:∀b o,b∉g.map (·.1)->s.heap.get? b=U o->N.get? b=U o)(D:k.map (·.1)=g.map (·.1))(R:∀p∈k,N.get? p.1=U p.2):
  St X F Y ls (k++a') {s with heap:=N,toks:=t}:=by
 have V:=S.nd;simp only[bj]at V;have A:=c2.mp V;have d:=c2.mp A.2.1;have x:∀p∈g,s.heap.get? p.1=U p.2∧F p.1=ah∧p.1≠X.env.locals:=λp z=> S.al p (bp _ (bk _ z))
 have c:∀a,a∈g.map (·.1)->∃p∈g,p.1=a:=λa h=> by obtain⟨p,z,e⟩:=bz.mp h;exact⟨p,z,e⟩
 obtain⟨M,l,H,T,f⟩:=id S.ns;refine⟨S.top,S.sub,S.inv,⟨M,l,H,W _ _ (λm=> ?_) T,f⟩,S.nm,⟨λb o e n=> ?_,S.ext.gens,S.ext.os⟩,λb o e=> ?_,S.fL,S.fr,λp z=> ?_,?_,λp z=> ?_,S.mx,S.xm,S.ce,S.pn⟩
 ·obtain⟨p,z,e⟩:=c _ m
  exact(x p z).2.2 e
 ·refine W b _ (λm=> ?_) (S.ext.keep b o e n)
  obtain⟨p,z,q⟩:=c _ m;have:=S.nw p (bk _ z);rw[q,e]at this;cases this
 ·refine W b _ (λm=> ?_) (S.J b o e)
  obtain⟨p,z,q⟩:=c _ m;have:=(x p z).2.1;rw[q,e]at this;cases this
 ·rcases dc.mp z with h |h
  ·have B:=S.al p (bk _ h)
   exact⟨W _ _ (λm=> A.2.2 _ (cY h) _ (bk _ m) rfl) B.1,B.2⟩
  ·rcases dc.mp h with h |h
   ·have:p.1∈g.map (·.1):=by rw[← D];exact cY h
    obtain⟨q,I,e⟩:=c _ this;have:=x q I;rw[e]at this;exact⟨R p h,this.2⟩
   ·have B:=S.al p (bp _ (bp _ h))
    exact⟨W _ _ (λm=> d.2.2 _ m _ (cY h) rfl) B.1,B.2⟩
 ·simp only[bj];rw[D];exact V
 ·rcases dc.mp z with h |h
  ·have:p.1∈g.map (·.1):=by rw[← D];exact cY h
   obtain⟨q,I,e⟩:=c _ this;rw[← e];exact S.nw q (bk _ I)
  ·exact S.nw p (bp _ h)
theorem FC:∀{H:aa PV} {k i:ae},(gC k H)[i]?=(H[i]?).map λx=> .tup [.int ((k+i:ae):aj),x]
 |[],k,i=> by simp[gC]
 |x::r,k,0=> by simp[gC]
 |x::r,k,i+1=> by
  simp only[gC,List.getElem?_cons_succ];rw[FC,show k+1+i=k+(i+1) by exact xE _ _ _]
theorem FD:∀{H:aa PV} {k:ae},(gC k H).length=H.length
 |[],_=> rfl
 |x::r,k=> by simp[gC,FD]
noncomputable def gV(it:av)(i:aj)(O:ai):af:={cls:=.type "enumerate",dict:=ah,data:=.fields #[.none,.bool ak,.ref it,gQ i,.none,O],slots:=#[]}
theorem Ze(C:A.handled=ah){b':Fz}{elts:aa aw}{j:ae}{I:aQ}{l:av}{m:ae}{e it:av}(d':e≠it)(hl:b' l=U (iN Z.toArray m))(d:aH w b' H Z):
  Src w A b' (.Tuple elts j I) (gC 0 H) (.ref e) (λi g=> bH λO h=> bG (g=[(e,gV it i O),(it,h)]) (h.cls=.type "list_iterator") (h.data=.fields #[.ref l,.int i 0])) where
 item:=by
  rintro X rfl D i p F Y ls a' g s Q E z sb ⟨O,h,rfl,M,G⟩ S K
  rw[FC]at z;simp only[jj]at z;obtain⟨x,T,rfl⟩:=z;obtain⟨v,hv,c⟩:=d.get T;have V:=S.J _ _ (sb _ _ hl);have L:s.heap.IsList l Z.toArray:=⟨_,V,rfl,m,rfl⟩;have f:=(S.al (e,gV it i O) (bp _ (.head _))).1;have hi:=(S.al (it,h) (bp _ (.tail _ (.head _)))).1;have n:l≠e:=λq=> by
   have:=(S.al (e,gV it i O) (bp _ (.head _))).2.1;rw[← q,sb _ _ hl]at this;cases this
  refine wpAny_pyNext_enum_item f ⟨h,hi,M,G⟩ L (by simpa using hv) d' λN R j' ht B W=> ?_
  refine K _ _ λt u K2=> wpAny_letOwnedTupleGo_enum R λl' g' c'=> ?_
  obtain⟨a,i',P,f'⟩:=j';have h':s.heap.objs.size≠e:=λq=> bf (dy f) (by rw[← q];exact fH _)
  have m':s.heap.objs.size≠it:=λq=> bf (dy hi) (by rw[← q];exact fH _)
  have S1:=S.push (o:=eB #[.int i s.toks,v] 0) rfl;have S2:=St.KI (g:=[(s.heap.objs.size,eB #[.int i s.toks,v] 0),(e,gV it i O),(it,h)]) (k:=[(s.heap.objs.size,eB #[.int i s.toks,v] 0),(e,gV it ((i:aj)+1) v),(it,a)]) (t:=s.toks+1) S1 (λb o k r=> by
   simp only[dG,Cn,bM,ox,t2,not_or]at k;rw[xY _ _ _ k.1]at r;exact(c'.2 b k.2.1).trans (W b o k.2.1 k.2.2 r)) rfl (λp z=> by
   simp only[bM,ox,t2]at z;rcases z with rfl |rfl |rfl
   ·exact(c'.2 _ h').trans ht
   ·exact g'
   ·exact(c'.2 _ d'.symm).trans i')
  obtain⟨S3,e',y⟩:=St.freeze D S2;refine K2 _ _ [(e,gV it ((i:aj)+1) v),(it,a)] ⟨v,a,by simp,P,by simpa using f'⟩ S3 e' ?_;refine .tup y ⟨0,rfl⟩ (.cons ?_ (.cons ((c.mono sb).mono e') .nil));rw[LY];exact .int _ _
 done:=by
  rintro X rfl F Y ls a' g s Q E sb ⟨O,h,rfl,M,G⟩ S K
  have V:=S.J _ _ (sb _ _ hl);have L:s.heap.IsList l Z.toArray:=⟨_,V,rfl,m,rfl⟩;have f:=(S.al (e,gV it _ O) (bp _ (.head _))).1;have hi:=(S.al (it,h) (bp _ (.tail _ (.head _)))).1;have k':=d.length;refine wpAny_pyNext_enum_end C f ⟨h,hi,M,G⟩ L (by simp[FD,k']) λN T=> ?_
  have S1:=St.drop (t:=[_]) S;exact K _ [] (St.Fm (t:=s.toks) S1 λb x k r=> T b x k r)
 self:=by
  rintro X rfl F Y ls a' g s Q E sb ⟨O,h,rfl,M,G⟩ S K
  exact Ng (S.al (e,gV it _ O) (bp _ (.head _))).1 K
theorem SF(C:aG X)(P1:Pack X k O (n+1))(HB:∀b,gZ X k W O b (b7 n X.G b)){ts:aa aw}{i1 i2:ae}(j:ae)(I:aQ)(f:ao)(c cp:aQ)(a:aw)(b:aa a9)(d':aQ)(hv:hU X.G ts=U [i1,i2]){y:ao}(t:hl X.G f=.glb y (.fn (.type "enumerate"))):
  cX X k W O (.For (.Tuple ts j I) (.Call (.Name f c) [a] [] cp) b [] d') (.forE i1 i2 (aE n X.G a) (b7 n X.G b)):=by
 intro V x' A F Y b' s Q E h R q K;obtain⟨F1,B,ls,a',e',S⟩:=q.bg C (bC (aE n X.G a));refine aC h ?_;clear h;intro r hr h;refine aC h ?_;clear h;intro p z h;refine aC h ?_;clear h;intro ps p' h;cases kv p';have h':=uO hr;have n':=hF h';have o':((d9 cp (du [a] X.env)).any (·.1) ||([]:aa (aq ao×d8 ai)).any (·.1.isNone))=ak:=by rw[gK,n'];rfl
 have l':ev O X.cps (bg (bC (aE n X.G a)) V) (aE (n+1) X.G (.Name f c))=U (.J (.fn (.type "enumerate"))):=by
  show ev O X.cps _ (hl X.G f)=_;rw[t];rfl
 refine tW (tr ((P1.e (.Name f c)).read C l' R S e' λfv P F' v' u H ra=> ?_) (pC rfl)) (λL=> rfl);obtain rfl:=ra.lh;refine f9 (P:=λL=> eR) o' (λh L=> ⟨_,.inr (.inl rfl),lu (λL e=> by cases e)⟩) ?_;refine gc P1.s h' R u (e'.mono H) λZ i F2 G g S2 w M=> ⟨trivial,?_⟩
 obtain⟨T,S3,x,dd⟩:=S2.b6 C M (by rw[b6,z];rfl);obtain⟨_,rfl,d⟩:=dd.n4;obtain⟨l,us,m,rfl,e,dl⟩:=d.inv;have g':=S3.J _ _ e;have t':=dy g';refine call_enumerate_list ⟨_,g',rfl,m,rfl⟩ λN he m' hz hk=> ?_
 obtain⟨oi,c',hc,hd⟩:=m';have nn:i.heap.get? i.heap.objs.size=ah:=e2 (dh _);have w':i.heap.get? (i.heap.objs.size+1)=ah:=e2 (hX _);have S4:=S3.grown (t:=i.toks) hk nn c';have S5:St X T G ls ((i.heap.objs.size+1,gV i.heap.objs.size 0 .none)::(i.heap.objs.size,oi)::(b'++a')) {i with heap:=N}:=by
  have j':=S3.push (CP.mp c').2;have i':(i.heap.push oi).objs.size=i.heap.objs.size+1:=tA ..;have f':=j'.push (o:=gV i.heap.objs.size 0 .none) rfl;have k':=St.KI (g:=[(i.heap.objs.size+1,gV i.heap.objs.size 0 .none),(i.heap.objs.size,oi)]) (k:=[(i.heap.objs.size+1,gV i.heap.objs.size 0 .none),(i.heap.objs.size,oi)]) (N:=N) (t:=i.toks) (by rw[i']at f';exact f') (λb o nb eb=> by
   simp only[dG,Cn,bM,ox,t2,not_or]at nb;rw[xY _ _ _ (by rw[i'];exact nb.1),xY _ _ _ nb.2]at eb;exact hk b o eb) rfl (λp z=> by
   simp only[bM,ox,t2]at z;rcases z with rfl |rfl
   ·exact he
   ·exact c')
  exact k'
 have SR:=Ze (A:=A) (elts:=ts) (j:=j) (I:=I) (it:=i.heap.objs.size) (e:=i.heap.objs.size+1) (w:=X.w) R.hd (Nat.succ_ne_self _) e dl;refine Ng he ?_;refine zA C (g:=[(i.heap.objs.size+1,gV i.heap.objs.size 0 .none),(i.heap.objs.size,oi)]) SR ?_ h (Sub.refl _) ⟨.none,oi,rfl,hc,hd⟩ ⟨ls,a',e'.mono (H.trans (w.trans x)),by simpa using S5⟩ λfl s3 o=> K fl s3 (o.sub (B.trans (H.trans (w.trans x))))
 intro p v A' y' F2 G s' s4 Q2 E1 E2 t w d2 D K2;obtain⟨u',z',r',S4⟩:=D;exact aC t λB' q' t=> xk C R.hd hv q' d2 r' S4 λs5 R5=> HB b _ _ A F2 G s' s5 Q2 E1 t R R5 K2
theorem BB{d:af}{m:ao}(h:bB w F (.aW ns ps) d)(s:Den w F p v):
  bB w F (.aW (cy ns ps m p).1 (cy ns ps m p).2) (gr m (fK w.params m) (.str m t) v d)∧(gr m (fK w.params m) (.str m t) v d).isFreed=ak:=by
 obtain⟨M,⟨r,q,H,u,W,z,Z⟩,rfl,l⟩:=h;obtain⟨n,j⟩:=zj (k:=m) (v:=v) s Z l;rw[Obj.putName_eq];obtain⟨c,dd,o,sl⟩:=d;dsimp only at u;subst u;unfold Obj.putNameByArray;have a:(q.findIdx? λe=> e.key.isStr m)=M.findIdx? λP=> decide (P.1=m):=by
  rw[← z.findIdx m];have:(λe:e4=> e.key.isStr m)=λe=> (strKind pw w).is m e.key:=by funext e;exact(Ki m e.key).symm
  rw[this];obtain⟨l⟩:=q;simp
 dsimp only;cases hi:q.findIdx? λe=> e.key.isStr m with
 |some i=>
  dsimp only;refine⟨⟨fx M m v,⟨r,_,H,rfl,W.modify _ _,?_,xc Z⟩,n,j⟩,rfl⟩;rw[fx,bZ (any_of_findIdx_some (a ▸ hi))];have I:(q.toList.findIdx? λe=> (strKind pw w).is m e.key)=U i:=by rw[z.findIdx m,← a,hi]
  have:=z.modify Z I v;obtain⟨l⟩:=q;simpa using this
 |none=>
  have b:m∉M.map (·.1):=not_mem_of_findIdx_none (a ▸ hi);have g:¬(M.any λP=> decide (P.1=m))=ag:=by
   rw[ot];rintro ⟨P,k,f⟩;exact b (bz.mpr ⟨P,k,gx f⟩)
  dsimp only;refine⟨⟨fx M m v,⟨r,_,H+1,rfl,W.push (ic pw w m t) _,?_,xc Z⟩,n,j⟩,rfl⟩;rw[fx,bW g];have:=z.append (ic pw w m t) (fK w.params m) v;obtain⟨l⟩:=q;simpa using this
noncomputable def setOk(K:kQ)(c:av)(m:ao):au:=jo K (.ref c) "__setattr__"==U (U (.builtin "object.__setattr__")) && plainOver K c && (clsIn K c).any (·.hasDict) && (C6 K c m).any (·.isNone)
theorem YS(P:aT):yL.all (λq=> setOk (K0 P) q.1 q.2)=ag:=by kernel_rfl
theorem J4{c:av}{m:ao}(P:aT)(h:k3 c m=ag):setOk (K0 P) c m=ag:=by
 obtain⟨q,I,e⟩:=ot.mp h;simp only[cP,eT]at e;have:=eh.mp (YS P) q I;rw[e.1,e.2]at this;exact this
section
set_option tactic.hygienic true in
theorem Ke{R:iM->aD->Prop}{x C D:av}{d:af}{m:ao}{V:fM}(X:(K0 w.params).In s.heap)(I:InstAt s.heap x (cZ C D) C (U d))(ok:setOk (K0 w.params) C m=ag)(y:(hY m d).isSome=ag)
  (t:(gr m (fK w.params m) (.str m s.toks) v d).isFreed=ak) (B:∀l n,(gr m (fK w.params m) (.str m s.toks) v d).data=.dict l n->l.size≤ej) (o:bH λl n=> (gr m (fK w.params m) (.str m s.toks) v d).data=.dict l n)
  (h:R (.ok (.ret .none)) {s with heap:=s.heap.update D (gr m (fK w.params m) (.str m s.toks) v),toks:=s.toks+1}):
  gv (ay pw w) A (.call (.builtin "object.__setattr__") ⟨[.ref x,.str m V,v],[]⟩) R s:=by
 simp only[setOk,cP,eT]at ok;obtain⟨⟨⟨g,H⟩,G⟩,E⟩:=ok;have E:C6 (K0 w.params) C m=U ah:=by
  cases q:C6 (K0 w.params) C m with
  |none=> rw[q]at E;cases E
  |some r=> cases r with
   |none=> rfl
   |some a=> rw[q]at E;cases E
 refine osa_open X I H E λb=> ?_
 obtain⟨i,F,j⟩:=CZ G;obtain⟨T,K,Z,O⟩:=I;have u:(s.heap.update D (gr m (fK w.params m) (.str m s.toks) v)).get? D=U (gr m (fK w.params m) (.str m s.toks) v d):=jm _ O t;refine aM (bA (aM (aM (yu T (aM ((C2 X F).here ?_))))));rw[j];refine bA (a:=U D) (aM (bA (aM ?_)));unfold nsSet;refine aM (aM (M8 (bA (aM (Dw (aM (yu O ?_)))))));unfold hY at y
 split at y
 ·rename_i k p q
  rw[q];dsimp only;have c:(!k.any (·.key.isStr m) && k.any (·.refKey))=ak:=by
   rw[← KR,← KR]
   split at y
   ·rename_i en f
    rw[ot.mpr ⟨en,Ly f,Lk f⟩];rfl
   ·split at y
    ·cases y
    ·rename_i z;rw[Bool.not_eq_true]at z;rw[z,xp]
  rw[aRefKeyMayBeTheName_at,c];refine Nk O ?_;obtain⟨l,n,e⟩:=o;refine aM (Nd u (by rw[e];exact pastItsLine_dict (jU (B l n e))) ?_);exact bA h
 ·cases y
theorem JP{d:af}{q:c8 e4}(h:bB w F (.aW ns ps) d)(e:d.data=.dict q n):q.size=ns.length:=by
 obtain⟨M,⟨f,a,H,u,W,z,Z⟩,rfl,l⟩:=h;rw[u]at e;cases e;have:=z.length;simpa using this
theorem Fs{K:Type}[BEq K]{T:aa K}:∀{Z:aa PV} {x:K} {y:PV},T.length=Z.length->(cy T Z x y).1.length≤T.length+1:=by
 induction T with
 |nil=> intro Z x y h;exact dh _
 |cons k T D=>
  intro Z x y h;cases Z with
  |nil=> cases h
  |cons v Z=>
   rw[zi];cases k==x
   ·exact iL (D (jW h))
   ·exact hX _
theorem YH{sl u:Slot}{m:ao}(h:BG sl m p=U u):ea λc ns ps=> dE (sl=.own (.inst c ns ps)) (k3 c m=ag) (ns.length < 100) (.own (.inst c (cy ns ps m p).1 (cy ns ps m p).2)=u):=by
 cases sl with
 |own q=>
  cases q with
  |inst c ns ps=> exact cg h λB h=> ⟨c,ns,ps,rfl,(bu B).1,dg (bu B).2,bo h⟩
  |_=> exact nn h
 |_=> exact nn h
theorem YQ(C:aG X)(P:Pack X k O n)(xp ap d':aQ)(m:ao)(v:aw)(T:X.G.ns[i]?=U x)(w:iz v=ak):
  cX X k W O (.Assign [.Attribute (.Name x xp) m ap] v d') (.seta i m (aE n X.G v)):=by
 intro V Z A F Y b' s Q E h R Rr;obtain⟨F1,B,ls,a',y,S⟩:=Rr.bg C (bC (aE n X.G v));refine aC h ?_;clear h;intro sl g h;refine aC h ?_;clear h;intro r hr h;refine aC h ?_;clear h;intro p z h;refine fp h ?_;clear h;intro i' e';obtain⟨c,ns,ps,rfl,f',hz,rfl⟩:=YH e';clear e';intro K;refine Dm ((P.e v).bR C hr z R S y λval s' F' N u H d=> ?_) (fG w _ _ _);obtain⟨xa,D,dd,h',a,b,L,ow,k2,_⟩:=(y.mono H).zN g;refine fV C T u a ?_;have S1:St X F' N ls ((D,dd)::(b'++h')) s':=u.perm ((fe b' L).trans dA);have hD:=(S1.al (D,dd) (bp _ (.head _))).1;have I:InstAt s'.heap xa (cZ c D) c (U dd):=⟨u.J _ _ b,rfl,rfl,hD⟩;have ok:=J4 X.w.params f';obtain⟨c',t⟩:=BB (m:=m) (p:=p) (t:=s'.toks+1) ow d;have o:=ok;simp only[setOk,cP,eT]at o;have g':(hY m dd).isSome=ag:=by
  obtain⟨M,q,_,_⟩:=ow;rw[i4 q m];rfl
 refine C5 (iB (u.top.in u.J)) I o.1.1.1 (Ke (s:={s' with toks:=s'.toks+1}) (iB (u.top.in u.J)) I ok g' t (λes nn e=> ?_) ?_ ?_)
 ·have e1:=JP c' e
  have hl:ns.length=ps.length:=by obtain⟨M,_,rfl,l⟩:=ow;rw[l.length];simp
  have j:=Fs (x:=m) (y:=p) hl;rw[e1];unfold ej;exact bK (by assumption) (bK (by assumption) (by decide))
 ·obtain⟨M,⟨_,es,ep,hd,_⟩,_⟩:=c'
  exact⟨es,ep,hd⟩
 ·obtain⟨f,G,p2⟩:=k2 c'
  have S2:=S1.upd (o':=gr m (fK X.w.params m) (.str m (s'.toks+1)) val dd) (tx (a:=D) (f:=gr m (fK X.w.params m) (.str m (s'.toks+1)) val) ..) (jm _ hD t);exact K _ _ ⟨rfl,F',N,B.trans H,ls,f,G,(S2.perm (dA.symm.trans (fe b' p2.symm))).toks _⟩
end
theorem lV{j:Type}{st:a9}{x:aq j}{f:j->CS}(h:∀a,x=U a->cX X k W O st (f a)):cX X k W O st (x.elim .bad f):=by
 cases x with
 |none=> exact k4
 |some a=> exact h a rfl
theorem KQ{st:a9}{c:au}{c':CS}(h:c=ak->cX X k W O st c'):cX X k W O st (bif c then .bad else c'):=by
 cases c with
 |true=> exact k4
 |false=> exact h rfl
theorem xo{st:a9}{c:au}{c':CS}(h:c=ag->cX X k W O st c'):cX X k W O st (bif c then c' else .bad):=by
 cases c with
 |true=> exact h rfl
 |false=> exact k4
theorem EH{q:aw×aa aw×aa kO×aQ}(h:mU e=U q):e=.Call q.1 q.2.1 q.2.2.1 q.2.2.2:=
 Mi.elim (motive_1:=λe=> mU e=U q->e=.Call q.1 q.2.1 q.2.2.1 q.2.2.2) e (pg h) (λf as T p h=> by obtain rfl:=bo (h);rfl) h
theorem N2{q:aw×ao×aQ}(h:mH e=U q):e=.Attribute q.1 q.2.1 q.2.2:=
 Mh.elim (motive_1:=λe=> mH e=U q->e=.Attribute q.1 q.2.1 q.2.2) e (pg h) (λo m p h=> by obtain rfl:=bo (h);rfl) h
theorem ZU{q:aa aw×ae×aQ}(h:sP e=U q):e=.Tuple q.1 q.2.1 q.2.2:=
 Ml.elim (motive_1:=λe=> sP e=U q->e=.Tuple q.1 q.2.1 q.2.2) e (pg h) (λl k p h=> by obtain rfl:=bo (h);rfl) h
theorem HM{q:ae×ao×aa aw}(h:qr X.G e=U q):gy λy f t d=> bG (e=.Call (.Attribute (.Name y f) q.2.1 t) q.2.2 [] d) (X.G.ns[q.1]?=U y) ((t.endLine==d.line)=ag):=
 aC h λc w h=> aC h λa D h=> aC h λi hi h=> cg h λB h=> by
  cases h;obtain⟨y,f,n,E⟩:=B3 hi;obtain⟨M,G⟩:=bu B;rw[EH w,N2 D,n,hr.mp M];exact⟨y,f,_,_,rfl,E,G⟩
theorem N1(C:aG X)(P:Pack X k O n)(t v:aw)(d':aQ)(w:iz v=ak):cX X k W O (.Assign [t] v d') (D1 X.G t v (aE n X.G) (br n X.G)):=by
 cases t with
 |Name x b=>
  refine lV λi hi=> ?_
  obtain⟨T,L⟩:=pf hi;cases z:JK X.G v with
  |none=> exact N0 C P x b v d' T L w
  |some j=>
   refine aC z ?_;clear z;intro q s z;refine cg z ?_;clear z;intro B z;cases z;obtain⟨y,f,K,d,e,E,r⟩:=HM s;rw[eq_of_beq (bu B).2,hr.mp (bu B).1]at e;rw[e];exact XQ C P b f K d d' T L E r
 |Tuple c j I=>
  refine lV λis hi=> ?_
  cases l:sP v with
  |none=> exact NY C P j I v d' hi w λZ h p e=> by rw[e]at l;exact nomatch l
  |some q=>
   refine xo λS=> ?_
   rw[ZU l];exact NV C P j I q.1 q.2.1 q.2.2 d' hi S
 |Subscript o a M=>
  refine lV λi hi=> ?_
  obtain⟨x,b,rfl,T⟩:=B3 hi;exact YR C P b M d' a v T w
 |Attribute o m R=>
  refine lV λi hi=> ?_
  obtain⟨x,b,rfl,T⟩:=B3 hi;exact YQ C P b R d' m v T w
 |_=> exact k4
theorem RG(C:aG X)(P:Pack X k O n)(z:Pack X k O (n+1))(v:aw)(d':aQ)(w:iz v=ak):cX X k W O (.Expr v d') ((qr X.G v).elim (.expr (aE n X.G v)) λq=> HL q.1 q.2.1 q.2.2 v (aE n X.G)):=by
 cases o:qr X.G v with
 |none=> exact FJ C P v d' w
 |some q=>
  obtain⟨i,m,as⟩:=q;obtain⟨y,f,t,d,e,E,I⟩:=HM o;have b:=FJ (W:=W) C P v d' w;cases as with
  |nil=>
   show cX X k W O _ (bif m==s_ "pop" then .popX i else .expr (aE n X.G v));cases M:m==s_ "pop" with
   |true=> exact λL L L L L L L L L h=> nn h
   |false=> exact b
  |cons a r=>
   cases r with
   |cons=> exact b
   |nil=>
    show cX X k W O _ (bif m==s_ "append" then .app i (aE n X.G a)else bif m==s_ "extend" then .ext i (aE n X.G a)else bif m==s_ "update" then .upd i (aE n X.G a)else .expr (aE n X.G v));cases M:m==s_ "append" with
    |true=> rw[e,eq_of_beq M];exact NS C P z f t d a d' E I
    |false=>
    cases G:m==s_ "extend" with
    |true=> rw[e,eq_of_beq G];exact RK C P z f t d a d' E I
    |false=>
    cases j:m==s_ "update" with
    |true=> rw[e,eq_of_beq j];exact aac C z f t d a d' E I
    |false=> exact b
theorem SI(C:aG X)(P:Pack X k O n)(z:Pack X k O (n+1))(m:∀b,gZ X k W O b (b7 n X.G b))(t it:aw)(b:aa a9)(d':aQ):cX X k W O (.For t it b [] d') (Gk X.G t it (aE n X.G) (b7 n X.G b)):=by
 cases t with
 |Name x H=> exact lV λi hi=> SH C P m H it b d' (pf hi).1 (pf hi).2
 |Tuple F j I=>
  refine lV λis hi=> ?_
  cases f:FE X.G it is with
  |none=> exact SG C P m j I it b d' hi
  |some q=>
   refine aC f ?_;clear f;intro c w f;refine aC f ?_;clear f;intro x T f;refine aC f ?_;clear f;intro a D f;refine aC f ?_;clear f;intro d e f;refine cg f ?_;clear f;intro B f;cases f;obtain⟨M,G⟩:=bu B;rw[EH w,qs T,sE D,hr.mp M];rw[kH e]at hi;cases E:hl X.G x.1 with
   |glb y p=>
    rw[E]at G;cases p with
    |fn v=>
     cases v with
     |type t=> rw[eq_of_beq G]at E;exact SF C z m j I x.1 x.2 _ a b d' hi E
     |_=> exact nf G
    |_=> exact nf G
   |_=> rw[E]at G;exact nf G
 |_=> exact k4
theorem Zl(C:aG X)(P:Pack X k O n)(z:Pack X k O (n+1))(m:∀b,gZ X k W O b (b7 n X.G b))(st:a9):cX X k W O st (og (n+1) X.G st):=by
 cases st with
 |Assign F v d'=> exact lV λt l=> KQ λw=> sE l ▸ N1 C P t v d' w
 |Expr v d'=> exact KQ λw=> RG C P z v d' w
 |Return v d'=>
  cases v with
  |none=> exact X7 d'
  |some e=>
   show cX X k W O _ (((iE e).bind λq=> oi (hl X.G q.1)).elim (.ret (aE n X.G e)) .retV);cases Z:(iE e).bind λq=> oi (hl X.G q.1)with
   |none=> exact Yb C P e d'
   |some i=>
    refine aC Z ?_;clear Z;intro q I Z;rw[qs I];refine X9 C q.2 d' ?_;cases r:X.G.kd.lookup q.1 with
    |none=> rw[hl,r]at Z;exact nn Z
    |some kd=>
     rw[hl,r]at Z;cases kd with
     |«local»=>
      replace Z:oi ((idxOf q.1 X.G.ns).elim .bad .var)=U i:=Z;cases o:idxOf q.1 X.G.ns with
      |none=> rw[o]at Z;exact nn Z
      |some j=> rw[o]at Z;cases Z;exact mZ o
     |cell=>
      replace Z:oi ((idxOf q.1 X.G.cs).elim .bad .cel)=U i:=Z;cases o:idxOf q.1 X.G.cs with
      |none=> rw[o]at Z;exact nn Z
      |some j=> rw[o]at Z;exact nn Z
     |globalImplicit=>
      replace Z:oi ((X.G.gs.lookup q.1).elim .bad (.glb q.1))=U i:=Z;cases o:X.G.gs.lookup q.1 with
      |none=> rw[o]at Z;exact nn Z
      |some j=> rw[o]at Z;exact nn Z
     |_=> exact nn Z
 |Continue d'=> exact λL L L L L L L L L h=> nn h
 |If c a b d'=> exact T5 C P m c a b d'
 |While c b e d'=>
  refine xo λp=> ?_
  rw[hr.mp p];exact aak C P m c b d'
 |For t it b e d'=>
  refine xo λp=> ?_
  rw[hr.mp p];exact SI C P z m t it b d'
 |Try b g e f d'=>
  refine xo λp=> ?_
  obtain⟨M,s⟩:=bu p;obtain⟨M,G⟩:=bu M;rw[hr.mp G,hr.mp s];cases g with
  |nil=> exact nf M
  |cons u g=> exact ZT m b u g d'
 |_=> exact k4
theorem sM(C:aG X)(P:∀n,Pack X k O n):∀n,(∀st,cX X k W O st (og n X.G st))∧∀b,gZ X k W O b (b7 n X.G b)
 |0=> ⟨λst=> by have e:og 0 X.G st=.bad:=rfl;rw[e];exact k4,Oz⟩
 |n+1=> by
  obtain⟨_,m⟩:=sM C P n;exact⟨Zl C (P n) (P (n+1)) m,Oy (sM C P n).1 m⟩
theorem uk(C:aG X)(z:cp X.w X.I k O)(n:ae)(b:aa a9):gZ X k W O b (b7 n X.G b):=
 (sM C (λn=> dU n X.I z X C rfl rfl) n).2 b
def hz(P:aT)(q:ao×PV):Prop:=((q.1==("__debug__":ao))=ak)∧∃v,GV P q.1 v∧∀w F,w.params=P->d1 P F->Den w F q.2 v
structure fj(P:aT)(a:av)(o:af)(fd:fv)(body:aa a9)(c:av)(oc:af)(ps rest:aa ao)(gs:aa (ao×PV))(m:ae)(dps:aa PV)(dvs:aa ai):Prop where
 top:(H1 P).get? a=some o
 na:a≠cu
 data:o.data=.func fd
 bd:fd.body=.stmts body
 cd:fd.code=.ref c
 ctop:(H1 P).get? c=some oc
 cna:c≠cu
 crec:bH λvs t=> oc.data=.fields vs∧vs[1]?=some (.str fd.qualname t)
 bind:∀(s:aD) (vs:aa ai),(∀b o,b≠cu->(H1 P).get? b=some o->s.heap.get? b=some o)->vs.length=m->xP s fd ⟨vs,[]⟩ (ps.zip (vs++dvs))
 dden:∀w F,aH w F dps dvs
 len:m+dps.length=ps.length
 cell:∀x∈fd.scope.names,x.2≠.cell
 nsl:∀x∈ps++rest,fd.scope.names.lookup x=some .local
 nn:(ps++rest).Nodup
 nd:∀x∈ps++rest,(x==("__debug__":ao))=false
 gs:∀q∈gs,hz P q
 gl:fd.globals=3
 bl:fd.builtins=0
 hco:fd.scope.isCoroutine=false
 hgen:fd.scope.isGenerator=false
 hk:fd.scope.kind=.function
theorem g8{fd:fv}(h:(H1 w.params).get? a=U o)(y:a≠cu)(u:o.data=.func fd):Kept w (.ref a):=λM z T=> by
 refine⟨.frame,.inl rfl,?_⟩;refine(MJ (T a o y h)).andThen ?_;simp only[u];exact .now
theorem Hk(H:aa ao)(x:ao):lk (H.map λy=> (y,ah)) x=ah:=by
 induction H with
 |nil=> rfl
 |cons y r D=> exact(aZ (λz=> if x=y then ah else z) D).trans (ite_self _)
theorem Hn:∀{l:aa (ao×ai)} {x:ao},x∉l.map (·.1)->l.lookup x=ah
 |[],_,_=> rfl
 |(y,v)::r,x,h=> by
  have M:x≠y:=λe=> h (e ▸ .head _)
  have hb:(x==y)=ak:=by simpa using M
  rw[l5,hb];exact Hn λm=> h (.tail _ m)
theorem Hm:∀{l c:aa (ao×ai)} {x:ao},(l++c).lookup x=(match l.lookup x with |some v=> U v |none=> c.lookup x)
 |[],_,_=> rfl
 |(y,v)::r,c,x=> by
  rw[Ld,l5,l5]
  split
  ·rfl
  ·exact Hm
theorem Ea(ps:aa ao):∀(Z:aa ai) (H:aa ao) (x:ao),ps.Nodup->Z.length=ps.length->(ps.zip Z).reverse.lookup x=lk (ps.zip (Z.map U)++H.map λy=> (y,ah)) x:=by
 induction ps with
 |nil=> exact λZ H x _ _=> (Hk H x).symm
 |cons p ps D=>
  intro Z H x V h;cases Z with
  |nil=> cases h
  |cons v Z=>
  have b:=dN.mp V;replace D:=D Z H x b.2 (jW h);rw[LF,Cp,Hm];show _=(if x=p then U v else lk (ps.zip (Z.map U)++H.map λy=> (y,ah)) x);by_cases e:x=p
  ·subst e
   have n:(ps.zip Z).reverse.lookup x=ah:=Hn λm=> b.1 (by
    obtain⟨q,I,e⟩:=bz.mp m;rw[← e];exact(ti (Lz.mp I)).1)
   rw[n,bZ rfl];simp
  ·have hb:(x==p)=ak:=by simpa using e
   rw[bW e,D];cases lk (ps.zip (Z.map U)++H.map λy=> (y,ah)) x with
   |some v=> rfl
   |none=> simp[l5,hb]
theorem sT:∀(ps:aa ao) (Z:aa ai) (H:aa ao),Z.length=ps.length->(ps.zip (Z.map U)++H.map λy=> (y,(ah:aq ai))).map (·.1)=ps++H
 |[],[],H,_=> by
  show(H.map λy=> (y,(ah:aq ai))).map (·.1)=H;rw[dM];exact xC H
 |[],_::_,_,h=> by cases h
 |_::_,[],_,h=> by cases h
 |p::ps,v::Z,H,h=> by
  simp only[dG,LF,Ld];rw[sT ps Z H (by simpa using h)]
theorem w7:∀{args:aa PV} {Z:aa ai} {ps H:aa ao},aH w F args Z->Z.length=ps.length->
  aR w F (args.map Slot.J++H.map λL=> Slot.un) ((ps.zip (Z.map U)++H.map λy=> (y,(ah:aq ai))).map (·.2)) []:=by
 intro args Z ps H l;refine l.ind (λps h=> ?_) (λa b D ps h=> ?_) ps
 ·cases ps with
  |nil=>
   induction H with
   |nil=> exact .nil
   |cons r B D=> exact .un D
  |cons=> cases h
 ·cases ps with
  |nil=> cases h
  |cons p ps=> exact .J a (D ps (jW h))
theorem ja{as:aa av}(z:cp w I k O):cp w (λF Y=> I F Y∧Y.map (·.1)=as) k O:=λf args r e=> by
 obtain⟨C,b⟩:=z f args r e;refine⟨C,?_⟩;intro F Y Z A s Q E R T I D B o V KK;exact b F Y Z A s Q E R T I.1 D B o V λv P W N t n j y H x q a u=> KK v P W N t n j ⟨y,q.trans I.2⟩ H x q a u
def bq(I:Fz->MT->Prop):Prop:=∀F W Y,I F Y->Sub F W->(∀p∈Y,W p.1=ah)->I W Y
def c0(w:aV)(I:Fz->MT->Prop)(k:ae)(f:ai)(args:aa PV)(g:Fz->MT->Prop)(R:Fz->MT->ai->MT->Prop):Prop:=
 ∀(F:Fz) (Y:MT) (Z:aa ai) (A:dC) (s:aD) (Q:ai->aD->Prop) (E:ai->aD->Prop),aX k A->d1 w.params F->I F Y->g F Y->aH w F args Z->
  (∀a o,F a=U o->s.heap.get? a=U o)->(∀p∈Y,s.heap.get? p.1=U p.2∧F p.1=ah)->(Y.map (·.1)).Nodup->
  (∀v P W N t,Ext (Y.map (·.1)) s P->Sub F W->I W N->(∀a o,W a=U o->P.heap.get? a=U o)->(∀a o,W a=U o->F a=U o∨s.heap.get? a=ah)->
   N.map (·.1)=Y.map (·.1)->(∀p∈N,P.heap.get? p.1=U p.2∧W p.1=ah)->R W N v t->(∀p∈t,P.heap.get? p.1=U p.2∧W p.1=ah∧s.heap.get? p.1=ah)->(t.map (·.1)).Nodup->Q v P)->
  wpAny (ay pw w) A (bQ f Z) Q E s
theorem St.uh{c:aD}:∀{t:MT},St X F Y ls a' s->(∀p∈t,s.heap.get? p.1=U p.2∧F p.1=ah∧c.heap.get? p.1=ah)->(t.map (·.1)).Nodup->
  (∀a,c.heap.get? a=ah->a≠X.env.locals∧a∉(Y++a').map (·.1)∧X.s₀.heap.get? a=ah)->St X F Y ls (t++a') s
 |[],S,_,_,_=> S
 |(a,o)::t,S,h,V,f=> by
  have b:=dN.mp V;have S1:=St.uh S (λp z=> h p (.tail _ z)) b.2 f;obtain⟨M,G,j⟩:=h (a,o) (.head _);obtain⟨f1,O,i⟩:=f a j;refine S1.adopt M G f1 (λm=> ?_) i;rw[bj,bj]at m;rw[bj]at O;rcases dc.mp m with m |m
  ·exact O (bk _ m)
  ·rcases dc.mp m with m |m
   ·exact b.1 m
   ·exact O (bp _ m)
theorem xl{g:Fz->MT->Prop}{j:Fz->MT->ai->MT->Prop}
  (c:c0 X.w X.I k f args g j) (R:aX k A) (S:St X F Y ls a' s) (z:g F Y) (D:aH X.w F args Z)
  (K:∀v P W N t,St X W N ls (t++a') P->Sub F W->j W N v t->Q v P):aB (ay pw X.w) A (bQ f Z) Q E s:=by
 refine c F Y Z A s Q E R S.top S.inv z D S.J (λp z=> ⟨(S.al p (bk _ z)).1,(S.al p (bk _ z)).2.1⟩) ?_ λv P W N t y C b B r O i d l H=> ?_
 ·have:=S.nd
  rw[bj]at this;exact(c2.mp this).1
 ·have u:=S.call y C b B r O i
  refine K v P W N t (u.uh l H λa x=> ⟨λe=> ?_,λm=> ?_,S.hP x⟩) C d
  ·obtain⟨M,_,_,T,_⟩:=S.ns
   rw[← e,x]at T;cases T
  ·rw[bj,O,← bj]at m
   obtain⟨q,I,e⟩:=bz.mp m;have:=(S.al q I).1;rw[e,x]at this;cases this
theorem uy{fd:fv}{g':aa a9}{c:av}{g:af}{ps H:aa ao}{n:aa (ao×PV)}{m:ae}{E:aa PV}{l:aa ai}{R:iM->aD->Prop}
  (K:fj w.params a o fd g' c g ps H n m E l) (hI:bq I) (O:args.length=m) {F:Fz} {Y:MT} {Z:aa ai} {A:dC} {s:aD} (Rm:aX (k+1) A) (T:d1 w.params F) (Im:I F Y) (D:aH w F args Z)
  (B:∀a o,F a=U o->s.heap.get? a=U o) (c':∀p∈Y,s.heap.get? p.1=U p.2∧F p.1=ah) (V:(Y.map (·.1)).Nodup)
  (HB:∀(X:Cx) (r:aD),aG X->X.w=w->X.I=(λF N=> I F N∧N.map (·.1)=Y.map (·.1))->X.G=⟨fd.scope.names,ps++H,[],n,[]⟩->X.cps=[]->X.env=De fd s.heap.objs.size a->X.s₀=s->X.F₀=F->X.ex=Y.map (·.1)->aX k (A.deeper X.env)->
   Rl X F Y ((args++E).map .J++H.map λL=> .un) [] r->aB (ay pw w) (A.deeper X.env) (ei g' X.env) (λf P=> R (.ok (.ret (match f with | .ret v=> v |_=> .none))) P)
    (λe P=> aB (ay pw w) (A.deeper X.env) (tS X.env e) (λL h=> R (.error e) h) (λe' h=> R (.error e') h) P) r):
  gv (ay pw w) A (.call (.ref a) ⟨Z,[]⟩) R s:=by
 have Q:Z.length=m:=by rw[← D.length];exact O
 have h':=(K.dden w F).length;have b':(Z++l).length=ps.length:=by rw[da,Q,← h'];exact K.len
 have d':∀b o,b≠cu->(H1 w.params).get? b=U o->s.heap.get? b=U o:=λb o nb e=> B _ _ (T b o nb e)
 have nn:=K.nn;have i':=(c2.mp nn).1;have j':∀x∈ps.zip (Z++l),x.1∈ps:=λx hx=> (ti hx).1
 refine MP Rm.d0 (d' a o K.na K.top) K.data (vy T B) ?_ K.bd (K.bind s Z d' Q) K.cell (λx hx=> K.nsl _ (bk _ (j' x hx))) (λf' u a'=> ?_) K.hco K.hgen K.hk
 ·obtain⟨ws,t,M,h2⟩:=K.crec
  exact⟨c,g,ws,t,K.cd,d' c g K.cna K.ctop,M,h2⟩
 ·have nL:s.heap.get? s.heap.objs.size=ah:=e2 (dh _)
  let X:Cx:={w:=w,env:=De fd s.heap.objs.size a,G:=⟨fd.scope.names,ps++H,[],n,[]⟩,cps:=[],cad:=[],s₀:=s,F₀:=F,ex:=Y.map (·.1),I:=λF N=> I F N∧N.map (·.1)=Y.map (·.1)}
  have C:aG X:={
   fn:=K.hk
   kd:=rfl
   gl:=K.gl
   bl:=K.bl
   ns:=K.nsl
   nn:=K.nn
   gs:=λq hq=> by
    obtain⟨M,v,h2,j⟩:=K.gs q hq;exact⟨M,v,h2,λF T=> j w F rfl T⟩
   cs:=λi x hi=> by simp[X]at hi
   cn:=λx hx=> by simp[X]at hx
   dn:=K.nd
   hL:=nL
   inv:=λF W Y M h2 j=> ⟨hI F W Y M.1 h2 j,M.2⟩
   pk:=λq hq=> nm hq}
  have S:St X F Y (ps.zip ((Z++l).map U)++H.map λy=> (y,ah)) ([]++[]) {s with heap:=f',toks:=s.toks+(ps.zip (Z++l)).length}:=by
   refine⟨T,Sub.refl _,⟨Im,rfl⟩,?_,sT ps _ H b',⟨λb o e L=> a' b o e,rfl,rfl⟩,λb o e=> a' _ _ (B b o e),?_,λb o e=> .inl e,λp z=> ?_,?_,λp z=> by simp at z,λp z=> .inl (cY z),λb hb=> hb,λi c hc=> by simp[X]at hc,λq hq=> nm hq⟩
   ·have e:lk (ps.zip ((Z++l).map U)++H.map λy=> (y,ah))=λx=> (ps.zip (Z++l)).reverse.lookup x:=by
     funext x;exact(Ea ps (Z++l) H x i' b').symm
    rw[e];exact u
   ·cases q:F s.heap.objs.size with
    |none=> exact q
    |some o=> have:=B _ _ q;rw[nL]at this;cases this
   ·have d:p∈Y:=by simpa using z
    refine⟨a' _ _ (c' p d).1,(c' p d).2,λe=> ?_⟩;have e':p.1=s.heap.objs.size:=e;have:=(c' p d).1;rw[e',nL]at this;cases this
   ·simpa using V
  have R':aX k (A.deeper X.env):=Rm.deeper;have DD:=D.append (K.dden w F);have RL:Rl X F Y ((args++E).map .J++H.map λL=> .un) [] {s with heap:=f',toks:=s.toks+(ps.zip (Z++l)).length}:=⟨_,[],w7 DD b',S⟩;exact HB X _ C rfl rfl rfl rfl rfl rfl rfl rfl R' RL
def Nq(w:aV)(I:Fz->MT->Prop)(k:ae)(i:ai)(G:TG)(S:aa a9)(V:aa Slot)(g:Fz->MT->Prop)(R:Fz->MT->ai->MT->Prop):Prop:=
 ∀(X:Cx) (F:Fz) (Y:MT) (s:aD) (A:dC) (Q:dD->aD->Prop) (E:ai->aD->Prop),aG X->X.w=w->X.I=(λF N=> I F N∧N.map (·.1)=Y.map (·.1))->X.G=G->X.cps=[]->X.env.code=i->aX k A->g F Y->Rl X F Y V [] s->
  (∀v P W N ls t a',St X W N ls (t++a') P->R W N v t->Q (.ret v) P∧(v=.none->Q .next P))->aB (ay pw w) A (ei S X.env) Q E s
theorem call_of{fd:fv}{S:aa a9}{c:av}{oc:af}{ps H:aa ao}{n:aa (ao×PV)}{m:ae}{q:aa PV}{l:aa ai}
  {g:Fz->MT->Prop} {j:Fz->MT->ai->MT->Prop} (K:fj w.params a o fd S c oc ps H n m q l) (hI:bq I) (hm:args.length=m)
  (HB:Nq w I k fd.code ⟨fd.scope.names,ps++H,[],n,[]⟩ S ((args++q).map .J++H.map λL=> .un) g j):c0 w I (k+1) (.ref a) args g j:=by
 intro F Y Z A s Q E R T Im Pr D hz i nd KK;refine iQ (uy K hI hm R T Im D hz i nd λX r C hw b' O c' V x f h R' G=> HB X F Y _ _ _ _ C hw b' O c' (by rw[V];rfl) R' Pr G λv P W N ls t a' u d=> ?_);have M:=u.inv;rw[b']at M;have y:Q v P:=
  KK v P W N t (by rw[← h,← x];exact u.ext) (by rw[← f];exact u.sub) M.1 u.J (by rw[← f,← x];exact u.fr) M.2 (λp z=> ⟨(u.al p (bk _ z)).1,(u.al p (bk _ z)).2.1⟩) d
   (λp z=> have B:=u.al p (bp _ (bk _ z));⟨B.1,B.2.1,by rw[← x];exact u.nw p (bk _ z)⟩)
   (by have b:=u.nd;rw[bj,bj]at b;exact(c2.mp (c2.mp b).2.1).1)
 exact⟨y,λe=> by subst e;exact y⟩
set_option tactic.hygienic true in
theorem Pw{fd:fv}{S:aa a9}{c:av}{oc:af}{ps H:aa ao}{gs:aa (ao×PV)}{m:ae}{f:aa PV}{l:aa ai}(n:ae)
  (K:fj w.params a o fd S c oc ps H gs m f l) (b:bq I) (z:cp w I k O) (hm:args.length=m)
  (h:ez W O [] (b7 n ⟨fd.scope.names,ps++H,[],gs,[]⟩ S) ((args++f).map .J++H.map λL=> .un)=U r):c5 w I (k+1) (.ref a) args r:=by
 refine⟨g8 K.top K.na K.data,?_⟩;intro F Y Z A s Q E R T g D hz i V KK;refine call_of (g:=λL L=> eR) K b hm ?_ F Y Z A s Q E R T g trivial D hz i V (λv P p N t e1 j y e4 x q e7 e8 e9 L=> KK v P p N t e1 j y e4 x q e7 e8 e9);intro X F Y s A Q E C hw c' hG b' _ R _ G KK;subst hw;have B:=uk (W:=W) C (by rw[c'];exact ja z) n S;rw[hG]at B;refine JU h (λτ M=> ?_) λτ M e=> ?_
 ·refine B _ _ _ F Y [] _ _ _ (by rw[b'];exact M) R G λfl P o=> ?_
  obtain⟨v,rfl,p,N,t,_,⟨ls,a',_,u⟩,d⟩:=o;rw[fu]at u;exact(KK v P p N ls t _ u d).1
 ·subst e
  refine B _ _ _ F Y [] _ _ _ (by rw[b'];exact M) R G λfl P o=> ?_
  obtain⟨rfl,p,N,_,ls,a',_,u⟩:=o;exact(KK .none P p N ls [] _ u (.J .none)).2 rfl
def gz(w:aV)(F:Fz)(p:PV)(v:ai)(D:av)(d:af):Prop:=match p with
 | .inst c ns ps=> ∃x,bG (v=.ref x) (F x=U (cZ c D)) (bB w F (.aW ns ps) d)
 |q=> v=.ref D∧bB w F q d
theorem gz.K{D:av}{d:af}{C:Prop}(h:gz w F p v D d)(hi:∀c ns ps x,p=.inst c ns ps->v=.ref x->F x=U (cZ c D)->bB w F (.aW ns ps) d->C)(f:eG p=ak->v=.ref D->bB w F p d->C):C:=by
 cases p with
 |inst c ns ps=> exact h.elim λx h=> h.casesOn λM G j=> hi c ns ps x rfl M G j
 |_=> exact f rfl h.1 h.2
def iS(w:aV)(I:Fz->MT->Prop)(k:ae)(f:ai)(p0:PV)(args:aa PV)(r p1:PV):Prop:=
 ∀(F:Fz) (Y:MT) (K:ai) (Z:aa ai) (A:dC) (s:aD) (Q:ai->aD->Prop) (E:ai->aD->Prop) (D:av) (d:af),aX k A->d1 w.params F->I F Y->aH w F args Z->gz w F p0 K D d->
  s.heap.get? D=U d->F D=ah->D∉Y.map (·.1)->(∀a o,F a=U o->s.heap.get? a=U o)->(∀p∈Y,s.heap.get? p.1=U p.2∧F p.1=ah)->(Y.map (·.1)).Nodup->
  (∀v P W N S,Ext (D::Y.map (·.1)) s P->Sub F W->I W N->(∀a o,W a=U o->P.heap.get? a=U o)->(∀a o,W a=U o->F a=U o∨s.heap.get? a=ah)->
   N.map (·.1)=Y.map (·.1)->(∀p∈N,P.heap.get? p.1=U p.2∧W p.1=ah)->P.heap.get? D=U S->W D=ah->gz w W p1 K D S->Den w W r v->Q v P)->
  gv (ay pw w) A (.call f ⟨K::Z,[]⟩) (λr P=> match r with | .ok (.ret v)=> Q v P | .ok _=> False | .error e=> E e P) s
noncomputable def JC:Slot->aq PV
 | .own p=> U p
 |_=> ah
def Bx(τ:aa Slot):aq PV:=(τ[0]?).bind JC
def XA:Out->aq (PV×PV)
 | .ret r τ=> (zC r).bind λp=> (Bx τ).map λq=> (p,q)
 | .nxt τ=> (Bx τ).map λq=> (.none,q)
def w1(W:ae)(O:bI)(b:CB)(V:aa Slot):aq (PV×PV):=(aI W O [] b V).bind XA
theorem JB{τ:aa Slot}{q:PV}(h:Bx τ=U q):τ[0]?=U (.own q):=
 aC h λs g h=> by
  cases s with
  |own p=> exact bo h ▸ g
  |_=> exact nn h
noncomputable def hide(h:cc)(D:av):cc:=h.update D λL=> ⟨.none,ah,.freed,#[]⟩
theorem hide_ne{D b:av}(n:b≠D):(hide h D).get? b=h.get? b:=Heap.get?_update_ne _ _ _ _ n
theorem hide_self(h:cc)(D:av):(hide h D).get? D=ah:=by
 cases q:(hide h D).get? D with
 |none=> rfl
 |some o=>
  obtain⟨M,G⟩:=CP.mp q;cases h;simp only[hide,Heap.update,Array.getElem?_modify,o4,jj]at M;obtain⟨_,_,rfl⟩:=M;cases G
theorem TH{D b:av}(e:(hide h D).get? b=U o):b≠D∧h.get? b=U o:=by
 by_cases n:b=D
 ·rw[n,hide_self]at e;cases e
 ·exact⟨n,by rw[hide_ne n]at e;exact e⟩
theorem aR.TF{Z:aa (aq ai)}{a':aa (av×af)}{q:PV}(h:aR w F V Z a')(e:V[0]?=U (.own q))(y:Z[0]?=U (U v)):bH λD d=> (D,d)∈a'∧gz w F q v D d:=by
 obtain⟨K,t,H,n,x,p,_⟩:=h.at e;rw[y]at n;have m:∀q∈t,q∈a':=λq I=> p.mem_iff.mpr (bk _ I)
 cases x with
 |@own p a o x=>
  cases n;refine⟨a,o,m _ (.head _),?_⟩;cases q <;> first |exact⟨rfl,x⟩ |exact False.elim x
 |jb b x=> cases n;exact⟨_,_,m _ (.head _),_,rfl,b,x⟩
theorem gz.same{W:Fz}{q:PV}{D u:av}{d S:af}(h:gz w F p v D d)(N:gz w W q v u S)(H:Sub F W)(hi:eG p=eG q):u=D:=
 h.K (λc ns ps x e n j _=> N.K (λk a G y _ f1 O _=> by
    obtain rfl:x=y:=CW (n.symm.trans f1);have:=(H _ _ j).symm.trans O;simp only[xK,cZ,Obj.mk.injEq]at this;exact this.2.1.symm) (λf _ _=> nf (f.symm.trans (hi.symm.trans (by rw[e];rfl)))))
  (λe n _=> N.K (λk a G y f _ _ _=> nf (e.symm.trans (hi.trans (by rw[f];rfl)))) (λ_ f1 _=> CW (f1.symm.trans n)))
theorem gz.slot{D:av}{d:af}(h:gz w F p v D d){Z:aa (aq ai)}{a':aa (av×af)}(r:aR w F V Z a'):aR w F (.own p::V) (U v::Z) ((D,d)::a'):=by
 exact h.K (λc ns ps x e n j y=> by subst e n;exact .jb j y r) (λ_ n y=> by subst n;exact .own y r)
def ud(w:aV)(I:Fz->MT->Prop)(k:ae)(f:ai)(p0:PV)(args:aa PV)(j:Fz->PV->ai->MT->Prop):Prop:=
 ∀(F:Fz) (Y:MT) (K:ai) (Z:aa ai) (A:dC) (s:aD) (Q:ai->aD->Prop) (E:ai->aD->Prop) (D:av) (d:af),aX k A->d1 w.params F->I F Y->aH w F args Z->gz w F p0 K D d->
  s.heap.get? D=U d->F D=ah->D∉Y.map (·.1)->(∀a o,F a=U o->s.heap.get? a=U o)->(∀p∈Y,s.heap.get? p.1=U p.2∧F p.1=ah)->(Y.map (·.1)).Nodup->
  (∀v P W N S q t,Ext (D::Y.map (·.1)) s P->Sub F W->I W N->(∀a o,W a=U o->P.heap.get? a=U o)->(∀a o,W a=U o->F a=U o∨s.heap.get? a=ah)->
   N.map (·.1)=Y.map (·.1)->(∀p∈N,P.heap.get? p.1=U p.2∧W p.1=ah)->P.heap.get? D=U S->W D=ah->gz w W q K D S->j W q v t->
   (∀p∈t,P.heap.get? p.1=U p.2∧W p.1=ah∧s.heap.get? p.1=ah)->(t.map (·.1)).Nodup->Q v P)->
  gv (ay pw w) A (.call f ⟨K::Z,[]⟩) (λr P=> match r with | .ok (.ret v)=> Q v P | .ok _=> False | .error e=> E e P) s
def Nr(w:aV)(I:Fz->MT->Prop)(k:ae)(G:TG)(S:aa a9)(V:aa Slot)(j:Fz->PV->ai->MT->Prop):Prop:=
 ∀(X:Cx) (F:Fz) (Y:MT) (s:aD) (A:dC) (Q:dD->aD->Prop) (E:ai->aD->Prop),aG X->X.w=w->X.I=(λF N=> I F N∧N.map (·.1)=Y.map (·.1))->X.G=G->X.cps=[]->aX k A->Rl X F Y V [] s->
  (∀v P W N τ q t,Rl X W N τ t P->τ[0]?=U (.own q)->j W q v t->Q (.ret v) P∧(v=.none->Q .next P))->aB (ay pw w) A (ei S X.env) Q E s
set_option tactic.hygienic true in
theorem Hh{fd:fv}{n':aa a9}{c:av}{g:af}{f:ao}{ps H:aa ao}{h':aa (ao×PV)}{m:ae}{g':aa PV}{l:aa ai}{e':PV}{j:Fz->PV->ai->MT->Prop}
  (b':fj w.params a o fd n' c g (f::ps) H h' m g' l) (hI:bq I) (O:args.length+1=m) (j':∀F q v t,j F q v t->eG e'=eG q)
  (HB:Nr w I k ⟨fd.scope.names,f::(ps++H),[],h',[f]⟩ n' (.own e'::((args++g').map .J++H.map λL=> .un)) j):ud w I (k+1) (.ref a) e' args j:=by
 intro F Y K Z A s Q E D d R T Im DD ov i' w' x' hz l' V KK;have p':(K::Z).length=m:=by rw[dz,← DD.length];exact O
 have z':=(b'.dden w F).length;have k':(Z++l).length=ps.length:=by
  have:=b'.len;rw[da,← z'];rw[dz]at p' this
  lia
 have m':∀b o,b≠cu->(H1 w.params).get? b=U o->s.heap.get? b=U o:=λb o nb e=> hz _ _ (T b o nb e)
 have nn:=b'.nn;have F':=(c2.mp nn).1;have G':∀x∈(f::ps).zip (K::(Z++l)),x.1∈f::ps:=λx hx=> (ti hx).1
 have hb:=b'.bind s (K::Z) m' p';refine MP R.d0 (m' a o b'.na b'.top) b'.data (vy T hz) ?_ b'.bd hb b'.cell (λx hx=> b'.nsl _ (bk _ (G' x hx))) (λf' C' d'=> ?_) b'.hco b'.hgen b'.hk
 ·obtain⟨ws,t,M,h2⟩:=b'.crec
  exact⟨c,g,ws,t,b'.cd,m' c g b'.cna b'.ctop,M,h2⟩
 ·have nL:s.heap.get? s.heap.objs.size=ah:=e2 (dh _)
  have r':D≠s.heap.objs.size:=λe=> by rw[e,nL]at i';cases i'
  let X:Cx:={w:=w,env:=De fd s.heap.objs.size a,G:=⟨fd.scope.names,f::(ps++H),[],h',[f]⟩,cps:=[],cad:=[],s₀:={s with heap:=hide s.heap D},F₀:=F,ex:=Y.map (·.1),I:=λF N=> I F N∧N.map (·.1)=Y.map (·.1),pin:=[(f,K)]}
  have C:aG X:={
   fn:=b'.hk
   kd:=rfl
   gl:=b'.gl
   bl:=b'.bl
   ns:=b'.nsl
   nn:=b'.nn
   gs:=λq hq=> by
    obtain⟨M,v,h2,h3⟩:=b'.gs q hq;exact⟨M,v,h2,λF T=> h3 w F rfl T⟩
   cs:=λi x hi=> by simp[X]at hi
   cn:=λx hx=> by simp[X]at hx
   dn:=b'.nd
   hL:=(hide_ne (gM r')).trans nL
   inv:=λF W Y M h2 h3=> ⟨hI F W Y M.1 h2 h3,M.2⟩
   pk:=λq hq=> by
    have:q=(f,K):=d5.mp hq;rw[this];exact .head _}
  have S:St X F Y ((f,U K)::(ps.zip ((Z++l).map U)++H.map λy=> (y,ah))) ([]++[(D,d)]) {s with heap:=f',toks:=s.toks+((f::ps).zip (K::(Z++l))).length}:=by
   refine⟨T,Sub.refl _,⟨Im,rfl⟩,?_,?_,⟨λb o e L=> d' b o (TH e).2,rfl,rfl⟩,λb o e=> d' _ _ (hz b o e),?_,λb o e=> .inl e,λp hp=> ?_,?_,λp hp=> ?_,λp hp=> .inl (cY hp),λb hb=> hb,λi c hc=> by simp[X]at hc,λq hq=> ?_⟩
   ·have e:lk ((f,U K)::(ps.zip ((Z++l).map U)++H.map λy=> (y,ah)))=λx=> ((f::ps).zip (K::(Z++l))).reverse.lookup x:=by
     funext x;exact(Ea (f::ps) (K::(Z++l)) H x F' (by simp only[dz,k'])).symm
    rw[e];exact C'
   ·show f::(ps.zip ((Z++l).map U)++H.map λy=> (y,(ah:aq ai))).map (·.1)=f::(ps++H)
    rw[sT ps _ H k']
   ·cases q:F s.heap.objs.size with
    |none=> exact q
    |some o=> have:=hz _ _ q;rw[nL]at this;cases this
   ·rcases dc.mp hp with hp |hp
    ·refine⟨d' _ _ (l' p hp).1,(l' p hp).2,λe=> ?_⟩
     have u':p.1=s.heap.objs.size:=e;have:=(l' p hp).1;rw[u',nL]at this;cases this
    ·have:p=(D,d):=by simpa using hp
     subst this;exact⟨d' _ _ i',w',r'⟩
   ·rw[bj]
    refine c2.mpr ⟨V,by simp,λx hx y hy e=> x' ?_⟩;have:y=D:=by simpa using hy
    rw[← this,← e];exact hx
   ·have:p=(D,d):=by simpa using hp
    subst this;exact hide_self _ _
   ·have:q=(f,K):=d5.mp hq
    subst this;show(if f=f then U K else _)=U K;rw[bZ rfl]
  have R':aX k (A.deeper X.env):=R.deeper;have t':=DD.append (b'.dden w F);have RL:Rl X F Y (.own e'::((args++g').map .J++H.map λL=> .un)) [] {s with heap:=f',toks:=s.toks+((f::ps).zip (K::(Z++l))).length}:=⟨_,[(D,d)],ov.slot (w7 t' k'),S⟩;have v':∀(v:ai) (P:aD) (W:Fz) (N:MT) (τ:aa Slot) (q:PV) (t:MT),Rl X W N τ t P->τ[0]?=U (.own q)->j W q v t->Q v P:=by
   rintro v P W N τ q t ⟨ls,a',E',S'⟩ hq dr
   replace j':=j' _ _ _ _ dr;have hp:=S'.pn (f,K) (.head _);have B':bH λu r=> ls=(f,u)::r:=by
    have:=S'.nm;cases ls with
    |nil=> cases this
    |cons y r=> simp only[dG,Cg,X]at this;exact⟨y.2,r,by rw[← this.1]⟩
   obtain⟨u,H',rfl⟩:=B';have hu:u=U K:=by
    have:(if f=f then u else _)=U K:=hp
    rwa [bZ rfl]at this
   subst hu;obtain⟨D',o',q',s'⟩:=E'.TF hq rfl;have A':=S'.al (D',o') (bp _ (bp _ q'));have eD:=ov.same s' S'.sub j';subst eD;refine KK v P W N o' q t ⟨λb o e n=> ?_,S'.ext.gens,S'.ext.os⟩ S'.sub S'.inv.1 S'.J (λb o e=> ?_) S'.inv.2 (λp hp=> ⟨(S'.al p (bk _ hp)).1,(S'.al p (bk _ hp)).2.1⟩) A'.1 A'.2.1 s' dr (λp hp=> ?_) ?_
   ·have nb:b≠D':=λq=> n (by rw[q];exact .head _)
    exact S'.ext.keep b o (by show(hide s.heap D').get? b=U o;rw[hide_ne nb];exact e) λm=> n (.tail _ m)
   ·rcases S'.fr b o e with h |h
    ·exact .inl h
    ·have nb:b≠D':=λq=> by rw[q,A'.2.1]at e;cases e
     right;have:(hide s.heap D').get? b=ah:=h
     rwa [hide_ne nb]at this
   ·have B:=S'.al p (bp _ (bk _ hp))
    have c':=S'.nd;rw[bj,bj]at c';have nb:p.1≠D':=λe=> (c2.mp (c2.mp c').2.1).2.2 _ (cY hp) _ (cY q') e
    have h0:=S'.nw p (bk _ hp);rw[hide_ne nb]at h0;exact⟨B.1,B.2.1,h0⟩
   ·have c':=S'.nd
    rw[bj,bj]at c';exact(c2.mp (c2.mp c').2.1).1
  refine HB X F Y _ _ _ _ C rfl rfl rfl rfl R' RL λv P W N τ q t y' hq dr=> ?_
  have z:=v' v P W N τ q t y' hq dr;exact⟨z,λe=> by subst e;exact z⟩
set_option tactic.hygienic true in
theorem UU{fd:fv}{S:aa a9}{c:av}{oc:af}{f:ao}{ps H:aa ao}{gs:aa (ao×PV)}{m:ae}{c':aa PV}{l:aa ai}(n:ae){M b' r:PV}(j':eG M=eG b')
  (a':fj w.params a o fd S c oc (f::ps) H gs m c' l) (hI:bq I) (z:cp w I k O) (hm:args.length+1=m)
  (h:w1 W O (b7 n ⟨fd.scope.names,f::(ps++H),[],gs,[f]⟩ S) (.own M::((args++c').map .J++H.map λL=> .un))=U (r,b')):Kept w (.ref a)∧iS w I (k+1) (.ref a) M args r b':=by
 refine⟨g8 a'.top a'.na a'.data,?_⟩;intro F Y K Z A s Q E D d R T g DD ov e b e' hz i V KK;refine Hh (j:=λF' q v t=> q=b'∧Den w F' r v) a' hI hm (λL L L L h=> by rw[h.1];exact j') ?_ F Y K Z A s Q E D d R T g DD ov e b e' hz i V
  (λv P F' N g' q t e1 j y e4 x e6 e7 e8 e9 h' d' L L=> KK v P F' N g' e1 j y e4 x e6 e7 e8 e9 (by rw[← d'.1];exact h') d'.2)
 clear KK V i hz e' b e ov DD g T R d D E Q s A Z K Y F a' hI hm;intro X F Y s A Q E C hw i' hG f' R G KK;subst hw;have B:=uk (W:=W) C (by rw[i'];exact ja z) n S;rw[hG]at B;refine aC h ?_;clear h;intro o hx h;cases o with
 |ret p τ=>
  refine aC h ?_;clear h;intro p' hp h;refine bT h ?_;clear h;intro q hq h;obtain⟨rfl,rfl⟩:=jk h;refine B _ _ _ F Y [] _ _ _ (by rw[f'];exact hx) R G λfl P o=> ?_
  obtain⟨v,rfl,F',N,t,_,u,d⟩:=o;rw[zD hp]at d;obtain⟨rfl,dd⟩:=d.eY;exact(KK v P F' N τ _ [] u (JB hq) ⟨rfl,dd⟩).1
 |nxt τ=>
  refine bT h ?_;clear h;intro q hq h;obtain⟨rfl,rfl⟩:=jk h;refine B _ _ _ F Y [] _ _ _ (by rw[f'];exact hx) R G λfl P o=> ?_
  obtain⟨rfl,F',N,_,u⟩:=o;exact(KK .none P F' N τ _ [] u (JB hq) ⟨rfl,.none⟩).2 rfl
noncomputable def Ag(K:kQ)(c f:av):au:=makesIn K c && jo K (.ref c) "__init__"==U (U (.ref f)) && typeIn K (.ref f)==U (.type "function")
noncomputable def hG:aa (av×av):=[(201,184),(283,266),(405,402),(630,601),(686,662)]
theorem Hz(P:aT):hG.all (λq=> Ag (K0 P) q.1 q.2)=ag:=by kernel_rfl
theorem Hy(A:dC)(C:av)(k:aa ai):(A.under (.builtin "type.__call__" ⟨.ref C::k,[]⟩)).units≤A.units+50:=by
 have e:(Md "type.__call__" ⟨.ref C::k,[]⟩).cUnits=1:=by kernel_rfl
 show A.units+(Md "type.__call__" ⟨.ref C::k,[]⟩).cUnits≤A.units+50;rw[e];lia
theorem Fx:bB w F (.aW [] []) dR:=by
 refine⟨[],⟨⟨rfl,rfl,rfl⟩,#[],0,rfl,λL f=> by simp at f,.nil,gm⟩,rfl,.nil⟩
theorem y1{c f:av}(O:(c,f)∈hG):Kept w (.ref c):=by
 have ok:=eh.mp (Hz w.params) (c,f) O;simp only[Ag,cP,eT]at ok;obtain⟨⟨a,b⟩,d⟩:=ok;refine λM h T=> ⟨.machine,.inr (.inl rfl),?_⟩
 have X:=iB T;have u:=makes_of (M:=M) X a;have e:=u.call;obtain⟨g,od,i,sl,F,_⟩:=u.obj;refine(MJ F).andThen ?_;dsimp only;refine e.andThen ?_;exact .now
set_option tactic.hygienic true in
theorem y2{c f:av}{j:Fz->PV->ai->MT->Prop}(O:(c,f)∈hG)(hI:bq I)(hv:∀F q v t,j F q v t->v=.none∧bH λns ps=> q=.inst c ns ps)(HL:ud w I k (.ref f) (.inst c [] []) args j):
  c0 w I (k+1) (.ref c) args (λL L=> eR) (λW L v t=> o8 λx D d ns ps t'=> j4 (v=.ref x) (W x=U (cZ c D)) (bB w W (.aW ns ps) d) (t=(D,d)::t') (j W (.inst c ns ps) .none t')):=by
 have ok:=eh.mp (Hz w.params) (c,f) O;simp only[Ag,cP,eT]at ok;obtain⟨⟨p',q'⟩,r'⟩:=ok;intro F Y Z A s Q E R T Im _ D hz a' V KK;have X:=iB (T.in hz);obtain⟨C,g,d,t',os⟩:=s;refine iQ (make_core (makes_of X p') (x8 X q') (λs'=> bind_fn X s' r') (.inl rfl) ?_);have nN:C.get? C.objs.size=ah:=e2 (dh _);have b':C.get? (C.objs.size+1)=ah:=e2 (hX _);have FN:F C.objs.size=ah:=by
  cases q:F C.objs.size with
  |none=> rfl
  |some o=> have:=hz _ _ q;rw[nN]at this;cases this
 have e':F (C.objs.size+1)=ah:=by
  cases q:F (C.objs.size+1)with
  |none=> rfl
  |some o=> have:=hz _ _ q;rw[b']at this;cases this
 have i:∀b o,C.get? b=U o->((C.push dR).push (cZ c C.objs.size)).get? b=U o:=λb o e=> ew _ (ew _ e)
 have m':(C.push dR).objs.size=C.objs.size+1:=tA ..;have hx:((C.push dR).push (cZ c C.objs.size)).get? (C.objs.size+1)=U (cZ c C.objs.size):=by
  have:=fh (C.push dR) (o:=cZ c C.objs.size) rfl;rw[m']at this;exact this
 have hd:((C.push dR).push (cZ c C.objs.size)).get? C.objs.size=U dR:=ew _ (fh _ rfl);have H:Sub F (F.ins (C.objs.size+1) (cZ c C.objs.size)):=Sub.ins e';have c':∀p∈Y,p.1≠C.objs.size∧p.1≠C.objs.size+1:=λp z=> by
  have B:C.get? p.1=U p.2:=(a' p z).1;refine⟨λe=> ?_,λe=> ?_⟩
  ·rw[e,nN]at B;cases B
  ·rw[e,b']at B;cases B
 have n':(F.ins (C.objs.size+1) (cZ c C.objs.size)) C.objs.size=ah:=by
  show(if C.objs.size=C.objs.size+1 then _ else F C.objs.size)=ah;rw[bW (by lia)];exact FN
 have d':∀p∈Y,(F.ins (C.objs.size+1) (cZ c C.objs.size)) p.1=ah:=λp z=> by
  show(if p.1=C.objs.size+1 then _ else F p.1)=ah;rw[bW (c' p z).2];exact(a' p z).2
 have o':=HL (F.ins (C.objs.size+1) (cZ c C.objs.size)) Y (.ref (C.objs.size+1)) Z (A.under (.builtin "type.__call__" ⟨.ref c::Z,[]⟩)) ⟨(C.push dR).push (cZ c C.objs.size),g,d,t',os⟩
  (λv P=> v=.none∧Q (.ref (C.objs.size+1)) P) E C.objs.size dR
  (R.to R.hd (d:=1) (L6 ..) (by decide) (Hy A c Z) (by decide)) (T.mono H) (hI _ _ _ Im H d') (D.mono H)
  ⟨C.objs.size+1,rfl,F.lq _ _,Fx⟩ hd n' (λm=> by
   obtain⟨p,z,e⟩:=bz.mp m;exact(c' p z).1 e)
  (λa o e=> by
   unfold Fz.ins at e
   split at e
   ·rename_i q;cases e;rw[q];exact hx
   ·exact i _ _ (hz _ _ e))
  (λp z=> ⟨i _ _ (a' p z).1,d' p z⟩) V
  (λv P W N S q t u hF g' K i' j' k' h' f' ov M l l'=> by
   obtain⟨rfl,ns,ps,rfl⟩:=hv _ _ _ _ M;refine⟨rfl,?_⟩;obtain⟨x,ex,ei,ow⟩:=ov;cases ex;refine KK (.ref (C.objs.size+1)) P W N ((C.objs.size,S)::t) ⟨λb o e n=> ?_,u.gens,u.os⟩ (H.trans hF) g' K (λb o e=> ?_) j' k' ⟨_,_,S,ns,ps,t,rfl,ei,ow,rfl,M⟩ (λp z=> ?_) (dN.mpr ⟨λm=> ?_,l'⟩)
   ·refine u.keep b o (i _ _ e) λm=> ?_
    rcases bM.mp m with rfl |m
    ·rw[nN]at e;cases e
    ·exact n m
   ·rcases i' b o e with h |h
    ·unfold Fz.ins at h
     split at h
     ·rename_i q;rw[q];exact .inr b'
     ·exact .inl h
    ·right
     cases q:C.get? b with
     |none=> rfl
     |some y=> rw[show((⟨(C.push dR).push (cZ c C.objs.size),g,d,t',os⟩:aD).heap.get? b)=U y from i _ _ q]at h;cases h
   ·rcases bM.mp z with rfl |z
    ·exact⟨h',f',nN⟩
    ·obtain⟨h1,G,h3⟩:=l p z
     refine⟨h1,G,?_⟩;cases q:C.get? p.1 with
     |none=> rfl
     |some y=> rw[show((⟨(C.push dR).push (cZ c C.objs.size),g,d,t',os⟩:aD).heap.get? p.1)=U y from i _ _ q]at h3;cases h3
   ·obtain⟨p,z,e⟩:=bz.mp m
    have h3:=(l p z).2.2;rw[e]at h3;rw[show((⟨(C.push dR).push (cZ c C.objs.size),g,d,t',os⟩:aD).heap.get? C.objs.size)=U dR from hd]at h3;cases h3)
 refine MR o' λr P hr=> ?_
 cases r with
 |error e=> exact hr
 |ok fl=> cases fl <;> first |exact hr |exact hr.elim
set_option tactic.hygienic true in
theorem Pa{c f:av}{p1:PV}(O:(c,f)∈hG)(hI:bq I)(z:p1=.inst c ns ps)(HL:iS w I k (.ref f) (.inst c [] []) args .none p1):c5 w I (k+1) (.ref c) args (.J p1):=by
 subst z;refine⟨y1 O,?_⟩;intro F Y Z A s Q E R T g D B i V KK;refine y2 (j:=λW q v t=> q=.inst c ns ps∧v=.none∧t=[]) O hI (λL L L L h=> ⟨h.2.1,_,_,h.1⟩)
  (λF Y K Z A s Q E D d R T g DD ov h' f' g' B i V KK=> HL F Y K Z A s Q E D d R T g DD ov h' f' g' B i V λv P W N S e1 j y H e5 e6 e7 e8 e9 d' e'=>
   KK v P W N S _ [] e1 j y H e5 e6 e7 e8 e9 d' ⟨rfl,by cases e';rfl,rfl⟩ (λp z=> nm z) gm)
  F Y Z A s Q E R T g trivial D B i V λv P W N t hE C j' l' r b' n rr ht L=> ?_
 obtain⟨x,u,S,m',G,t',rfl,ei,ow,rfl,e,_,rfl⟩:=rr;cases e;obtain⟨k',i',a⟩:=ht _ (.head _);have a':Sub W (W.ins u S):=Sub.ins i';have c':∀p∈N,(W.ins u S) p.1=ah:=λp z=> by
  have:p.1≠u:=λe=> by
   have m:p.1∈Y.map (·.1):=by rw[← b'];exact cY z
   obtain⟨q,hq,X⟩:=bz.mp m;have h:=(i q hq).1;rw[X,e]at h;rw[h]at a;cases a
  show(if p.1=u then _ else W p.1)=ah;rw[bW this];exact(n p z).2
 refine KK (.ref x) P (W.ins u S) N [] hE (C.trans a') (hI _ _ _ j' a' c') (λb o e=> ?_) (λb o e=> ?_) b' (λp z=> ⟨(n p z).1,c' p z⟩) (.J ?_) (λp z=> nm z)
 ·unfold Fz.ins at e
  split at e
  ·rename_i q;cases e;rw[q];exact k'
  ·exact l' _ _ e
 ·unfold Fz.ins at e
  split at e
  ·rename_i q;rw[q];exact .inr a
  ·exact r b o e
 ·obtain⟨M,q,kk,l⟩:=ow
  exact .inst (a' _ _ ei) (W.lq _ _) ⟨rfl,q⟩ kk (l.mono a')
noncomputable def picks{j:Type}(is:aa ae)(H:aa j):aa j:=is.filterMap λi=> H[i]?
structure ka(P:aT)(a:av)(o:af)(fd:fv)(body:aa a9)(c:av)(oc:af)(ps:aa ao)(li ci:aa ae)(rest:aa ao)(gs:aa (ao×PV)):Prop where
 top:(H1 P).get? a=some o
 na:a≠cu
 data:o.data=.func fd
 bd:fd.body=.stmts body
 cd:fd.code=.ref c
 ctop:(H1 P).get? c=some oc
 cna:c≠cu
 crec:bH λvs t=> oc.data=.fields vs∧vs[1]?=some (.str fd.qualname t)
 bind:∀vs:aa ai,vs.length=ps.length->tO fd ⟨vs,[]⟩=pure (ps.zip vs)
 clo:fd.closure=[]
 kinds:∀x∈ps,fd.scope.names.lookup x=some .local∨(fd.scope.names.lookup x=some .cell∧∀L,((ia (L+1) fd.scope.names []).lookup x).isSome=true)
 lsm:∀vs:aa ai,vs.length=ps.length->jq (λx=> fd.scope.names.lookup x) (ps.zip vs) (λω=> none)=lk ((picks li ps).zip ((picks li vs).map some)++rest.map λy=> (y,none))
 csm:∀vs:aa ai,vs.length=ps.length->(picks ci ps).map (λx=> tP (λx=> fd.scope.names.lookup x) (ps.zip vs) (λω=> none) x)=(picks ci vs).map some
 cl:∀L,(picks ci ps).map (λx=> (ia (L+1) fd.scope.names []).lookup x)=(dO (picks ci ps).length).map λi=> some (L+1+i)
 lli:∀{α:Type} (xs:aa α),xs.length=ps.length->(picks li xs).length=(picks li ps).length
 nsl:∀x∈picks li ps++rest,fd.scope.names.lookup x=some .local
 nn:(picks li ps++rest).Nodup
 nd:∀x∈picks li ps++rest,(x==("__debug__":ao))=false
 ncd:∀x∈picks ci ps,(x==("__debug__":ao))=false
 gs:∀q∈gs,hz P q
 gl:fd.globals=3
 bl:fd.builtins=0
 hco:fd.scope.isCoroutine=false
 hgen:fd.scope.isGenerator=false
 hk:fd.scope.kind=.function
theorem m4(l:aa (ao×aq ai))(H:aa ao):lk (l++H.map λy=> (y,ah))=lk l:=by
 funext x
 induction l with
 |nil=> exact Hk H x
 |cons p r D=> exact aZ (λz=> if x=p.1 then p.2 else z) D
theorem ZY{a b:ao}{u:ai}(h:b≠a):(λy=> if y=b then U v else if y=a then U u else ah)=lk [(a,U u),(b,U v)]:=by
 funext y
 show _=if y=a then U u else if y=b then U v else ah
 by_cases M:y=a
 ·subst M;rw[bW (gM h),bZ rfl,bZ rfl]
 ·simp only[bW M]
theorem wX{w:aV}{F:Fz}{args:aa PV}{Z:aa ai}(h:aH w F args Z):∀is:aa ae,aH w F (picks is args) (picks is Z)
 |[]=> .nil
 |i::r=> by
  have D:=wX h r;unfold picks at D⊢;simp only[lX];cases q:args[i]? with
  |none=>
   have:Z[i]?=ah:=by
    rw[Lq]at q⊢;rw[← h.length];exact q
   rw[this];exact D
  |some p=>
   obtain⟨v,e,d⟩:=h.get q;rw[e];exact .cons d D
set_option tactic.hygienic true in
theorem uE{fd:fv}{i':aa a9}{c:av}{g:af}{ps:aa ao}{li ci:aa ae}{H:aa ao}{l':aa (ao×PV)}(n:ae)
  (K:ka w.params a o fd i' c g ps li ci H l') (hI:bq I) (HO:cp w I k O) (hm:args.length=ps.length)
  (h:ez W O (picks ci args) (b7 n ⟨fd.scope.names,picks li ps++H,picks ci ps,l',[]⟩ i') ((picks li args).map .J++H.map λL=> .un)=U r):c5 w I (k+1) (.ref a) args r:=by
 refine⟨g8 K.top K.na K.data,?_⟩;intro F Y Z A s Q E R T Im D hz h' nd KK;have g':Z.length=ps.length:=by rw[← D.length];exact hm
 have v':∀b o,b≠cu->(H1 w.params).get? b=U o->s.heap.get? b=U o:=λb o nb e=> hz _ _ (T b o nb e)
 have A':∀x∈ps.zip Z,x.1∈ps:=λx hx=> (ti hx).1
 refine iQ (MO R.d0 (v' a o K.na K.top) K.data (vy T hz) ?_ K.bd (K.bind Z g') K.clo (λx hx=> ?_) (λB' f'=> ?_) K.hco K.hgen K.hk)
 ·obtain⟨ws,t,h1,h2⟩:=K.crec
  exact⟨c,g,ws,t,K.cd,v' c g K.cna K.ctop,h1,h2⟩
 ·rcases K.kinds _ (A' x hx)with h |⟨h1,h2⟩
  ·exact .inl h
  ·exact .inr ⟨h1,h2 _⟩
 ·have nL:s.heap.get? s.heap.objs.size=ah:=e2 (dh _)
  have m':=f'.toInCall.keep;obtain⟨c',V,rfl⟩:=f'.toInCall.same
  let b':aa av:=(dO (picks ci ps).length).map λi=> s.heap.objs.size+1+i
  have p':∀b∈b',s.heap.objs.size < b:=λb hb=> by
   obtain⟨i,_,rfl⟩:=bz.mp hb
   lia
  have j':∀b∈b',s.heap.get? b=ah:=λb hb=> e2 (d6 (p' b hb))
  let M:Fz:=λb=> if b∈b' then c'.get? b else F b
  have d':∀b,b∉b'->M b=F b:=λb hb=> bW hb
  have sb:Sub F M:=λb o e=> by
   have:b∉b':=λm=> by have:=hz _ _ e;rw[j' b m]at this;cases this
   rw[d' b this];exact e
  have z':∀p∈Y,p.1∉b':=λp z m=> by have:=(h' p z).1;rw[j' _ m]at this;cases this
  have u':∀p∈Y,M p.1=ah:=λp z=> by rw[d' _ (z' p z)];exact(h' p z).2
  have s':∀(i:ae) (x:ao),(picks ci ps)[i]?=U x->(ia (s.heap.objs.size+1) fd.scope.names []).lookup x=U (s.heap.objs.size+1+i):=λi x hx=> by
   have e:=aZ (λl=> l[i]?) (K.cl s.heap.objs.size);simp only[eP,hx,tq]at e;have e':=(eO.mp hx).1;rw[td e']at e;simpa using e
  have o':∀(i:ae) (x:ao),(picks ci ps)[i]?=U x->b'[i]?=U (s.heap.objs.size+1+i):=λi x hx=> by
   have e':=(eO.mp hx).1;show((dO (picks ci ps).length).map λi=> s.heap.objs.size+1+i)[i]?=_;rw[eP,td e'];rfl
  have w':s.heap.objs.size∉b':=λm=> fH _ (p' _ m)
  let X:Cx:={w:=w,env:=yd fd s.heap.objs.size a,G:=⟨fd.scope.names,picks li ps++H,picks ci ps,l',[]⟩,cps:=picks ci args,cad:=b',s₀:=s,F₀:=M,ex:=Y.map (·.1),I:=λF N=> I F N∧N.map (·.1)=Y.map (·.1)}
  have C:aG X:={
   fn:=K.hk
   kd:=rfl
   gl:=K.gl
   bl:=K.bl
   ns:=K.nsl
   nn:=K.nn
   gs:=λq hq=> by
    obtain⟨h1,v,h2,j⟩:=K.gs q hq;exact⟨h1,v,h2,λF T=> j w F rfl T⟩
   cs:=λi x hi=> ⟨_,o' i x hi,s' i x hi⟩
   cn:=K.ncd
   dn:=K.nd
   hL:=nL
   inv:=λF F' Y h1 h2 j=> ⟨hI F F' Y h1.1 h2 j,h1.2⟩
   pk:=λq hq=> nm hq}
  have r':=K.lli Z g';have S:St X M Y ((picks li ps).zip ((picks li Z).map U)++H.map λy=> (y,ah)) ([]++[]) {s with heap:=c',toks:=V}:=by
   refine⟨T.mono sb,Sub.refl _,⟨hI _ _ _ Im sb u',rfl⟩,?_,sT (picks li ps) _ H r',⟨λb o e L=> m' b o e,rfl,rfl⟩,λb o e=> ?_,?_,λb o e=> .inl e,λp z=> ?_,?_,λp z=> by simp at z,λp z=> .inl (cY z),λb hb=> hb,λi cc hc=> ?_,λq hq=> nm hq⟩
   ·have:=f'.toInCall.ns
    rw[← K.lsm Z g'];exact this
   ·by_cases m:b∈b'
    ·have k':M b=c'.get? b:=bZ m
     rw[← k'];exact e
    ·rw[d' b m]at e;exact m' _ _ (hz _ _ e)
   ·show M s.heap.objs.size=ah
    rw[d' _ w'];cases q:F s.heap.objs.size with
    |none=> rfl
    |some o=> have:=hz _ _ q;rw[nL]at this;cases this
   ·have n':p∈Y:=by simpa using z
    refine⟨m' _ _ (h' p n').1,u' p n',λe=> ?_⟩;have k':p.1=s.heap.objs.size:=e;have:=(h' p n').1;rw[k',nL]at this;cases this
   ·simpa using nd
   ·have e':i < (picks ci ps).length:=by
     have:=(eO.mp hc).1;have e:X.cad.length=(picks ci ps).length:=by show((dO (picks ci ps).length).map _).length=_;simp
     lia
    obtain⟨x,hx⟩:∃x,(picks ci ps)[i]?=U x:=⟨_,jR e'⟩;have ec:=o' i x hx;rw[show X.cad[i]?=b'[i]? from rfl,ec]at hc;cases hc;have x':=f'.cell x _ (s' i x hx);have e:=aZ (λl=> l[i]?) (K.csm Z g');simp only[eP,hx,tq]at e;cases q:(picks ci Z)[i]? with
    |none=> rw[q]at e;cases e
    |some v=>
     rw[q]at e;simp only[tq,xK]at e;have y':c'.IsCell (s.heap.objs.size+1+i) (U v):=by rw[← e];exact x'
     obtain⟨t',ho,hd⟩:=y';have DD:=wX D ci;obtain⟨p,z,d⟩:∃p,(picks ci args)[i]?=U p∧Den w F p v:=by
      cases f:(picks ci args)[i]? with
      |none=>
       rw[Lq]at f;have:=(eO.mp q).1;rw[DD.length]at f;lia
      |some p=>
       obtain⟨C',e1,d⟩:=DD.get f;rw[q]at e1;cases e1;exact⟨p,rfl,d⟩
     refine⟨v,t',p,?_,hd,z,d.mono sb⟩;show(if s.heap.objs.size+1+i∈b' then c'.get? _ else _)=U t';rw[bZ (f5 ec)];exact ho
  have R':aX k (A.deeper X.env):=R.deeper;have B:=uk (k:=k) (W:=W) (O:=O) C (ja HO) n i';have RL:Rl X M Y ((picks li args).map .J++H.map λL=> .un) [] {s with heap:=c',toks:=V}:=⟨_,[],w7 ((wX D li).mono sb) r',S⟩;have q':∀(v:ai) (P:aD) (F':Fz) (N:MT) (ls:aa (ao×aq ai)) (t a':MT),St X F' N ls (t++a') P->cq w F' [] r v t->Q v P:=λv P F' N ls t a' u d=> by
   refine KK v P F' N t u.ext (sb.trans u.sub) u.inv.1 u.J (λb o e=> ?_) u.inv.2 (λp z=> ⟨(u.al p (bk _ z)).1,(u.al p (bk _ z)).2.1⟩) d
    λp z=> have B:=u.al p (bp _ (bk _ z));⟨B.1,B.2.1,u.nw p (bk _ z)⟩
   rcases u.fr b o e with h |h
   ·by_cases m:b∈b'
    ·exact .inr (j' b m)
    ·exact .inl (by rw[← d' b m];exact h)
   ·exact .inr h
  refine JU h (λτ hx=> ?_) λτ hx e=> ?_
  ·refine B _ _ _ M Y [] _ _ _ hx R' RL λfl P o=> ?_
   obtain⟨v,rfl,F',N,t,_,⟨ls,a',_,u⟩,d⟩:=o;rw[fu]at u;exact q' v P F' N ls t _ u d
  ·subst e
   refine B _ _ _ M Y [] _ _ _ hx R' RL λfl P o=> ?_
   obtain⟨rfl,F',N,_,ls,a',_,u⟩:=o;exact q' .none P F' N ls [] _ u (.J .none)
def F8(d:Data):fv:=if h:d.ctorIdx=7 then Data.func.elim (motive:=λL=> fv) d h λf=> f else fd (fa 8) "" "" 0 .none .none .none .none ah .none .none 0
def fdOf(o:af):fv:=F8 o.data
noncomputable def D9(b:FuncBody):aa a9:=if h:b.ctorIdx=0 then FuncBody.stmts.elim (motive:=λL=> aa a9) b h λl=> l else[]
def cw(o:af):aa a9:=D9 (fdOf o).body
noncomputable def JR(v:ai):av:=if h:v.ctorIdx=10 then Value.ref.elim (motive:=λL=> av) v h λc=> c else 0
def ep(o:af):av:=JR (fdOf o).code
def dr(o:af):aa ao:=(fdOf o).params.args.map (·.arg)
def restOf(o:af):aa ao:=(((fdOf o).scope.names.filter λq=> q.2==.local).map (·.1)).filter λx=> !(dr o).contains x
noncomputable def B5(d:Data):c8 ai:=if h:d.ctorIdx=9 then Data.fields.elim (motive:=λL=> c8 ai) d h λZ=> Z else #[]
noncomputable def isStr(q:ao)(v:ai):au:=if h:v.ctorIdx=6 then x6.elim (motive:=λL=> au) v h λx t=> x==q else ak
def ET(a:av)(o g:af):aa au:=[bb a 763,!(a==145),!o.isFreed,bJ o.data.ctorIdx 7,bJ (fdOf o).body.ctorIdx 0,bJ (fdOf o).code.ctorIdx 10,bb (ep o) 763,!(ep o==145),!g.isFreed,bJ g.data.ctorIdx 9,((B5 g.data)[1]?).any (isStr (fdOf o).qualname),(fdOf o).globals==3,(fdOf o).builtins==0,!(fdOf o).scope.isCoroutine,!(fdOf o).scope.isGenerator,decide ((fdOf o).scope.kind=.function)]
def pD(a:av)(o g:af):au:=(ET a o g).all id
def uz(o:af):au:=(fdOf o).scope.names.all (λx=> decide (x.2≠.cell)) && (dr o++restOf o).all (λx=> decide ((fdOf o).scope.names.lookup x=U .local) && !(x==("__debug__":ao))) && decide (dr o++restOf o).Nodup
theorem allI{l:aa au}{b:au}(h:l.all id=ag)(i:ae)(e:l[i]?=U b):b=ag:=eh.mp h b (f5 e)
theorem HN{a b:ae}(h:(!(a==b))=ag):a≠b:=λe=> by rw[e,DA]at h;exact nf h
theorem vz{b:au}(h:(!b)=ag):b=ak:=by cases b with |false=> rfl |true=> exact nf h
theorem aaj{d:Data}{q:ao}(h:bJ d.ctorIdx 9=ag)(k:((B5 d)[1]?).any (isStr q)=ag):bH λZ t=> d=.fields Z∧Z[1]?=U (.str q t):=by
 refine Data.fields.elim (motive:=λd=> ((B5 d)[1]?).any (isStr q)=ag->bH λZ t=> d=.fields Z∧Z[1]?=U (.str q t)) d (jT h) (λZ k=> ?_) k;replace k:(Z[1]?).any (isStr q)=ag:=k;cases e:Z[1]? with
 |none=> rw[e]at k;exact nf k
 |some v=>
  rw[e]at k;replace k:isStr q v=ag:=k;by_cases c:v.ctorIdx=6
  ·obtain⟨t,r⟩:=x6.elim (motive:=λv=> isStr q v=ag->∃t,v=.str q t) v c (λx t k=> ⟨t,by rw[eq_of_beq (show(x==q)=ag from k)]⟩) k
   exact⟨Z,t,rfl,by rw[e,r]⟩
  ·exact nf ((yx c).symm.trans k)
theorem y0{g:af}(M:(ft P).get a=U o)(G:(ft P).get (ep o)=U g)(h:pD a o g=ag):
  Nm ((H1 P).get? a=U o) (a≠cu) (o.data=.func (fdOf o)) ((fdOf o).body=.stmts (cw o)) ((fdOf o).code=.ref (ep o)) ((H1 P).get? (ep o)=U g) (ep o≠cu) ((bH λZ t=> g.data=.fields Z∧Z[1]?=U (.str (fdOf o).qualname t))) ((fdOf o).globals=3) ((fdOf o).builtins=0) ((fdOf o).scope.isCoroutine=ak) ((fdOf o).scope.isGenerator=ak) ((fdOf o).scope.kind=.function):=by
 have A:∀{b:au} (i:ae),(ET a o g)[i]?=U b->b=ag:=λi e=> allI h i e
 refine⟨eA M (dg (A 0 rfl)) (vz (A 2 rfl)),HN (A 1 rfl),?_,?_,?_,eA G (dg (A 6 rfl)) (vz (A 8 rfl)),HN (A 7 rfl),aaj (A 9 rfl) (A 10 rfl),eq_of_beq (A 11 rfl),eq_of_beq (A 12 rfl),vz (A 13 rfl),vz (A 14 rfl),gx (A 15 rfl)⟩
 ·exact Data.func.elim (motive:=λd=> d=.func (F8 d)) o.data (jT (A 3 rfl)) λf=> rfl
 ·exact FuncBody.stmts.elim (motive:=λd=> d=.stmts (D9 d)) (fdOf o).body (jT (A 4 rfl)) λf=> rfl
 ·exact Value.ref.elim (motive:=λd=> d=.ref (JR d)) (fdOf o).code (jT (A 5 rfl)) λf=> rfl
theorem i1{g:af}{n:aa (ao×PV)}{m:ae}{E:aa PV}{l:aa ai}(M:(ft P).get a=U o)(G:(ft P).get (ep o)=U g)(h:pD a o g=ag)(p:uz o=ag)(I:m+E.length=(dr o).length)
  (hb:∀(s:aD),(∀b o,b≠cu->(H1 P).get? b=U o->s.heap.get? b=U o)->∀(Z:aa ai),Z.length=m->xP s (fdOf o) ⟨Z,[]⟩ ((dr o).zip (Z++l))) (u:∀w F,aH w F E l) (D:∀q∈n,hz P q):
  fj P a o (fdOf o) (cw o) (ep o) g (dr o) (restOf o) n m E l:=by
 obtain⟨b1,b2,b3,b4,b5,c,d,b8,e,f,i,j,k⟩:=y0 M G h;simp only[uz,cP,eh,fQ,hV]at p;exact⟨b1,b2,b3,b4,b5,c,d,b8,λs Z T=> hb s T Z,u,I,p.1.1,λx y=> (p.1.2 x y).1,p.2,λx y=> (p.1.2 x y).2,D,e,f,i,j,k⟩
structure Ent where
 a:av
 m:ae
 dps:aa PV
 un:ae
 c:CB
def w5(W:ae)(O:bI)(e:Ent)(args:aa PV):aq RV:=if args.length==e.m then ez W O [] e.c ((args++e.dps).map .J++de e.un .un)else ah
def bw(e:Ent):Prop:=∀{w:aV} {I:Fz->MT->Prop} {k W:ae} {O:bI} {args:aa PV} {r:RV},bq I->cp w I k O->w5 W O e args=U r->c5 w I (k+1) (.ref e.a) args r
theorem Ai:∀(l:aa ao),(l.map λL=> Slot.un)=de l.length .un
 |[]=> rfl
 |_::r=> by simp only[dG,dz,kM,Ai r]
set_option tactic.hygienic true in
theorem fT{g:af}{n:aa (ao×PV)}{m:ae}{E:aa PV}{l:aa ai}{d:ae}{c:CB}(i:∀P,fj P a o (fdOf o) (cw o) (ep o) g (dr o) (restOf o) n m E l)
  (D:b7 200 ⟨(fdOf o).scope.names,dr o++restOf o,[],n,[]⟩ (cw o)=c) (N:(restOf o).length=d):bw ⟨a,m,E,d,c⟩:=by
 intro w I k W O args r b z h;unfold w5 at h
 split at h
 ·rename_i p
  refine Pw (W:=W) 200 (i w.params) b z (eq_of_beq p) ?_;rw[D,Ai,N];exact h
 ·cases h
def iH(W:ae)(O:bI)(e:Ent)(q:PV)(args:aa PV):aq (PV×PV):=if args.length+1==e.m then w1 W O e.c (.own q::((args++e.dps).map .J++de e.un .un))else ah
def kc(e:Ent):Prop:=∀{w:aV} {I:Fz->MT->Prop} {k W:ae} {O:bI} {args:aa PV} {q b r:PV},eG q=eG b->bq I->cp w I k O->iH W O e q args=U (r,b)->Kept w (.ref e.a)∧iS w I (k+1) (.ref e.a) q args r b
set_option tactic.hygienic true in
theorem m5{g:af}{n:aa (ao×PV)}{m:ae}{E:aa PV}{l:aa ai}{d:ae}{c:CB}(i:∀P,fj P a o (fdOf o) (cw o) (ep o) g (dr o) (restOf o) n m E l)
  {f:ao} {ps:aa ao} (s:dr o=f::ps) (D:b7 200 ⟨(fdOf o).scope.names,f::(ps++restOf o),[],n,[f]⟩ (cw o)=c) (N:(restOf o).length=d):kc ⟨a,m,E,d,c⟩:=by
 intro w I k W O args q b r e B z h;unfold iH at h
 split at h
 ·rename_i p
  have K:=i w.params;rw[s]at K;refine UU (W:=W) 200 e K B z (eq_of_beq p) ?_;rw[D,Ai,N];exact h
 ·cases h
theorem b0{Q:aa ai->Prop}(h:Q [])(Z:aa ai)(e:Z.length=0):Q Z:=by rw[kK e];exact h
theorem jv{Q:aa ai->Prop}(h:∀a,∀Z:aa ai,Z.length=n->Q (a::Z))(Z:aa ai)(e:Z.length=n+1):Q Z:=by
 cases Z with
 |nil=> cases e
 |cons a Z=> exact h a Z (jW e)
theorem b1{Q:aa ai->Prop}(h:∀a,Q [a]):∀Z:aa ai,Z.length=1->Q Z:=jv λa=> b0 (h a)
theorem b2{Q:aa ai->Prop}(h:∀a b,Q [a,b]):∀Z:aa ai,Z.length=2->Q Z:=jv λa=> b1 (h a)
theorem b3{Q:aa ai->Prop}(h:∀a b c,Q [a,b,c]):∀Z:aa ai,Z.length=3->Q Z:=jv λa=> b2 (h a)
theorem b4{Q:aa ai->Prop}(h:∀a b c d,Q [a,b,c,d]):∀Z:aa ai,Z.length=4->Q Z:=jv λa=> b3 (h a)
theorem b5{Q:aa ai->Prop}(h:∀a b c d e,Q [a,b,c,d,e]):∀Z:aa ai,Z.length=5->Q Z:=jv λa=> b4 (h a)
theorem b8{Q:aa ai->Prop}(h:∀a b c d e f g i,Q [a,b,c,d,e,f,g,i]):∀Z:aa ai,Z.length=8->Q Z:=jv λa=> jv λb=> jv λc=> jv λd=> b4 (h a b c d)
theorem u6(h:(x==("__debug__":ao))=ak)(g:GV P x v):hz P (x,.fn v):=⟨h,v,g,λL L L L=> .fn v⟩
theorem Ta{i:aj}(h:(x==("__debug__":ao))=ak)(g:GV P x (.int i t)):hz P (x,.int i):=⟨h,_,g,λL L L L=> .int i t⟩
theorem zL(h:(x==("__debug__":ao))=ak)(g:GV P x (.ref a))(e:(ft P).get a=U o)(l:(bb a 763 && !o.isFreed && !(a==145))=ag)(d:∀w (F:Fz),F a=U o->Den w F p (.ref a)):hz P (x,p):=
 ⟨h,_,g,λw F L T=> by
  simp only[cP,hV,kY,ne_eq]at l;exact d w F (T _ _ l.2 (eA e (dg l.1.1) l.1.2))⟩
def gR(x:bL)(a:av):ao×PV:=(S x,.fn (.ref a))
def gN(x:bL)(n:ae):ao×PV:=(S x,.int (.ofNat n))
def gU(x:bL):ao×PV:=(S x,.fn (.builtin x))
def gT(x:bL):ao×PV:=(S x,.fn (.type x))
def cR(x:bL)(a:av)(l:di):CE:=.call (.glb (S x) (.fn (.ref a))) l
def cU(x:bL)(l:di):CE:=.call (.glb (S x) (.fn (.builtin x))) l
def cT(x:bL)(l:di):CE:=.call (.glb (S x) (.fn (.type x))) l
def gI(x:bL)(n:ae):CE:=.glb (S x) (.int (.ofNat n))
noncomputable def vr(i:ae):CE:=.var i
noncomputable def lI(n:ae):CE:=.lit (.int (.ofNat n))
def aF(x:bL):CE:=.lit (.str (S x))
noncomputable def lN:CE:=.lit .none
noncomputable def d3(b:au):CE:=.lit (.bool b)
noncomputable def cm(a:CE)(o:gq)(b:CE):CE:=.cmp a (.one o b)
noncomputable def aK(a:CE):di:=.cons a .nil
noncomputable def aN(a:CS):CB:=.cons a .nil
def aO(a b:CE):di:=.cons a (aK b)
def dw(a b:CS):CB:=.cons a (aN b)
def cD(a b c:CE):di:=.cons a (aO b c)
def el(a b c:CS):CB:=.cons a (dw b c)
def eL(a b c d:CE):di:=.cons a (cD b c d)
def fA(a b c d:CS):CB:=.cons a (el b c d)
def zl(a b c d e:CE):di:=.cons a (eL b c d e)
def k6(a b c d e:CS):CB:=.cons a (fA b c d e)
def Rq(a b c d e f:CE):di:=.cons a (zl b c d e f)
def pl(a b c d e f:CS):CB:=.cons a (k6 b c d e f)
def Fu(a b c d e f g:CE):di:=.cons a (Rq b c d e f g)
def pq(a b c d e f g:CS):CB:=.cons a (pl b c d e f g)
def Fv(a b c d e f g h:CE):di:=.cons a (Fu b c d e f g h)
def Eb(a b c d e f g h:CS):CB:=.cons a (pq b c d e f g h)
def uj(a b c d e f g h i:CS):CB:=.cons a (Eb b c d e f g h i)
def Tr:aa (ao×PV):=[gR "BadLabel" 52,gR "BadTable" 64,gN "CAPITAL_A" 65,gN "CASE_BIT" 32,gR "Composer" 201,gR "Data" 686,gN "FIGURES" 10,gN "HIGH_FIRST" 55296,gN "HYPHEN_idna" 45,gN "HYPHEN_punycode" 45,gR "IdnaFlags" 405,gN "JOINER" 8205,gN "LEADS" 19,gN "LEAD_FIRST" 4352,gN "LETTERS" 26,gN "LOW_LAST" 57343]
def Ts:aa (ao×PV):=[gN "MAX_CODE" 1114111,gN "MOST_BIAS" 1000,gN "MOST_FIRST" 128,gN "NON_JOINER" 8204,gN "NOUGHT" 48]
def Tt:aa (ao×PV):=[gR "PunyNumbers" 283,gR "RangeMap" 630,gN "SMALL_A" 97,gN "STOP" 46,gN "SYLLABLES" 11172,gN "SYLLABLE_FIRST" 44032,gN "TAILS" 28,gN "TAIL_NONE" 4519,gN "VOWELS" 21,gN "VOWEL_FIRST" 4449,gR "_law_draw" 698,gR "_law_drawn" 738,gR "_law_due" 743,gR "_law_is_host" 712,gR "_law_is_wrong" 733,gR "_law_mapped" 726]
def Gz:aa (ao×PV):=[gR "_law_rows" 705,gR "_law_sort" 719,gR "_law_written" 757,gU "all",gU "any",gT "bool",gT "bytes",gR "composed" 213,gR "data_defaults" 648,gR "decode_annotated" 373,gR "decode_label" 381,gR "decomposed" 156,gR "encode_label" 351,gT "enumerate",gR "form_expanded" 136,gR "form_is_primary" 170,gR "form_mapping" 129,gR "form_of" 221,gR "form_quick" 235,gR "form_sorted" 148,gR "hangul_numbers" 108,gR "hangul_pair" 122,gR "hangul_parts" 115,gR "idna_code_words" 512,gR "idna_has_company" 474,gR "idna_has_one_way" 498,gR "idna_hyphen_words" 505,gR "idna_is_ascii" 450,gR "idna_is_mixed" 486,gR "idna_is_plain" 416,gR "idna_joined" 554,gR "idna_label_words" 519,gR "idna_labels" 445,gR "idna_mapped" 430,gR "idna_may_join" 464,gR "idna_opened" 526,gR "idna_settled" 540,gR "idna_shown" 533,gR "idna_status" 423,gT "int",gR "is_code" 73,gR "is_form" 251,gR "is_hangul_syllable" 101,gR "is_scalar" 87,gR "is_surrogate" 80,gU "isinstance",gU "len",gT "list",gR "map_label" 438,gU "max",gU "min",gR "nfc" 228,gR "ordered" 143,gR "place_by_half" 94,gR "primary_composites" 163,gR "process" 547,gR "puny_basic" 324,gR "puny_cased" 343,gR "puny_check" 331,gR "puny_figure" 295,gR "puny_is_capital" 365,gR "puny_least_from" 336,gR "puny_number" 310,gR "puny_number_at" 317,gR "puny_split" 358,gR "puny_value" 302,gR "quick_check" 243,gT "range",gR "range_are_like" 587,gR "range_rows" 641,gU "sorted",gR "to_ascii" 575,gR "to_unicode" 582,gT "tuple"]
def GS:aa (ao×PV):=Tr++(S "MARKS",.tup [.str (S "Mn"),.str (S "Mc"),.str (S "Me")])::(Ts++(S "PREFIX",.list [.int 120,.int 110,.int 45,.int 45])::(Tt++(S "_law_menu",.tup [.int 97,.int 115,.int 49,.int 45,.int 95,.int 61,.int 233,.int 223,.int 173,.int 9332,.int 8800,.int 8814,.int 8232,.int 9424,.int 19968,.int 65])::Gz))
noncomputable def xh(v:ai):fM:=if h:v.ctorIdx=4 then Value.int.elim (motive:=λL=> fM) v h λL t=> t else 0
def pV(p:PV):aq ai:=ju p 6 λh=> PV.fn.elim (motive_1:=λL=> ai) p h λv=> v
theorem SE(h:pV p=U v):p=.fn v:=PV.fn.elim (motive_1:=λp=> pV p=U v->p=.fn v) p (mF h) (λa h=> by obtain rfl:a=v:=bo h;rfl) h
def kq(P:aT)(x:ao)(v:ai):au:=decide (hH P x=U v) ||decide (hH P x=ah) && decide (vq P x=U v)
theorem GA(h:kq P x v=ag):GV P x v:=by
 simp only[kq,jf,cP,fQ]at h;exact h
def zJ(P:aT)(q:ao×PV):au:=!(q.1==("__debug__":ao)) && ((pV q.2).elim ((dk q.2).elim ak λi=> (hH P q.1).elim ak λv=> kq P q.1 (.int i (xh v))) λv=> kq P q.1 v)
theorem Gx{q:ao×PV}(h:zJ P q=ag):hz P q:=by
 obtain⟨x,p⟩:=q;obtain⟨M,G⟩:=bu h;replace M:(x==("__debug__":ao))=ak:=by simpa only[hV]using M
 replace G:(pV p).elim ((dk p).elim ak λi=> (hH P x).elim ak λv=> kq P x (.int i (xh v))) (λv=> kq P x v)=ag:=G;cases e:pV p with
 |some v=> rw[e]at G;obtain rfl:=SE e;exact u6 M (GA G)
 |none=>
  rw[e]at G;cases j:dk p with
  |none=> rw[j]at G;cases G
  |some i=>
   rw[j]at G;obtain rfl:=eZ j;cases y:hH P x with
   |none=> replace G:(hH P x).elim ak (λv=> kq P x (.int i (xh v)))=ag:=G;rw[y]at G;cases G
   |some v=> replace G:(hH P x).elim ak (λv=> kq P x (.int i (xh v)))=ag:=G;rw[y]at G;exact Ta M (GA G)
theorem zI{l:aa (ao×PV)}(h:l.all (zJ P)=ag){r:aa (ao×PV)}(t:∀q∈r,hz P q):∀q∈l++r,hz P q:=λq I=> (dc.mp I).elim (λI=> Gx (eh.mp h q I)) (t q)
theorem iy(P:aT):∀q∈GS,hz P q:=
 zI (by kernel_rfl) <|
 fc (zL (a:=383) (o:=wM) (by decide+kernel) (.inl (by kernel_rfl)) (by kernel_rfl) (by decide+kernel) λw F e=> .tup e ⟨_,rfl⟩ (.cons (.str _ _) (.cons (.str _ _) (.cons (.str _ _) (.nil))))) <|
 zI (by kernel_rfl) <|
 fc (zL (a:=382) (o:=wL) (by decide+kernel) (.inl (by kernel_rfl)) (by kernel_rfl) (by decide+kernel) λw F e=> .list e ⟨_,rfl⟩ (.cons (.int _ _) (.cons (.int _ _) (.cons (.int _ _) (.cons (.int _ _) (.nil)))))) <|
 zI (by kernel_rfl) <|
 fc (zL (a:=691) (o:=Jh) (by decide+kernel) (.inl (by kernel_rfl)) (by kernel_rfl) (by decide+kernel) λw F e=> .tup e ⟨_,rfl⟩ (.cons (.int _ _) (.cons (.int _ _) (.cons (.int _ _) (.cons (.int _ _) (.cons (.int _ _) (.cons (.int _ _) (.cons (.int _ _) (.cons (.int _ _) (.cons (.int _ _) (.cons (.int _ _) (.cons (.int _ _) (.cons (.int _ _) (.cons (.int _ _) (.cons (.int _ _) (.cons (.int _ _) (.cons (.int _ _) (.nil)))))))))))))))))) <|
 λq I=> Gx (eh.mp (by kernel_rfl:Gz.all (zJ P)=ag) q I)
theorem eX{m:ae}{E:aa PV}{l:aa ai}(o g:af)(h:((ft P).get a,(ft P).get (ep o),pD a o g && (uz o && bJ (m+E.length) (dr o).length))=(U o,U g,ag))
  (hb:∀(s:aD),(∀b o,b≠cu->(H1 P).get? b=U o->s.heap.get? b=U o)->∀(Z:aa ai),Z.length=m->xP s (fdOf o) ⟨Z,[]⟩ ((dr o).zip (Z++l))) (u:∀w F,aH w F E l):
  fj P a o (fdOf o) (cw o) (ep o) g (dr o) (restOf o) GS m E l:=by
 obtain⟨M,G⟩:=jk h;obtain⟨G,j⟩:=jk G;exact i1 M G (bu j).1 (bu (bu j).2).1 (jT (bu (bu j).2).2) hb u (iy P)
theorem XK{j β:Type}{Q:aa ae}{H:aa j}{K:aa β}(h:H.length=K.length):(picks Q H).length=(picks Q K).length:=by
 unfold picks
 induction Q with
 |nil=> rfl
 |cons i r D=>
  by_cases q:i < H.length
  ·rw[ov (jR q),ov (jR (h ▸ q)),dz,dz,D]
  ·rw[xx (Lp (tk q)),xx (Lp (h ▸ tk q)),D]
theorem uU{ps W:aa ao}{Q l:aa ae}(o g:af)(h:((ft P).get a,(ft P).get (ep o),pD a o g)=(U o,U g,ag))(A:∀Z:aa ai,Z.length=ps.length->tO (fdOf o) ⟨Z,[]⟩=pure (ps.zip Z))(q0:(fdOf o).closure=[])
  (f:∀x∈ps,(fdOf o).scope.names.lookup x=U .local∨((fdOf o).scope.names.lookup x=U .cell∧∀L,((ia (L+1) (fdOf o).scope.names []).lookup x).isSome=ag))
  (q3:∀Z:aa ai,Z.length=ps.length->jq (λx=> (fdOf o).scope.names.lookup x) (ps.zip Z) (λE=> ah)=lk ((picks Q ps).zip ((picks Q Z).map U)++W.map λy=> (y,ah)))
  (D:∀Z:aa ai,Z.length=ps.length->(picks l ps).map (λx=> tP (λx=> (fdOf o).scope.names.lookup x) (ps.zip Z) (λE=> ah) x)=(picks l Z).map U)
  (B:∀L,(picks l ps).map (λx=> (ia (L+1) (fdOf o).scope.names []).lookup x)=(dO (picks l ps).length).map λi=> U (L+1+i))
  (b:∀x∈picks Q ps++W,(fdOf o).scope.names.lookup x=U .local) (c:(picks Q ps++W).Nodup) (F:∀x∈picks Q ps++W,(x==("__debug__":ao))=ak) (q:∀x∈picks l ps,(x==("__debug__":ao))=ak):
  ka P a o (fdOf o) (cw o) (ep o) g ps Q l W GS:=by
 obtain⟨M,G⟩:=jk h;obtain⟨G,j⟩:=jk G;obtain⟨r,m,n,d,s,t,p,k,u,v,w,z,C⟩:=y0 M G j;exact⟨r,m,n,d,s,t,p,k,A,q0,f,q3,D,B,λH e=> XK e,b,c,F,q,iy P,u,v,w,z,C⟩
theorem b9{m d:ae}{c:CB}(o g:af)(h:∀P,((ft P).get a,(ft P).get (ep o),pD a o g && (uz o && bJ m (dr o).length))=(U o,U g,ag))
  (G:(b7 200 ⟨(fdOf o).scope.names,dr o++restOf o,[],GS,[]⟩ (cw o),(restOf o).length)=(c,d)) (hb:∀Z:aa ai,Z.length=m->tO (fdOf o) ⟨Z,[]⟩=pure ((dr o).zip (Z++[]))):bw ⟨a,m,[],d,c⟩:=
 fT (λP=> eX o g (h P) (λs L Z e=> .of_eq (hb Z e)) λL L=> .nil) (jk G).1 (jk G).2
noncomputable def G2(fd:fv)(Z:aa ai):{k:aq (c8 ai)->d8 (aa (ao×ai)) // tO fd ⟨Z,[]⟩=seqItems? fd.defaults >>=k}:=⟨_,rfl⟩
theorem gg{fd:fv}{c:aa (ao×ai)}{items:c8 ai}(a:av)(o:af)(T:∀b o,b≠cu->(H1 P).get? b=U o->s.heap.get? b=U o)
  (D:((ft P).get a,bb a 763 && (!o.isFreed && !(a==145)))=(U o,ag)) (u:fd.defaults=.ref a) (g:o.data=.seq items n) (d:(G2 fd Z).1 (U items)=pure c):xP s fd ⟨Z,[]⟩ c:=by
 obtain⟨M,G⟩:=jk D;obtain⟨G,j⟩:=bu G;obtain⟨j,B⟩:=bu j;exact .of_defaults u (T a o (by simpa[cu]using B) (eA M (dg G) (by simpa using j))) g (G2 fd Z).2 d
def Es:CB:=aN (.ret (.cmp (lI 0) (.cons .LtE (vr 0) (.one .LtE (gI "MAX_CODE" 1114111)))))
theorem QQ:bw ⟨73,1,[],0,Es⟩:=b9 nX nW (λP=> by kernel_rfl) (by kernel_rfl) (b1 λL=> by kernel_rfl)
def Ew:CB:=aN (.ret (.cmp (gI "HIGH_FIRST" 55296) (.cons .LtE (vr 0) (.one .LtE (gI "LOW_LAST" 57343)))))
theorem QU:bw ⟨80,1,[],0,Ew⟩:=b9 nZ nY (λP=> by kernel_rfl) (by kernel_rfl) (b1 λL=> by kernel_rfl)
def Eu:CB:=aN (.ret (.and (cR "is_code" 73 (aK (vr 0))) (.una .Not (cR "is_surrogate" 80 (aK (vr 0))))))
theorem QT:bw ⟨87,1,[],0,Eu⟩:=b9 n1 n0 (λP=> by kernel_rfl) (by kernel_rfl) (b1 λL=> by kernel_rfl)
def EA:CB:=fA (.asg 2 (lI 0)) (.asg 3 (cU "len" (aK (vr 0)))) (.whl (cm (vr 2) .Lt (vr 3)) (dw (.asg 4 (.bin .FloorDiv (.bin .Add (vr 2) (vr 3)) (lI 2))) (.ite (cm (.idx (vr 0) (vr 4)) .LtE (vr 1)) (aN (.asg 2 (.bin .Add (vr 4) (lI 1)))) (aN (.asg 3 (vr 4)))))) (.ret (.bin .Sub (vr 2) (lI 1)))
theorem Q7:bw ⟨94,2,[],3,EA⟩:=b9 n3 n2 (λP=> by kernel_rfl) (by kernel_rfl) (b2 λL L=> by kernel_rfl)
def Et:CB:=aN (.ret (.cmp (lI 0) (.cons .LtE (.bin .Sub (vr 0) (gI "SYLLABLE_FIRST" 44032)) (.one .Lt (gI "SYLLABLES" 11172)))))
theorem QS:bw ⟨101,1,[],0,Et⟩:=b9 nc m9 (λP=> by kernel_rfl) (by kernel_rfl) (b1 λL=> by kernel_rfl)
def Eo:CB:=fA (.ite (.una .Not (cR "is_hangul_syllable" 101 (aK (vr 0)))) (aN (.ret lN)) .nil) (.asgT [1,2,3] (cR "hangul_numbers" 108 (aK (vr 0)))) (.ite (cm (vr 3) .Eq (lI 0)) (aN (.ret (.tup (aO (.bin .Add (gI "LEAD_FIRST" 4352) (vr 1)) (.bin .Add (gI "VOWEL_FIRST" 4449) (vr 2)))))) .nil) (.ret (.tup (cD (.bin .Add (gI "LEAD_FIRST" 4352) (vr 1)) (.bin .Add (gI "VOWEL_FIRST" 4449) (vr 2)) (.bin .Add (gI "TAIL_NONE" 4519) (vr 3)))))
theorem QD:bw ⟨115,1,[],3,Eo⟩:=b9 nh ng (λP=> by kernel_rfl) (by kernel_rfl) (b1 λL=> by kernel_rfl)
def En:CB:=k6 (.asg 2 (.bin .Sub (vr 0) (gI "LEAD_FIRST" 4352))) (.asg 3 (.bin .Sub (vr 1) (gI "VOWEL_FIRST" 4449))) (.ite (.and (.cmp (lI 0) (.cons .LtE (vr 2) (.one .Lt (gI "LEADS" 19)))) (.cmp (lI 0) (.cons .LtE (vr 3) (.one .Lt (gI "VOWELS" 21))))) (aN (.ret (.bin .Add (gI "SYLLABLE_FIRST" 44032) (.bin .Mult (.bin .Add (.bin .Mult (vr 2) (gI "VOWELS" 21)) (vr 3)) (gI "TAILS" 28))))) .nil) (.ite (.and (cR "is_hangul_syllable" 101 (aK (vr 0))) (.and (cm (.bin .Mod (.bin .Sub (vr 0) (gI "SYLLABLE_FIRST" 44032)) (gI "TAILS" 28)) .Eq (lI 0)) (.cmp (lI 0) (.cons .Lt (.bin .Sub (vr 1) (gI "TAIL_NONE" 4519)) (.one .Lt (gI "TAILS" 28)))))) (aN (.ret (.bin .Sub (.bin .Add (vr 0) (vr 1)) (gI "TAIL_NONE" 4519)))) .nil) (.ret lN)
theorem QC:bw ⟨122,2,[],2,En⟩:=b9 nj ni (λP=> by kernel_rfl) (by kernel_rfl) (b2 λL L=> by kernel_rfl)
def mK:CB:=k6 (.asg 3 (cR "hangul_parts" 115 (aK (vr 0)))) (.ite (cm (vr 3) .IsNot lN) (aN (.retV 3)) .nil) (.asg 4 (.meth (vr 1) (S "get") (aO (aF "dm") (vr 0)))) (.ite (.or (cm (vr 4) .Is lN) (.and (cm (.idx (vr 4) (lI 0)) .NotEq (aF "")) (.una .Not (vr 2)))) (aN (.ret lN)) .nil) (.ret (.idx (vr 4) (lI 1)))
theorem Qy:bw ⟨129,3,[],2,mK⟩:=b9 nq nk (λP=> by kernel_rfl) (by kernel_rfl) (b3 λL L L=> by kernel_rfl)
def jx:CB:=fA (.asg 3 (.lst .nil)) (.asgD [4,5] (aO (.lst (aK (vr 0))) (.lst .nil))) (.whl (cm (vr 4) .NotEq (.lst .nil)) (fA (.popS 6 4) (.ite (cm (vr 6) .Is lN) (dw (.popX 5) .cont) .nil) (.asg 7 (cR "form_mapping" 129 (cD (vr 6) (vr 1) (vr 2)))) (.ite (cm (vr 7) .Is lN) (aN (.app 3 (vr 6))) (aN (.ite (cm (vr 6) .In (vr 5)) (aN .bad) (el (.app 5 (vr 6)) (.app 4 lN) (.forV 8 .bad (aN (.app 4 (vr 8)))))))))) (.retV 3)
theorem Qx:bw ⟨136,3,[],6,jx⟩:=b9 nu nt (λP=> by kernel_rfl) (by kernel_rfl) (b3 λL L L=> by kernel_rfl)
def ip:CB:=fA (.asgD [2,3] (aO (.lst .nil) (.lst .nil))) (.forV 4 (vr 0) (dw (.asg 5 (.meth (vr 1) (S "get") (aO (aF "ccc") (vr 4)))) (.ite (cm (vr 5) .Gt (lI 0)) (aN (.app 3 (.tup (aO (vr 5) (vr 4))))) (el (.ext 2 (cR "form_sorted" 148 (aK (vr 3)))) (.app 2 (vr 4)) (.asg 3 (.lst .nil)))))) (.ext 2 (cR "form_sorted" 148 (aK (vr 3)))) (.retV 2)
theorem Q6:bw ⟨143,2,[],4,ip⟩:=b9 ny nx (λP=> by kernel_rfl) (by kernel_rfl) (b2 λL L=> by kernel_rfl)
def ur:CB:=el (.asg 3 (.lst .nil)) (.forV 4 (vr 0) (aN (.ext 3 (cR "form_expanded" 136 (cD (vr 4) (vr 1) (vr 2)))))) (.ret (cR "ordered" 143 (aO (vr 3) (vr 1))))
theorem Qv:bw ⟨156,3,[],2,ur⟩:=fT (λP=> eX (l:=[]) nB nA (by kernel_rfl) (λs T=> b3 λL L L=> gg 149 nz T (by kernel_rfl) rfl rfl (by kernel_rfl)) (λw F=> .nil)) (by kernel_rfl) (by kernel_rfl)
def mQ:CB:=el (.asg 1 (.dct .nil .nil)) (.forT [2,3,4] (.meth (.meth (vr 0) (S "map_of") (aK (aF "dm"))) (S "ranges") .nil) (dw (.ite (.or (cm (vr 4) .Is lN) (.or (cm (.idx (vr 4) (lI 0)) .NotEq (aF "")) (cm (cU "len" (aK (.idx (vr 4) (lI 1)))) .NotEq (lI 2)))) (aN .cont) .nil) (.forV 5 (cT "range" (aO (vr 2) (.bin .Add (vr 3) (lI 1)))) (aN (.ite (.and (cR "form_is_primary" 170 (cD (vr 5) (.idx (vr 4) (lI 1)) (vr 0))) (cm (.idx (vr 4) (lI 1)) .NotIn (vr 1))) (aN (.seti 1 (.idx (vr 4) (lI 1)) (vr 5))) .nil))))) (.retV 1)
theorem Q8:bw ⟨163,1,[],5,mQ⟩:=b9 nD nC (λP=> by kernel_rfl) (by kernel_rfl) (b1 λL=> by kernel_rfl)
def yR:CB:=el (.seta 0 (S "pairs") (cR "primary_composites" 163 (aK (vr 1)))) (.seta 0 (S "seconds") (.dct .nil .nil)) (.forT [2,3] (.attr (vr 0) (S "pairs")) (aN .bad))
theorem Qh:kc ⟨184,2,[],2,yR⟩:=m5 (λP=> eX (l:=[]) lA nE (by kernel_rfl) (λs T=> b2 λL L=> .of_eq (by kernel_rfl)) (λw F=> .nil)) (f:=S "self") (ps:=[S "data"]) (by kernel_rfl) (by kernel_rfl) (by kernel_rfl)
def yS:CB:=dw (.asg 3 (cR "hangul_pair" 122 (aO (vr 1) (vr 2)))) (.ret (.ite (cm (vr 3) .IsNot lN) (vr 3) (.meth (.attr (vr 0) (S "pairs")) (S "get") (aO (.tup (aO (vr 1) (vr 2))) lN))))
theorem Qj:bw ⟨191,3,[],1,yS⟩:=b9 lC nF (λP=> by kernel_rfl) (by kernel_rfl) (b3 λL L L=> by kernel_rfl)
def Eg:CB:=dw (.asg 2 (.cmp (gI "VOWEL_FIRST" 4449) (.cons .LtE (vr 1) (.one .Lt (.bin .Add (gI "VOWEL_FIRST" 4449) (gI "VOWELS" 21)))))) (.ret (.or (cm (vr 1) .In (.attr (vr 0) (S "seconds"))) (.or (vr 2) (.cmp (gI "TAIL_NONE" 4519) (.cons .Lt (vr 1) (.one .Lt (.bin .Add (gI "TAIL_NONE" 4519) (gI "TAILS" 28))))))))
theorem Qi:bw ⟨198,2,[],1,Eg⟩:=b9 lD nG (λP=> by kernel_rfl) (by kernel_rfl) (b2 λL L=> by kernel_rfl)
def ki:CB:=fA (.asg 2 (.ite (cm (vr 2) .Is lN) (cR "Composer" 201 (aK (vr 1))) (vr 2))) (.asgD [3,4,5] (cD (.lst .nil) (.una .USub (lI 1)) (.una .USub (lI 1)))) (.forV 6 (vr 0) (fA (.asg 7 (.meth (vr 1) (S "get") (aO (aF "ccc") (vr 6)))) (.ite (.and (cm (vr 4) .GtE (lI 0)) (.or (cm (vr 4) .Eq (.bin .Sub (cU "len" (aK (vr 3))) (lI 1))) (cm (vr 5) .Lt (vr 7)))) (dw (.asg 8 (.meth (vr 2) (S "pair") (aO (.idx (vr 3) (vr 4)) (vr 6)))) (.ite (cm (vr 8) .IsNot lN) (dw (.seti 3 (vr 4) (vr 8)) .cont) .nil)) .nil) (.ite (cm (vr 7) .Eq (lI 0)) (aN (.asgD [4,5] (aO (cU "len" (aK (vr 3))) (.una .USub (lI 1))))) (aN (.asg 5 (cU "max" (aO (vr 5) (vr 7)))))) (.app 3 (vr 6)))) (.retV 3)
theorem Qr:bw ⟨213,3,[],6,ki⟩:=fT (λP=> eX (l:=[]) ri rh (by kernel_rfl) (λs T=> b3 λL L L=> gg 206 rf T (by kernel_rfl) rfl rfl (by kernel_rfl)) (λw F=> .nil)) (by kernel_rfl) (by kernel_rfl)
def k9:CB:=dw (.asg 4 (cR "decomposed" 156 (cD (vr 0) (vr 1) (cm (vr 2) .In (.tup (aO (aF "nfkd") (aF "nfkc"))))))) (.ret (.ite (cm (vr 2) .In (.tup (aO (aF "nfd") (aF "nfkd")))) (vr 4) (cR "composed" 213 (cD (vr 4) (vr 1) (vr 3)))))
theorem QA:bw ⟨221,3,[.none],1,k9⟩:=fT (λP=> eX (l:=[.none]) nL nK (by kernel_rfl) (λs T=> b3 λL L L=> gg 214 nJ T (by kernel_rfl) rfl rfl (by kernel_rfl)) (λw F=> .cons (.none) (.nil))) (by kernel_rfl) (by kernel_rfl)
theorem Qz:bw ⟨221,4,[],1,k9⟩:=fT (λP=> eX (l:=[]) nL nK (by kernel_rfl) (λs T=> b4 λL L L L=> gg 214 nJ T (by kernel_rfl) rfl rfl (by kernel_rfl)) (λw F=> .nil)) (by kernel_rfl) (by kernel_rfl)
def yV:CB:=aN (.ret (cR "form_of" 221 (cD (vr 0) (vr 1) (aF "nfc"))))
theorem Q5:bw ⟨228,2,[],0,yV⟩:=b9 rl rk (λP=> by kernel_rfl) (by kernel_rfl) (b2 λL L=> by kernel_rfl)
def hC:CB:=fA (.ite (cm (cR "form_of" 221 (eL (.lst (aK (vr 0))) (vr 1) (vr 2) (vr 3))) .NotEq (.lst (aK (vr 0)))) (aN (.ret (aF "no"))) .nil) (.ite (cm (vr 2) .In (.tup (aO (aF "nfd") (aF "nfkd")))) (aN (.ret (aF "yes"))) .nil) (.asg 4 (.idx (cR "form_expanded" 136 (cD (vr 0) (vr 1) (cm (vr 2) .Eq (aF "nfkc")))) (lI 0))) (.ret (.ite (.meth (vr 3) (S "is_second") (aK (vr 4))) (aF "maybe") (aF "yes")))
theorem QB:bw ⟨235,4,[],1,hC⟩:=b9 ro rn (λP=> by kernel_rfl) (by kernel_rfl) (b4 λL L L L=> by kernel_rfl)
def mT:CB:=fA (.asg 3 (.ite (cm (vr 3) .Is lN) (cR "Composer" 201 (aK (vr 1))) (vr 3))) (.asgD [4,5] (aO (aF "yes") (lI 0))) (.forV 6 (vr 0) (k6 (.asg 7 (.meth (vr 1) (S "get") (aO (aF "ccc") (vr 6)))) (.asg 8 (cR "form_quick" 235 (eL (vr 6) (vr 1) (vr 2) (vr 3)))) (.ite (.or (cm (vr 8) .Eq (aF "no")) (.cmp (lI 0) (.cons .Lt (vr 7) (.one .Lt (vr 5))))) (aN (.ret (aF "no"))) .nil) (.ite (cm (vr 8) .Eq (aF "maybe")) (aN (.asg 4 (aF "maybe"))) .nil) (.asg 5 (vr 7)))) (.retV 4)
theorem Rm:bw ⟨243,4,[],5,mT⟩:=fT (λP=> eX (l:=[]) rt rr (by kernel_rfl) (λs T=> b4 λL L L L=> gg 236 rp T (by kernel_rfl) rfl rfl (by kernel_rfl)) (λw F=> .nil)) (by kernel_rfl) (by kernel_rfl)
def yU:CB:=el (.asg 3 (.ite (cm (vr 3) .Is lN) (cR "Composer" 201 (aK (vr 1))) (vr 3))) (.asg 4 (cR "quick_check" 243 (eL (vr 0) (vr 1) (vr 2) (vr 3)))) (.ret (.or (cm (vr 4) .Eq (aF "yes")) (.and (cm (vr 4) .Eq (aF "maybe")) (cm (cR "form_of" 221 (eL (vr 0) (vr 1) (vr 2) (vr 3))) .Eq (cT "list" (aK (vr 0)))))))
theorem QR:bw ⟨251,3,[.none],1,yU⟩:=fT (λP=> eX (l:=[.none]) ry rx (by kernel_rfl) (λs T=> b3 λL L L=> gg 244 ru T (by kernel_rfl) rfl rfl (by kernel_rfl)) (λw F=> .cons (.none) (.nil))) (by kernel_rfl) (by kernel_rfl)
def Ei:CB:=uj (.ite (.una .Not (.and (.cmp (lI 0) (.cons .LtE (vr 2) (.one .LtE (vr 3)))) (.cmp (lI 1) (.cons .LtE (vr 3) (.cons .Lt (vr 1) (.one .LtE (.bin .Add (gI "LETTERS" 26) (gI "FIGURES" 10)))))))) (aN .bad) .nil) (.ite (.or (cm (.bin .Sub (vr 1) (vr 2)) .Lt (lI 2)) (.or (.una .Not (.cmp (lI 0) (.cons .LtE (vr 7) (.one .LtE (gI "MOST_FIRST" 128))))) (.or (.una .Not (.cmp (lI 0) (.cons .LtE (vr 6) (.one .LtE (gI "MOST_BIAS" 1000))))) (.or (cm (vr 4) .Lt (lI 1)) (cm (vr 5) .Lt (lI 1)))))) (aN .bad) .nil) (.seta 0 (S "base") (vr 1)) (.seta 0 (S "least") (vr 2)) (.seta 0 (S "most") (vr 3)) (.seta 0 (S "skew") (vr 4)) (.seta 0 (S "damp") (vr 5)) (.seta 0 (S "bias") (vr 6)) (.seta 0 (S "first") (vr 7))
theorem Qm:kc ⟨266,1,[(.int 36),(.int 1),(.int 26),(.int 38),(.int 700),(.int 72),(.int 128)],0,Ei⟩:=m5 (λP=> eX (l:=[(.int 36 581),(.int 1 582),(.int 26 583),(.int 38 584),(.int 700 585),(.int 72 586),(.int 128 587)]) nM rB (by kernel_rfl) (λs T=> b1 λL=> gg 259 rz T (by kernel_rfl) rfl rfl (by kernel_rfl)) (λw F=> .cons (.int _ _) (.cons (.int _ _) (.cons (.int _ _) (.cons (.int _ _) (.cons (.int _ _) (.cons (.int _ _) (.cons (.int _ _) (.nil))))))))) (f:=S "self") (ps:=[S "base",S "least",S "most",S "skew",S "damp",S "bias",S "first"]) (by kernel_rfl) (by kernel_rfl) (by kernel_rfl)
def uq:CB:=dw (.asg 3 (.bin .Sub (.bin .Mult (.attr (vr 0) (S "base")) (vr 1)) (vr 2))) (.ret (.ite (cm (vr 3) .Lt (.attr (vr 0) (S "least"))) (.attr (vr 0) (S "least")) (.ite (cm (vr 3) .Gt (.attr (vr 0) (S "most"))) (.attr (vr 0) (S "most")) (vr 3))))
theorem Qn:bw ⟨273,3,[],1,uq⟩:=b9 nN rD (λP=> by kernel_rfl) (by kernel_rfl) (b3 λL L L=> by kernel_rfl)
def g4:CB:=k6 (.asg 1 (.ite (vr 3) (.bin .FloorDiv (vr 1) (.attr (vr 0) (S "damp"))) (.bin .FloorDiv (vr 1) (lI 2)))) (.asg 1 (.bin .Add (vr 1) (.bin .FloorDiv (vr 1) (vr 2)))) (.asg 4 (lI 0)) (.whl (cm (vr 1) .Gt (.bin .FloorDiv (.bin .Mult (.bin .Sub (.attr (vr 0) (S "base")) (.attr (vr 0) (S "least"))) (.attr (vr 0) (S "most"))) (lI 2))) (dw (.asg 1 (.bin .FloorDiv (vr 1) (.bin .Sub (.attr (vr 0) (S "base")) (.attr (vr 0) (S "least"))))) (.asg 4 (.bin .Add (vr 4) (lI 1))))) (.ret (.bin .Add (.bin .Mult (.attr (vr 0) (S "base")) (vr 4)) (.bin .FloorDiv (.bin .Mult (.bin .Add (.bin .Sub (.attr (vr 0) (S "base")) (.attr (vr 0) (S "least"))) (lI 1)) (vr 1)) (.bin .Add (vr 1) (.attr (vr 0) (S "skew"))))))
theorem Ql:bw ⟨280,4,[],1,g4⟩:=b9 nO rE (λP=> by kernel_rfl) (by kernel_rfl) (b4 λL L L L=> by kernel_rfl)
def ir:CB:=dw (.ite (cm (vr 0) .GtE (gI "LETTERS" 26)) (aN (.ret (.bin .Sub (.bin .Add (gI "NOUGHT" 48) (vr 0)) (gI "LETTERS" 26)))) .nil) (.ret (.bin .Add (.ite (vr 1) (gI "CAPITAL_A" 65) (gI "SMALL_A" 97)) (vr 0)))
theorem Rf:bw ⟨295,1,[(.bool ak)],0,ir⟩:=fT (λP=> eX (l:=[(.bool ak)]) nT nR (by kernel_rfl) (λs T=> b1 λL=> gg 288 nP T (by kernel_rfl) rfl rfl (by kernel_rfl)) (λw F=> .cons (.bool _) (.nil))) (by kernel_rfl) (by kernel_rfl)
theorem Rd:bw ⟨295,2,[],0,ir⟩:=fT (λP=> eX (l:=[]) nT nR (by kernel_rfl) (λs T=> b2 λL L=> gg 288 nP T (by kernel_rfl) rfl rfl (by kernel_rfl)) (λw F=> .nil)) (by kernel_rfl) (by kernel_rfl)
def EE:CB:=fA (.ite (.cmp (gI "SMALL_A" 97) (.cons .LtE (vr 0) (.one .Lt (.bin .Add (gI "SMALL_A" 97) (gI "LETTERS" 26))))) (aN (.ret (.bin .Sub (vr 0) (gI "SMALL_A" 97)))) .nil) (.ite (.cmp (gI "CAPITAL_A" 65) (.cons .LtE (vr 0) (.one .Lt (.bin .Add (gI "CAPITAL_A" 65) (gI "LETTERS" 26))))) (aN (.ret (.bin .Sub (vr 0) (gI "CAPITAL_A" 65)))) .nil) (.ite (.cmp (gI "NOUGHT" 48) (.cons .LtE (vr 0) (.one .Lt (.bin .Add (gI "NOUGHT" 48) (gI "FIGURES" 10))))) (aN (.ret (.bin .Add (.bin .Sub (vr 0) (gI "NOUGHT" 48)) (gI "LETTERS" 26)))) .nil) (.ret lN)
theorem Rk:bw ⟨302,1,[],0,EE⟩:=b9 rJ rI (λP=> by kernel_rfl) (by kernel_rfl) (b1 λL=> by kernel_rfl)
def mS:CB:=dw (.asgD [4,5] (aO (.lst .nil) (lI 1))) (.whl (d3 ag) (pl (.asg 6 (.meth (vr 2) (S "threshold") (aO (vr 5) (vr 1)))) (.ite (cm (vr 0) .Lt (vr 6)) (dw (.app 4 (cR "puny_figure" 295 (aO (vr 0) (vr 3)))) (.retV 4)) .nil) (.asg 7 (.bin .Sub (.attr (vr 2) (S "base")) (vr 6))) (.app 4 (cR "puny_figure" 295 (aK (.bin .Add (vr 6) (.bin .Mod (.bin .Sub (vr 0) (vr 6)) (vr 7)))))) (.asg 0 (.bin .FloorDiv (.bin .Sub (vr 0) (vr 6)) (vr 7))) (.asg 5 (.bin .Add (vr 5) (lI 1)))))
theorem Rh:bw ⟨310,4,[],4,mS⟩:=fT (λP=> eX (l:=[]) rM rL (by kernel_rfl) (λs T=> b4 λL L L L=> gg 303 rK T (by kernel_rfl) rfl rfl (by kernel_rfl)) (λw F=> .nil)) (by kernel_rfl) (by kernel_rfl)
def pz:CB:=dw (.asgD [4,5,6] (cD (lI 0) (lI 1) (lI 1))) (.whl (d3 ag) (uj (.ite (cm (vr 1) .GtE (cU "len" (aK (vr 0)))) (aN .bad) .nil) (.asg 7 (cR "puny_value" 302 (aK (.idx (vr 0) (vr 1))))) (.ite (.or (cm (vr 7) .Is lN) (cm (vr 7) .GtE (.attr (vr 3) (S "base")))) (aN .bad) .nil) (.asg 1 (.bin .Add (vr 1) (lI 1))) (.asg 4 (.bin .Add (vr 4) (.bin .Mult (vr 7) (vr 5)))) (.asg 8 (.meth (vr 3) (S "threshold") (aO (vr 6) (vr 2)))) (.ite (cm (vr 7) .Lt (vr 8)) (aN (.ret (.tup (aO (vr 4) (vr 1))))) .nil) (.asg 5 (.bin .Mult (vr 5) (.bin .Sub (.attr (vr 3) (S "base")) (vr 8)))) (.asg 6 (.bin .Add (vr 6) (lI 1)))))
theorem Ri:bw ⟨317,4,[],5,pz⟩:=b9 rO rN (λP=> by kernel_rfl) (by kernel_rfl) (b4 λL L L L=> by kernel_rfl)
def EC:CB:=aN (.ret (cm (vr 0) .Lt (.attr (vr 1) (S "first"))))
theorem Ra:bw ⟨324,2,[],0,EC⟩:=b9 rR rQ (λP=> by kernel_rfl) (by kernel_rfl) (b2 λL L=> by kernel_rfl)
def mR:CB:=aN (.forV 1 (vr 0) (aN (.ite (.una .Not (cR "is_scalar" 87 (aK (vr 1)))) (aN .bad) .nil)))
theorem Rc:bw ⟨331,1,[],1,mR⟩:=b9 rT rS (λP=> by kernel_rfl) (by kernel_rfl) (b1 λL=> by kernel_rfl)
def ux:CB:=aN (.ret (cU "min" (aK (.comp (vr 0) (vr 0) (cm (vr 0) .GtE (.cel 0)) [0]))))
theorem Su(P:aT):ka P 336 iF (fdOf iF) (cw iF) 335 nU [S "text",S "code"] [0] [1] [] GS:=
 uU iF nU (by kernel_rfl) (b2 λK X=> (by kernel_rfl)) (rfl) (gL.mpr ⟨.inl (by kernel_rfl),gL.mpr ⟨.inr ⟨by kernel_rfl,λL=> by kernel_rfl⟩,(λx T=> nm T)⟩⟩) (b2 λK X=> (show jq (λx=> (fdOf iF).scope.names.lookup x) [(S "text",K),(S "code",X)] (λt=> ah)=lk [(S "text",U K)]from by kernel_rfl).trans (m4 _ _).symm) (b2 λK X=> (by kernel_rfl)) (λL=> by kernel_rfl) (by decide+kernel) (by decide+kernel) (by decide+kernel) (by decide+kernel)
def JX(W:ae)(O:bI)(args:aa PV):aq RV:=(jN args).bind λq=> ez W O [q.2] ux [.J q.1]
theorem Px(b:bq I)(z:cp w I k O)(h:JX W O args=U r):c5 w I (k+1) (.ref 336) args r:=
 aC h λq e h=> by rw[kH e];exact uE (W:=W) 200 (Su w.params) b z rfl (by rw[show b7 200 ⟨(fdOf iF).scope.names,picks [0] [S "text",S "code"]++[],picks [1] [S "text",S "code"],GS,[]⟩ (cw iF)=ux from by kernel_rfl];exact h)
def ED:CB:=dw (.ite (.or (cm (vr 1) .Is lN) (.una .Not (.cmp (gI "SMALL_A" 97) (.cons .LtE (.bin .BitOr (vr 0) (gI "CASE_BIT" 32)) (.one .Lt (.bin .Add (gI "SMALL_A" 97) (gI "LETTERS" 26))))))) (aN (.retV 0)) .nil) (.ret (.ite (vr 1) (.bin .BitAnd (vr 0) (.una .Invert (gI "CASE_BIT" 32))) (.bin .BitOr (vr 0) (gI "CASE_BIT" 32))))
theorem Rb:bw ⟨343,2,[],0,ED⟩:=b9 rW rV (λP=> by kernel_rfl) (by kernel_rfl) (b2 λL L=> by kernel_rfl)
def dj:CB:=.cons (.expr (cR "puny_check" 331 (aK (vr 0)))) (.cons (.asg 1 (.ite (cm (vr 1) .Is lN) (cR "PunyNumbers" 283 .nil) (vr 1))) (.cons (.asg 3 (.ite (cm (vr 2) .Is lN) (.bin .Mult (.lst (aK lN)) (cU "len" (aK (vr 0)))) (vr 2))) (.cons (.asg 4 (.lst .nil)) (.cons (.forE 5 6 (vr 0) (aN (.ite (cR "puny_basic" 324 (aO (vr 6) (vr 1))) (aN (.app 4 (cR "puny_cased" 343 (aO (vr 6) (.idx (vr 3) (vr 5)))))) .nil))) (.cons (.asg 7 (cU "len" (aK (vr 4)))) (.cons (.asg 8 (vr 7)) (.cons (.ite (cm (vr 7) .Gt (lI 0)) (aN (.app 4 (gI "HYPHEN_punycode" 45))) .nil) (.cons (.asgD [6,9,10] (cD (.attr (vr 1) (S "first")) (lI 0) (.attr (vr 1) (S "bias")))) (.cons (.whl (cm (vr 8) .Lt (cU "len" (aK (vr 0)))) (k6 (.asg 11 (cR "puny_least_from" 336 (aO (vr 0) (vr 6)))) (.asg 9 (.bin .Add (vr 9) (.bin .Mult (.bin .Sub (vr 11) (vr 6)) (.bin .Add (vr 8) (lI 1))))) (.asg 6 (vr 11)) (.forE 5 12 (vr 0) (aN (.ite (cm (vr 12) .Lt (vr 6)) (aN (.asg 9 (.bin .Add (vr 9) (lI 1)))) (aN (.ite (cm (vr 12) .Eq (vr 6)) (el (.ext 4 (cR "puny_number" 310 (eL (vr 9) (vr 10) (vr 1) (.and (cm (.idx (vr 3) (vr 5)) .IsNot lN) (.idx (vr 3) (vr 5)))))) (.asg 10 (.meth (vr 1) (S "adapted") (cD (vr 9) (.bin .Add (vr 8) (lI 1)) (cm (vr 8) .Eq (vr 7))))) (.asgD [9,8] (aO (lI 0) (.bin .Add (vr 8) (lI 1))))) .nil))))) (.asgD [9,6] (aO (.bin .Add (vr 9) (lI 1)) (.bin .Add (vr 6) (lI 1)))))) (.cons (.ret (cT "bytes" (aK (vr 4)))) .nil))))))))))
theorem Qw:bw ⟨351,1,[.none,.none],10,dj⟩:=fT (λP=> eX (l:=[.none,.none]) wy wx (by kernel_rfl) (λs T=> b1 λL=> gg 344 wu T (by kernel_rfl) rfl rfl (by kernel_rfl)) (λw F=> .cons (.none) (.cons (.none) (.nil)))) (by kernel_rfl) (by kernel_rfl)
def gB:CB:=fA (.asg 1 (.bin .Sub (cU "len" (aK (vr 0))) (lI 1))) (.whl (.and (cm (vr 1) .Gt (lI 0)) (cm (.idx (vr 0) (vr 1)) .NotEq (gI "HYPHEN_punycode" 45))) (aN (.asg 1 (.bin .Sub (vr 1) (lI 1))))) (.ite (cm (vr 1) .LtE (lI 0)) (aN (.ret (.tup (aO (.lit (.a8 [])) (lI 0))))) .nil) (.ret (.tup (aO (.slc (vr 0) lN (vr 1)) (.bin .Add (vr 1) (lI 1)))))
theorem Rj:bw ⟨358,1,[],1,gB⟩:=b9 wB wz (λP=> by kernel_rfl) (by kernel_rfl) (b1 λL=> by kernel_rfl)
def yW:CB:=aN (.ret (.cmp (gI "CAPITAL_A" 65) (.cons .LtE (vr 0) (.one .Lt (.bin .Add (gI "CAPITAL_A" 65) (gI "LETTERS" 26))))))
theorem Rg:bw ⟨365,1,[],0,yW⟩:=b9 wD wC (λP=> by kernel_rfl) (by kernel_rfl) (b1 λL=> by kernel_rfl)
def fB:CB:=pq (.asg 1 (.ite (cm (vr 1) .Is lN) (cR "PunyNumbers" 283 .nil) (vr 1))) (.asgT [2,3] (cR "puny_split" 358 (aK (vr 0)))) (.asgD [4,5] (aO (.lst .nil) (.lst .nil))) (.forV 6 (vr 2) (el (.ite (.una .Not (cR "puny_basic" 324 (aO (vr 6) (vr 1)))) (aN .bad) .nil) (.app 4 (vr 6)) (.app 5 (cR "puny_is_capital" 365 (aK (vr 6)))))) (.asgD [7,8,9] (cD (.attr (vr 1) (S "first")) (lI 0) (.attr (vr 1) (S "bias")))) (.whl (cm (vr 3) .Lt (cU "len" (aK (vr 0)))) (.cons (.asgT [10,3] (cR "puny_number_at" 317 (eL (vr 0) (vr 3) (vr 9) (vr 1)))) (.cons (.asg 11 (.bin .Add (cU "len" (aK (vr 4))) (lI 1))) (.cons (.asg 9 (.meth (vr 1) (S "adapted") (cD (vr 10) (vr 11) (.and (cm (vr 8) .Eq (lI 0)) (cm (cU "len" (aK (vr 4))) .Eq (cU "len" (aK (vr 2)))))))) (.cons (.asg 8 (.bin .Add (vr 8) (vr 10))) (.cons (.asg 7 (.bin .Add (vr 7) (.bin .FloorDiv (vr 8) (vr 11)))) (.cons (.asg 8 (.bin .Mod (vr 8) (vr 11))) (.cons (.ite (cm (vr 7) .Gt (gI "MAX_CODE" 1114111)) (aN .bad) .nil) (.cons (.ite (.una .Not (cR "is_scalar" 87 (aK (vr 7)))) (aN .bad) .nil) (.cons (.asg 4 (.bin .Add (.bin .Add (.slc (vr 4) lN (vr 8)) (.lst (aK (vr 7)))) (.slc (vr 4) (vr 8) lN))) (.cons (.asg 5 (.bin .Add (.bin .Add (.slc (vr 5) lN (vr 8)) (.lst (aK (cR "puny_is_capital" 365 (aK (.idx (vr 0) (.bin .Sub (vr 3) (lI 1)))))))) (.slc (vr 5) (vr 8) lN))) (.cons (.asg 8 (.bin .Add (vr 8) (lI 1))) .nil)))))))))))) (.ret (.tup (aO (vr 4) (vr 5))))
theorem Qt:bw ⟨373,2,[],10,fB⟩:=fT (λP=> eX (l:=[]) wH wG (by kernel_rfl) (λs T=> b2 λL L=> gg 366 wF T (by kernel_rfl) rfl rfl (by kernel_rfl)) (λw F=> .nil)) (by kernel_rfl) (by kernel_rfl)
def yT:CB:=aN (.ret (.idx (cR "decode_annotated" 373 (aO (vr 0) (vr 1))) (lI 0)))
theorem Qu:bw ⟨381,1,[.none],0,yT⟩:=fT (λP=> eX (l:=[.none]) wK wJ (by kernel_rfl) (λs T=> b1 λL=> gg 374 wI T (by kernel_rfl) rfl rfl (by kernel_rfl)) (λw F=> .cons (.none) (.nil))) (by kernel_rfl) (by kernel_rfl)
def Eh:CB:=pq (.seta 0 (S "is_transitional") (vr 1)) (.seta 0 (S "only_letters") (vr 2)) (.seta 0 (S "hyphens") (vr 3)) (.seta 0 (S "joiners") (vr 4)) (.seta 0 (S "directions") (vr 5)) (.seta 0 (S "contexts") (vr 6)) (.seta 0 (S "lengths") (vr 7))
theorem Qk:kc ⟨402,8,[],0,Eh⟩:=m5 (λP=> eX (l:=[]) rZ wQ (by kernel_rfl) (λs T=> b8 λL L L L L L L L=> gg 395 wN T (by kernel_rfl) rfl rfl (by kernel_rfl)) (λw F=> .nil)) (f:=S "self") (ps:=[S "is_transitional",S "only_letters",S "hyphens",S "joiners",S "directions",S "contexts",S "lengths"]) (by kernel_rfl) (by kernel_rfl) (by kernel_rfl)
def Ep:CB:=aN (.ret (.or (.cmp (lI 97) (.cons .LtE (vr 0) (.one .LtE (lI 122)))) (.or (.cmp (lI 48) (.cons .LtE (vr 0) (.one .LtE (lI 57)))) (cm (vr 0) .Eq (gI "HYPHEN_idna" 45)))))
theorem QH:bw ⟨416,1,[],0,Ep⟩:=b9 AY AX (λP=> by kernel_rfl) (by kernel_rfl) (b1 λL=> by kernel_rfl)
def uw:CB:=fA (.asgT [3,4] (.meth (vr 1) (S "get") (aO (aF "idna") (vr 0)))) (.ite (cm (vr 3) .Eq (aF "disallowed_STD3_valid")) (aN (.ret (.tup (aO (.ite (vr 2) (aF "disallowed") (aF "valid")) (vr 4))))) .nil) (.ite (cm (vr 3) .Eq (aF "disallowed_STD3_mapped")) (aN (.ret (.tup (aO (.ite (vr 2) (aF "disallowed") (aF "mapped")) (vr 4))))) .nil) (.ret (.tup (aO (vr 3) (vr 4))))
theorem QO:bw ⟨423,3,[],2,uw⟩:=b9 A0 AZ (λP=> by kernel_rfl) (by kernel_rfl) (b3 λL L L=> by kernel_rfl)
def gf:CB:=uj (.asgT [4,5] (cR "idna_status" 423 (cD (vr 0) (vr 1) (vr 3)))) (.ite (cm (vr 4) .Eq (aF "valid")) (aN (.ret (.lst (aK (vr 0))))) .nil) (.ite (cm (vr 4) .Eq (aF "ignored")) (aN (.ret (.lst .nil))) .nil) (.ite (cm (vr 4) .Eq (aF "deviation")) (aN (.ret (.ite (vr 2) (cT "list" (aK (vr 5))) (.lst (aK (vr 0)))))) .nil) (.ite (cm (vr 4) .NotEq (aF "mapped")) (aN (.ret lN)) .nil) (.ite (.una .Not (vr 2)) (aN (.ret (cT "list" (aK (vr 5))))) .nil) (.asg 6 (.lst .nil)) (.forV 7 (vr 5) (dw (.asg 8 (cR "idna_status" 423 (cD (vr 7) (vr 1) (vr 3)))) (.ext 6 (.ite (cm (.idx (vr 8) (lI 0)) .Eq (aF "deviation")) (cT "list" (aK (.idx (vr 8) (lI 1)))) (.lst (aK (vr 7))))))) (.retV 6)
theorem QK:bw ⟨430,4,[],5,gf⟩:=b9 A2 A1 (λP=> by kernel_rfl) (by kernel_rfl) (b4 λL L L L=> by kernel_rfl)
def la:CB:=el (.asgD [4,5] (aO (.lst .nil) (.lst .nil))) (.forV 6 (vr 0) (el (.asg 7 (cR "idna_mapped" 430 (eL (vr 6) (vr 1) (vr 2) (vr 3)))) (.ite (cm (vr 7) .Is lN) (dw (.asg 5 (.lst (aK (aF "disallowed")))) (.asg 7 (.lst (aK (vr 6))))) .nil) (.ext 4 (vr 7)))) (.ret (.tup (aO (cR "nfc" 228 (aO (vr 4) (vr 1))) (vr 5))))
theorem Q4:bw ⟨438,4,[],4,la⟩:=fT (λP=> eX (l:=[]) A5 A4 (by kernel_rfl) (λs T=> b4 λL L L L=> gg 431 A3 T (by kernel_rfl) rfl rfl (by kernel_rfl)) (λw F=> .nil)) (by kernel_rfl) (by kernel_rfl)
def uv:CB:=aN (.ret (.una .Not (cU "any" (aK (.comp (cm (vr 0) .Gt (lI 127)) (vr 0) (d3 ag) [])))))
theorem QG:bw ⟨450,1,[],0,uv⟩:=b9 A8 A7 (λP=> by kernel_rfl) (by kernel_rfl) (b1 λL=> by kernel_rfl)
def uu:CB:=dw (.ite (vr 1) (dw (.asg 2 (.or (cm (.slc (vr 0) lN (lI 1)) .Eq (.lst (aK (gI "HYPHEN_idna" 45)))) (cm (.slc (vr 0) (.una .USub (lI 1)) lN) .Eq (.lst (aK (gI "HYPHEN_idna" 45)))))) (.ret (.ite (.or (vr 2) (cm (.slc (vr 0) (lI 2) (lI 4)) .Eq (.lst (aO (gI "HYPHEN_idna" 45) (gI "HYPHEN_idna" 45))))) (.lst (aK (aF "hyphens"))) (.lst .nil)))) .nil) (.ret (.ite (cm (.slc (vr 0) lN (lI 4)) .Eq (.glb (S "PREFIX") (.list [.int 120,.int 110,.int 45,.int 45]))) (.lst (aK (aF "prefix"))) (.lst .nil)))
theorem QF:bw ⟨505,2,[],1,uu⟩:=b9 Ba A9 (λP=> by kernel_rfl) (by kernel_rfl) (b2 λL L=> by kernel_rfl)
def mL:CB:=dw (.forV 4 (vr 0) (fA (.asg 5 (.idx (cR "idna_status" 423 (cD (vr 4) (vr 1) (.attr (vr 2) (S "only_letters")))) (lI 0))) (.asg 6 (.or (vr 3) (.una .Not (.attr (vr 2) (S "is_transitional"))))) (.ite (.and (cm (vr 5) .NotEq (aF "valid")) (.una .Not (.and (cm (vr 5) .Eq (aF "deviation")) (vr 6)))) (aN (.ret (.lst (aK (aF "disallowed"))))) .nil) (.ite (.and (.attr (vr 2) (S "only_letters")) (.and (cm (vr 4) .LtE (lI 127)) (.una .Not (cR "idna_is_plain" 416 (aK (vr 4)))))) (aN (.ret (.lst (aK (aF "disallowed"))))) .nil))) (.ret (.lst .nil))
theorem QE:bw ⟨512,4,[],3,mL⟩:=b9 Bc Bb (λP=> by kernel_rfl) (by kernel_rfl) (b4 λL L L L=> by kernel_rfl)
def eU:CB:=Eb (.asg 4 (.lst .nil)) (.ite (.una .Not (cR "is_form" 251 (cD (vr 0) (vr 1) (aF "nfc")))) (aN (.app 4 (aF "form"))) .nil) (.ext 4 (cR "idna_hyphen_words" 505 (aO (vr 0) (.attr (vr 2) (S "hyphens"))))) (.ite (cm (gI "STOP" 46) .In (vr 0)) (aN (.app 4 (aF "dot"))) .nil) (.ite (.and (cm (vr 0) .NotEq (.lst .nil)) (cm (.meth (vr 1) (S "get") (aO (aF "gc") (.idx (vr 0) (lI 0)))) .In (.glb (S "MARKS") (.tup [.str (S "Mn"),.str (S "Mc"),.str (S "Me")])))) (aN (.app 4 (aF "mark"))) .nil) (.ext 4 (cR "idna_code_words" 512 (eL (vr 0) (vr 1) (vr 2) (vr 3)))) (.forE 5 6 (vr 0) (dw (.ite (.and (.attr (vr 2) (S "joiners")) (.and (cm (vr 6) .In (.tup (aO (gI "JOINER" 8205) (gI "NON_JOINER" 8204)))) (.una .Not (cR "idna_may_join" 464 (cD (vr 0) (vr 5) (vr 1)))))) (aN (.app 4 (aF "joiner"))) .nil) (.ite (.and (.attr (vr 2) (S "contexts")) (.una .Not (cR "idna_has_company" 474 (cD (vr 0) (vr 5) (vr 1))))) (aN (.app 4 (aF "context"))) .nil))) (.retV 4)
theorem QJ:bw ⟨519,4,[],3,eU⟩:=b9 Be Bd (λP=> by kernel_rfl) (by kernel_rfl) (b4 λL L L L=> by kernel_rfl)
def hD:CB:=fA (.tryN (aN (.asg 3 (cR "decode_label" 381 (aK (cT "bytes" (aK (.slc (vr 0) (cU "len" (aK (.glb (S "PREFIX") (.list [.int 120,.int 110,.int 45,.int 45])))) lN)))))))) (.asg 4 (cR "idna_label_words" 519 (eL (vr 3) (vr 1) (vr 2) (d3 ag)))) (.ite (cR "idna_is_ascii" 450 (aK (vr 3))) (aN (.app 4 (aF "ascii"))) .nil) (.ret (.tup (aO (vr 3) (vr 4))))
theorem QL:bw ⟨526,3,[],2,hD⟩:=b9 Bg Bf (λP=> by kernel_rfl) (by kernel_rfl) (b3 λL L L=> by kernel_rfl)
def kj:CB:=el (.ite (cm (.slc (vr 0) lN (cU "len" (aK (.glb (S "PREFIX") (.list [.int 120,.int 110,.int 45,.int 45]))))) .NotEq (.glb (S "PREFIX") (.list [.int 120,.int 110,.int 45,.int 45]))) (aN (.ret (.tup (aO (vr 0) (cR "idna_label_words" 519 (eL (vr 0) (vr 1) (vr 2) (d3 ak))))))) .nil) (.ite (.una .Not (cR "idna_is_ascii" 450 (aK (vr 0)))) (aN (.ret (.tup (aO (vr 0) (.lst (aK (aF "punycode"))))))) .nil) (.ret (cR "idna_opened" 526 (cD (vr 0) (vr 1) (vr 2))))
theorem QN:bw ⟨533,3,[],0,kj⟩:=b9 Bi Bh (λP=> by kernel_rfl) (by kernel_rfl) (b3 λL L L=> by kernel_rfl)
def Er:CB:=el (.asg 1 (.lst .nil)) (.forV 2 (cU "sorted" (aK (vr 0))) (aN (.ite (.or (cm (vr 1) .Eq (.lst .nil)) (cm (.idx (vr 1) (.una .USub (lI 1))) .NotEq (vr 2))) (aN (.app 1 (vr 2))) .nil))) (.retV 1)
theorem QM:bw ⟨540,1,[],2,Er⟩:=b9 Bk Bj (λP=> by kernel_rfl) (by kernel_rfl) (b1 λL=> by kernel_rfl)
def iq:CB:=k6 (.asgT [3,4] (cR "map_label" 438 (eL (vr 0) (vr 1) (.attr (vr 2) (S "is_transitional")) (.attr (vr 2) (S "only_letters"))))) (.asg 5 (.lst .nil)) (.forV 6 (cR "idna_labels" 445 (aK (vr 3))) (el (.asgT [7,8] (cR "idna_shown" 533 (cD (vr 6) (vr 1) (vr 2)))) (.app 5 (vr 7)) (.asg 4 (.bin .Add (vr 4) (vr 8))))) (.ite (.and (.attr (vr 2) (S "directions")) (cR "idna_is_mixed" 486 (aO (vr 5) (vr 1)))) (aN (.forV 6 (vr 5) (aN (.ite (.una .Not (cR "idna_has_one_way" 498 (aO (vr 6) (vr 1)))) (aN (.app 4 (aF "bidi"))) .nil)))) .nil) (.ret (.tup (aO (vr 5) (cR "idna_settled" 540 (aK (vr 4))))))
theorem Q9:bw ⟨547,3,[],6,iq⟩:=b9 Bm Bl (λP=> by kernel_rfl) (by kernel_rfl) (b3 λL L L=> by kernel_rfl)
def mM:CB:=el (.asg 1 (.lst .nil)) (.forE 2 3 (vr 0) (aN (.ext 1 (.bin .Add (.ite (cm (vr 2) .Gt (lI 0)) (.lst (aK (gI "STOP" 46))) (.lst .nil)) (vr 3))))) (.retV 1)
theorem QI:bw ⟨554,1,[],3,mM⟩:=b9 IW IV (λP=> by kernel_rfl) (by kernel_rfl) (b1 λL=> by kernel_rfl)
def kk:CB:=dw (.ite (cR "idna_is_ascii" 450 (aK (vr 0))) (aN (.ret (.tup (aO (vr 0) (.lst .nil))))) .nil) (.tryN (aN (.ret (.tup (aO (.bin .Add (.glb (S "PREFIX") (.list [.int 120,.int 110,.int 45,.int 45])) (cT "list" (aK (cR "encode_label" 351 (aK (vr 0)))))) (.lst .nil))))))
theorem QP:bw ⟨561,1,[],0,kk⟩:=b9 IY IX (λP=> by kernel_rfl) (by kernel_rfl) (b1 λL=> by kernel_rfl)
def yX:CB:=dw (.asgT [3,4] (cR "process" 547 (cD (vr 0) (vr 1) (vr 2)))) (.ret (.tup (aO (cR "idna_joined" 554 (aK (vr 3))) (vr 4))))
theorem Ro:bw ⟨582,3,[],2,yX⟩:=b9 I1 I0 (λP=> by kernel_rfl) (by kernel_rfl) (b3 λL L L=> by kernel_rfl)
def EF:CB:=dw (.ite (.and (cU "isinstance" (aO (.cel 0) (.glb (S "tuple") (.fn (.type "tuple"))))) (cU "isinstance" (aO (.cel 1) (.glb (S "tuple") (.fn (.type "tuple")))))) (aN (.ret (.and (cm (cU "len" (aK (.cel 0))) .Eq (cU "len" (aK (.cel 1)))) (cU "all" (aK (.comp (cR "range_are_like" 587 (aO (.idx (.cel 0) (vr 0)) (.idx (.cel 1) (vr 0)))) (cT "range" (aK (cU "len" (aK (.cel 0))))) (d3 ag) [0,1])))))) .nil) (.ret (.and (cm (.cel 0) .Eq (.cel 1)) (cm (cU "isinstance" (aO (.cel 0) (.glb (S "bool") (.fn (.type "bool"))))) .Eq (cU "isinstance" (aO (.cel 1) (.glb (S "bool") (.fn (.type "bool"))))))))
theorem Sv(P:aT):ka P 587 kD (fdOf kD) (cw kD) 586 Bn [S "one",S "other"] [] [0,1] [] GS:=
 uU kD Bn (by kernel_rfl) (b2 λK X=> (by kernel_rfl)) (rfl) (gL.mpr ⟨.inr ⟨by kernel_rfl,λL=> by kernel_rfl⟩,gL.mpr ⟨.inr ⟨by kernel_rfl,λL=> by kernel_rfl⟩,(λx T=> nm T)⟩⟩) (b2 λK X=> (show jq (λx=> (fdOf kD).scope.names.lookup x) [(S "one",K),(S "other",X)] (λt=> ah)=lk []from by kernel_rfl).trans (m4 _ _).symm) (b2 λK X=> (by kernel_rfl)) (λL=> by kernel_rfl) (by decide+kernel) (by decide+kernel) (by decide+kernel) (by decide+kernel)
def sL(W:ae)(O:bI)(args:aa PV):aq RV:=(jN args).bind λq=> ez W O [q.1,q.2] EF []
theorem E3(b:bq I)(z:cp w I k O)(h:sL W O args=U r):c5 w I (k+1) (.ref 587) args r:=
 aC h λq e h=> by rw[kH e];exact uE (W:=W) 200 (Sv w.params) b z rfl (by rw[show b7 200 ⟨(fdOf kD).scope.names,picks [] [S "one",S "other"]++[],picks [0,1] [S "one",S "other"],GS,[]⟩ (cw kD)=EF from by kernel_rfl];exact h)
def OE:CB:=el (.seta 0 (S "default") (vr 1)) (.seta 0 (S "starts") (.lst (aK (lI 0)))) (.seta 0 (S "values") (.lst (aK (vr 1))))
theorem Qp:kc ⟨601,2,[],0,OE⟩:=m5 (λP=> eX (l:=[]) Bo I2 (by kernel_rfl) (λs T=> b2 λL L=> .of_eq (by kernel_rfl)) (λw F=> .nil)) (f:=S "self") (ps:=[S "default"]) (by kernel_rfl) (by kernel_rfl) (by kernel_rfl)
def Ej:CB:=aN (.ret (.idx (.attr (vr 0) (S "values")) (cR "place_by_half" 94 (aO (.attr (vr 0) (S "starts")) (vr 1)))))
theorem Qo:bw ⟨608,2,[],0,Ej⟩:=b9 Bp I3 (λP=> by kernel_rfl) (by kernel_rfl) (b2 λL L=> by kernel_rfl)
def Ek:CB:=.cons (.asgD [1,2] (aO (cU "max" (aO (vr 1) (lI 0))) (cU "min" (aO (vr 2) (gI "MAX_CODE" 1114111))))) (.cons (.ite (cm (vr 1) .Gt (vr 2)) (aN (.ret lN)) .nil) (.cons (.asg 4 (.bin .Add (cR "place_by_half" 94 (aO (.attr (vr 0) (S "starts")) (.bin .Sub (vr 1) (lI 1)))) (lI 1))) (.cons (.asg 5 (.bin .Add (cR "place_by_half" 94 (aO (.attr (vr 0) (S "starts")) (.bin .Add (vr 2) (lI 1)))) (lI 1))) (.cons (.asg 6 (.idx (.attr (vr 0) (S "values")) (.bin .Sub (vr 5) (lI 1)))) (.cons (.asgD [7,8] (aO (.lst (aK (vr 1))) (.lst (aK (vr 3))))) (.cons (.ite (.and (cm (vr 2) .Lt (gI "MAX_CODE" 1114111)) (.una .Not (cR "range_are_like" 587 (aO (vr 6) (vr 3))))) (dw (.app 7 (.bin .Add (vr 2) (lI 1))) (.app 8 (vr 6))) .nil) (.cons (.ite (.and (cm (vr 4) .Gt (lI 0)) (cR "range_are_like" 587 (aO (.idx (.attr (vr 0) (S "values")) (.bin .Sub (vr 4) (lI 1))) (vr 3)))) (aN (.asgD [7,8] (aO (.slc (vr 7) (lI 1) lN) (.slc (vr 8) (lI 1) lN)))) .nil) (.cons (.seta 0 (S "starts") (.bin .Add (.bin .Add (.slc (.attr (vr 0) (S "starts")) lN (vr 4)) (vr 7)) (.slc (.attr (vr 0) (S "starts")) (vr 5) lN))) (.cons (.seta 0 (S "values") (.bin .Add (.bin .Add (.slc (.attr (vr 0) (S "values")) lN (vr 4)) (vr 8)) (.slc (.attr (vr 0) (S "values")) (vr 5) lN))) .nil)))))))))
theorem Qq:kc ⟨615,4,[],5,Ek⟩:=m5 (λP=> eX (l:=[]) Bq I4 (by kernel_rfl) (λs T=> b4 λL L L L=> .of_eq (by kernel_rfl)) (λw F=> .nil)) (f:=S "self") (ps:=[S "first",S "last",S "value"]) (by kernel_rfl) (by kernel_rfl) (by kernel_rfl)
def El:CB:=aN (.ret (.comp (vr 0) (cR "range_rows" 641 (aK (.cel 0))) (.una .Not (cR "range_are_like" 587 (aO (.idx (vr 0) (lI 2)) (.attr (.cel 0) (S "default"))))) [0]))
theorem Sq(P:aT):ka P 620 jF (fdOf jF) (cw jF) 619 Br [S "self"] [] [0] [] GS:=
 uU jF Br (by kernel_rfl) (b1 λK=> (by kernel_rfl)) (rfl) (gL.mpr ⟨.inr ⟨by kernel_rfl,λL=> by kernel_rfl⟩,(λx T=> nm T)⟩) (b1 λK=> (show jq (λx=> (fdOf jF).scope.names.lookup x) [(S "self",K)] (λt=> ah)=lk []from by kernel_rfl).trans (m4 _ _).symm) (b1 λK=> (by kernel_rfl)) (λL=> by kernel_rfl) (by decide+kernel) (by decide+kernel) (by decide+kernel) (by decide+kernel)
def JV(W:ae)(O:bI)(args:aa PV):aq RV:=(lJ args).bind λq=> ez W O [q] El []
theorem Pn(b:bq I)(z:cp w I k O)(h:JV W O args=U r):c5 w I (k+1) (.ref 620) args r:=
 aC h λq e h=> by rw[sE e];exact uE (W:=W) 200 (Sq w.params) b z rfl (by rw[show b7 200 ⟨(fdOf jF).scope.names,picks [] [S "self"]++[],picks [0] [S "self"],GS,[]⟩ (cw jF)=El from by kernel_rfl];exact h)
def EG:CB:=el (.asgD [1,2] (aO (.attr (vr 0) (S "starts")) (.lst .nil))) (.forE 3 4 (.attr (vr 0) (S "values")) (dw (.asg 5 (.ite (cm (.bin .Add (vr 3) (lI 1)) .Lt (cU "len" (aK (vr 1)))) (.bin .Sub (.idx (vr 1) (.bin .Add (vr 3) (lI 1))) (lI 1)) (gI "MAX_CODE" 1114111))) (.app 2 (.tup (cD (.idx (vr 1) (vr 3)) (vr 5) (vr 4)))))) (.retV 2)
theorem Rn:bw ⟨641,1,[],5,EG⟩:=b9 I8 I7 (λP=> by kernel_rfl) (by kernel_rfl) (b1 λL=> by kernel_rfl)
def Em:CB:=pq (.asg 0 (.dct (Fv (aF "gc") (aF "ccc") (aF "bc") (aF "lb") (aF "ea") (aF "sc") (aF "jt") (aF "incb")) (Fv (aF "Cn") (lI 0) (aF "L") (aF "XX") (aF "N") (aF "Zzzz") (aF "U") (aF "None")))) (.forV 1 (.tup (cD (aF "gcb") (aF "wb") (aF "sb"))) (aN (.seti 0 (vr 1) (aF "Other")))) (.forV 1 (.tup (.cons (aF "ex") (.cons (aF "sd") (.cons (aF "cased") (.cons (aF "ci") (.cons (aF "ep") (.cons (aF "di") (.cons (aF "ids") (.cons (aF "idc") (.cons (aF "xids") (.cons (aF "xidc") (.cons (aF "pat_syn") (.cons (aF "pat_ws") (.cons (aF "idst") .nil)))))))))))))) (aN (.seti 0 (vr 1) (d3 ak)))) (.forV 1 (.tup (.cons (aF "dm") (.cons (aF "uc") (.cons (aF "lc") (.cons (aF "tc") (.cons (aF "cf") (.cons (aF "bm") (.cons (aF "bpb") (.cons (aF "scx") (.cons (aF "nt") (.cons (aF "nv") (.cons (aF "name") (.cons (aF "conf") (.cons (aF "nfkc_cf") .nil)))))))))))))) (aN (.seti 0 (vr 1) lN))) (.forV 1 (.tup (eL (aF "suc") (aF "slc") (aF "stc") (aF "alias"))) (aN (.seti 0 (vr 1) (.tup .nil)))) (.seti 0 (aF "idna") (.tup (aO (aF "disallowed") (.tup .nil)))) (.retV 0)
theorem Qs:bw ⟨648,0,[],2,Em⟩:=b9 Ja I9 (λP=> by kernel_rfl) (by kernel_rfl) (b0 (by kernel_rfl))
def eV:CB:=pq (.seti 0 (lI 1) (.bin .Add (.idx (vr 0) (lI 1)) (lI 1))) (.asgD [2,3] (aO (.idx (vr 0) (lI 1)) (.idx (vr 0) (lI 0)))) (.ite (cm (vr 2) .LtE (cU "len" (aK (vr 3)))) (aN (.ret (.bin .Mod (.idx (vr 3) (.bin .Sub (vr 2) (lI 1))) (vr 1)))) .nil) (.asg 4 (.ite (cm (vr 3) .NotEq (.lst .nil)) (.idx (vr 3) (.bin .Mod (vr 2) (cU "len" (aK (vr 3))))) (lI 7))) (.asg 5 (.bin .Mod (.bin .Mult (.bin .Add (.bin .Add (.bin .Mod (vr 4) (lI 2147483629)) (.bin .Mult (.bin .Mult (lI 60013) (vr 2)) (vr 2))) (lI 17)) (lI 48271)) (lI 2147483647))) (.asg 5 (.bin .Mod (.bin .Add (.bin .Mult (vr 5) (vr 5)) (vr 2)) (lI 2147483579))) (.ret (.bin .Mod (.bin .FloorDiv (vr 5) (lI 64)) (vr 1)))
theorem QV:kc ⟨698,2,[],4,eV⟩:=m5 (λP=> eX (l:=[]) Jj Ji (by kernel_rfl) (λs T=> b2 λL L=> .of_eq (by kernel_rfl)) (λw F=> .nil)) (f:=S "deck") (ps:=[S "below"]) (by kernel_rfl) (by kernel_rfl) (by kernel_rfl)
def Ey:CB:=pl (.asg 0 (.dct (cD (lI 65) (lI 95) (lI 61)) (cD (.tup (aO (aF "mapped") (.tup (aK (lI 97))))) (.tup (aO (aF "disallowed_STD3_valid") (.tup .nil))) (.tup (aO (aF "disallowed_STD3_valid") (.tup .nil)))))) (.upd 0 (.dct (cD (lI 40) (lI 41) (lI 233)) (cD (.tup (aO (aF "disallowed_STD3_valid") (.tup .nil))) (.tup (aO (aF "disallowed_STD3_valid") (.tup .nil))) (.tup (aO (aF "valid") (.tup .nil)))))) (.upd 0 (.dct (cD (lI 223) (lI 173) (lI 8800)) (cD (.tup (aO (aF "deviation") (.tup (aO (lI 115) (lI 115))))) (.tup (aO (aF "ignored") (.tup .nil))) (.tup (aO (aF "disallowed_STD3_valid") (.tup .nil)))))) (.upd 0 (.dct (aO (lI 8814) (lI 9332)) (aO (.tup (aO (aF "disallowed_STD3_valid") (.tup .nil))) (.tup (aO (aF "disallowed_STD3_mapped") (.tup (cD (lI 40) (lI 49) (lI 41)))))))) (.upd 0 (.dct (aO (lI 8232) (lI 9424)) (aO (.tup (aO (aF "disallowed") (.tup .nil))) (.tup (aO (aF "mapped") (.tup (aK (lI 97)))))))) (.retV 0)
theorem Q0:bw ⟨705,0,[],1,Ey⟩:=b9 Jl Jk (λP=> by kernel_rfl) (by kernel_rfl) (b0 (by kernel_rfl))
def Ex:CB:=aN (.ret (.or (.cmp (lI 97) (.cons .LtE (vr 0) (.one .LtE (lI 122)))) (.or (.cmp (lI 48) (.cons .LtE (vr 0) (.one .LtE (lI 57)))) (cm (vr 0) .Eq (lI 45)))))
theorem QW:bw ⟨712,1,[],0,Ex⟩:=b9 Jn Jm (λP=> by kernel_rfl) (by kernel_rfl) (b1 λL=> by kernel_rfl)
def Ez:CB:=pl (.ite (.or (cR "_law_is_host" 712 (aK (vr 0))) (cm (vr 0) .Eq (lI 46))) (aN (.ret (aF "stays"))) .nil) (.asg 2 (.idx (.meth (cR "_law_rows" 705 .nil) (S "get") (aO (vr 0) (.tup (aO (aF "disallowed") (.tup .nil))))) (lI 0))) (.ite (.and (cm (vr 2) .In (.tup (aO (aF "disallowed_STD3_valid") (aF "disallowed_STD3_mapped")))) (vr 1)) (aN (.ret (aF "bad"))) .nil) (.asg 3 (.dct (eL (aF "valid") (aF "disallowed_STD3_valid") (aF "mapped") (aF "disallowed_STD3_mapped")) (eL (aF "stays") (aF "stays") (aF "turns") (aF "turns")))) (.upd 3 (.dct (cD (aF "ignored") (aF "deviation") (aF "disallowed")) (cD (aF "goes") (aF "both") (aF "bad")))) (.ret (.idx (vr 3) (vr 2)))
theorem Q1:bw ⟨719,2,[],2,Ez⟩:=b9 Jp Jo (λP=> by kernel_rfl) (by kernel_rfl) (b2 λL L=> by kernel_rfl)
def km:CB:=el (.asgD [3,4] (aO (.lst .nil) (d3 ak))) (.forV 5 (vr 0) (el (.asg 6 (cR "_law_sort" 719 (aO (vr 5) (vr 2)))) (.asg 4 (.or (vr 4) (cm (vr 6) .Eq (aF "bad")))) (.ite (.or (cm (vr 6) .Eq (aF "turns")) (.and (cm (vr 6) .Eq (aF "both")) (vr 1))) (aN (.ext 3 (.idx (.idx (cR "_law_rows" 705 .nil) (vr 5)) (lI 1)))) (aN (.ite (cm (vr 6) .NotEq (aF "goes")) (aN (.app 3 (vr 5))) .nil))))) (.ret (.tup (aO (vr 3) (vr 4))))
theorem QZ:bw ⟨726,3,[],4,km⟩:=b9 Jr Jq (λP=> by kernel_rfl) (by kernel_rfl) (b3 λL L L=> by kernel_rfl)
def mO:CB:=dw (.forV 4 (vr 0) (el (.asg 5 (cR "_law_sort" 719 (aO (vr 4) (vr 2)))) (.ite (.and (cm (vr 5) .NotEq (aF "stays")) (.or (cm (vr 5) .NotEq (aF "both")) (.and (vr 1) (.una .Not (vr 3))))) (aN (.ret (d3 ag))) .nil) (.ite (.and (vr 2) (.and (cm (vr 4) .Lt (lI 128)) (.una .Not (cR "_law_is_host" 712 (aK (vr 4)))))) (aN (.ret (d3 ag))) .nil))) (.ret (d3 ak))
theorem QX:bw ⟨733,4,[],2,mO⟩:=b9 Jt Js (λP=> by kernel_rfl) (by kernel_rfl) (b4 λL L L L=> by kernel_rfl)
def il:CB:=el (.asgD [2,3] (aO (.lst .nil) (.dct .nil .nil))) (.forT [4,5] (vr 0) (fA (.asgT [6,7] (cR "_law_mapped" 726 (cD (vr 4) (vr 1) (.cel 0)))) (.ite (vr 5) (dw (.asgD [6,7] (aO (vr 4) (cm (.comp (vr 0) (vr 4) (.and (cm (vr 0) .Lt (lI 128)) (cm (cR "_law_sort" 719 (aO (vr 0) (.cel 0))) .Eq (aF "bad"))) [0]) .NotEq (.lst .nil)))) (.ite (cm (cU "max" (aK (vr 4))) .Lt (lI 128)) (aN (.seti 3 (aF "ascii") (d3 ag))) .nil)) .nil) (.ite (.or (vr 7) (cR "_law_is_wrong" 733 (eL (vr 6) (vr 1) (.cel 0) (vr 5)))) (aN (.seti 3 (aF "disallowed") (d3 ag))) .nil) (.app 2 (vr 6)))) (.ret (.tup (aO (vr 2) (cU "sorted" (aK (vr 3))))))
theorem Ss(P:aT):ka P 743 jG (fdOf jG) (cw jG) 742 Bs [S "rows",S "is_transitional",S "only_letters"] [0,1] [2] [S "seen",S "sorts",S "label",S "is_encoded",S "told",S "is_bad"] GS:=
 uU jG Bs (by kernel_rfl) (b3 λK X i=> (by kernel_rfl)) (rfl) (gL.mpr ⟨.inl (by kernel_rfl),gL.mpr ⟨.inl (by kernel_rfl),gL.mpr ⟨.inr ⟨by kernel_rfl,λL=> by kernel_rfl⟩,(λx T=> nm T)⟩⟩⟩) (b3 λK X i=> (show jq (λx=> (fdOf jG).scope.names.lookup x) [(S "rows",K),(S "is_transitional",X),(S "only_letters",i)] (λt=> ah)=lk [(S "rows",U K),(S "is_transitional",U X)]from(show jq (λx=> (fdOf jG).scope.names.lookup x) [(S "rows",K),(S "is_transitional",X),(S "only_letters",i)] (λt=> ah)=(λy=> if y=S "is_transitional" then U X else if y=S "rows" then U K else ah)from by kernel_rfl).trans (ZY (by decide+kernel))).trans (m4 _ _).symm) (b3 λK X i=> (by kernel_rfl)) (λL=> by kernel_rfl) (by decide+kernel) (by decide+kernel) (by decide+kernel) (by decide+kernel)
def JW(W:ae)(O:bI)(args:aa PV):aq RV:=(lb args).bind λp=> (jN p.2).bind λq=> ez W O [q.2] il [.J p.1,.J q.1,.un,.un,.un,.un,.un,.un]
theorem Pt(b:bq I)(z:cp w I k O)(h:JW W O args=U r):c5 w I (k+1) (.ref 743) args r:=
 aC h λp e h=> aC h λq j h=> by rw[uG e,kH j];exact uE (W:=W) 200 (Ss w.params) b z rfl (by rw[show b7 200 ⟨(fdOf jG).scope.names,picks [0,1] [S "rows",S "is_transitional",S "only_letters"]++[S "seen",S "sorts",S "label",S "is_encoded",S "told",S "is_bad"],picks [2] [S "rows",S "is_transitional",S "only_letters"],GS,[]⟩ (cw jG)=il from by kernel_rfl];exact h)
def mP:CB:=el (.asg 1 (.lst .nil)) (.forV 2 (vr 0) (aN (.asg 1 (.bin .Add (.bin .Add (vr 1) (.bin .Mult (.lst (aK (lI 46))) (cT "int" (aK (cm (vr 1) .NotEq (.lst .nil)))))) (cT "list" (aK (vr 2))))))) (.retV 1)
theorem QY:bw ⟨750,1,[],2,mP⟩:=b9 Jw Jv (λP=> by kernel_rfl) (by kernel_rfl) (b1 λL=> by kernel_rfl)
def DY:aa Ent:=[⟨73,1,[],0,Es⟩,⟨80,1,[],0,Ew⟩,⟨87,1,[],0,Eu⟩,⟨94,2,[],3,EA⟩,⟨101,1,[],0,Et⟩,⟨115,1,[],3,Eo⟩,⟨122,2,[],2,En⟩,⟨129,3,[],2,mK⟩,⟨136,3,[],6,jx⟩,⟨143,2,[],4,ip⟩,⟨156,3,[],2,ur⟩,⟨163,1,[],5,mQ⟩,⟨191,3,[],1,yS⟩,⟨198,2,[],1,Eg⟩,⟨213,3,[],6,ki⟩,⟨221,3,[.none],1,k9⟩,⟨221,4,[],1,k9⟩,⟨228,2,[],0,yV⟩,⟨235,4,[],1,hC⟩,⟨243,4,[],5,mT⟩,⟨251,3,[.none],1,yU⟩,⟨273,3,[],1,uq⟩,⟨280,4,[],1,g4⟩,⟨295,1,[(.bool ak)],0,ir⟩,⟨295,2,[],0,ir⟩,⟨302,1,[],0,EE⟩,⟨310,4,[],4,mS⟩,⟨317,4,[],5,pz⟩,⟨324,2,[],0,EC⟩,⟨331,1,[],1,mR⟩,⟨343,2,[],0,ED⟩,⟨351,1,[.none,.none],10,dj⟩,⟨358,1,[],1,gB⟩,⟨365,1,[],0,yW⟩,⟨373,2,[],10,fB⟩,⟨381,1,[.none],0,yT⟩,⟨416,1,[],0,Ep⟩,⟨423,3,[],2,uw⟩,⟨430,4,[],5,gf⟩,⟨438,4,[],4,la⟩,⟨450,1,[],0,uv⟩,⟨505,2,[],1,uu⟩,⟨512,4,[],3,mL⟩,⟨519,4,[],3,eU⟩,⟨526,3,[],2,hD⟩,⟨533,3,[],0,kj⟩,⟨540,1,[],2,Er⟩,⟨547,3,[],6,iq⟩,⟨554,1,[],3,mM⟩,⟨561,1,[],0,kk⟩,⟨582,3,[],2,yX⟩,⟨608,2,[],0,Ej⟩,⟨641,1,[],5,EG⟩,⟨648,0,[],2,Em⟩,⟨705,0,[],1,Ey⟩,⟨712,1,[],0,Ex⟩,⟨719,2,[],2,Ez⟩,⟨726,3,[],4,km⟩,⟨733,4,[],2,mO⟩,⟨750,1,[],2,mP⟩]
theorem Zv:∀e∈DY,bw e:=
 fc @QQ <|
 fc @QU <|
 fc @QT <|
 fc @Q7 <|
 fc @QS <|
 fc @QD <|
 fc @QC <|
 fc @Qy <|
 fc @Qx <|
 fc @Q6 <|
 fc @Qv <|
 fc @Q8 <|
 fc @Qj <|
 fc @Qi <|
 fc @Qr <|
 fc @QA <|
 fc @Qz <|
 fc @Q5 <|
 fc @QB <|
 fc @Rm <|
 fc @QR <|
 fc @Qn <|
 fc @Ql <|
 fc @Rf <|
 fc @Rd <|
 fc @Rk <|
 fc @Rh <|
 fc @Ri <|
 fc @Ra <|
 fc @Rc <|
 fc @Rb <|
 fc @Qw <|
 fc @Rj <|
 fc @Rg <|
 fc @Qt <|
 fc @Qu <|
 fc @QH <|
 fc @QO <|
 fc @QK <|
 fc @Q4 <|
 fc @QG <|
 fc @QF <|
 fc @QE <|
 fc @QJ <|
 fc @QL <|
 fc @QN <|
 fc @QM <|
 fc @Q9 <|
 fc @QI <|
 fc @QP <|
 fc @Ro <|
 fc @Qo <|
 fc @Rn <|
 fc @Qs <|
 fc @Q0 <|
 fc @QW <|
 fc @Q1 <|
 fc @QZ <|
 fc @QX <|
 fc @QY <|λL h=> nm h
theorem N4(S:St X F Y ls (b'++a') s){c:av}{Z:aa PV}{m:ao}(z:aP X.w F a' (.inst c ns Z) v)(w:k3 c m=ag)(h:c1 ns Z m=U (.fn (.ref a)))
  (K:∀P,St X F Y ls (b'++a') P->Q (.ref a) P):aB (ay pw X.w) A (oU v m ag) Q E s:=by
 obtain⟨b,D,d,M,rfl,I,u,n,l⟩:=z.inst S;have ok:=D6 X.w.params w;simp only[attrOk,pY,cP,eT]at ok;obtain⟨⟨⟨g1,R⟩,k⟩,G⟩:=ok;obtain⟨i,g,j⟩:=CZ k;subst n;obtain⟨B,e,f⟩:=(iZ l m).1 _ h;cases f;refine get_value (iB (S.top.in S.J)) I g1 ?_ rfl (K _ (S.toks _));unfold tJ;rw[g,G];simp only[Option.bind_some];unfold W.ownOf;rw[bZ j];dsimp only;rw[i4 u m,e];rfl
theorem Vu(HO:cp X.w X.I k O)(C:aG X)(q:∀es,fo X k O es (br n X.G es)){o:aw}{m:ao}{c':aQ}{as:aa aw}{c f:av}{us:aa PV}
  (g:iA o=ak) (hl:(c'.endLine==d'.line)=ag) (hn:bb as.length 30=ag) (b:bO O X.cps V (br n X.G as)=U B) (a:b6 B=U ps)
  (S:jB c m=U f) (Y:ns.contains m=ak) (e:O.call (.ref f) (.inst c ns us::ps)=U rv) (R:aX k A) (y:aR X.w F V (ls.map (·.2)) a')
  (f':aB (ay pw X.w) A (bt o X.env) (λov P=> bH λW N=> bG (St X W N ls (b'++a') P) (Sub F W) (Den X.w W (.inst c ns us) ov)) E s)
  (K:∀v P W N t,St X W N ls (t++(b'++a')) P->Sub F W->cq X.w W [] rv v t->Q v P):aB (ay pw X.w) A (bt (.Call (.Attribute o m c') as [] d') X.env) Q E s:=by
 have z:=hF b;have g':((d9 d' (du as X.env)).any (·.1) ||([]:aa (aq ao×d8 ai)).any (·.1.isNone))=ak:=by rw[gK,z];rfl
 refine tK (fN f' (λov P h=> ?_) λL L h=> h) (qo g hl hn z);obtain⟨W,N,u,H,e'⟩:=h;obtain⟨ad,D,d,M,rfl,I,hd,hk,l⟩:=(aP.J e').inst u;subst hk;have ok:=Al X.w.params S;simp only[vu,pY,cP,eT]at ok;obtain⟨⟨⟨g1,g2⟩,h1⟩,G⟩:=ok;obtain⟨j,cc⟩:=HO _ _ _ e;refine C3 (iB (u.top.in u.J)) I g1 g2 h1 G ?_ ?_
 ·show(hY m d).map (·.isSome)=U ak
  rw[i4 hd m,(iZ l m).2 (pH Y)];rfl
 ·refine f9 g' (λh T=> j _ h T) ?_
  refine gc q b R u (y.mono H) λZ i p j' ts S2 w r=> ⟨S2.top.in S2.J,?_⟩
  obtain⟨F3,S3,x,dd⟩:=S2.b6 C r a;exact B2 cc R S3 (.cons (e'.mono (w.trans x)) dd) λv s4 F4 h' t S4 i' d=> K v s4 F4 h' t S4 ((H.trans w).trans (x.trans i')) d
abbrev E6:aa ao:=[S "defaults",S "maps",S "properties",S "words"]
structure Dt where
 mA:av
 df:PV
 r1:PV
 r2:PV
 pA:av
 wA:av
def Dt.pv(D:Dt):PV:=.inst 686 E6 [D.df,.fn (.ref D.mA),.fn (.ref D.pA),.fn (.ref D.wA)]
def IM(w:aV)(D:Dt)(F:Fz)(Y:MT):Prop:=(D.mA==cO)=ak∧bH λo X=> bG (Y=[(D.mA,o)]) (Den w F D.r1 X) ((cH (strKind pw w) o [(S "idna",X)]∨∃i,Den w F D.r2 i∧cH (strKind pw w) o [(S "idna",X),(S "dm",i)]))
theorem IM.ok{D:Dt}:bq (IM w D):=λF W Y h H L=> by
 obtain⟨M,o,X,e,d,h⟩:=h;refine⟨M,o,X,e,d.mono H,h.imp id λ⟨i,a,h⟩=> ⟨i,a.mono H,h⟩⟩
theorem w3(C:aG X){D:Dt}{p q:aQ}(T:X.G.ns[i]?=U x)(Z:St X F Y ls (b'++a') s)(a:(ls.map (·.2))[i]?=U (U v))(d:Den X.w F D.pv v)
  (K:∀P,St X F Y ls (b'++a') P->Q (.ref D.mA) P):aB (ay pw X.w) A (bt (.Attribute (.Name x p) (S "maps") q) X.env) Q E s:=
 CC (fV C T Z a (N4 Z (.J d) (by kernel_rfl) (by kernel_rfl) K)) (yM rfl)
theorem St.dictAt{D:Dt}{o:af}{c:MT}{M:aa (ao×ai)}(Z:St X F ((D.mA,o)::c) ls a' s)(B:cH (strKind pw X.w) o M):s.heap.DictOf (strKind pw X.w) D.mA M:=B.dictOf (Z.al (D.mA,o) (bk _ (.head _))).1
theorem va(C:aG X){D:Dt}{j:ae}{y z:ao}{p1 p2 p3 p4:aQ}{u:ai}{o:af}{c:MT}{M:aa (ao×ai)}{g:d8 ai}{Q:au->aD->Prop}(T:X.G.ns[i]?=U x)(G:X.G.ns[j]?=U y)(V:(D.mA==cO)=ak)
  (Z:St X F ((D.mA,o)::c) ls (b'++a') s) (a:(ls.map (·.2))[i]?=U (U v)) (d:Den X.w F D.pv v) (N:(ls.map (·.2))[j]?=U (U u)) (b:Den X.w F (.str z) u) (B:cH (strKind pw X.w) o M) (e:au)
  (K:∀P,St X F ((D.mA,o)::c) ls (b'++a') P->Q (e !=(dv M z).isSome) P):
  wpAny (ay pw X.w) A (mq (.Compare (.Name y p1) [if e then .NotIn else .In] [.Attribute (.Name x p2) (S "maps") p3] p4) X.env g) Q E s:=by
 obtain⟨t,rfl⟩:∃t,u=.str z t:=b.inv;cases e
 ·refine y4 rfl (fV C G Z N (CF (w3 C T Z a d λP w=> ?_)))
  exact wpAny_in_of (ic pw X.w z t) V (w.dictAt B).mapOf (kV (by simpa using K _ (w.toks _)))
 ·refine y4 rfl (fV C G Z N (CF (w3 C T Z a d λP w=> ?_)))
  exact wpAny_notIn_of (ic pw X.w z t) V (w.dictAt B).mapOf (kV (by simpa using K _ (w.toks _)))
theorem yK(C:aG X){D:Dt}{j:ae}{y z:ao}{p1 p2 p3 p4:aQ}{u r:ai}{o:af}{c:MT}{M:aa (ao×ai)}(T:X.G.ns[i]?=U x)(G:X.G.ns[j]?=U y)
  (Z:St X F ((D.mA,o)::c) ls (b'++a') s) (a:(ls.map (·.2))[i]?=U (U v)) (d:Den X.w F D.pv v) (N:(ls.map (·.2))[j]?=U (U u)) (b:Den X.w F (.str z) u) (B:cH (strKind pw X.w) o M) (f:dv M z=U r)
  (K:∀P,St X F ((D.mA,o)::c) ls (b'++a') P->Q r P):
  wpAny (ay pw X.w) A (bt (.Subscript (.Attribute (.Name x p2) (S "maps") p3) (.Name y p1) p4) X.env) Q E s:=by
 obtain⟨t,rfl⟩:∃t,u=.str z t:=b.inv;refine oz (w3 C T Z a d λP w=> fV C G w N ?_);have g:=w.dictAt B;exact jY g.typeIs Mr.lookup (Nc (ic pw X.w z t) g.mapOf f (K _ (w.toks _))) (ob rfl _ _)
theorem pQ(P:aT):fj P 676 hK (fdOf hK) (cw hK) (ep hK) Jd (dr hK) (restOf hK) GS 3 [] []:=
 i1 (by kernel_rfl) (by kernel_rfl) (by kernel_rfl) (by kernel_rfl) (by kernel_rfl) (λs T=> b3 λL L L=> .of_eq (by kernel_rfl)) (λw F=> .nil) (iy P)
def qb:TG:=⟨(fdOf hK).scope.names,dr hK++restOf hK,[],GS,[]⟩
def S6:aw:=.Compare (.Name (S "name") ⟨629,11,629,15⟩) [.In] [(.Attribute (.Name (S "self") ⟨629,19,629,23⟩) (S "maps") ⟨629,19,629,28⟩)] ⟨629,11,629,28⟩
def SX:a9:=.Return (U (.Call (.Attribute (.Subscript (.Attribute (.Name (S "self") ⟨630,19,630,23⟩) (S "maps") ⟨630,19,630,28⟩) (.Name (S "name") ⟨630,29,630,33⟩) ⟨630,19,630,34⟩) (S "get") ⟨630,19,630,38⟩) [(.Name (S "code") ⟨630,39,630,43⟩)] [] ⟨630,19,630,44⟩)) ⟨630,12,630,44⟩
def zH:a9:=.Return (U (.Call (.Attribute (.Attribute (.Name (S "self") ⟨631,15,631,19⟩) (S "defaults") ⟨631,15,631,28⟩) (S "get") ⟨631,15,631,32⟩) [(.Name (S "name") ⟨631,33,631,37⟩)] [] ⟨631,15,631,38⟩)) ⟨631,8,631,38⟩
theorem Gs:cw hK=[.If S6 [SX] [] ⟨629,8,630,44⟩,zH]:=by kernel_rfl
theorem S7{p:aQ}(n:ae):aE (n+1) qb (.Name (S "self") p)=.var 0∧aE (n+1) qb (.Name (S "name") p)=.var 1∧aE (n+1) qb (.Name (S "code") p)=.var 2:=⟨by kernel_rfl,by kernel_rfl,by kernel_rfl⟩
theorem Gr{D:Dt}{c:aj}{a:PV}{us:aa PV}(N:a=.inst 630 [S "default",S "starts",S "values"] us)(z:cp w (IM w D) k O)(e:O.call (.ref 608) [a,.int c]=U r):
  c0 w (IM w D) (k+1) (.ref 676) [D.pv,.str x,.int c] (λF Y=> ea λo M v=> dE (Y=[(D.mA,o)]) (cH (strKind pw w) o M) (dv M x=U v) (Den w F a v)) (λW L v t=> cq w W [] r v t):=by
 refine call_of (pQ w.params) IM.ok rfl ?_;rw[Gs];intro X F Y s A Q E C d n hG m _ R g G KK;subst d;obtain⟨o,M,v,rfl,B,hv,hd⟩:=g;obtain⟨ls,a',y,S0⟩:=G;have P:=dU 5 X.I (by rw[n];exact ja z) X C rfl rfl;have b':cp X.w X.I k O:=by rw[n];exact ja z
 have I:X.G=qb:=hG;have Z:=S7 (p:=⟨629,11,629,15⟩) 4;have V:(D.mA==cO)=ak:=by
  have:=S0.inv;rw[n]at this;exact this.1.1
 have S1:=S0;have e':∀{W:Fz} {s':aD} {h:aa (ao×aq ai)} {o':MT},St X W [(D.mA,o)] h o' s'->s'.heap.DictOf (strKind pw X.w) D.mA M:=λS=> B.dictOf (S.al (D.mA,o) (bk _ (.head _))).1
 have b:X.G.ns=[S "self",S "name",S "code"]:=by rw[I];kernel_rfl
 have H:X.G.ns[0]?=U (S "self"):=by rw[b];rfl
 have p:X.G.ns[1]?=U (S "name"):=by rw[b];rfl
 obtain⟨K,f,j⟩:=y.get (i:=0) rfl rfl;obtain⟨v1,q,r1⟩:=y.get (i:=1) rfl rfl;have T:=j.eY.2;have l:Den X.w F (.str x) v1:=r1.eY.2;have c':(dv M x).isSome=ag:=by rw[hv];rfl
 refine cK (mu (va C H p V S1 f T q l B ak λs1 S1=> ?_));rw[c'];refine cK (iP ?_);refine Vu (V:=[.J D.pv,.J (.str x),.J (.int c)]) (ns:=[S "default",S "starts",S "values"]) (us:=us) (B:=[.J (.int c)]) (ps:=[.int c]) (rv:=r) b' C P.s rfl rfl rfl ?_ rfl (by kernel_rfl) (by kernel_rfl) (by rw[← N];exact e) R y
  (yK C H p S1 f T q l B hv λi S2=> ⟨F,_,S2,Sub.refl F,by rw[← N];exact hd⟩) ?_
 ·rw[I,show br 5 qb [.Name (S "code") ⟨630,39,630,43⟩]=.cons (.var 2) .nil from by kernel_rfl];rfl
 ·intro u s' W d' t S' sb rr
  exact(KK u s' W d' ls t a' S' rr).1
theorem Gu{D:Dt}{c:aj}{z:aa ao}{i:aa PV}(c':D.df=.aW z i)(HO:cp w (IM w D) k O):
  c0 w (IM w D) (k+1) (.ref 676) [D.pv,.str x,.int c] (λL Y=> bH λZ M=> bG (Y=[(D.mA,Z)]) (cH (strKind pw w) Z M) (dv M x=ah)) (λW L v t=> cq w W [] (.J ((c1 z i x).getD .none)) v t):=by
 refine call_of (pQ w.params) IM.ok rfl ?_;rw[Gs];intro X F Y s A Q E C hw n hG m _ R g G KK;subst hw;obtain⟨Z,M,rfl,b',a⟩:=g;obtain⟨ls,a',y,S0⟩:=G;have e:cp X.w X.I k O:=by rw[n];exact ja HO
 have I:=hG;have V:(D.mA==cO)=ak:=by
  have:=S0.inv;rw[n]at this;exact this.1.1
 have S1:=S0;have b:X.G.ns=[S "self",S "name",S "code"]:=by rw[I];kernel_rfl
 have H:X.G.ns[0]?=U (S "self"):=by rw[b];rfl
 have p:X.G.ns[1]?=U (S "name"):=by rw[b];rfl
 obtain⟨K,f,j⟩:=y.get (i:=0) rfl rfl;obtain⟨v1,q,P⟩:=y.get (i:=1) rfl rfl;have T:=j.eY.2;have l:=P.eY.2;have h:(dv M x).isSome=ak:=by rw[a];rfl
 refine cK (mu (va C H p V S1 f T q l b' ak λr S1=> ?_));rw[h];refine fi ?_;have B:=uk (W:=0) (O:=O) C e 200 [zH];have hb:b7 200 X.G [zH]=.cons (.ret (.meth (.attr (.var 0) (S "defaults")) (S "get") (.cons (.var 1) .nil))) .nil:=by rw[I];kernel_rfl
 rw[hb]at B;have hx:aI 0 O X.cps (.cons (.ret (.meth (.attr (.var 0) (S "defaults")) (S "get") (.cons (.var 1) .nil))) .nil) [.J D.pv,.J (.str x),.J (.int c)]=U (.ret (.J ((c1 z i x).getD .none)) [.J D.pv,.J (.str x),.J (.int c)]):=by
  unfold Dt.pv;rw[c'];kernel_rfl
 refine B _ _ _ F [(D.mA,Z)] [] _ _ E hx R ⟨ls,a',y,S1⟩ λfl s' o=> ?_
 obtain⟨v,rfl,W,N,t,_,⟨ls,a',_,u⟩,d⟩:=o;rw[fu]at u;exact(KK v s' W N ls t _ u d).1
theorem Ue(w:aV):Kept w (.ref 676):=g8 (pQ w.params).top (pQ w.params).na (pQ w.params).data
theorem Pq{D:Dt}{c:aj}{dk:aa ao}{a' d m:aa PV}(b:D.df=.aW dk a')(h1:D.r1=.inst 630 [S "default",S "starts",S "values"] d)(G:D.r2=.inst 630 [S "default",S "starts",S "values"] m)
  (z:cp w (IM w D) k O) (n:x=S "idna"->O.call (.ref 608) [D.r1,.int c]=U r) (j:x=S "dm"->O.call (.ref 608) [D.r2,.int c]=U r) (y:x≠S "idna"->r=.J ((c1 dk a' x).getD .none)):c5 w (IM w D) (k+1) (.ref 676) [D.pv,.str x,.int c] r:=by
 refine⟨Ue w,?_⟩;intro F Y Z A s Q E R T g Den B i V KK;have KK:∀v P W N t,Ext (Y.map (·.1)) s P->Sub F W->IM w D W N->(∀a o,W a=U o->P.heap.get? a=U o)->(∀a o,W a=U o->F a=U o∨s.heap.get? a=ah)->N.map (·.1)=Y.map (·.1)->(∀p∈N,P.heap.get? p.1=U p.2∧W p.1=ah)->cq w W [] r v t->
   (∀p∈t,P.heap.get? p.1=U p.2∧W p.1=ah∧s.heap.get? p.1=ah)->(t.map (·.1)).Nodup->Q v P:=λv P W N t n j y H e5 q e7 e8 e9 L=> KK v P W N t n j y H e5 q e7 e8 e9
 obtain⟨K,C,X,rfl,l,h⟩:=id g;have ne:(S "idna":ao)≠S "dm":=by decide+kernel
 by_cases hi:x=S "idna"
 ·obtain⟨M,b',hv⟩:∃M,cH (strKind pw w) C M∧dv M x=U X:=by
   rcases h with h |⟨I,_,h⟩
   ·exact⟨_,h,by rw[hi];simp[dv]⟩
   ·exact⟨_,h,by rw[hi];simp[dv]⟩
  exact Gr h1 z (n hi) F _ Z A s Q E R T g ⟨C,M,X,rfl,b',hv,l⟩ Den B i V KK
 ·have f:=y hi
  by_cases u:x=S "dm"
  ·rcases h with h |⟨I,e,h⟩
   ·rw[f]at KK
    exact Gu b z F _ Z A s Q E R T g ⟨C,_,rfl,h,by rw[u];simp[dv,ne]⟩ Den B i V KK
   ·exact Gr G z (j u) F _ Z A s Q E R T g ⟨C,_,I,rfl,h,by rw[u];simp[dv,ne],e⟩ Den B i V KK
  ·rw[f]at KK
   refine Gu b z F _ Z A s Q E R T g ?_ Den B i V KK;rcases h with h |⟨I,_,h⟩
   ·exact⟨C,_,rfl,h,by simp[dv,gM hi]⟩
   ·exact⟨C,_,rfl,h,by simp[dv,gM hi,gM u]⟩
theorem BJ(C:aG X){xp R:aQ}{m:ao}{v:aw}{c:av}{p:ai->PV}{PP:Fz->ai->MT->Prop}{Q:dD->aD->Prop}(T:X.G.ns[i]?=U x)(w:iz v=ak)
  (g:V[i]?=U (.own (.inst c ns ps))) (B:(k3 c m && bb ns.length 100)=ag) (y:aR X.w F V (ls.map (·.2)) a')
  (Z:aB (ay pw X.w) A (bt v X.env) (λval P=> ea λW N t=> dE (St X W N ls (t++(b'++a')) P) (Sub F W) (Den X.w W (p val) val) (PP W val t)) E s)
  (K:∀P W N t val,Rl X W N (V.set i (.own (.inst c (cy ns ps m (p val)).1 (cy ns ps m (p val)).2))) (t++b') P->Sub F W->PP W val t->Q .next P):
  wpAny (ay pw X.w) A (iO (.Assign [.Attribute (.Name x xp) m R] v d') X.env) Q E s:=by
 simp only[cP]at B;obtain⟨r,B⟩:=B;refine Dm (fN Z (λval P h=> ?_) λω ω h=> h) (fG w _ _ _);obtain⟨W,N,t,S0,H,d,pp⟩:=h;have u:St X W N ls ((t++b')++a') P:=by rw[bU];exact S0
 obtain⟨z,D,dd,c',a,b,L,ow,Y,_⟩:=(y.mono H).zN g;refine fV C T u a ?_;have S1:=u.perm ((fe (t++b') L).trans dA);have O:=(S1.al (D,dd) (bp _ (.head _))).1;have I:InstAt P.heap z (cZ c D) c (U dd):=⟨u.J _ _ b,rfl,rfl,O⟩;have ok:=J4 X.w.params r;obtain⟨k,pf⟩:=BB ow d;have o:=ok;simp only[setOk,cP,eT]at o;have S:(hY m dd).isSome=ag:=by
  obtain⟨M,q,_,_⟩:=ow;rw[i4 q m];rfl
 refine C5 (iB (u.top.in u.J)) I o.1.1.1 (Ke (iB (u.top.in u.J)) I ok S pf (λes nn e=> ?_) ?_ ?_)
 ·have n:=JP k e
  have hl:ns.length=ps.length:=by obtain⟨M,_,rfl,l⟩:=ow;rw[l.length];simp
  have j:=Fs (x:=m) (y:=p val) hl;have:ns.length < 100:=dg B;rw[n];unfold ej;exact bK (by assumption) (bK (by assumption) (by decide))
 ·obtain⟨M,⟨_,es,ep,hd,_⟩,_⟩:=k
  exact⟨es,ep,hd⟩
 ·obtain⟨f,G,p2⟩:=Y k
  have S2:=S1.upd (tx ..) (jm _ O pf);exact K _ W N t val ⟨ls,f,G,(S2.perm (dA.symm.trans (fe (t++b') p2.symm))).toks _⟩ H pp
theorem Sr(P:aT):fj P 662 i9 (fdOf i9) (cw i9) (ep i9) Jb (dr i9) (restOf i9) GS 1 [] []:=
 i1 (by kernel_rfl) (by kernel_rfl) (by kernel_rfl) (by kernel_rfl) (by kernel_rfl) (λs T=> b1 λL=> .of_eq (by kernel_rfl)) (λw F=> .nil) (iy P)
def aa8:TG:=⟨(fdOf i9).scope.names,[S "self"],[],GS,[S "self"]⟩
def ze(i l c:ae):a9:=.Assign [(.Attribute (.Name (S "self") ⟨l,8,l,12⟩) (if i=0 then S "maps" else if i=1 then S "properties" else S "words") ⟨l,8,l,c⟩)] (.Dict [] [] ⟨l,c+3,l,c+5⟩) ⟨l,8,l,c+5⟩
def zd:a9:=.Assign [(.Attribute (.Name (S "self") ⟨620,8,620,12⟩) (S "defaults") ⟨620,8,620,21⟩)] (.Call (.Name (S "data_defaults") ⟨620,24,620,37⟩) [] [] ⟨620,24,620,39⟩) ⟨620,8,620,39⟩
theorem PR:cw i9=[zd,ze 0 621 17,ze 1 622 23,ze 2 623 18]:=by kernel_rfl
def PQ(w:aV)(f:PV):Fz->PV->ai->MT->Prop:=λF q v t=> v=.none∧o8 λa b c k Z g=> dE (q=.inst 686 E6 [f,.fn (.ref a),.fn (.ref b),.fn (.ref c)]) (t=[(c,g),(b,Z),(a,k)]) (cH (strKind pw w) k []) ((a==cO)=ak)
theorem PS{f:PV}(hI:bq I)(z:cp w I k O)(e:O.call (.ref 648) []=U (.own f)):ud w I (k+1) (.ref 662) (.inst 686 [] []) [] (PQ w f):=by
 refine Hh (Sr w.params) hI rfl (λF q v t h=> by obtain⟨_,a,b,c,_,_,_,rfl,_⟩:=h;rfl) ?_;rw[PR];intro X F Y s A Q E C d j' hG n' R G KK;subst d;have g':cp X.w X.I k O:=by rw[j'];exact ja z
 have c':=hG;have e':X.G.ns[0]?=U (S "self"):=by rw[c'];rfl
 have P:=dU 5 X.I g' X C rfl rfl;have f':∀{F:Fz} {Y:MT} {ls:aa (ao×aq ai)} {b' a':MT} {s:aD} {V:aa Slot} {E:ai->aD->Prop} (d':aQ),St X F Y ls (b'++a') s->aR X.w F V (ls.map (·.2)) a'->
   wpAny (ay pw X.w) A (bt (.Dict [] [] d') X.env) (λval s'=> ea λW N t=> dE (St X W N ls (t++(b'++a')) s') (Sub F W) (Den X.w W (.fn val) val) (bH λa o=> dE (val=.ref a) (t=[(a,o)]) (cH (strKind pw X.w) o []) ((a==cO)=ak))) E s:=by
  intro F Y ls b' a' s V E d' S y;refine(P.e (.Dict [] [] d')) V (.own (.aW [] [])) A F Y ls b' a' s _ E ?_ R S y λv s' W N t u sb r=> ?_
  ·rw[c'];kernel_rfl
  ·cases r with
   |@own p a o ow=>
   obtain⟨M,dd,hk,_⟩:=ow;have:M=[]:=by simpa using hk
   subst this;exact⟨W,N,_,u,sb,.fn _,a,o,rfl,rfl,dd,u.i7 (bk _ (.head _))⟩
 refine cK ?_;have B1:=(sM (W:=0) C (λn=> dU n X.I g' X C rfl rfl) 20).1 zd;have k':og 20 X.G zd=.seta 0 (S "defaults") (.call (.glb (S "data_defaults") (.fn (.ref 648))) .nil):=by rw[c'];kernel_rfl
 rw[k']at B1;have l':aJ 0 O X.cps (.seta 0 (S "defaults") (.call (.glb (S "data_defaults") (.fn (.ref 648))) .nil)) [.own (.inst 686 [] [])]=U (.nxt [.own (.inst 686 [S "defaults"] [f])]):=by
  show(O.call (.ref 648) []).bind (λr=> r.bR.bind λp=> (BG (.own (.inst 686 [] [])) (S "defaults") p).map λs=> Out.nxt [s])=_;rw[e];kernel_rfl
 refine B1 _ _ _ F Y [] _ _ _ l' R G λfl s1 o=> ?_
 obtain⟨rfl,F1,H,u',o',n5,h',S1⟩:=o;refine cK (BJ C e' rfl rfl (by kernel_rfl) h' (f' _ S1 h') λi F2 r' t2 x' D v' h2=> ?_);obtain⟨a,oa,rfl,rfl,da,na⟩:=h2;obtain⟨p',t',l,S2⟩:=D;refine cK (BJ C e' rfl rfl (by kernel_rfl) l (f' _ S2 l) λs3 T L t3 y' R3 x j=> ?_);obtain⟨b,Z,rfl,rfl,db,nb⟩:=j;obtain⟨q',K,i',S3⟩:=R3;refine cK (BJ C e' rfl rfl (by kernel_rfl) i' (f' _ S3 i') λm F4 m' t4 z' R4 w' B=> ?_);obtain⟨c,g,rfl,rfl,dc,nc⟩:=B;exact fi ((KK .none m F4 m' _ _ _ R4 rfl ⟨rfl,a,b,c,oa,Z,g,by kernel_rfl,rfl,da,na⟩).2 rfl)
noncomputable def O₀:bI:=⟨λL L=> ah⟩
theorem eN:cp w I k O₀:=λL L L h=> nn h
theorem iS.g{p0 p1:PV}(c:iS w I k f p0 args .none p1):ud w I k f p0 args (λL q v t=> q=p1∧v=.none∧t=[]):=
 λF Y K Z A s Q E D d R T g DD ov e b l B i V KK=> c F Y K Z A s Q E D d R T g DD ov e b l B i V λv P W N S n j y H x o a u h O m=>
  KK v P W N S _ [] n j y H x o a u h O ⟨rfl,by cases m;rfl,rfl⟩ (λp z=> nm z) gm
noncomputable def Cx.sw(X:Cx)(I:Fz->MT->Prop):Cx:={X with I:=I}
theorem St.sw(S:St X F Y ls a' s)(h:I F Y):St (X.sw I) F Y ls a' s:=
 ⟨S.top,S.sub,h,S.ns,S.nm,S.ext,S.J,S.fL,S.fr,S.al,S.nd,S.nw,S.mx,S.xm,S.ce,S.pn⟩
theorem St.ho(S:St (X.sw I) F Y ls a' s)(h:X.I F Y):St X F Y ls a' s:=
 ⟨S.top,S.sub,h,S.ns,S.nm,S.ext,S.J,S.fL,S.fr,S.al,S.nd,S.nw,S.mx,S.xm,S.ce,S.pn⟩
theorem aG.sw(C:aG X)(h:bq I):aG (X.sw I):=
 ⟨C.fn,C.kd,C.gl,C.bl,C.ns,C.nn,C.gs,C.cs,C.cn,C.dn,C.hL,h,C.pk⟩
theorem St.Z9{o':af}{N:cc}(C:aG X)(S:St X F ((a,o)::Y) ls a' s)(D:X.I F ((a,o')::Y))(g:gO a s.heap N)(R:N.get? a=U o'):St X F ((a,o')::Y) ls a' {s with heap:=N}:=by
 have A:=S.al (a,o) (.head _);have V:=dN.mp S.nd;refine⟨S.top,S.sub,D,S.ns.sameBut g (gM A.2.2),S.nm,⟨λb o e n=> ?_,S.ext.gens,S.ext.os⟩,λb o e=> ?_,S.fL,S.fr,λp z=> ?_,S.nd,S.nw,λp z=> ?_,S.xm,S.ce,S.pn⟩
 ·by_cases q:b=a
  ·subst q
   rcases S.mx (b,_) (.head _)with h |h
   ·exact bf h n
   ·rw[show X.s₀.heap.get? b=ah from h]at e;cases e
  ·exact(g.2 b q).trans (S.ext.keep b o e n)
 ·by_cases q:b=a
  ·subst q;rw[A.2.1]at e;cases e
  ·exact(g.2 b q).trans (S.J b o e)
 ·rcases bM.mp z with rfl |h
  ·exact⟨R,A.2⟩
  ·have B:=S.al p (.tail _ h)
   have k:p.1≠a:=λe=> V.1 (bz.mpr ⟨p,h,e⟩)
   exact⟨(g.2 _ k).trans B.1,B.2⟩
 ·rcases bM.mp z with rfl |h
  ·exact S.mx (a,o) (.head _)
  ·exact S.mx p (.tail _ h)
abbrev e9:aa ao:=[S "default",S "starts",S "values"]
theorem Ye(b:bq I)(p:PV):iS w I (k+1) (.ref 601) (.inst 630 [] []) [p] .none (.inst 630 e9 [p,.list [.int 0],.list [p]]):=
 (Qp (W:=0) (q:=.inst 630 [] []) (b:=.inst 630 e9 [p,.list [.int 0],.list [p]]) rfl b eN (by kernel_rfl)).2
theorem iw(P:aT):fj P 683 hM (fdOf hM) (cw hM) (ep hM) Je (dr hM) (restOf hM) GS 2 [] []:=
 i1 (by kernel_rfl) (by kernel_rfl) (by kernel_rfl) (by kernel_rfl) (by kernel_rfl) (λs T=> b2 λL L=> .of_eq (by kernel_rfl)) (λw F=> .nil) (iy P)
def HA:TG:=⟨(fdOf hM).scope.names,dr hM++restOf hM,[],GS,[]⟩
def Aj:aw:=.Call (.Attribute (.Attribute (.Name (S "self") ⟨635,39,635,43⟩) (S "defaults") ⟨635,39,635,52⟩) (S "get") ⟨635,39,635,56⟩) [(.Name (S "name") ⟨635,57,635,61⟩)] [] ⟨635,39,635,62⟩
def Vk:aw:=.Call (.Name (S "RangeMap") ⟨635,30,635,38⟩) [Aj] [] ⟨635,30,635,63⟩
def Vi:a9:=.Assign [(.Subscript (.Attribute (.Name (S "self") ⟨635,12,635,16⟩) (S "maps") ⟨635,12,635,21⟩) (.Name (S "name") ⟨635,22,635,26⟩) ⟨635,12,635,27⟩)] Vk ⟨635,12,635,63⟩
def Vj:aw:=.Compare (.Name (S "name") ⟨634,11,634,15⟩) [if ag then .NotIn else .In] [(.Attribute (.Name (S "self") ⟨634,23,634,27⟩) (S "maps") ⟨634,23,634,32⟩)] ⟨634,11,634,32⟩
def Vl:a9:=.Return (U (.Subscript (.Attribute (.Name (S "self") ⟨636,15,636,19⟩) (S "maps") ⟨636,15,636,24⟩) (.Name (S "name") ⟨636,25,636,29⟩) ⟨636,15,636,30⟩)) ⟨636,8,636,30⟩
theorem HB:cw hM=[.If Vj [Vi] [] ⟨634,8,635,63⟩,Vl]:=by kernel_rfl
theorem HC{D:Dt}{M:aa (ao×ai)}(a:dv M x=U v)(N:bq I)(V:(D.mA==cO)=ak):
  c0 w I (k+1) (.ref 683) [D.pv,.str x] (λL Y=> bH λo c=> Y=(D.mA,o)::c∧cH (strKind pw w) o M) (λL L u t=> u=v∧t=[]):=by
 refine call_of (iw w.params) N rfl ?_;rw[HB];intro X F Y s A Q E C d n O m _ R g G KK;subst d;obtain⟨o,c,rfl,B⟩:=g;obtain⟨ls,a',y,S0⟩:=G;have z:=O;have S1:=S0;have b:X.G.ns=[S "self",S "name"]:=by rw[z];kernel_rfl
 have H:X.G.ns[0]?=U (S "self"):=by rw[b];rfl
 have p:X.G.ns[1]?=U (S "name"):=by rw[b];rfl
 obtain⟨K,f,j⟩:=y.get (i:=0) rfl rfl;obtain⟨W,q,P⟩:=y.get (i:=1) rfl rfl;have T:=j.eY.2;have l:=P.eY.2;have e:(dv M x).isSome=ag:=by rw[a];rfl
 refine cK (mu (va C H p V S1 f T q l B ag λr S1=> ?_));rw[e];refine fi (cK (iP (yK C H p S1 f T q l B a λi S2=> ?_)));exact(KK v i F _ ls [] a' S2 ⟨rfl,rfl⟩).1
theorem EL{k':ae}
  (C:aG X) (P:Pack X k O n) {f:aw} {as:aa aw} {d':aQ} {a:av} {B:aa RV} {ps:aa PV} {g:Fz->MT->Prop} {j:Fz->MT->ai->MT->Prop} (hf:notAttr f=ag)
  (S:ev O X.cps V (aE n X.G f)=U (.J (.fn (.ref a)))) (b:bO O X.cps V (br n X.G as)=U B) (c':b6 B=U ps) (kp:Kept X.w (.ref a)) (c:c0 X.w X.I k' (.ref a) ps g j) (l:aX k' A) (R:aX k A)
  (M:St X F Y ls (b'++a') s) (y:aR X.w F V (ls.map (·.2)) a') (q:∀W N,X.I W N->g W N)
  (K:∀v L W N t t',St X W N ls (t++(t'++(b'++a'))) L->Sub F W->j W N v t->Q v L):aB (ay pw X.w) A (bt (.Call f as [] d') X.env) Q E s:=by
 have z:=hF b;have I:((d9 d' (du as X.env)).any (·.1) ||([]:aa (aq ao×d8 ai)).any (·.1.isNone))=ak:=by rw[gK,z];rfl
 refine tr ((P.e f).read C S R M y λD L W N u H p=> ?_) (pC hf);obtain rfl:=p.lh;refine f9 I (λh T=> kp _ h T) ?_;refine gc P.s b R u (y.mono H) λZ i F2 G ts S2 w r=> ⟨S2.top.in S2.J,?_⟩
 obtain⟨F3,S3,x,dd⟩:=S2.b6 C r c';exact xl c l S3 (q _ _ S3.inv) dd λv m o e t S4 e' d=> K v m o e t [] S4 ((H.trans w).trans (x.trans e')) d
theorem Zn{K:Type}[d4 K]{M:aa (K×ai)}{k:K}(h:dv M k=ah)(v:ai):dv (fx M k v) k=U v:=by
 rw[stored_absent h];unfold dv at h⊢;rw[Option.map_eq_none_iff]at h;rw[List.find?_append,h];simp
theorem HD{D:Dt}{z:aa ao}{c:aa PV}{M:aa (ao×ai)}(hv:dv M x=ah)(t':M.length < 1000)(hI:bq I)(r':(D.mA==cO)=ak)(k':D.df=.aW z c)
  (f':∀F W o o',I F [(D.mA,o)]->I W [(D.mA,o')]):
  c0 w I (k+3) (.ref 683) [D.pv,.str x] (λL Y=> ∃o,Y=[(D.mA,o)]∧cH (strKind pw w) o M)
   (λW p' v t=> gy λy j d o=> j5 (v=.ref y) (W y=U (cZ 630 j)) (bB w W (.aW e9 [(c1 z c x).getD .none,.list [.int 0],.list [(c1 z c x).getD .none]]) d) ((∃m,t=(j,d)::m)) (p'=[(D.mA,o)]) (cH (strKind pw w) o (fx M x v))):=by
 refine call_of (iw w.params) hI rfl ?_;rw[HB];intro X F Y s A Q E C hw n O s' _ R g G KK;subst hw;obtain⟨o,rfl,B⟩:=g;obtain⟨ls,a',e',S0⟩:=G;have b':X.G=HA:=O;have S1:=S0;have b:X.G.ns=[S "self",S "name"]:=by rw[b'];kernel_rfl
 have H:X.G.ns[0]?=U (S "self"):=by rw[b];rfl
 have d':X.G.ns[1]?=U (S "name"):=by rw[b];rfl
 obtain⟨K,f,r0⟩:=e'.get (i:=0) rfl rfl;obtain⟨v1,c',r1⟩:=e'.get (i:=1) rfl rfl;have d0:=r0.eY.2;have l:=r1.eY.2;have l':(dv M x).isSome=ak:=by rw[hv];rfl
 let Z:Fz->MT->Prop:=λL Y=> Y=[(D.mA,o)]
 have hJ:bq Z:=λF W Y h L L=> h
 have a:=C.sw hJ;have P:Pack (X.sw Z) (k+2) O₀ 6:=dU 6 Z eN (X.sw Z) a rfl rfl;refine cK (mu (va C H d' r' S1 f d0 c' l B ag λr S1=> ?_));rw[l'];refine cK (M6 ?_ (fG rfl _ _ _));have cl:=y2 (w:=X.w) (I:=Z) (k:=k+1) (c:=630) (f:=601) (args:=[(c1 z c x).getD .none]) (by simp[hG]) hJ (λF q v t h=> ⟨h.2.1,_,_,h.1⟩) (iS.g (Ye (w:=X.w) (k:=k) hJ ((c1 z c x).getD .none)));refine EL (X:=X.sw Z) (V:=[.J D.pv,.J (.str x)]) (as:=[Aj]) (B:=[.J ((c1 z c x).getD .none)]) (ps:=[(c1 z c x).getD .none]) a P rfl ?_ ?_ rfl (y1 (f:=601) (by simp[hG])) cl R R (S1.sw rfl) e' (λL L L=> trivial) λv i p q' t m S2 g' rr=> ?_
 ·show ev O₀ X.cps _ (aE 6 X.G _)=_
  rw[b'];kernel_rfl
 ·show bO O₀ X.cps _ (br 6 X.G _)=_
  rw[b',show br 6 HA [Aj]=.cons (.meth (.attr (.var 0) (S "defaults")) (S "get") (.cons (.var 1) .nil)) .nil from by kernel_rfl];unfold Dt.pv;rw[k'];kernel_rfl
 ·obtain rfl:q'=[(D.mA,o)]:=S2.inv
  have h':St X p [(D.mA,o)] ls (t++(m++([]++a'))) i:=S2.ho (by
   have T:=S0.inv;rw[n]at T⊢;exact⟨f' _ _ _ _ T.1,rfl⟩)
  have i':St X p [(D.mA,o)] ls ((t++m)++a') i:=by simpa[bU]using h'
  obtain⟨y,j,d,ns,ps,t1,rfl,hy,ow,rfl,e1,_,rfl⟩:=rr;cases e1;refine w3 (b':=[(j,d)]++m) (a':=a') C H i' f (d0.mono g') λs3 S3=> ?_
  refine fV C d' S3 c' ?_;obtain⟨V,rfl⟩:∃t,_=x6 _ t:=l.inv;have D3:=S3.dictAt B;refine Ni (ic pw X.w x V) D3 (λN u n'=> ?_) (by unfold ej;exact d6 (bh (by assumption) (by decide)));obtain⟨o2,m',e⟩:=pI u;have S4:St X p [(D.mA,o2)] ls (([(j,d)]++m)++a') {s3 with heap:=N}:=S3.Z9 C (by
   have T:=S0.inv;rw[n]at T⊢;exact⟨f' _ _ _ _ T.1,rfl⟩) n' m'
  refine fi (cK (iP ?_));refine yK (b':=[(j,d)]++m) (a':=a') C H d' (S4.toks _) f (d0.mono g') c' (.str x V) e (r:=.ref y) (Zn hv _) λs5 S5=> ?_
  have j':St X p [(D.mA,o2)] ls ([(j,d)]++(m++a')) s5:=by simpa[bU]using S5
  exact(KK (.ref y) s5 p _ ls [(j,d)] _ j' ⟨y,j,d,o2,rfl,hy,ow,⟨[],rfl⟩,rfl,e⟩).1
noncomputable def stI(b:au)(x:PV)(L:aa (aa PV)):aa (aa PV):=Lc (motive:=λt=> aa (aa PV)) L [] λl ls=> bif b then[]::l::ls else(x::l)::ls
def xb(x:PV)(L:aa (aa PV)):aa (aa PV):=(dk x).elim [] λi=> stI (i==46) x L
def dI(H:aa PV):aa (aa PV):=H.foldr xb [[]]
noncomputable def yJ(a:aa PV)(L:aa (aa PV)):aa (aa PV):=Lc (motive:=λt=> aa (aa PV)) L [] λl ls=> (a++l)::ls
noncomputable def uT(a m:ae):aa Ent->aq Ent
 |[]=> ah
 |e::r=> if e.a==a && e.m==m then U e else uT a m r
noncomputable def GP:PV->aq (av×aa ao×aa PV)
 | .inst c ns Z=> U (c,ns,Z)
 |_=> ah
def qq(W:ae)(O:bI)(e:Ent)(c:av)(args:aa PV):aq RV:=(iH W O e (.inst c [] []) args).bind λq=> gd (isNone (.J q.1)) ((GP q.2).bind λi=> gd (i.1==c) (U (.J (.inst c i.2.1 i.2.2))))
def kh:CB:=fA (.asgT [3,4] (cR "process" 547 (cD (vr 0) (vr 1) (vr 2)))) (.asg 5 (.lst .nil)) (.forV 6 (vr 3) (el (.asgT [7,8] (cR "idna_written" 561 (aK (vr 6)))) (.app 5 (vr 7)) (.asg 4 (.bin .Add (vr 4) (vr 8))))) (.ite (.attr (vr 2) (S "lengths")) (aN (.asg 4 (.bin .Add (vr 4) (cR "idna_length_words" 568 (aK (vr 5)))))) .nil)
def kl:CB:=el (.asg 8 (cR "IdnaFlags" 405 (Fu (vr 6) (vr 7) (d3 ak) (d3 ak) (d3 ak) (d3 ak) (d3 ak)))) (.asg 9 (.dct (zl (aF "stays") (aF "goes") (aF "turns") (aF "both") (aF "bad")) (zl (aF "valid") (aF "ignored") (aF "mapped") (aF "deviation") (aF "disallowed")))) (.forV 5 (.glb (S "_law_menu") (.tup [.int 97,.int 115,.int 49,.int 45,.int 95,.int 61,.int 233,.int 223,.int 173,.int 9332,.int 8800,.int 8814,.int 8232,.int 9424,.int 19968,.int 65])) (aN (.ite (cm (.idx (cT "tuple" (aK (cR "idna_status" 423 (cD (vr 5) (vr 1) (vr 7))))) (lI 0)) .NotEq (.idx (vr 9) (cR "_law_sort" 719 (aO (vr 5) (vr 7))))) (aN (.ret (d3 ak))) .nil)))
def eo:CB:=uj (.asg 11 (.lst .nil)) (.forT [12,13] (vr 10) (pl (.asgT [14,15] (cR "_law_mapped" 726 (cD (vr 12) (vr 6) (vr 7)))) (.asg 16 (cR "map_label" 438 (eL (cT "list" (aK (vr 12))) (vr 1) (vr 6) (vr 7)))) (.ite (cm (.tup (aO (cT "list" (aK (.idx (vr 16) (lI 0)))) (cT "list" (aK (.idx (vr 16) (lI 1)))))) .NotEq (.tup (aO (vr 14) (.ite (vr 15) (.lst (aK (aF "disallowed"))) (.lst .nil))))) (aN (.ret (d3 ak))) .nil) (.forV 17 (.tup (aO (vr 12) (vr 14))) (aN (.forV 18 (.tup (aO (d3 ak) (d3 ag))) (dw (.asg 19 (.ite (cR "_law_is_wrong" 733 (eL (vr 17) (vr 6) (vr 7) (vr 18))) (.lst (aK (aF "disallowed"))) (.lst .nil))) (.ite (cm (cT "list" (aK (cR "idna_code_words" 512 (eL (cT "list" (aK (vr 17))) (vr 1) (vr 8) (vr 18))))) .NotEq (vr 19)) (aN (.ret (d3 ak))) .nil))))) (.asg 20 (.ite (vr 13) (.bin .Add (.lst (eL (lI 120) (lI 110) (lI 45) (lI 45))) (cT "list" (aK (cR "encode_label" 351 (aK (vr 12)))))) (vr 12))) (.asg 11 (.bin .Add (.bin .Add (vr 11) (.bin .Mult (.lst (aK (lI 46))) (cT "int" (aK (cm (vr 11) .NotEq (.lst .nil)))))) (vr 20))))) (.asgT [21,19] (cR "_law_due" 743 (cD (vr 10) (vr 6) (vr 7)))) (.asgT [22,16] (cR "process" 547 (cD (cT "list" (aK (vr 11))) (vr 1) (vr 8)))) (.ite (cm (.tup (aO (.comp (cT "list" (aK (vr 0))) (vr 22) (d3 ag) []) (cT "list" (aK (vr 16))))) .NotEq (.tup (aO (vr 21) (vr 19)))) (aN (.ret (d3 ak))) .nil) (.asgT [23,16] (cR "to_unicode" 582 (cD (cT "list" (aK (vr 11))) (vr 1) (vr 8)))) (.ite (cm (.tup (aO (cT "list" (aK (vr 23))) (cT "list" (aK (vr 16))))) .NotEq (.tup (aO (cR "_law_joined" 750 (aK (vr 21))) (vr 19)))) (aN (.ret (d3 ak))) .nil) (.asg 20 (.lst .nil)) (.forV 12 (vr 21) (aN (.app 20 (.ite (cm (cU "max" (aK (vr 12))) .Lt (lI 128)) (vr 12) (.bin .Add (.lst (eL (lI 120) (lI 110) (lI 45) (lI 45))) (cT "list" (aK (cR "encode_label" 351 (aK (vr 12))))))))))
def mN:CE:=.ite (cm (vr 19) .NotEq (.lst .nil)) (.tup (aO (aF "refused") (vr 19))) (cR "_law_joined" 750 (aK (vr 20)))
def uS(x:bL):PV:=.tup [.str (S x),.tup []]
def dK:aa ao:=[S "gc",S "ccc",S "bc",S "lb",S "ea",S "sc",S "jt",S "incb",S "gcb",S "wb",S "sb",S "ex",S "sd",S "cased",S "ci",S "ep",S "di",S "ids",S "idc",S "xids",S "xidc",S "pat_syn",S "pat_ws",S "idst",S "dm",S "uc",S "lc",S "tc",S "cf",S "bm",S "bpb",S "scx",S "nt",S "nv",S "name",S "conf",S "nfkc_cf",S "suc",S "slc",S "stc",S "alias",S "idna"]
def dV:aa PV:=[.str (S "Cn"),.int 0,.str (S "L"),.str (S "XX"),.str (S "N"),.str (S "Zzzz"),.str (S "U"),.str (S "None"),.str (S "Other"),.str (S "Other"),.str (S "Other"),.bool ak,.bool ak,.bool ak,.bool ak,.bool ak,.bool ak,.bool ak,.bool ak,.bool ak,.bool ak,.bool ak,.bool ak,.bool ak,.none,.none,.none,.none,.none,.none,.none,.none,.none,.none,.none,.none,.none,.tup [],.tup [],.tup [],.tup [],.tup [.str (S "disallowed"),.tup []]]
def Fe:PV:=.aW dK dV
def jc:PV:=.inst 630 e9 [uS "disallowed",.list [.int 0,.int 40,.int 42,.int 45,.int 47,.int 48,.int 58,.int 61,.int 62,.int 65,.int 66,.int 95,.int 96,.int 97,.int 123,.int 173,.int 174,.int 223,.int 224,.int 233,.int 234,.int 8800,.int 8801,.int 8814,.int 8815,.int 9332,.int 9333,.int 9424,.int 9425],.list [uS "disallowed",uS "disallowed_STD3_valid",uS "disallowed",uS "valid",uS "disallowed",uS "valid",uS "disallowed",uS "disallowed_STD3_valid",uS "disallowed",.tup [.str (S "mapped"),.tup [.int 97]],uS "disallowed",uS "disallowed_STD3_valid",uS "disallowed",uS "valid",uS "disallowed",.tup [.str (S "ignored"),.tup []],uS "disallowed",.tup [.str (S "deviation"),.tup [.int 115,.int 115]],uS "disallowed",uS "valid",uS "disallowed",uS "disallowed_STD3_valid",uS "disallowed",uS "disallowed_STD3_valid",uS "disallowed",.tup [.str (S "disallowed_STD3_mapped"),.tup [.int 40,.int 49,.int 41]],uS "disallowed",.tup [.str (S "mapped"),.tup [.int 97]],uS "disallowed"]]
def gj:PV:=.inst 630 e9 [.none,.list [.int 0],.list [.none]]
def Dd(m p w:av):Dt:=⟨m,Fe,jc,gj,p,w⟩
def zf:aa ao->aa PV->ao->PV:=λT Z x=> (c1 T Z x).getD .none
def pO(O:bI)(a:av)(args:aa PV):aq RV:=(uT a args.length DY).bind λe=> w5 1000 O e args
def Xm(O:bI)(a:av)(args:aa PV):aq RV:=bif a==587 then sL 1000 O args else pO O a args
noncomputable def oP:ae->bI
 |0=> ⟨λL L=> ah⟩
 |k+1=> ⟨λf args=> match f with
  | .ref a=> Xm (oP k) a args
  |_=> ah⟩
def JD(l:aa PV):aq (PV×ao×aj):=(lb l).bind λp=> (jN p.2).bind λq=> (gk q.1).bind λx=> (dk q.2).map λc=> (p.1,x,c)
def JF(l:aa PV):aq (PV×ao):=(jN l).bind λq=> (gk q.2).map λx=> (q.1,x)
def BA(l:aa PV):aq (aa PV):=(lJ l).bind i5
def pX(o:aq RV):aq RV:=o.bind λr=> gd (isNone r) (U r)
def zT(H:aa PV):aq RV:=if(dI H).isEmpty ||!(bb H.length 1000)then ah else U (.J (.list ((dI H).map .list)))
noncomputable def vk{j:Type}(a:av)(d:aq j):aa (av×aq j)->aq j
 |[]=> d
 |q::r=> bif a==q.1 then q.2 else vk a d r
open Classical in
def Xz(m pA wA:av)(O:bI)(args:aa PV):aa (av×aq RV):=[
 (676,(JD args).bind λq=> if decide (q.1=(Dd m pA wA).pv)then(if q.2.1==S "idna" then(oP 3).call (.ref 608) [jc,.int q.2.2]else if q.2.1==S "dm" then pX ((oP 3).call (.ref 608) [gj,.int q.2.2])else U (.J (zf dK dV q.2.1)))else ah),
 (683,(JF args).bind λq=> if q.2==S "dm" then(if decide (q.1=(Dd m pA wA).pv)then U (.J gj)else ah)else ah),
 (148,(BA args).bind λH=> if H.isEmpty then U (.own (.list []))else ah),
 (445,(BA args).bind zT),
 (201,qq 1000 O ⟨184,2,[],2,yR⟩ 201 args),
 (283,qq 1000 O ⟨266,1,[(.int 36),(.int 1),(.int 26),(.int 38),(.int 700),(.int 72),(.int 128)],0,Ei⟩ 283 args),
 (405,qq 1000 O ⟨402,8,[],0,Eh⟩ 405 args),
 (336,JX 1000 O args),
 (587,sL 1000 O args),
 (620,JV 1000 O args),
 (743,JW 1000 O args)]
def JA(m pA wA:av)(O:bI)(a:av)(args:aa PV):aq RV:=vk a (pO O a args) (Xz m pA wA O args)
def aA(m pA wA:av):ae->bI
 |0=> ⟨λL L=> ah⟩
 |k+1=> ⟨λf args=> match f with
   | .ref a=> JA m pA wA (aA m pA wA k) a args
   |_=> ah⟩
set_option tactic.hygienic true in
theorem SK{P:aD}{x D:av}{d:af}{c:av}(B:∀a o,F a=U o->P.heap.get? a=U o)(T:F x=U (cZ c D))(ow:bB w F (.aW ns ps) d)(u:P.heap.get? D=U d)(C:F D=ah)(i:∀p∈Y,P.heap.get? p.1=U p.2∧F p.1=ah)(Z:D∉Y.map (·.1)):
  dE (Sub F (F.ins D d)) (Den w (F.ins D d) (.inst c ns ps) (.ref x)) ((∀a o,(F.ins D d) a=U o->P.heap.get? a=U o)) ((∀p∈Y,P.heap.get? p.1=U p.2∧(F.ins D d) p.1=ah)):=by
 have H:Sub F (F.ins D d):=Sub.ins C;refine⟨H,?_,λb o e=> ?_,λp z=> ⟨(i p z).1,?_⟩⟩
 ·obtain⟨M,q,r,l⟩:=ow
  exact .inst (H _ _ T) (F.lq _ _) ⟨rfl,q⟩ r (l.mono H)
 ·unfold Fz.ins at e
  split at e
  ·rename_i q;cases e;rw[q];exact u
  ·exact B _ _ e
 ·have:p.1≠D:=λe=> Z (e ▸ cY z)
  show(if p.1=D then _ else F p.1)=ah;rw[bW this];exact(i p z).2
set_option tactic.hygienic true in
theorem Pu{D:Dt}{dk:aa ao}{c:aa PV}(d':D.df=.aW dk c)(e':(c1 dk c (S "dm")).getD .none=.none)(G:D.r2=.inst 630 e9 [.none,.list [.int 0],.list [.none]]):c5 w (IM w D) (k+3) (.ref 683) [D.pv,.str (S "dm")] (.J D.r2):=by
 refine⟨g8 (iw w.params).top (iw w.params).na (iw w.params).data,?_⟩;intro F Y Z A s Q E R T g DD B i nd KK;obtain⟨V,mo,X,rfl,d1,b⟩:=id g
 let a':Fz->MT->Prop:=λL Y=> ∃mo,Y=[(D.mA,mo)]
 have hJ:bq a':=λF W Y h L L=> h
 rcases b with b |⟨v2,d2,b⟩
 ·refine HD (M:=[(S "idna",X)]) (by kernel_rfl) (by decide:1 < 1000) hJ V d' (λL L L x L=> ⟨x,rfl⟩) F _ Z A s Q E R T ⟨mo,rfl⟩ ⟨mo,rfl,b⟩ DD B i nd λv P W N t u C L K r O n M l L=> ?_
  obtain⟨y,j,d,x,rfl,hy,ow,⟨m,rfl⟩,rfl,b'⟩:=M;rw[e']at ow;obtain⟨g1,g2,I⟩:=l (j,d) (.head _);have hn:j∉([(D.mA,x)]:MT).map (·.1):=λq=> by
   have e:j=D.mA:=by simpa using q
   have:=(i (D.mA,mo) (.head _)).1;rw[← e,I]at this;cases this
  obtain⟨H,f,g',f'⟩:=SK K hy ow g1 g2 n hn;refine KK (.ref y) P (W.ins j d) [(D.mA,x)] [] u (C.trans H) ⟨V,x,X,rfl,d1.mono (C.trans H),.inr ⟨.ref y,by rw[G];exact f,b'⟩⟩ g' (λa o e=> ?_) O f' (.J (by rw[G];exact f)) (λp z=> nm z);unfold Fz.ins at e
  split at e
  ·rename_i q;rw[q];exact .inr I
  ·exact r a o e
 ·refine HC (v:=v2) (by kernel_rfl) IM.ok V F _ Z A s Q E R T g ⟨mo,[],rfl,b⟩ DD B i nd λv P W N t u C c' K r O n M l L=> ?_
  obtain⟨rfl,rfl⟩:=M;exact KK v P W N [] u C c' K r O n (.J (d2.mono C)) (λp z=> nm z)
section
variable {k':ae}
theorem qn(q:∀z,bq z->∀l,fo (X.sw z) k O l (br n X.G l)){o:aw}{m:ao}{t:aQ}{as:aa aw}{c f:av}
  (g:iA o=ak) (hl:(t.endLine==d'.line)=ag) (hn:bb as.length 30=ag) (b:bO O X.cps V (br n X.G as)=U B) (S:jB c m=U f) (j:Kept X.w (.ref f)) (R:aX k A) (y:aR X.w F V (ls.map (·.2)) a')
  (e:aB (ay pw X.w) A (bt o X.env) (λov P=> yD λz W N C x D d=> yz (bq z) (St (X.sw z) W N ls (C++a') P) (Sub F W) (ov=.ref x) (InstAt P.heap x (cZ c D) c (U d)) ((hY m d).map (·.isSome)=U ak) (∀Z i p G Y,St (X.sw z) p G ls (Y++(C++a')) i->Sub W p->fy X.w p a' B Z Y->aB (ay pw X.w) A (bQ (.ref f) (.ref x::Z)) Q E i)) E s):
  wpAny (ay pw X.w) A (bt (.Call (.Attribute o m t) as [] d') X.env) Q E s:=by
 have v:=hF b;have b':((d9 d' (du as X.env)).any (·.1) ||([]:aa (aq ao×d8 ai)).any (·.1.isNone))=ak:=by rw[gK,v];rfl
 refine tK (fN e (λov P h=> ?_) λL L h=> h) (qo g hl hn v);obtain⟨z,W,N,C,x,D,d,a,u,H,rfl,I,hk,K⟩:=h;have ok:=Al X.w.params S;simp only[vu,pY,cP,eT]at ok;obtain⟨⟨⟨g1,g2⟩,M⟩,h2⟩:=ok;refine C3 (iB (u.top.in u.J)) I g1 g2 M h2 hk ?_;refine f9 b' (λh T=> j _ h T) ?_;exact gc (q z a) b R u (y.mono H) λZ i p G Y S2 w r=> ⟨S2.top.in S2.J,K Z i p G Y S2 w r⟩
theorem zO{c:av}{us:aa PV}{m:ao}(S:St X F Y ls a' s)(d:Den X.w F (.inst c ns us) v)(w:ns.contains m=ak):
  ea λx D dd=> bG (v=.ref x) (InstAt s.heap x (cZ c D) c (U dd)) ((hY m dd).map (·.isSome)=U ak):=by
 have u:St X F Y ls ([]++a') s:=S;obtain⟨x,D,dd,M,rfl,I,e,W,l⟩:=(aP.J d).inst u;subst W;exact⟨x,D,dd,rfl,I,by rw[i4 e m,(iZ l m).2 (pH w)];rfl⟩
theorem KJ{l:Fz->MT->Prop}{ps:MT}{g:Fz->MT->Prop}{j:Fz->MT->ai->MT->Prop}(C:aG X)(e':c0 X.w l k f args g j)(R:aX k A)(S:St X F Y ls (ps++a') s)(hI:l F ps)(z:g F ps)(D:aH X.w F args Z)
  (K:∀v P W G t,St X W Y ls (t++(G++a')) P->Sub F W->l W G->G.map (·.1)=ps.map (·.1)->j W G v t->Q v P):aB (ay pw X.w) A (bQ f Z) Q E s:=by
 have al:∀p∈ps,s.heap.get? p.1=U p.2∧F p.1=ah:=λp z=> ⟨(S.al p (bp _ (bk _ z))).1,(S.al p (bp _ (bk _ z))).2.1⟩
 have j':(ps.map (·.1)).Nodup:=by
  have:=S.nd;rw[bj,bj]at this;exact(c2.mp (c2.mp this).2.1).1
 refine e' F ps Z A s Q E R S.top hI z D S.J al j' λv P W G t u hF g' hz r O c' d ht h'=> ?_
 have b':∀a,s.heap.get? a≠ah->F a=ah->W a=ah:=λa e f=> by
  cases q:W a with
  |none=> rfl
  |some o=>
        rcases r a o q with h |h
        ·rw[f]at h;cases h
        ·exact bf h e
 have i':∀p∈Y++a',p.1∉ps.map (·.1):=λp z m=> by
  obtain⟨q,I,e⟩:=bz.mp m;have V:=S.nd;have L:=f6 Y ps a';have b:=(L.map (·.1)).nodup_iff.mp V;rw[bj]at b;exact(c2.mp b).2.2 _ m _ (cY z) rfl
 have N:=S.drop;obtain⟨oL,es,ep,T,hr⟩:=id S.ns;have f':X.env.locals∉ps.map (·.1):=λm=> by
  obtain⟨p,z,e⟩:=bz.mp m;exact(S.al p (bp _ (bk _ z))).2.2 e
 have M:St X W Y ls a' P:=by
  refine⟨S.top.mono hF,S.sub.trans hF,C.inv _ _ _ S.inv hF λp z=> ?_,⟨oL,es,ep,u.keep _ _ T f',hr⟩,S.nm,⟨λa o e n=> ?_,u.gens.trans S.ext.gens,u.os.trans S.ext.os⟩,hz,b' _ (by rw[T];exact λe=> nomatch e) S.fL,λa o e=> ?_,λp z=> ?_,N.nd,N.nw,S.mx,S.xm,λi c w=> ?_,S.pn⟩
  ·have B:=S.al p (bk _ z)
   exact b' _ (by rw[B.1];exact λe=> nomatch e) B.2.1
  ·refine u.keep _ _ (S.ext.keep a o e n) λm=> ?_
   obtain⟨p,z,q⟩:=bz.mp m;have:=S.nw p (bk _ z);rw[q,e]at this;cases this
  ·rcases r a o e with h |h
   ·exact S.fr a o h
   ·exact .inr (S.hP h)
  ·have B:=N.al p z
   exact⟨u.keep _ _ B.1 (i' p z),b' _ (by rw[B.1];exact λe=> nomatch e) B.2.1,B.2.2⟩
  ·obtain⟨v,oc,p,e1,e2,y,H⟩:=S.ce i c w
   exact⟨v,oc,p,hF _ _ e1,e2,y,H.mono hF⟩
 have d':∀p∈G,∃q∈ps,q.1=p.1:=λp z=> by
  have:p.1∈ps.map (·.1):=by rw[← O];exact cY z
  obtain⟨q,I,e⟩:=bz.mp this;exact⟨q,I,e⟩
 have S1:St X W Y ls (G++a') P:=by
  have L:=f6 Y G a';refine⟨M.top,M.sub,M.inv,M.ns,M.nm,M.ext,M.J,M.fL,M.fr,λp z=> ?_,(L.map (·.1)).nodup_iff.mpr ?_,λp z=> ?_,M.mx,M.xm,M.ce,M.pn⟩
  ·rcases dc.mp (L.mem_iff.mp z)with h |h
   ·obtain⟨q,I,e⟩:=d' p h
    exact⟨(c' p h).1,(c' p h).2,by rw[← e];exact(S.al q (bp _ (bk _ I))).2.2⟩
   ·exact M.al p h
  ·rw[bj,O,← bj]
   exact((f6 Y ps a').map (·.1)).nodup_iff.mp S.nd
  ·rcases dc.mp z with h |h
   ·obtain⟨q,I,e⟩:=d' p h
    rw[← e];exact S.nw q (bk _ I)
   ·exact M.nw p h
 refine K v P W G t (S1.uh ht h' λa x=> ⟨λe=> ?_,λm=> ?_,S.hP x⟩) hF g' O d
 ·rw[← e,x]at T;cases T
 ·have e2:(Y++(G++a')).map (·.1)=(Y++(ps++a')).map (·.1):=by simp[O]
  rw[e2]at m;obtain⟨q,I,e⟩:=bz.mp m;have:=(S.al q I).1;rw[e,x]at this;cases this
end
def mB(D:av)(_:Fz)(ps:MT):Prop:=∃d,ps=[(D,d)]
theorem Hg{D:av}:bq (mB D):=λL L L h L L=> h
theorem zX{p0 p1 r:PV}{K:ai}{D:av}(c:iS w (λL Y=> Y=[]) k f p0 args r p1):
  c0 w (mB D) k f (.fn K::args) (λF ps=> ∃d,ps=[(D,d)]∧gz w F p0 K D d) (λW y v t=> t=[]∧(∃S,y=[(D,S)]∧gz w W p1 K D S)∧Den w W r v):=by
 intro F Y Z A s Q E R T _ X DD B i V KK;obtain⟨d,rfl,ov⟩:=X;obtain⟨K,us,rfl,a,b⟩:=DD.Py;obtain rfl:=a.inv;obtain⟨M,G⟩:=i (D,d) (.head _);refine iQ (MR (c F [] _ _ A s Q E D d R T rfl b ov M G (λm=> nm m) B (λp z=> nm z) gm λv P W N S u C H q x O n j g e o=> ?_) λr P h=> ?_)
 ·exact KK v P W [(D,S)] [] u C ⟨S,rfl⟩ q x rfl (λp z=> by rw[d5.mp z];exact⟨j,g⟩) ⟨rfl,⟨S,rfl,e⟩,o⟩ (λp z=> nm z) gm
 ·exact h
section
variable {m1 ps:MT}{k':ae}
theorem aag{l:Fz->MT->Prop}{g:Fz->MT->Prop}{j:Fz->MT->ai->MT->Prop}(c:c0 X.w l k f args g j)(R:aX k A)(S:St X F (m1++ps) ls a' s)(b:l F ps)(z:g F ps)(D:aH X.w F args Z)
  (L:∀W G,Sub F W->l W G->(∀p∈m1++G,W p.1=ah)->G.map (·.1)=ps.map (·.1)->X.I W (m1++G))
  (K:∀v P W G t,St X W (m1++G) ls (t++a') P->Sub F W->l W G->j W G v t->Q v P):aB (ay pw X.w) A (bQ f Z) Q E s:=by
 have N:∀p∈ps,s.heap.get? p.1=U p.2∧F p.1=ah:=λp z=> ⟨(S.al p (bk _ (bp _ z))).1,(S.al p (bk _ (bp _ z))).2.1⟩
 have V:=S.nd;rw[bj,bj]at V;have w:=c2.mp (c2.mp V).1;refine c F ps Z A s Q E R S.top b z D S.J N w.2.1 λv P W G t u C y hz r O i d ht H=> ?_
 have b':∀a,s.heap.get? a≠ah->F a=ah->W a=ah:=λa e f=> by
  cases q:W a with
  |none=> rfl
  |some o=>
        rcases r a o q with h |h
        ·rw[f]at h;cases h
        ·exact bf h e
 have Y:(m1++G).map (·.1)=(m1++ps).map (·.1):=by simp[O]
 have n:∀p∈m1++G,P.heap.get? p.1=U p.2∧W p.1=ah:=λp z=> by
  rcases dc.mp z with h |h
  ·have B:=S.al p (bk _ (bk _ h))
   exact⟨u.keep _ _ B.1 λm=> w.2.2 _ (cY h) _ m rfl,b' _ (by rw[B.1];exact λe=> nomatch e) B.2.1⟩
  ·exact i p h
 have S1:=S.call (u.weaken λa ha=> by rw[bj];exact bp _ ha) C (L W G C y (λp z=> (n p z).2) O) hz r Y n;obtain⟨M,_,_,T,_⟩:=S.ns;refine K v P W G t (S1.uh ht H λa x=> ⟨λe=> ?_,λm=> ?_,S.hP x⟩) C y d
 ·rw[← e,x]at T;cases T
 ·rw[bj,Y,← bj]at m
  obtain⟨q,I,e⟩:=bz.mp m;have:=(S.al q I).1;rw[e,x]at this;cases this
end
theorem pP(P:aT):fj P 669 hJ (fdOf hJ) (cw hJ) (ep hJ) Jc (dr hJ) (restOf hJ) GS 5 [] []:=
 i1 (by kernel_rfl) (by kernel_rfl) (by kernel_rfl) (by kernel_rfl) (by kernel_rfl) (λs T=> b5 λ_ _ _ _ _=> .of_eq (by kernel_rfl)) (λw F=> .nil) (iy P)
def uJ:TG:=⟨(fdOf hJ).scope.names,dr hJ++restOf hJ,[],GS,[]⟩
def PW:aw:=.Call (.Attribute (.Name (S "self") ⟨626,8,626,12⟩) (S "map_of") ⟨626,8,626,19⟩) [(.Name (S "name") ⟨626,20,626,24⟩)] [] ⟨626,8,626,25⟩
def PU:aa aw:=[(.Name (S "first") ⟨626,30,626,35⟩),(.Name (S "last") ⟨626,37,626,41⟩),(.Name (S "value") ⟨626,43,626,48⟩)]
theorem Fg:cw hJ=[.Expr (.Call (.Attribute PW (S "put") ⟨626,8,626,29⟩) PU [] ⟨626,8,626,49⟩) ⟨626,8,626,49⟩]:=by kernel_rfl
def sH:Ent:=⟨615,4,[],5,Ek⟩
def k2(w:aV)(I j y:av)(us:aa PV)(F:Fz)(Y:MT):Prop:=bH λo k=> dE (Y=[(I,o)]++[(j,k)]) (cH (strKind pw w) o [(S "idna",.ref y)]) (F y=U (cZ 630 j)) (bB w F (.aW e9 us) k)
theorem sJ{I j y:av}{us:aa PV}:bq (k2 w I j y us):=λF W Y h H L=> by
 obtain⟨o,k,e,d,E,ow⟩:=h;exact⟨o,k,e,d,H _ _ E,ow.mono H⟩
def yF(I j:av)(_:Fz)(Y:MT):Prop:=bH λo k=> Y=[(I,o)]++[(j,k)]
theorem XY{I j:av}:bq (yF I j):=λL L L h L L=> h
theorem JN{us a:aa PV}{as:aa PV}(z:cp w (λL Y=> Y=[]) k O)(e:iH 1000 O sH (.inst 630 e9 us) as=U (.none,.inst 630 e9 a)):Kept w (.ref 615)∧iS w (λL Y=> Y=[]) (k+1) (.ref 615) (.inst 630 e9 us) as .none (.inst 630 e9 a):=
 Qq rfl (λL L L h L L=> h) z e
theorem PY{D:Dt}{j y:av}{us i':aa PV}{a b:aj}(V:(D.mA==cO)=ak)(HO:cp w (λL Y=> Y=[]) k O)(e:iH 1000 O sH (.inst 630 e9 us) [.int a,.int b,p]=U (.none,.inst 630 e9 i')):
  c0 w (yF D.mA j) (k+2) (.ref 669) [D.pv,.str (S "idna"),.int a,.int b,p] (k2 w D.mA j y us) (λW N u t=> u=.none∧t=[]∧k2 w D.mA j y i' W N):=by
 refine call_of (pP w.params) XY rfl ?_;rw[Fg];intro X F Y s A Q E C hw n hG m _ R g G KK;subst hw;obtain⟨ls,a',b',S0⟩:=G;have I:X.G=uJ:=hG
 let X':=X.sw (k2 X.w D.mA j y us)
 have C':aG X':=C.sw sJ;have S1:=S0.sw g;have P:∀z,bq z->∀es,fo (X'.sw z) k O₀ es (br 6 X'.G es):=λz h=> (dU 6 z eN (X'.sw z) (C'.sw h) rfl rfl).s
 have hx:X.G.ns=[S "self",S "name",S "first",S "last",S "value"]:=by rw[I];kernel_rfl
 have l':X'.G.ns[0]?=U (S "self"):=by show X.G.ns[0]?=_;rw[hx];rfl
 obtain⟨K,f,r0⟩:=b'.get (i:=0) rfl rfl;have T:=r0.eY.2;have f':=JN HO e;have te:∀es,br 6 X'.G es=br 6 uJ es:=λes=> by show br 6 X.G es=_;rw[I]
 let d':aa Slot:=[.J D.pv,.J (.str (S "idna")),.J (.int a),.J (.int b),.J p]
 replace b':aR X'.w F d' (ls.map (·.2)) a':=b';have i0:=S0.inv;rw[n]at i0;have R1:=R.mono (hX _);refine cK (j2 ?_ (jD C) (fG rfl _ _ _));show aB (ay pw X'.w) A (bt _ X'.env) _ _ _;refine qn (V:=d') (B:=[.J (.int a),.J (.int b),.J p]) P rfl rfl rfl (by rw[te];kernel_rfl) (by kernel_rfl:jB 630 (S "put")=U 615) f'.1 R1 b' ?_;refine qn (X:=X') (O:=O₀) (n:=6) (k:=k) (V:=d') (B:=[.J (.str (S "idna"))]) P rfl rfl rfl (by rw[te];kernel_rfl) (by kernel_rfl:jB 686 (S "map_of")=U 683) (g8 (iw X.w.params).top (iw X.w.params).na (iw X.w.params).data) R1 b' ?_;refine fV C' l' S1 f ?_;obtain⟨x,Dd,dd,rfl,I0,k'⟩:=zO (m:=S "map_of") S1 T (by kernel_rfl);refine⟨_,F,Y,[],x,Dd,dd,sJ,S1,Sub.refl _,rfl,I0,k',λZ i F2 r' ts S2 g' rr=> ?_⟩;obtain⟨F3,S3,h',c⟩:=S2.b6 C' rr (ps:=[.str (S "idna")]) rfl;refine xl (X:=X') (HC (w:=X.w) (D:=D) (x:=S "idna") (M:=[(S "idna",.ref y)]) (v:=.ref y) (k:=k) (I:=k2 X.w D.mA j y us) (by kernel_rfl) sJ V) R S3 (by
  obtain⟨o,dm,rfl,B,_⟩:=S3.inv;exact⟨o,[(j,dm)],rfl,B⟩) (.cons (T.mono (g'.trans h')) c) λv s4 F4 s' t S4 r q=> ?_
 obtain⟨rfl,rfl⟩:=q;obtain⟨o,dm,rfl,B,hy,ow⟩:=id S4.inv;have hD:=(S4.al (j,dm) (bk _ (bp _ (.head _)))).1;refine⟨_,F4,_,[],y,j,dm,sJ,S4,(g'.trans h').trans r,rfl,⟨S4.J _ _ hy,rfl,rfl,hD⟩,?_,λZ s5 F5 t' ts S5 w' rr=> ?_⟩
 ·obtain⟨M,q,hk,l⟩:=id ow
  rw[i4 q (S "put"),(iZ l (S "put")).2 (by rw[hk];exact pH (by kernel_rfl))];rfl
 ·obtain⟨F6,H,x',c⟩:=S5.b6 C' rr (ps:=[.int a,.int b,p]) rfl
  obtain⟨kA,c',rfl,j',m',o'⟩:=id H.inv;have am:Y.map (·.1)=[D.mA,j]:=by
   obtain⟨o,dm,h,_⟩:=g;rw[h];rfl
  have jx:∀(W:Fz) (o:af) (d:af),X.I W ([(D.mA,o)]++[(j,d)]):=λW o d=> by rw[n];exact⟨⟨o,d,rfl⟩,am.symm⟩
  have S7:St X F6 ([(D.mA,kA)]++[(j,c')]) ls a' s5:=H.ho (X:=X) (jx _ _ _);refine aag (X:=X) (m1:=[(D.mA,kA)]) (zX (K:=.ref y) (D:=j) f'.2) R S7 ⟨c',rfl⟩ ⟨c',rfl,y,rfl,m',o'⟩ (.cons (.fn _) c) (λW u' sb h2 h3 h4=> ?_) λv s8 F8 v' t8 S8 y' h8 q'=> ?_
  ·obtain⟨e',rfl⟩:=h2
   exact jx _ _ _
  ·obtain⟨rfl,⟨e',rfl,ov⟩,dn⟩:=q'
   obtain rfl:_=jZ:=dn.inv;obtain⟨z',e,n',p'⟩:=ov;cases e;exact fi ((KK .none s8 F8 _ ls [] a' S8 ⟨rfl,rfl,kA,e',rfl,j',n',p'⟩).2 rfl)
def DS(I:av)(_:Fz)(Y:MT):Prop:=∃o,Y=[(I,o)]
theorem XX{I:av}:bq (DS I):=λL L L h L L=> h
theorem PX{D:Dt}{j':aa PV}{a b:aj}{f:PV}{dk:aa ao}{dv:aa PV}(V:(D.mA==cO)=ak)(r':D.df=.aW dk dv)(q':(c1 dk dv (S "idna")).getD .none=f)(HO:cp w (λL Y=> Y=[]) (k+2) O)
  (e:iH 1000 O sH (.inst 630 e9 [f,.list [.int 0],.list [f]]) [.int a,.int b,p]=U (.none,.inst 630 e9 j')):
  c0 w (DS D.mA) (k+4) (.ref 669) [D.pv,.str (S "idna"),.int a,.int b,p] (λL Y=> ∃o,Y=[(D.mA,o)]∧cH (strKind pw w) o []) (λW N u t=> u=.none∧gy λy j dm m=> t=(j,dm)::m∧k2 w D.mA j y j' W (N++[(j,dm)])):=by
 refine call_of (pP w.params) XX rfl ?_;rw[Fg];intro X F Y s A Q E C hw p' hG A' _ R g G KK;subst hw;obtain⟨ls,a',b',S0⟩:=G;have I:X.G=uJ:=hG;have S1:=S0;have P:∀z,bq z->∀es,fo (X.sw z) k O₀ es (br 6 X.G es):=λz h=> (dU 6 z eN (X.sw z) (C.sw h) rfl rfl).s
 have hx:X.G.ns=[S "self",S "name",S "first",S "last",S "value"]:=by rw[I];kernel_rfl
 have u':X.G.ns[0]?=U (S "self"):=by rw[hx];rfl
 obtain⟨K,t',r0⟩:=b'.get (i:=0) rfl rfl;have T:=r0.eY.2;have g':=JN HO e;have te:∀es,br 6 X.G es=br 6 uJ es:=λes=> by rw[I]
 let k':aa Slot:=[.J D.pv,.J (.str (S "idna")),.J (.int a),.J (.int b),.J p]
 replace b':aR X.w F k' (ls.map (·.2)) a':=b';obtain⟨o,rfl,B⟩:=g
 let e':Fz->MT->Prop:=λL Y=> ∃o,Y=[(D.mA,o)]∧cH (strKind pw X.w) o []
 have hJ:bq e':=λL L L h L L=> h
 let J2:av->Fz->MT->Prop:=λy L Y=> ∃o,Y=[(D.mA,o)]∧cH (strKind pw X.w) o [(S "idna",.ref y)]
 have f':∀y,bq (J2 y):=λL L L L h L L=> h
 have R1:=R.mono (iK _ _);have jx:∀(W:Fz) (c':af),X.I W [(D.mA,c')]:=λW c'=> by rw[p'];exact⟨⟨c',rfl⟩,rfl⟩
 refine cK (j2 ?_ (jD C) (fG rfl _ _ _));refine qn (B:=[.J (.int a),.J (.int b),.J p]) P rfl rfl rfl (by rw[te];kernel_rfl) (by kernel_rfl:jB 630 (S "put")=U 615) g'.1 R1 b' ?_;refine qn (X:=X) (O:=O₀) (n:=6) (k:=k) (V:=k') (B:=[.J (.str (S "idna"))]) P rfl rfl rfl (by rw[te];kernel_rfl) (by kernel_rfl:jB 686 (S "map_of")=U 683) (g8 (iw X.w.params).top (iw X.w.params).na (iw X.w.params).data) R1 b' ?_;refine fV C u' S1 t' ?_;obtain⟨x,Dd,dd,rfl,n,s'⟩:=zO (m:=S "map_of") S1 T (by kernel_rfl);refine⟨e',F,_,[],x,Dd,dd,hJ,S1.sw ⟨o,rfl,B⟩,Sub.refl _,rfl,n,s',λZ i F2 B' ts S2 h' rr=> ?_⟩;obtain⟨F3,S3,i',c⟩:=S2.b6 (C.sw hJ) rr (ps:=[.str (S "idna")]) rfl;obtain⟨eH,rfl,m'⟩:=id S3.inv;have l':St X F3 [(D.mA,eH)] ls ([]++a') i:=S3.ho (X:=X) (jx _ _);refine xl (X:=X) (HD (w:=X.w) (D:=D) (x:=S "idna") (M:=[]) (k:=k) (I:=X.I) rfl (by decide) C.inv V r' (λL W L c' L=> jx W c')) R l' ⟨eH,rfl,m'⟩ (.cons (T.mono (h'.trans i')) c) λv s4 F4 C' t S4 r q=> ?_
 obtain⟨y,j,d,e1,rfl,hy,ow,⟨m,rfl⟩,rfl,n'⟩:=q;rw[q']at ow;have hD:=(S4.al (j,d) (bp _ (.head _))).1;refine⟨J2 y,F4,_,(j,d)::m,y,j,d,f' y,S4.sw ⟨e1,rfl,n'⟩,(h'.trans i').trans r,rfl,⟨S4.J _ _ hy,rfl,rfl,hD⟩,?_,λZ s5 F5 D' ts S5 y' rr=> ?_⟩
 ·obtain⟨M,q,hk,l⟩:=id ow
  rw[i4 q (S "put"),(iZ l (S "put")).2 (by rw[hk];exact pH (by kernel_rfl))];rfl
 ·obtain⟨F6,H,z',c⟩:=S5.b6 (C.sw (f' y)) rr (ps:=[.int a,.int b,p]) rfl
  obtain⟨gE,rfl,o'⟩:=id H.inv;have sb:=y'.trans z';have S7:St X F6 [(D.mA,gE)] ls ([(j,d)]++(m++a')) s5:=H.ho (X:=X) (jx _ _);refine KJ (X:=X) (C:=C) (zX (K:=.ref y) (D:=j) g'.2) (R.mono (dh _)) S7 ⟨d,rfl⟩ ⟨d,rfl,y,rfl,sb _ _ hy,ow.mono sb⟩ (.cons (.fn _) c) λv s8 F8 E' t8 S8 F' h8 L x'=> ?_
  obtain⟨rfl,⟨d',rfl,ov⟩,dn⟩:=x';obtain rfl:_=jZ:=dn.inv;obtain⟨G',e,v',w'⟩:=ov;cases e;have S9:St X F8 [(D.mA,gE)] ls (((j,d')::m)++a') s8:=S8;exact fi ((KK .none s8 F8 _ ls ((j,d')::m) a' S9 ⟨rfl,y,j,d',m,rfl,gE,d',rfl,o',v',w'⟩).2 rfl)
theorem Gl{M:Fz}{target:aw}{it:ai}{G:ae->MT->Prop}{Z:aa a9}{g:MT}{R:iM->aD->Prop}{I:ae->Fz->MT->Prop}(b:∀i,bq (I i))(h:ae->Fz->MT->aa Slot->MT->Prop)(E:Src X.w A M target ps it G)
  (T:∀i p v V F Y g b' s Q l u,ps[i]?=U p->Sub M F->h i F Y V b'->Rl (X.sw (I i)) F Y V (g++b') s->Den X.w F p v->
   (∀P W N e' c,Sub F W->h (i+1) W N e' c->Rl (X.sw (I (i+1))) W N e' (g++c) P->Q .next P)->aB (ay pw X.w) A (kR target X.env v) (λω j=> aB (ay pw X.w) A (ei Z X.env) Q l j) u s)
  (o:∀i F W Y V b',h i F Y V b'->Sub F W->h i W Y V b')
  (O:G 0 g) (x:h 0 F Y V b') (H:Sub M F) (q:Rl (X.sw (I 0)) F Y V (g++b') s) (K:∀P W N e' c,Sub M W->h ps.length W N e' c->Rl (X.sw (I ps.length)) W N e' c P->R (.ok .next) P):
  gv (ay pw X.w) A (.forLoop target it Z [] X.env) R s:=by
 refine MQ (λm s=> o8 λi F Y V g b'=> j5 (m=ps.length+1 - i) (i≤ps.length) (Sub M F) (G i g) (h i F Y V b') (Rl (X.sw (I i)) F Y V (g++b') s)) ?_ (ps.length+1)
  ⟨0,F,Y,V,g,b',rfl,gp _,H,O,x,q⟩
 rintro m s ⟨i,F,Y,V,g,b',rfl,hi,H,O,z,⟨ls,a',y,S⟩⟩
 rw[bU]at S;rcases Cu hi with n |rfl
 ·have f:=jR n
  refine E.item (X.sw (I i)) rfl (b i) i ps[i] F Y ls (b'++a') g s _ _ f H O S λv P r=> ?_
  refine r _ _ λs2 C a c' S2 w d=> ?_
  rw[← bU]at S2;refine T i ps[i] v V C Y a b' s2 _ _ _ f (H.trans w) (o _ _ _ _ _ _ z w) ⟨ls,a',y.mono w,S2⟩ d λs3 D L f' t d' B e=> ?_
  exact⟨ps.length+1 - (i+1),by lia,i+1,D,L,f',a,t,rfl,n,(H.trans w).trans d',c',B,e⟩
 ·refine E.done (X.sw (I ps.length)) rfl F Y ls (b'++a') g s _ _ H O S λP k S'=> ?_
  exact fi (K P F Y V b' H z ⟨ls,a',y,by
   have S2:=S';exact S2.drop⟩)
theorem D0(C:aG X)(q:∀x,fo X k O x (br n X.G x)){o:aw}{a:aw}{T d:aQ}
  (I:(T.endLine==d.line)=ag) (g:iA o=ak) (f:bO O X.cps V (br n X.G [a])=U [r]) (R:aX k A) (y:aR X.w F V (ls.map (·.2)) a')
  (d':aB (ay pw X.w) A (bt o X.env) (λov P=> o8 λW c' l us m H=> j4 (St X W c' ls (((l,listOf us m)::H)++a') P) (Sub F W) (ov=.ref l) (us.size≤1000000) (∀v i p G t D,St X p G ls (t++(((l,listOf (us.push v) D)::H)++a')) i->Sub W p->cq X.w p a' r v t->Q .none i)) E s):
  wpAny (ay pw X.w) A (bt (.Call (.Attribute o (S "append") T) [a] [] d) X.env) Q E s:=by
 have z:=hF f;have f':((d9 d (du [a] X.env)).any (·.1) ||([]:aa (aq ao×d8 ai)).any (·.1.isNone))=ak:=by rw[gK,z];rfl
 refine tK (fN d' (λov P h=> ?_) λL L h=> h) (qo g I rfl z);obtain⟨W,c',l,us,m,H,u,sb,rfl,B,K⟩:=h;have b':=(u.al (l,listOf us m) (bp _ (.head _))).1;refine Dj ⟨_,b',rfl⟩ xW Mu Mw (λb eb=> by cases eb;exact⟨_,b',rfl⟩) ?_;refine f9 (P:=λL=> eR) f' (λh L=> ⟨_,.inr (.inl rfl),lu (λL e=> by cases e)⟩) ?_;refine gc q f R u (y.mono sb) λZ i p G c S2 w M=> ⟨trivial,?_⟩
 obtain⟨v,rfl,rv⟩:=M.one;have S3:St X p G ls ((l,listOf us m)::(c++(H++a'))) i:=S2.perm (by simpa using(dA));have j:=(S3.al (l,listOf us m) (bp _ (.head _))).1;refine Dv ⟨m,j⟩ (λN e' g'=> ?_) (by unfold ej;exact bK (by assumption) (by decide));obtain⟨m',Y⟩:=e';have S4:=S3.upd g' Y;exact K v _ p G c m' (S4.perm (by simpa using(dA).symm)) w rv
def w8(b:au)(x:PV)(L:aa (aa PV)):aa (aa PV):=List.rec (motive:=λt=> aa (aa PV)) [] (λd r D=> bif r.isEmpty then bif b then[d,[]]else[d++[x]]else d::D) L
def jJ(i:aj):aa (aa PV)->aa (aa PV):=w8 (i==46) (.int i)
theorem Zj(b c:au)(x y:PV):∀L,stI c y (w8 b x L)=w8 b x (stI c y L)
 |[]=> rfl
 |[l]=> by cases b <;> cases c <;> rfl
 |l::m::ls=> by cases c <;> rfl
theorem Zd(i:aj)(H:aa PV):dI (H++[.int i])=jJ i (dI H):=by
 induction H with
 |nil=>
  show stI (i==46) (.int i) [[]]=w8 (i==46) (.int i) [[]];cases i==46 <;> rfl
 |cons y r D=>
  refine(aZ (xb y) D).trans ?_;show(dk y).elim [] (λj=> stI (j==46) y (jJ i (dI r)))=jJ i ((dk y).elim [] λj=> stI (j==46) y (dI r));cases dk y with
  |none=> rfl
  |some j=> exact Zj _ _ _ _ _
theorem Za:dI H≠[]->∀p∈H,∃i,p=.int i:=by
 induction H with
 |nil=> exact λL p z=> nm z
 |cons y r D=>
  intro h p z;rcases bM.mp z with rfl |z
  ·cases e:dk p with
   |none=> exact bf (by show(dk p).elim [] (λj=> stI (j==46) p (dI r))=[];rw[e];rfl) h
   |some i=> exact⟨i,eZ e⟩
  ·refine D (λe=> h ?_) p z
   show xb y (dI r)=[];rw[e,xb];cases dk y <;> rfl
theorem Y4(x:aj)(c:aa PV)(N:aa (aa PV)):jJ x (N++[c])=N++jJ x [c]:=by
 induction N with
 |nil=> rfl
 |cons d r D=>
  cases r with
  |nil=> rfl
  |cons e r=> exact aZ (d::·) D
theorem aR.raw{Z:aa (aq ai)}(h:aR w F V Z a')(v:ai):∀{i:ae},V[i]?=U .un->aR w F V (Z.set i (U v)) a':=by
 induction h with
 |nil=> intro i e;cases e
 |cons d h D=> intro i e;cases i with
  |zero=> cases e;cases d;exact .un h
  |succ i=> exact .cons d (D e)
theorem XZ(C:aG X){Q:fO->aD->Prop}(T:X.G.ns[i]?=U x)(L:x∉X.G.ln)(hi:V[i]?=U .un)(S:St X F Y ls (b'++a') s)(y:aR X.w F V (ls.map (·.2)) a')
  (K:∀P h,St X F Y h (b'++a') P->aR X.w F V (h.map (·.2)) a'->lk h x=U v->Q () P):aB (ay pw X.w) A (tU X.env x v) Q E s:=by
 obtain⟨u,N⟩:=S.m8 T;have W:=(eM C x).trans (C.ns x (f5 T));refine tZ W S.ns (λM Z g=> K _ (kF ls i v) (S.put N (λq I e=> L (e ▸ C.pk q I)) C.nn C.hL Z g) (by rw[J2];exact y.raw v hi) ?_) (by rw[C.fn];rfl);rw[← e5 (zY (by rw[S.nm];exact C.nn) N) x];simp
noncomputable def Cx.pinned(X:Cx)(W:aa ao)(pin:aa (ao×ai)):Cx:={X with G:={X.G with ln:=W},pin:=pin}
theorem aG.pinned(C:aG X){W:aa ao}{pin:aa (ao×ai)}(h:∀q∈pin,q.1∈W):aG (X.pinned W pin):=
 ⟨C.fn,C.kd,C.gl,C.bl,C.ns,C.nn,C.gs,C.cs,C.cn,C.dn,C.hL,C.inv,h⟩
theorem St.pinned(S:St X F Y ls a' s){W:aa ao}{pin:aa (ao×ai)}(h:∀q∈pin,lk ls q.1=U q.2):St (X.pinned W pin) F Y ls a' s:=
 ⟨S.top,S.sub,S.inv,S.ns,S.nm,S.ext,S.J,S.fL,S.fr,S.al,S.nd,S.nw,S.mx,S.xm,S.ce,h⟩
theorem St.Z7{W:aa ao}{pin:aa (ao×ai)}(S:St (X.pinned W pin) F Y ls a' s)(h:∀q∈X.pin,lk ls q.1=U q.2):St X F Y ls a' s:=
 ⟨S.top,S.sub,S.inv,S.ns,S.nm,S.ext,S.J,S.fL,S.fr,S.al,S.nd,S.nw,S.mx,S.xm,S.ce,h⟩
theorem zZ(C:aG X){b:aQ}(T:X.G.ns[i]?=U x)(S:St X F Y ls a' s)(z:(x,v)∈X.pin)(K:Q v s):aB (ay pw X.w) A (bt (.Name x b) X.env) Q E s:=by
 have O:=f5 T;exact o1 (tY C.fn ((eM C x).trans (C.ns x O)) S.ns (S.pn _ z) K) (C.dn x O)
theorem uW(P:aT):fj P 445 hI (fdOf hI) (cw hI) (ep hI) A6 (dr hI) (restOf hI) GS 1 [] []:=
 i1 (by kernel_rfl) (by kernel_rfl) (by kernel_rfl) (by kernel_rfl) (by kernel_rfl) (λs T=> b1 λL=> .of_eq (by kernel_rfl)) (λw F=> .nil) (iy P)
def G7:TG:=⟨(fdOf hI).scope.names,dr hI++restOf hI,[],GS,[]⟩
def zS:TG:={G7 with ln:=[S "found"]}
def Up:a9:=.Assign [(.Name (S "found") ⟨395,4,395,9⟩)] (.List [(.List [] ⟨395,13,395,15⟩)] ⟨395,12,395,16⟩) ⟨395,4,395,16⟩
def zU:aw:=.Compare (.Name (S "code") ⟨397,11,397,15⟩) [.Eq] [(.Name (S "STOP") ⟨397,19,397,23⟩)] ⟨397,11,397,23⟩
def Ur:a9:=.Expr (.Call (.Attribute (.Name (S "found") ⟨398,12,398,17⟩) (S "append") ⟨398,12,398,24⟩) [(.List [] ⟨398,25,398,27⟩)] [] ⟨398,12,398,28⟩) ⟨398,12,398,28⟩
def Uq:aw:=.Subscript (.Name (S "found") ⟨400,12,400,17⟩) (.UnaryOp .USub (.Constant (.int 1) 0 ⟨400,19,400,20⟩) ⟨400,18,400,20⟩) ⟨400,12,400,21⟩
def Us:a9:=.Expr (.Call (.Attribute Uq (S "append") ⟨400,12,400,28⟩) [(.Name (S "code") ⟨400,29,400,33⟩)] [] ⟨400,12,400,34⟩) ⟨400,12,400,34⟩
def Ut:a9:=.Return (U (.Name (S "found") ⟨401,11,401,16⟩)) ⟨401,4,401,16⟩
theorem Ux:cw hI=[Up,.For (.Name (S "code") ⟨396,8,396,12⟩) (.Name (S "text") ⟨396,16,396,20⟩) [.If zU [Ur] [Us] ⟨397,8,400,34⟩] [] ⟨396,4,400,34⟩,Ut]:=by kernel_rfl
def NC(w:aV)(fa:av)(K:aa PV)(i:ae)(F:Fz)(_:MT)(V:aa Slot)(b':MT):Prop:=
 DP λa l m b D N c q=> Nn (b'=[(fa,listOf (a++[dQ l]).toArray m),(l,listOf b.toArray D)]) (aH w F (N.map PV.list) a) (aH w F c b) (dI (K.take i)=N++[c]) (V=[.J (.list K),.un,q]) ((q=.un∨∃z,q=.J z)) (a.length≤i) (b.length≤i)
theorem Uw(K:aa PV)(c:aj):eW O₀ [] (aE 6 zS zU) [.J (.list K),.un,.J (.int c)]=U (c==46,[.J (.list K),.un,.J (.int c)]):=by kernel_rfl
theorem Uu(V:aa Slot):ev O₀ [] V (aE 6 zS (.UnaryOp .USub (.Constant (.int 1) 0 ⟨400,19,400,20⟩) ⟨400,18,400,20⟩))=U (.J (.int (-1))):=by kernel_rfl
theorem OJ{K:aa PV}(hI:bq I)(h:dI K≠[])(hb:K.length < 1000):
  c0 w I (k+1) (.ref 445) [.list K] (λω ω=> eR) (λW ω v t=> t=[]∧Den w W (.list ((dI K).map .list)) v):=by
 refine call_of (uW w.params) hI rfl ?_;rw[Ux];intro X F Y s A Q E C hw α O R' _ R _ RL KK;subst hw;obtain⟨A',a',y,S0⟩:=RL;have o':X.G=G7:=O;have P:Pack X k O₀ 6:=dU 6 X.I eN X C rfl rfl;have hx:X.G.ns=[S "text",S "found",S "code"]:=by rw[o'];kernel_rfl
 have r':X.G.ns[1]?=U (S "found"):=by rw[hx];rfl
 have V':X.G.ns[2]?=U (S "code"):=by rw[hx];rfl
 have H':X.G.ln=[]:=by rw[o'];rfl
 replace y:aR X.w F [.J (.list K),.un,.un] (A'.map (·.2)) a':=y;have S1:=S0;refine cK (mr ?_ (fG rfl _ _ _));refine wpAny_List (P.s [.List [] ⟨395,13,395,15⟩] _ [.own (.list [])] A F Y A' [] a' s _ _ E (by rw[o'];kernel_rfl) R S1 y λZ r F1 H ts S2 Y' rr=> ?_);obtain⟨v,rfl,rv⟩:=rr.one;obtain⟨l,o,rfl,rfl,cv,D,rfl,x'⟩:=rv.n5;obtain rfl:=x'.qt;refine⟨(by show 1≤_;decide),?_⟩;have S3:St X F1 H A' ([(r.heap.objs.size,listOf [dQ l].toArray 0),(l,listOf ([]:aa ai).toArray D)]++a') {r with heap:=r.heap.push (listOf [dQ l].toArray 0)}:=S2.push rfl;generalize r.heap.objs.size=fa at S3⊢;refine XZ C r' (by rw[H'];simp) rfl S3 (y.mono Y') λs2 J' S4 I' S'=> ?_
 let a:=X.pinned [S "found"] [(S "found",.ref fa)]
 have C':aG a:=C.pinned (by simp);have j':a.G=zS:=by show({X.G with ln:=[S "found"]}:TG)=_;rw[o'];rfl
 have P':Pack a k O₀ 6:=dU 6 a.I eN a C' rfl rfl;have S5:St a F1 H J' ([(fa,listOf [dQ l].toArray 0),(l,listOf ([]:aa ai).toArray D)]++a') s2:=S4.pinned (by simpa using S');have p':a.cps=[]:=R';refine cK (tW ((P'.e _).bR C' (rv:=.J (.list K)) (p:=.list K) (by rw[j'];kernel_rfl) rfl R S5 I' λv s3 F3 ζ S6 x d=> ?_) (pW rfl));refine qe (X:=a) (target:=.Name (S "code") ⟨396,8,396,12⟩) R.hd S6 d rfl λε s4 g G SR O S7 ω ω=> ?_
 rw[← bU]at S7;refine Gl (X:=a) (I:=λω=> X.I) (λω=> C.inv) (NC X.w fa K) SR ?_ ?_ O ⟨[],l,0,[],D,[],[],.un,rfl,.nil,.nil,rfl,rfl,.inl rfl,dh _,dh _⟩ (Sub.refl _) ⟨J',a',I'.mono x,S7⟩ λf F5 u' θ Z' η hp R5=> ?_
 ·intro i p v V F Y g b' s Q E1 E2 z' sb hp Rr d L'
  obtain⟨ls,a',y,Sv⟩:=Rr;replace Sv:St a F Y ls (g++b'++a') s:=Sv;obtain⟨c',l,m,b,D,N,c,q,rfl,dr,dc,q',rfl,hq,hr,y'⟩:=hp;obtain⟨z,rfl⟩:=Za h p (f5 z');have β:i < 1000:=bh (eO.mp z').1 hb;have U':K.take (i+1)=K.take i++[.int z]:=by rw[LC,z'];rfl
  have T':dI (K.take (i+1))=N++jJ z [c]:=by rw[U',Zd,q',Y4]
  refine j3 (hQ (X:=a) (t:=[]) (b':=g++_) (sl:=.J (.int z)) C' V' (by show S "code"∉[S "found"];decide) (by show 2 < 3;decide) Sv y ⟨d,rfl⟩ λs6 R6=> ?_);refine cK (mu (uF C' P' zU (b:=z==46) (e':=[.J (.list K),.un,.J (.int z)]) (by rw[j',p'];exact Uw K z) R R6 λs7 F7 v' l' R7=> ?_));obtain⟨g',d',T,S7⟩:=R7;have G':∀s8 F8 f' k' s' m3 i' m4 n' c2,Sub F7 F8->St a F8 f' g' (g++[(fa,listOf (k'++[dQ s']).toArray m3),(s',listOf i'.toArray m4)]++d') s8->aH X.w F8 (n'.map PV.list) k'->aH X.w F8 c2 i'->N++jJ z [c]=n'++[c2]->k'.length≤i+1->i'.length≤i+1->Q .next s8:=
   λs8 F8 f' k' s' m3 i' m4 n' c2 e' S8 d1 d2 e M h2=> L' s8 F8 f' [.J (.list K),.un,.J (.int z)] _ (l'.trans e') ⟨k',s',m3,i',m4,n',c2,_,rfl,d1,d2,T'.trans e,rfl,.inr ⟨_,rfl⟩,M,h2⟩ ⟨g',d',T.mono e',S8⟩
  have S7:St a F7 v' g' ([(fa,listOf (c'++[dQ l]).toArray m),(l,listOf b.toArray D)]++(g++d')) s7:=by
   refine S7.perm ?_;rw[bU];exact f6 _ _ _
  cases B:z==46 with
  |true=>
   simp only[o4];refine cK (j2 ?_ (jD C') (fG rfl _ _ _));have h':St a F7 v' g' (((fa,listOf (c'++[dQ l]).toArray m)::((l,listOf b.toArray D)::g))++d') s7:=by simpa[bU]using S7
   refine D0 (X:=a) (a':=d') C' P'.s (r:=.own (.list [])) rfl rfl (V:=[.J (.list K),.un,.J (.int z)]) (by rw[j',p'];kernel_rfl) R T ?_;refine zZ (v:=.ref fa) C' r' h' (.head _) ?_;refine⟨F7,v',fa,_,m,_,h',Sub.refl _,rfl,by simp;lia,λv s8 F8 f' t m3 S8 e' rv=> ?_⟩;obtain⟨ib,o,rfl,rfl,cv,m4,rfl,x'⟩:=rv.n5;obtain rfl:=x'.qt;have S9:St a F8 f' g' ((l,listOf b.toArray D)::([(fa,listOf ((c'++[dQ l]).toArray.push (.ref ib)) m3),(ib,listOf ([]:aa ai).toArray m4)]++(g++d'))) s8:=S8.perm (by
    show La ((ib,_)::(fa,_)::(l,_)::(g++d')) ((l,_)::(fa,_)::(ib,_)::(g++d'));exact((jg _ _ _).trans ((jg _ _ _).cons _)).trans (jg _ _ _))
   obtain⟨m',B',N'⟩:=S9.freeze C'.inv;have γ:z=46:=by simpa using B
   have X':(l==cO)=ak:=S9.i7 (.head _);refine fi (fi (G' _ _ f' (c'++[dQ l]) ib m3 [] m4 (N++[c]) [] (e'.trans B') ?_ ?_ .nil (by rw[jJ,B];exact(bU N [c] [[]]).symm) (by simp;assumption) (gp _)))
   ·refine St.perm (a':=[(fa,listOf ((c'++[dQ l]).toArray.push (.ref ib)) m3),(ib,listOf ([]:aa ai).toArray m4)]++(g++d')) ?_ ?_
    ·exact m'
    ·rw[bU]
     have e:(c'++[dQ l]).toArray.push (.ref ib)=((c'++[dQ l])++[dQ ib]).toArray:=by simp
     rw[e];exact f6 _ _ _
   ·rw[bj]
    exact((dr.mono (l'.trans (e'.trans B')))).append (.cons (bB.den (p:=.list c) ⟨b,D,rfl,dc.mono (l'.trans (e'.trans B'))⟩ N' X') .nil)
  |false=>
   simp only[sU,o3];refine cK (j2 ?_ (jD C') (fG rfl _ _ _));have h':St a F7 v' g' ((((l,listOf b.toArray D)::(fa,listOf (c'++[dQ l]).toArray m)::g))++d') s7:=S7.perm (by
    show La ((fa,_)::(l,_)::(g++d')) ((l,_)::(fa,_)::(g++d'));exact jg _ _ _)
   refine D0 (X:=a) (a':=d') C' P'.s (r:=.J (.int z)) rfl rfl (V:=[.J (.list K),.un,.J (.int z)]) (by rw[j',p'];kernel_rfl) R T ?_;refine oz (zZ (v:=.ref fa) C' r' h' (.head _) ?_);refine(P'.e _).read C' (rv:=.J (.int (-1))) (by rw[j',p'];exact Uu _) R h' T λu s8 F8 f' S8 e' ru=> ?_
   obtain⟨t,rfl⟩:=ru.int;have hf:=(S8.al (fa,_) (bp _ (.tail _ (.head _)))).1;have L:s8.heap.IsList fa (c'++[dQ l]).toArray:=⟨_,hf,rfl,m,rfl⟩;refine jY (CO L) CN.lookup (Nb L (by decide) (by simp;lia) (by decide) (x:=.ref l) ?_ ?_) (ob rfl _ _)
   ·have e:(-1+((c'++[dQ l]).toArray.size:aj)).toNat=c'.length:=by simp;lia
    rw[e];simp
   refine⟨F8,f',l,_,D,_,S8,e',rfl,by simp;lia,λv s9 F9 W' t m3 S9 E' rv=> ?_⟩;obtain⟨rfl,dv⟩:=rv.eY;refine fi (fi (G' _ F9 W' c' l m (b++[v]) m3 N (c++[.int z]) (e'.trans E') ?_ (dr.mono (l'.trans (e'.trans E'))) ((dc.mono (l'.trans (e'.trans E'))).append (.cons (show Den X.w F9 (.int z) v from dv) .nil)) (by rw[jJ,B];rfl) (by lia) (by simp;assumption)));refine St.perm S9 ?_;rw[bU];have e:b.toArray.push v=(b++[v]).toArray:=by simp
   rw[e];refine aaB ?_ (f6 [(fa,_),(l,_)] g d');exact jg _ _ _
 ·rintro i F W Y V b' ⟨c',l,m,b,D,N,c,q,n,dr,dc,j,e3,hq,hr,y'⟩ sb
  exact⟨c',l,m,b,D,N,c,q,n,dr.mono sb,dc.mono sb,j,e3,hq,hr,y'⟩
 ·obtain⟨t',w',δ,S8⟩:=R5
  replace S8:St a F5 u' t' (Z'++w') f:=S8;obtain⟨c',l,m,b,D,N,c,q,rfl,dr,dc,q',rfl,hq,hr,y'⟩:=hp;rw[Cq]at q';have S9:St X F5 u' t' ([(fa,listOf (c'++[dQ l]).toArray m),(l,listOf b.toArray D)]++w') f:=S8.Z7 (λq hq=> bf (C.pk q hq) (by rw[H'];simp));refine cK (iP (zZ (v:=.ref fa) C' r' S8 (.head _) ?_));have m':St X F5 u' t' ((l,listOf b.toArray D)::((fa,listOf (c'++[dQ l]).toArray m)::w')) f:=S9.perm (jg _ _ _);have n1:(l==cO)=ak:=m'.i7 (.head _);obtain⟨F',K',O'⟩:=m'.freeze C.inv;have n2:(fa==cO)=ak:=F'.i7 (.head _);obtain⟨M',D',Q'⟩:=F'.freeze C.inv;refine(KK (.ref fa) f _ u' t' [] w' M' ⟨rfl,?_⟩).1;rw[q',bj];exact bB.den (p:=.list (N.map PV.list++[PV.list c])) ⟨c'++[dQ l],m,rfl,((dr.mono (K'.trans D')).append (.cons (bB.den (p:=.list c) ⟨b,D,rfl,dc.mono (K'.trans D')⟩ (D' _ _ O') n1) .nil))⟩ Q' n2
theorem Pr{K:aa PV}(b:bq I)(h:dI K≠[])(hb:K.length < 1000):c5 w I (k+1) (.ref 445) [.list K] (.J (.list ((dI K).map .list))):=by
 refine⟨g8 (uW w.params).top (uW w.params).na (uW w.params).data,?_⟩;intro F Y Z A s Q E R T g DD B i V KK;refine OJ b h hb F Y Z A s Q E R T g trivial DD B i V λv P W N t u C y q r O n M l L=> ?_
 obtain⟨rfl,d⟩:=M;exact KK v P W N [] u C y q r O n (.J d) (λp z=> nm z)
section
theorem St.RH{o':af}{N:cc}(S:St X F ((a,o)::Y) ls a' s)(C:X.I F ((a,o')::Y))(T:Heap.ExtBut a s.heap N)(R:N.get? a=U o'):St X F ((a,o')::Y) ls a' {s with heap:=N,toks:=t}:=by
 have A:=S.al (a,o) (.head _);have V:=dN.mp S.nd;refine⟨S.top,S.sub,C,S.ns.extBut T (gM A.2.2),S.nm,⟨λb o e n=> ?_,S.ext.gens,S.ext.os⟩,λb o e=> ?_,S.fL,S.fr,λp z=> ?_,S.nd,S.nw,λp z=> ?_,S.xm,S.ce,S.pn⟩
 ·by_cases q:b=a
  ·subst q
   rcases S.mx (b,_) (.head _)with h |h
   ·exact bf h n
   ·rw[show X.s₀.heap.get? b=ah from h]at e;cases e
  ·exact T b o q (S.ext.keep b o e n)
 ·by_cases q:b=a
  ·subst q;rw[A.2.1]at e;cases e
  ·exact T b o q (S.J b o e)
 ·rcases bM.mp z with rfl |h
  ·exact⟨R,A.2⟩
  ·have B:=S.al p (.tail _ h)
   have k:p.1≠a:=λe=> V.1 (bz.mpr ⟨p,h,e⟩)
   exact⟨T _ _ k B.1,B.2⟩
 ·rcases bM.mp z with rfl |h
  ·exact S.mx (a,o) (.head _)
  ·exact S.mx p (.tail _ h)
theorem St.Td(S:St X F Y ls a' s){N:cc}(k:∀b o,b≠X.env.locals->s.heap.get? b=U o->N.get? b=U o)(Z:N.Ns X.env.locals (lk ls))(A:X.s₀.heap.get? X.env.locals=ah):St X F Y ls a' {s with heap:=N,toks:=t}:=by
 have d:∀b o,F b=U o->b≠X.env.locals:=λb o e q=> by rw[q,S.fL]at e;cases e
 exact⟨S.top,S.sub,S.inv,Z,S.nm,⟨λa o e n=> k _ _ (λq=> by rw[q,A]at e;cases e) (S.ext.keep a o e n),S.ext.gens,S.ext.os⟩,λa o e=> k _ _ (d a o e) (S.J a o e),S.fL,S.fr,λp z=> have B:=S.al p z;⟨k _ _ B.2.2 B.1,B.2⟩,S.nd,S.nw,S.mx,S.xm,S.ce,S.pn⟩
noncomputable def others(h:cc)(L:av):aa (av×af):=(dO h.objs.size).filterMap λa=> if a=L then ah else(h.get? a).map λo=> (a,o)
set_option tactic.hygienic true in
theorem Bw{L:av}:(a,o)∈others h L↔a≠L∧h.get? a=U o:=by
 unfold others;rw[List.mem_filterMap];constructor
 ·rintro ⟨b,hb,e⟩
  split at e
  ·cases e
  ·rename_i n
   obtain⟨o',M,G⟩:=jj.mp e;cases G;exact⟨n,M⟩
 ·rintro ⟨n,e⟩
  exact⟨a,l7.mpr (dy e),by rw[bW n,e];rfl⟩
theorem Y8(C:aG X){l q:av}(S:St X F Y ls a' s)(I:s.heap.IsList l #[])(K:∀D c P,St X F Y ls ((D,listOf #[] c)::a') P->Q (.ref D) P):
  wpAny (ay pw X.w) A (bQ (.builtin "sorted") [.ref l] [(gu "key",.ref q)]) Q E s:=by
 let L:=X.env.locals
 let f':cc:={}
 have g:∀b,f'.get? b=ah:=λb=> e2 (gp _)
 refine ksk_sorted (news:=others s.heap L) (kz:=[]) ⟨S.ns,λb o e=> bf e (by rw[g];exact λe=> nn e),gp _⟩ (λp z=> ?_) I rfl (by decide) (ksk_s1 _ _) (λx=> ksk_l1 _ _) (λx=> ksk_t1 q x) (λi v k e=> by simp at e) λD N V Z c W r y t=> ?_
 ·have:=Bw.mp z
  exact⟨this.2,this.1,g _⟩
 ·obtain⟨ps,z,R⟩:=t
  have d:=z.eq_nil;have a:Z=#[]:=by
   rw[d]at R;have:Z.toList=[]:=R.1;simpa using this
  have j:=r (D,jX "list" Z c) (.head _);have S1:St X F Y ls a' {s with heap:=N,toks:=V}:=S.Td (λb o n e=> (r (b,o) (.tail _ (Bw.mpr ⟨n,e⟩))).1) W.ns C.hL;have h:s.heap.get? D=ah:=by
   cases e:s.heap.get? D with
   |none=> rfl
   |some o=> exact bf (y (D,o) (Bw.mpr ⟨j.2.1,e⟩)) (fH _)
  have f:F D=ah:=by
   cases e:F D with
   |none=> rfl
   |some x=> rw[S.J D x e]at h;cases h
  subst a;exact K D c _ (S1.adopt j.1 f j.2.1 (λm=> by
   obtain⟨p,z,e⟩:=bz.mp m;have:=(S.al p z).1;rw[e,h]at this;cases this) (S.hP h))
end
def eb(_:Fz)(Y:MT):Prop:=∃ps,Y=[(cu,hZ ps)]∧kP ps.toList
theorem eb.ok:bq eb:=λL L L h L L=> h
theorem uX(P:aT):fj P 148 e8 (fdOf e8) (cw e8) (ep e8) jE (dr e8) (restOf e8) GS 1 [] []:=
 i1 (by kernel_rfl) (by kernel_rfl) (by kernel_rfl) (by kernel_rfl) (by kernel_rfl) (λs T=> b1 λL=> .of_eq (by kernel_rfl)) (λw F=> .nil) (iy P)
def aa9:TG:=⟨(fdOf e8).scope.names,dr e8++restOf e8,[],GS,[]⟩
def Kd:aq aw:=(cw e8)[0]?.bind BE
noncomputable def kE:aw:=.Constant .none 0 ⟨0,0,0,0⟩
def Zf:aw:=((Kd.bind uD).bind λq=> q.1[0]?).elim kE (·.iter)
def Zh:dZ:=(Kd.bind uD).elim (fdOf e8).scope (·.2)
def zV:aw:=((mU Zf).bind λq=> q.2.2.1[0]?).elim kE (·.value)
def G9:xO:=(zW zV).elim (fdOf e8).params (·.1)
def Ha:aw:=(zW zV).elim kE (·.2.1)
def vh:dZ:=(zW zV).elim (fdOf e8).scope (·.2.2)
noncomputable def qg:aQ:=⟨102,53,102,73⟩
def Zi:aw:=.Tuple [(.Name (S "weight") ⟨102,21,102,27⟩),(.Name (S "code") ⟨102,29,102,33⟩)] 0 ⟨102,21,102,33⟩
def Zg:aa kO:=[⟨U (S "key"),.Lambda G9 Ha vh qg,⟨102,49,102,73⟩⟩]
theorem Y6:cw e8=[.Return (U (.ListComp (.Name (S "code") ⟨102,12,102,16⟩) [⟨Zi,.Call (.Name (S "sorted") ⟨102,37,102,43⟩) [(.Name (S "run") ⟨102,44,102,47⟩)] Zg ⟨102,37,102,74⟩,[],0⟩] Zh ⟨102,11,102,75⟩)) ⟨102,4,102,75⟩]:=by kernel_rfl
theorem ZS{a b c:ai}{i j:aj}{u v:fM}(D:a=.int i u)(hb:b=.int j v):∀{l:aa ai},kP l->kP (l++[a,b,c]):=by
 subst D hb;intro l
 fun_induction kP l with
 |case1=> exact λL=> trivial
 |case2 _ _ _ _ _ _ k=> exact λh=> k h
 |case3=> exact λh=> h.elim
theorem EY(S:St X F Y ls a' s):CodeHd s.heap 147 cu:=
 ⟨jE,_,_,_,_,_,_,_,_,S.J _ _ (S.top 147 jE (by decide) (eA (by kernel_rfl) (by decide) (by kernel_rfl))),rfl,rfl,rfl,rfl,rfl,rfl,rfl,rfl,by decide⟩
theorem Ec(S:St X F Y ls a' s):s.heap.BuiltinsAt (hH X.w.params) cu:=
 ⟨4,ml X.w.params,by kernel_rfl,by decide,by decide,by decide,S.J _ _ (S.top 4 _ (by decide) (eA (by kernel_rfl) (by decide) (by kernel_rfl))),by kernel_rfl,by kernel_rfl,by kernel_rfl⟩
theorem Uy(C:aG X)(g:X.env.code=.ref 147){ps:c8 ai}(Z:St X F [(cu,hZ ps)] ls a' s)(l:kP ps.toList)(b:∀G,kP G.toList->X.I F [(cu,hZ G)])
  (K:∀q P G,kP G.toList->St X F [(cu,hZ G)] ls a' P->Q (.ref q) P):aB (ay pw X.w) A (bt (.Lambda G9 Ha vh qg) X.env) Q E s:=by
 have D:=Z.top.mg Z.J;have u:Dg vh X.env=pure []:=EV λq I t=> by
  have:vh.names=[(S "pair",.local)]:=by kernel_rfl
  rw[this]at I;rw[d5.mp I]at t;cases t
 have m:=(Z.al (cu,hZ ps) (.head _)).1;refine kla_eval (by kernel_rfl) ?_;cases w:codeAmong qg ps.toList with
 |none=>
  refine kla_makeFunction u (C.gl.trans rfl) D g (EY Z) m l w (by decide) (Ec Z) λk e N V T h n L f=> ?_
  have c:kP (ps++#[gQ qg.line,gQ qg.col,.ref k]).toList:=by
   rw[Array.toList_append];exact ZS rfl rfl l
  have S1:=Z.RH (t:=V) (b _ c) T f;exact K _ _ _ c ((S1.push rfl).drop (t:=[_]))
 |some a=>
  refine kla_makeFunctionHit u (C.gl.trans rfl) D g (EY Z) m l w (Ec Z) λe N V W d=> ?_
  have S1:=Z.grow (t:=V) W;exact K _ _ _ l ((S1.push rfl).drop (t:=[_]))
theorem OL:c0 w eb (k+1) (.ref 148) [.list []] (λL L=> eR) (λW L v t=> bH λa o=> bG (v=.ref a) (t=[(a,o)]) (bB w W (.list []) o)):=by
 refine call_of (uX w.params) eb.ok rfl ?_;rw[Y6];intro X F Y s A Q E C hw n O h' g R _ RL KK;subst hw;obtain⟨ls,a',y,S0⟩:=RL;have I:=O;have c':X.env.code=.ref 147:=g.trans (by kernel_rfl);have P:Pack X k O₀ 6:=dU 6 X.I eN X C rfl rfl;have S1:=S0;replace y:aR X.w F [.J (.list [])] (ls.map (·.2)) a':=y;have hm:Y.map (·.1)=[cu]:=by
  have:=S0.inv;rw[n]at this;obtain⟨⟨ps,h,_⟩,_⟩:=this;rw[h];rfl
 refine cK (iP (y5 (t:=S "weight") (ls:=ls) (a':=a') C (by rw[I];kernel_rfl) rfl R.hd ?_));refine aM ?_;refine(P.e (.Name (S "sorted") ⟨102,37,102,43⟩)).read C (rv:=.J (.fn (.builtin "sorted"))) (by rw[I];kernel_rfl) R S1 y λfv r F1 H S2 B ra=> ?_
 obtain rfl:=ra.lh;refine callWith_kw ?_;refine P.s [.Name (S "run") ⟨102,44,102,47⟩] [.J (.list [])] [.J (.list [])] A F1 H ls [] a' r _ _ E (by rw[I];kernel_rfl) R S2 (y.mono B) λZ i p f' ts S3 j' M=> ?_
 obtain⟨v,rfl,rv⟩:=M.one;obtain⟨rfl,d⟩:=rv.eY;have S4:St X p f' ls a' i:=S3;have K:=S4.inv;rw[n]at K;obtain⟨⟨ps,rfl,e'⟩,_⟩:=K;refine kws_cons ?_;refine Uy C c' S4 e' (λG N=> by rw[n];exact⟨⟨G,rfl,N⟩,hm.symm⟩) λq j G i' S5=> ?_
 refine kws_nil ?_;refine d.gD λl Z m e dl=> ?_
 obtain rfl:=dl.qt;refine Y8 C S5 ⟨_,S5.J _ _ e,rfl,m,rfl⟩ λD c s4 S6=> ?_
 obtain⟨S7,k',e7⟩:=S6.freeze C.inv;have V:=S6.i7 (.head _);refine⟨_,_,[],.list [],[],λL L L=> eR,λL L=> eR,λL=> ag,S7,bB.den (p:=.list []) ⟨[],c,rfl,.nil⟩ e7 V,rfl,rfl,.inl rfl,trivial,λL L L L L L L=> trivial,λX' L L L L L=> ⟨λL x T=> bf T (by simp),λL x T=> bf T (by simp)⟩,λv f F5 g' t qs u b z L rv=> ?_⟩;have d':qs=[]:=by
  generalize b':([]:aa PV)=ps at z;cases z with
  |nil=> rfl
  |skip=> simp at b'
  |keep=> simp at b'
 subst d'
 ·obtain⟨a,o,rfl,rfl,ow⟩:=rv.n5
  exact(KK (.ref a) f F5 g' ls [(a,o)] a' u ⟨a,o,rfl,rfl,ow⟩).1
structure DR(P:aT)(fd:fv)(body:aa a9)(ps:aa ao)(li:aa ae)(rest:aa ao)(gs:aa (ao×PV)):Prop where
 bd:fd.body=.stmts body
 bind:∀vs:aa ai,vs.length=ps.length->tO fd ⟨vs,[]⟩=pure (ps.zip vs)
 clo:fd.closure=[]
 kinds:∀x∈ps,fd.scope.names.lookup x=some .local∨(fd.scope.names.lookup x=some .cell∧∀L,((ia (L+1) fd.scope.names []).lookup x).isSome=true)
 lsm:∀vs:aa ai,vs.length=ps.length->jq (λx=> fd.scope.names.lookup x) (ps.zip vs) (λω=> none)=lk ((picks li ps).zip ((picks li vs).map some)++rest.map λy=> (y,none))
 lli:∀{α:Type} (xs:aa α),xs.length=ps.length->(picks li xs).length=(picks li ps).length
 nsl:∀x∈picks li ps++rest,fd.scope.names.lookup x=some .local
 nn:(picks li ps++rest).Nodup
 nd:∀x∈picks li ps++rest,(x==("__debug__":ao))=false
 gs:∀q∈gs,hz P q
 gl:fd.globals=3
 bl:fd.builtins=0
 hco:fd.scope.isCoroutine=false
 hgen:fd.scope.isGenerator=false
 hk:fd.scope.kind=.function
theorem EI{fd:fv}{S:aa a9}{ps:aa ao}{Q:aa ae}{H:aa ao}{n:aa (ao×PV)}{R:iM->aD->Prop}{d:aa ao}
  (K:DR w.params fd S ps Q H n) (hI:bq I) (O:args.length=ps.length) (u:∀L,d.map (λx=> (ia (L+1) fd.scope.names []).lookup x)=(dO d.length).map λi=> U (L+1+i))
  {F:Fz} {Y:MT} {Z:aa ai} {A:dC} {s:aD} (ha:s.heap.get? a=U o) (l':o.data=.func fd) (k':s.heap.CodeRec fd.code fd.qualname) (Rm:aX (k+1) A) (T:d1 w.params F) (Im:I F Y) (D:aH w F args Z)
  (B:∀a o,F a=U o->s.heap.get? a=U o) (d':∀p∈Y,s.heap.get? p.1=U p.2∧F p.1=ah) (nd:(Y.map (·.1)).Nodup)
  (m:∀(X:Cx) (r:aD) (t:MT) (ls:aa (ao×aq ai)),aG X->X.w=w->X.I=(λF N=> I F N∧N.map (·.1)=Y.map (·.1))->X.G=⟨fd.scope.names,picks Q ps++H,[],n,[]⟩->X.cps=[]->X.env=yd fd s.heap.objs.size a->X.s₀=s->X.F₀=F->X.ex=Y.map (·.1)->aX k (A.deeper X.env)->
   aR X.w F ((picks Q args).map .J++H.map λω=> .un) (ls.map (·.2)) []->St X F Y ls t r->
   t.map (·.1)=(dO d.length).map (λi=> s.heap.objs.size+1+i)->(∀i x,d[i]?=U x->∃g,t[i]?=U (s.heap.objs.size+1+i,g)∧g.data=.cell (tP (λx=> fd.scope.names.lookup x) (ps.zip Z) (λω=> ah) x))->
   wpAny (ay pw w) (A.deeper X.env) (ei S X.env) (λf P=> R (.ok (.ret (match f with | .ret v=> v |_=> .none))) P)
    (λe P=> aB (ay pw w) (A.deeper X.env) (tS X.env e) (λω g'=> R (.error e) g') (λe' g'=> R (.error e') g') P) r):
  gv (ay pw w) A (.call (.ref a) ⟨Z,[]⟩) R s:=by
 have f':Z.length=ps.length:=by rw[← D.length];exact O
 have o':∀x∈ps.zip Z,x.1∈ps:=λx hx=> (ti hx).1
 refine MO Rm.d0 ha l' (vy T B) k' K.bd (K.bind Z f') K.clo (λx hx=> ?_) (λp' c'=> ?_) K.hco K.hgen K.hk
 ·rcases K.kinds _ (o' x hx)with h |⟨M,h2⟩
  ·exact .inl h
  ·exact .inr ⟨M,h2 _⟩
 ·have nL:s.heap.get? s.heap.objs.size=ah:=e2 (dh _)
  have c:=c'.toInCall.keep;obtain⟨a',V,rfl⟩:=c'.toInCall.same
  let L:=s.heap.objs.size
  let t:MT:=(dO d.length).map λi=> (L+1+i,(a'.get? (L+1+i)).getD default)
  have n':∀(i:ae) (x:ao),d[i]?=U x->(ia (L+1) fd.scope.names []).lookup x=U (L+1+i):=λi x hx=> by
   have e:=aZ (λl=> l[i]?) (u L);simp only[eP,hx,tq]at e;have m':=(eO.mp hx).1;rw[td m']at e;simpa using e
  have cellAt:∀(i:ae) (x:ao),d[i]?=U x->∃g,a'.get? (L+1+i)=U g∧g.data=.cell (tP (λx=> fd.scope.names.lookup x) (ps.zip Z) (λω=> ah) x):=λi x hx=> c'.cell x _ (n' i x hx)
  have h':t.map (·.1)=(dO d.length).map (λi=> L+1+i):=by
   show((dO d.length).map _).map _=_;rw[dM];rfl
  have b':∀p∈t,L < p.1∧a'.get? p.1=U p.2:=λp z=> by
   obtain⟨i,hi,rfl⟩:=bz.mp z;obtain⟨g,ho,_⟩:=cellAt i _ (jR (l7.mp hi));refine⟨by show L < L+1+i;lia,?_⟩;show a'.get? (L+1+i)=U ((a'.get? (L+1+i)).getD default);rw[ho];rfl
  have fresh:∀b,L≤b->s.heap.get? b=ah:=λb hb=> e2 hb
  have Fn:∀b,L≤b->F b=ah:=λb hb=> by
   cases q:F b with
   |none=> rfl
   |some o=> have:=B _ _ q;rw[fresh b hb]at this;cases this
  let X:Cx:={w:=w,env:=yd fd s.heap.objs.size a,G:=⟨fd.scope.names,picks Q ps++H,[],n,[]⟩,cps:=[],cad:=[],s₀:=s,F₀:=F,ex:=Y.map (·.1),I:=λF N=> I F N∧N.map (·.1)=Y.map (·.1)}
  have C:aG X:={
   fn:=K.hk
   kd:=rfl
   gl:=K.gl
   bl:=K.bl
   ns:=K.nsl
   nn:=K.nn
   gs:=λq hq=> by
    obtain⟨M,v,h2,h3⟩:=K.gs q hq;exact⟨M,v,h2,λF T=> h3 w F rfl T⟩
   cs:=λi x hi=> nn hi
   cn:=λx hx=> nm hx
   dn:=K.nd
   hL:=nL
   inv:=λF W Y M h2 h3=> ⟨hI F W Y M.1 h2 h3,M.2⟩
   pk:=λq hq=> nm hq}
  have i':=K.lli Z f';have j':St X F Y ((picks Q ps).zip ((picks Q Z).map U)++H.map λy=> (y,ah)) t {s with heap:=a',toks:=V}:=by
   refine⟨T,Sub.refl _,⟨Im,rfl⟩,?_,sT (picks Q ps) _ H i',⟨λb o e ω=> c b o e,rfl,rfl⟩,λb o e=> c _ _ (B _ _ e),Fn _ (dh _),λb o e=> .inl e,λp z=> ?_,?_,λp z=> fresh _ (d6 (b' p z).1),λp z=> .inl (cY z),λb hb=> hb,λi cc hc=> (nomatch hc),λq hq=> nomatch hq⟩
   ·have:=c'.toInCall.ns
    rw[← K.lsm Z f'];exact this
   ·rcases dc.mp z with z |z
    ·refine⟨c _ _ (d' p z).1,(d' p z).2,λe=> ?_⟩
     have e':p.1=s.heap.objs.size:=e;have:=(d' p z).1;rw[e',nL]at this;cases this
    ·exact⟨(b' p z).2,Fn _ (d6 (b' p z).1),λe=> fH L (by have:=(b' p z).1;rw[show p.1=L from e]at this;exact this)⟩
   ·rw[bj]
    refine c2.mpr ⟨nd,?_,λx hx y E e=> ?_⟩
    ·rw[h']
     exact aay _ (λi j (h:i≠j) e=> h (Nat.add_left_cancel e)) List.nodup_range
    ·obtain⟨p,z,rfl⟩:=bz.mp hx
     obtain⟨q,hq,rfl⟩:=bz.mp E;have:=(d' p z).1;rw[show p.1=q.1 from e,fresh _ (d6 (b' q hq).1)]at this;cases this
  have R':aX k (A.deeper X.env):=Rm.deeper;refine m X _ t _ C rfl rfl rfl rfl rfl rfl rfl rfl R' (w7 (wX D Q) i') j' h' λi x hx=> ?_
  obtain⟨g,ho,hd⟩:=cellAt i x hx;refine⟨g,?_,hd⟩;show((dO d.length).map λi=> (L+1+i,(a'.get? (L+1+i)).getD default))[i]?=_;rw[eP,td (eO.mp hx).1,tq,ho];rfl
theorem OH{fd:fv}{S:aa a9}{c:av}{g:af}{ps:aa ao}{Q l:aa ae}{H:aa ao}{n:aa (ao×PV)}{R:iM->aD->Prop}{d:aa ao}
  (K:ka w.params a o fd S c g ps Q l H n) (b:bq I) (O:args.length=ps.length) (u:∀L,d.map (λx=> (ia (L+1) fd.scope.names []).lookup x)=(dO d.length).map λi=> U (L+1+i))
  {F:Fz} {Y:MT} {Z:aa ai} {A:dC} {s:aD} (j:aX (k+1) A) (T:d1 w.params F) (q:I F Y) (D:aH w F args Z)
  (B:∀a o,F a=U o->s.heap.get? a=U o) (E:∀p∈Y,s.heap.get? p.1=U p.2∧F p.1=ah) (V:(Y.map (·.1)).Nodup)
  (m:∀(X:Cx) (r:aD) (W:MT) (ls:aa (ao×aq ai)),aG X->X.w=w->X.I=(λF N=> I F N∧N.map (·.1)=Y.map (·.1))->X.G=⟨fd.scope.names,picks Q ps++H,[],n,[]⟩->X.cps=[]->X.env=yd fd s.heap.objs.size a->X.s₀=s->X.F₀=F->X.ex=Y.map (·.1)->aX k (A.deeper X.env)->
   aR X.w F ((picks Q args).map .J++H.map λy=> .un) (ls.map (·.2)) []->St X F Y ls W r->
   W.map (·.1)=(dO d.length).map (λi=> s.heap.objs.size+1+i)->(∀i x,d[i]?=U x->∃g,W[i]?=U (s.heap.objs.size+1+i,g)∧g.data=.cell (tP (λx=> fd.scope.names.lookup x) (ps.zip Z) (λy=> ah) x))->
   wpAny (ay pw w) (A.deeper X.env) (ei S X.env) (λf P=> R (.ok (.ret (match f with | .ret v=> v |_=> .none))) P)
    (λe P=> aB (ay pw w) (A.deeper X.env) (tS X.env e) (λy h=> R (.error e) h) (λz h=> R (.error z) h) P) r):
  gv (ay pw w) A (.call (.ref a) ⟨Z,[]⟩) R s:=
 let⟨C,t,M,G⟩:=K.crec
 EI ⟨K.bd,K.bind,K.clo,K.kinds,K.lsm,K.lli,K.nsl,K.nn,K.nd,K.gs,K.gl,K.bl,K.hco,K.hgen,K.hk⟩ b O u (B _ _ (T a o K.na K.top)) K.data ⟨c,g,C,t,K.cd,B _ _ (T c g K.cna K.ctop),M,G⟩ j T q D B E V m
noncomputable def Cx.g5(X:Cx)(c':aa ao)(a:aa av)(b:aa PV):Cx:={X with G:={X.G with cs:=c'},cad:=a,cps:=b}
theorem aG.g5(C:aG X){c':aa ao}{a:aa av}{b:aa PV}(h:∀(i:ae) (x:ao),c'[i]?=U x->∃c,a[i]?=U c∧X.env.cells.lookup x=U c)(u:∀x∈c',(x==("__debug__":ao))=ak):aG (X.g5 c' a b):=
 ⟨C.fn,C.kd,C.gl,C.bl,C.ns,C.nn,C.gs,h,u,C.dn,C.hL,C.inv,C.pk⟩
theorem St.g5{c':aa ao}{a:aa av}{b:aa PV}(S:St X F Y ls a' s)(h:∀(i:ae) (c:av),a[i]?=U c->ea λv o p=> dE (F c=U o) (o.data=.cell (U v)) (b[i]?=U p) (Den X.w F p v)):St (X.g5 c' a b) F Y ls a' s:=
 ⟨S.top,S.sub,S.inv,S.ns,S.nm,S.ext,S.J,S.fL,S.fr,S.al,S.nd,S.nw,S.mx,S.xm,h,S.pn⟩
theorem JM(C:aG X){c:av}{a:aq ai}{Q:fO->aD->Prop}(W:X.G.kd.lookup x=U .cell)(w:X.env.cells.lookup x=U c)(R:o.data=.cell a)(S:St X F Y ls ((c,o)::a') s)
  (K:∀P o',o'.data=.cell (U v)->St X F Y ls ((c,o')::a') P->Q () P):aB (ay pw X.w) A (tU X.env x v) Q E s:=by
 have L:=(S.al (c,o) (bp _ (.head _))).1;refine wpAny_storeName_cell C.fn ((eM C x).trans W) w ⟨o,L,R⟩ λN b m=> ?_
 obtain⟨o',B,j⟩:=b;exact K _ o' j (S.upd m B)
def Sep(d l:Fz->MT->Prop):Fz->MT->Prop:=λF Y=> bH λm1 D=> bG (Y=m1++D) (d F m1) (l F D)
theorem Sep.ok{d l:Fz->MT->Prop}(M:bq d)(G:bq l):bq (Sep d l):=λF W Y ⟨m1,D,e,a,b⟩ H n=>
 ⟨m1,D,e,M F W m1 a H λp z=> n p (e ▸ bk _ z),G F W D b H λp z=> n p (e ▸ bp _ z)⟩
theorem EK{l:Fz->MT->Prop}{g:Fz->MT->Prop}{j:Fz->MT->ai->MT->Prop}(c:c0 w l k f args g j){m D:MT}{mk:MT->MT}(e:∀m p,p∈mk m↔p∈m∨p∈D)
  (G:(m.map (·.1)).Nodup) (L:∀p∈D,p.1∉m.map (·.1)) (M:∀I,I.map (·.1)=m.map (·.1)->(mk I).map (·.1)=(mk m).map (·.1)) {Z:aa ai} {A:dC} {s:aD} {Q:ai->aD->Prop} {E:ai->aD->Prop}
  (R:aX k A) (T:d1 w.params F) (b:l F m) (N:g F m) (DD:aH w F args Z) (X:∀a o,F a=U o->s.heap.get? a=U o) (i:∀p∈mk m,s.heap.get? p.1=U p.2∧F p.1=ah)
  (KK:∀v P W I t,Ext ((mk m).map (·.1)) s P->Sub F W->l W I->(∀a o,W a=U o->P.heap.get? a=U o)->(∀a o,W a=U o->F a=U o∨s.heap.get? a=ah)->
   (mk I).map (·.1)=(mk m).map (·.1)->(∀p∈mk I,P.heap.get? p.1=U p.2∧W p.1=ah)->j W I v t->(∀p∈t,P.heap.get? p.1=U p.2∧W p.1=ah∧s.heap.get? p.1=ah)->(t.map (·.1)).Nodup->Q v P):
  wpAny (ay pw w) A (bQ f Z) Q E s:=by
 refine c F m Z A s Q E R T b N DD X (λp z=> i p ((e m p).mpr (.inl z))) G λv P W I t u C y K r O n d S H=> ?_
 refine KK v P W I t (u.weaken λx V=> ?_) C y K r (M I O) (λp z=> ?_) d S H
 ·obtain⟨p,z,rfl⟩:=bz.mp V
  exact cY ((e m p).mpr (.inl z))
 ·rcases (e I p).mp z with h |h
  ·exact n p h
  ·have B:=i p ((e m p).mpr (.inr h))
   refine⟨u.keep _ _ B.1 (L p h),?_⟩;cases q:W p.1 with
   |none=> rfl
   |some o=>
         rcases r _ o q with h |h
         ·rw[B.2]at h;cases h
         ·rw[B.1]at h;cases h
theorem EJ{d l:Fz->MT->Prop}{g:Fz->MT->Prop}{j:Fz->MT->ai->MT->Prop}(G:bq l)(c:c0 w d k f args g j):
  c0 w (Sep d l) k f args (λF Y=> ∀m1 D,Y=m1++D->d F m1->l F D->g F m1) (λW N v t=> bH λm1 D=> dE (N=m1++D) (d W m1) (l W D) (j W m1 v t)):=by
 rintro F Y Z A s Q E R T ⟨m1,D,rfl,o,S⟩ X DD B i V KK
 rw[bj]at V;have b:=c2.mp V;refine EK c (λm p=> dc) b.1 (λp z m=> b.2.2 _ m _ (cY z) rfl) (λI e=> by simp only[bj,e]) R T o (X m1 D rfl o S) DD B i
  λv P W I t n C y H x q a u h O=> ?_
 have r:=G F W D S C λp z=> (a p (bp _ z)).2
 exact KK v P W (I++D) t n C ⟨I,D,rfl,y,r⟩ H x q a ⟨I,D,rfl,y,r,u⟩ h O
theorem EN{d l:Fz->MT->Prop}{g:Fz->MT->Prop}{j:Fz->MT->ai->MT->Prop}(M:bq d)(c:c0 w l k f args g j):
  c0 w (Sep d l) k f args (λF Y=> ∀m1 D,Y=m1++D->d F m1->l F D->g F D) (λW N v t=> bH λm1 D=> dE (N=m1++D) (d W m1) (l W D) (j W D v t)):=by
 rintro F Y Z A s Q E R T ⟨m1,D,rfl,o,S⟩ X DD B i V KK
 rw[bj]at V;have b:=c2.mp V;refine EK c (λm p=> by rw[dc];exact or_comm) b.2.1 (λp z m=> b.2.2 _ (cY z) _ m rfl) (λI e=> by simp only[bj,e]) R T S (X m1 D rfl o S) DD B i
  λv P W I t n C y H x q a u h O=> ?_
 have r:=M F W m1 o C λp z=> (a p (bk _ z)).2
 exact KK v P W (m1++I) t n C ⟨m1,I,rfl,r,y⟩ H x q a ⟨m1,I,rfl,r,y,u⟩ h O
theorem cq.nd{t:MT}(h:cq w F [] r v t):(t.map (·.1)).Nodup:=by
 cases h with
 |bor m=> exact nm m
 |borI _ m=> exact nm m
 |own=> exact dN.mpr ⟨λm=> nm m,gm⟩
 |J=> exact gm
theorem c5.g(c:t4 w I k f args r):c0 w I k f args (λL L=> eR) (λW L v t=> cq w W [] r v t):=λF Y Z A s Q E R T b L DD B i V KK=>
 c F Y Z A s Q E R T b DD B i V λv P W N t n j y H x q a u h=> KK v P W N t n j y H x q a u h u.nd
theorem c0.c{g:Fz->MT->Prop}{j:Fz->MT->ai->MT->Prop}(c:c0 w I k f args g j)(z:∀F Y,I F Y->g F Y)(C:∀F Y v t,j F Y v t->cq w F [] r v t):t4 w I k f args r:=
 λF Y Z A s Q E R T b DD B i V KK=> c F Y Z A s Q E R T b (z F Y b) DD B i V λv P W N t n d y H x q a u h L=> KK v P W N t n d y H x q a (C _ _ _ _ u) h
theorem c5.left{d l:Fz->MT->Prop}(G:bq l)(c:c5 w d k f args r):c5 w (Sep d l) k f args r:=
 ⟨c.1,(EJ G (c5.g c.2)).c (λL L L L L L L L=> trivial) λ_ _ _ _ ⟨_,_,_,_,_,h⟩=> h⟩
theorem c5.right{d l:Fz->MT->Prop}(M:bq d)(c:c5 w l k f args r):c5 w (Sep d l) k f args r:=
 ⟨c.1,(EN M (c5.g c.2)).c (λL L L L L L L L=> trivial) λ_ _ _ _ ⟨_,_,_,_,_,h⟩=> h⟩
theorem aU{j β:Type}{x:aq j}{f:j->aq β}{a:j}{r:aq β}(h:x=U a)(k:f a=r):x.bind f=r:=h ▸ k
theorem ct{j:Type}{c:au}{x:aq j}(h:c=ag):gd c x=x:=h ▸ rfl
noncomputable def c4:aa (au×au×au×au):=[ak,ag].flatMap λa=> [ak,ag].flatMap λb=> [ak,ag].flatMap λc=> [ak,ag].map λd=> (a,b,c,d)
theorem Vp:∀a b c d:au,(a,b,c,d)∈c4:=by decide
@[elab_as_elim] theorem eq4{P:au->au->au->au->Prop}(a b c d:au)(h:∀q∈c4,P q.1 q.2.1 q.2.2.1 q.2.2.2):P a b c d:=h _ (Vp a b c d)
theorem fW{j β:Type}{x:aq j}{f:j->β}{a:j}(h:x=U a):x.map f=U (f a):=h ▸ rfl
noncomputable def az:CB->ae->CS
 | .nil,_=> .bad
 | .cons s _,0=> s
 | .cons _ r,n+1=> az r n
noncomputable def Zx:CB->CB
 | .nil=> .nil
 | .cons _ r=> r
noncomputable def Fo:ae->CB->CB
 |0,c=> c
 |n+1,c=> Fo n (Zx c)
abbrev cW(c:CB)(i:ae):CB:=Fo i c
noncomputable def qh:CB->ae
 | .nil=> 0
 | .cons _ r=> qh r+1
noncomputable def bE:CS->CB
 | .forV _ _ b=> b | .forT _ _ b=> b | .forE _ _ _ b=> b | .whl _ b=> b | .tryN b=> b |_=> .nil
noncomputable def zQ:CS->CE
 | .ite c _ _=> c |_=> .bad
noncomputable def dH:CS->CB
 | .ite _ a _=> a |_=> .nil
noncomputable def GZ:CS->CB
 | .ite _ _ b=> b |_=> .nil
noncomputable def jO:CS->CE
 | .whl c _=> c |_=> .bad
theorem zh:∀(c:CB) (i:ae),i < qh c->cW c i=.cons (az c i) (cW c (i+1))
 | .nil,_,h=> bf h (Nat.not_lt_zero _)
 | .cons _ _,0,_=> rfl
 | .cons _ r,i+1,h=> zh r i (Nat.lt_of_succ_lt_succ h)
section
variable {τ:aa Slot}{s:CS}{c:CB}{o:aq Out}{v:RV}
theorem st(i:ae)(h:aJ W O c' (az c i) V=U (.nxt τ))(k:aI W O c' (cW c (i+1)) τ=o)(hi:bb i (qh c)=ag:=by kernel_rfl):aI W O c' (cW c i) V=o:=by
 exact(aZ (λc=> aI W O c' c V) (zh c i (dg hi))).trans (aU h k)
theorem cL(i:ae)(h:aJ W O c' (az c i) V=U (.ret v τ))(hi:bb i (qh c)=ag:=by kernel_rfl):aI W O c' (cW c i) V=U (.ret v τ):=by
 exact(aZ (λc=> aI W O c' c V) (zh c i (dg hi))).trans (aU h rfl)
theorem Ym(h:aI W O c' (cW c 0) V=U (.ret v τ)):ez W O c' c V=U v:=by
 replace h:aI W O c' c V=_:=h;rw[ez,h]
noncomputable def K1(x:aq RV):bI:=⟨λL L=> x⟩
theorem bD(h:O.call f args=U r)(e:aJ W O c' s V=aJ W (K1 (O.call f args)) c' s V)(j:aJ W (K1 (U r)) c' s V=o):aJ W O c' s V=o:=by rw[e,h];exact j
theorem Np(h:O.call f args=U r)(e:aI W O c' c V=aI W (K1 (O.call f args)) c' c V)(j:aI W (K1 (U r)) c' c V=o):aI W O c' c V=o:=by rw[e,h];exact j
theorem ll{j:Type}{X u:aq j}{b:au}(h:b=ag)(e:X=gd b u):X=u:=e.trans (ct h)
end
section
variable {e' τ:aa Slot}{a b e:CE}{as:di}{p q:RV}{x:au}
theorem cQ{w:jn}(M:ev O c' V a=U p)(G:ev O c' V b=U q)(j:binop w p.read q.read=U r):ev O c' V (.bin w a b)=U r:=aU M (aU G j)
theorem eI{w:gq}(M:ev O c' V a=U p)(G:ev O c' V b=U q)(j:eE w p.read q.read=U x):ev O c' V (.cmp a (.one w b))=U (.J (.bool x)):=aU M (fW (aU G j))
theorem t6(M:ev O c' V a=U (.J (.bool ag)))(G:ev O c' V b=U r):ev O c' V (.and a b)=U r:=aU M G
theorem yA(M:ev O c' V a=U (.J (.bool ak))):ev O c' V (.and a b)=U (.J (.bool ak)):=aU M rfl
theorem DL(M:ev O c' V a=U (.J (.bool x)))(G:x=ak->ev O c' V b=U (.J (.bool ag))):ev O c' V (.or a b)=U (.J (.bool ag)):=by
 cases x
 ·exact aU M (G rfl)
 ·exact aU M rfl
theorem DM(M:ev O c' V a=U (.J (.bool ak)))(G:ev O c' V b=U r):ev O c' V (.or a b)=U r:=aU M G
theorem ek{f:av}{g:ao}(M:bO O c' V as=U B)(G:b6 B=U ps)(j:O.call (.ref f) ps=U r):ev O c' V (.call (.glb g (.fn (.ref f))) as)=U r:=aU rfl (aU M (aU G j))
theorem j6{f:bL}{g:ao}(M:bO O c' V as=U B)(G:ik f (B.map RV.read)=U r):ev O c' V (.call (.glb g (.fn (.builtin f))) as)=U r:=aU rfl (aU M G)
theorem jt{f:bL}{g:ao}(M:bO O c' V as=U B)(G:hn f (B.map RV.read)=U r):ev O c' V (.call (.glb g (.fn (.type f))) as)=U r:=aU rfl (aU M G)
theorem mz{o:CE}{Y:ao}(M:ev O c' V o=U p)(G:bO O c' V as=U B)(j:b6 B=U ps)(g:ha O p Y ps=U r):ev O c' V (.meth o Y as)=U r:=aU M (aU G (aU j g))
theorem hy{v:PV}(M:ev O c' V a=U p)(G:ev O c' V b=U q)(j:g7 p.read q.read=U v):ev O c' V (.idx a b)=U (.J v):=aU M (aU G (fW j))
theorem pj{w:jn}{a b c:aj}(h:binI w a b=U c):binop w (.int a) (.int b)=U (.J (.int c)):=(rfl).trans (fW h)
theorem u7{i:aj}:g7 (.list H) (.int i)=iW H i:=rfl
theorem jr{c:CE}{u:RV}(M:ev O c' V a=U p)(G:ev O c' V b=U q)(j:ev O c' V c=U u)(B:hh p.read q.read u.read=U r):ev O c' V (.slc a b c)=U r:=aU M (aU G (aU j B))
theorem gS{c:CE}(M:ev O c' V c=U (.J (.bool ag)))(G:ev O c' V a=U r):ev O c' V (.ite c a b)=U r:=aU M G
theorem ig{c:CE}(M:ev O c' V c=U (.J (.bool ak)))(G:ev O c' V b=U r):ev O c' V (.ite c a b)=U r:=aU M G
theorem DK(M:ev O c' V a=U (.J (.bool x))):ev O c' V (.una .Not a)=U (.J (.bool (!x))):=aU M rfl
theorem js(M:bO O c' V as=U B)(G:b6 B=U ps)(j:aY ps.length=ag):ev O c' V (.tup as)=U (.J (.tup ps)):=aU M (aU G (ct j))
theorem eJ(M:ev O c' V a=U p)(G:bO O c' V as=U B):bO O c' V (.cons a as)=U (p::B):=aU M (fW G)
theorem DO:bO O c' V .nil=U []:=rfl
theorem c6(M:ev O c' V a=U p):bO O c' V (.cons a .nil)=U [p]:=eJ M DO
theorem dT(M:ev O c' V a=U p)(G:ev O c' V b=U q):bO O c' V (.cons a (.cons b .nil))=U [p,q]:=eJ M (c6 G)
theorem c7{sl:Slot}(t:bg (bC e) V=e')(f:ev O c' e' e=U r)(g:r.slot=U sl)(hi:bb i e'.length=ag)(l:e'.set i sl=τ):aJ W O c' (.asg i e) V=U (.nxt τ):=by
 subst t;subst l;exact aU f (aU g (ct hi))
theorem cN{A B:CB}{o:aq Out}(t:bg (cz e) V=e')(f:ev O c' e' e=U (.J (.bool x)))(h:aI W O c' (bif x then A else B) e'=o):aJ W O c' (.ite e A B) V=o:=by
 subst t;refine aU (aU f rfl) ?_;cases x <;> exact h
theorem iT{v:PV}(t:bg (bC e) V=e')(hi:e'[i]?=U (.own (.list H)))(f:ev O c' e' e=U r)(s:r.bR=U v)(g:aY H.length=ag)(l:e'.set i (.own (.list (H++[v])))=τ):aJ W O c' (.app i e) V=U (.nxt τ):=by
 subst t;subst l;exact aU (aU hi rfl) (aU f (aU s (ct g)))
theorem o9{K:aa PV}(t:bg (cz e) V=e')(hi:e'[i]?=U (.own (.list H)))(f:ev O c' e' e=U r)(s:r.read=.list K)(g:aY (H.length+K.length)=ag)(l:e'.set i (.own (.list (H++K)))=τ):aJ W O c' (.ext i e) V=U (.nxt τ):=by
 subst t;subst l;exact aU (aU hi rfl) (aU f (aU (aZ uP s) (ct g)))
theorem hA{v:PV}(t:bg (bC e) V=e')(f:ev O c' e' e=U r)(s:r.bR=U v):aJ W O c' (.ret e) V=U (.ret (.J v) e'):=by
 subst t;exact aU f (fW s)
theorem DV{l:di}{P:aa Slot}(t:bg (eF l) V=e')(f:bO O c' e' l=U B)(g:slots B=U P)(I:(P.length==is.length)=ag)(u:gH is P e'=τ):aJ W O c' (.asgD is l) V=U (.nxt τ):=by
 subst t;subst u;exact aU f (aU g (ct I))
theorem DW{v:PV}(t:bg (bC e) V=e')(f:ev O c' e' e=U r)(s:r.bR=U v)(l:hS is v e'=U τ):aJ W O c' (.asgT is e) V=U (.nxt τ):=by
 subst t;exact aU f (aU s (fW l))
end
theorem bX(h:n < 1000000):aY n=ag:=by
 show c3 (n+1) 1048576=ag;exact iJ (by lia)
noncomputable abbrev II(H:aa aj):PV:=.list (H.map .int)
section
variable {a:ae}{c:CB}
theorem cx(c:CB)(c':aa PV)(V:aa Slot)(h:ez 1000 (aA m pA wA k) c' c V=U r)(e:(aA m pA wA (k+1)).call (.ref a) args=ez 1000 (aA m pA wA k) c' c V):(aA m pA wA (k+1)).call (.ref a) args=U r:=e.trans h
end
theorem pG{j:Type}{a:j}:@decide (a=a) (jP _)=ag:=@cf _ (jP _) rfl
noncomputable def sig:aa aj:=[97,98,99,100,101,102,103,104,105,106,107,108,109,110,111,112,113,114,115,116,117,118,119,120,121,122,48,49,50,51,52,53,54,55,56,57,45,46,95,61,40,41,65,233,223,173,9332,8800,8814,8232,9424,19968]
noncomputable def kd(c:aj):ae:=match ([(65,1),(9424,1),(95,2),(61,2),(40,2),(41,2),(8800,2),(8814,2),(9332,3),(223,4),(173,5),(8232,6),(19968,6)]:aa (aj×ae)).find? (λq=> q.1==c)with
 |some q=> q.2
 |none=> 0
noncomputable def kT(c:aj):aa aj:=if c==65 ||c==9424 then[97]else if c==9332 then[40,49,41]else if c==223 then[115,115]else[]
def kW:ae->ao
 |0=> S "valid" |1=> S "mapped" |2=> S "disallowed_STD3_valid" |3=> S "disallowed_STD3_mapped" |4=> S "deviation" |5=> S "ignored" |_=> S "disallowed"
def kS(l:au):ae->ao
 |0=> S "valid" |1=> S "mapped" |2=> bif l then S "disallowed" else S "valid" |3=> bif l then S "disallowed" else S "mapped" |4=> S "deviation" |5=> S "ignored" |_=> S "disallowed"
theorem dm{j β:Type}{f g:j->β}{l:aa j}(h:l.map f=l.map g):∀c∈l,f c=g c:=ow.mp h
noncomputable def TI(H:aa aj):PV:=.tup (H.map .int)
abbrev dP(m pA wA:av):PV:=(Dd m pA wA).pv
theorem Sg:∀c∈sig,(oP (k+2)).call (.ref 608) [jc,.int c]=U (.J (.tup [.str (kW (kd c)),TI (kT c)])):=dm (by kernel_rfl)
theorem SP(c:aj)(h:c∈sig):(aA m pA wA (k+3)).call (.ref 676) [dP m pA wA,.str (S "idna"),.int c]=U (.J (.tup [.str (kW (kd c)),TI (kT c)])):=by
 have e:(aA m pA wA (k+3)).call (.ref 676) [dP m pA wA,.str (S "idna"),.int c]=(if @decide (dP m pA wA=dP m pA wA) (jP _)then(oP 3).call (.ref 608) [jc,.int c]else ah):=by kernel_rfl
 rw[e,pG];exact Sg c h
theorem Yg(c:aj):(oP (k+2)).call (.ref 608) [gj,.int c]=U (.J .none):=by
 by_cases h:0≤c
 ·obtain⟨n,rfl⟩:=xt h
  kernel_rfl
 ·obtain⟨n,rfl⟩:∃n:ae,c=Int.negSucc n:=by
   cases c with
   |ofNat n=> exact bf (hp n) h
   |negSucc n=> exact⟨n,rfl⟩
  kernel_rfl
theorem SN(c:aj):(aA m pA wA (k+3)).call (.ref 676) [dP m pA wA,.str (S "dm"),.int c]=U (.J .none):=by
 have e:(aA m pA wA (k+3)).call (.ref 676) [dP m pA wA,.str (S "dm"),.int c]=(if @decide (dP m pA wA=dP m pA wA) (jP _)then pX ((oP 3).call (.ref 608) [gj,.int c])else ah):=by kernel_rfl
 rw[e,pG,Yg c];rfl
theorem zE(c:aj):(aA m pA wA (k+1)).call (.ref 676) [dP m pA wA,.str (S "ccc"),.int c]=U (.J (.int 0)):=by
 have e:(aA m pA wA (k+1)).call (.ref 676) [dP m pA wA,.str (S "ccc"),.int c]=(if @decide (dP m pA wA=dP m pA wA) (jP _)then U (.J (.int 0))else ah):=by kernel_rfl
 rw[e,pG];rfl
theorem SO(c:aj):(aA m pA wA (k+1)).call (.ref 676) [dP m pA wA,.str (S "gc"),.int c]=U (.J (.str (S "Cn"))):=by
 have e:(aA m pA wA (k+1)).call (.ref 676) [dP m pA wA,.str (S "gc"),.int c]=(if @decide (dP m pA wA=dP m pA wA) (jP _)then U (.J (.str (S "Cn")))else ah):=by kernel_rfl
 rw[e,pG];rfl
theorem SQ:(aA m pA wA (k+1)).call (.ref 683) [dP m pA wA,.str (S "dm")]=U (.J gj):=by
 have e:(aA m pA wA (k+1)).call (.ref 683) [dP m pA wA,.str (S "dm")]=(if @decide (dP m pA wA=dP m pA wA) (jP _)then U (.J gj)else ah):=by kernel_rfl
 rw[e,pG];rfl
theorem Zk(c:aj)(T:PV)(l:au):∀n,n < 7->aI 1000 (K1 (U (.J (.tup [.str (kW n),T])))) [] uw [.J (.int c),.J (dP m pA wA),.J (.bool l),.un,.un]=U (.ret (.J (.tup [.str (kS l n),T])) [.J (.int c),.J (dP m pA wA),.J (.bool l),.J (.str (kW n)),.J T])
 |0,_=> by kernel_rfl
 |1,_=> by kernel_rfl
 |2,_=> by cases l <;> kernel_rfl
 |3,_=> by cases l <;> kernel_rfl
 |4,_=> by kernel_rfl
 |5,_=> by kernel_rfl
 |6,_=> by kernel_rfl
 |n+7,h=> bf h (by lia)
theorem m2(c:aj)(h:c∈sig):kd c < 7:=by
 have:=dm (f:=λc=> bb (kd c) 7) (g:=λL=> ag) (by kernel_rfl) c h;exact dg this
theorem uR(c:aj)(h:c∈sig)(l:au):(aA m pA wA (k+4)).call (.ref 423) [.int c,dP m pA wA,.bool l]=U (.J (.tup [.str (kS l (kd c)),TI (kT c)])):=
 cx uw [] [.J (.int c),.J (dP m pA wA),.J (.bool l),.un,.un] (Ym (Np (SP c h) (by kernel_rfl) (Zk c (TI (kT c)) l _ (m2 c h)))) (by kernel_rfl)
def mp(t l:au)(c:aj):aq (aa aj):=match kd c with
 |0=> U [c]
 |1=> U (kT c)
 |2=> bif l then ah else U [c]
 |3=> bif l then ah else U (kT c)
 |4=> bif t then U (kT c)else U [c]
 |5=> U []
 |_=> ah
def Ap:aq (aa aj)->RV
 |some H=> .J (II H)
 |none=> .J .none
def Vh(m pA wA:av)(t l:au)(c:aj):aa Slot:=[.J (.int c),.J (dP m pA wA),.J (.bool t),.J (.bool l),.un,.un,.un,.un,.un]
noncomputable def cj:aq Out->aq RV
 |U (.ret r _)=> U r
 |U (.nxt _)=> U (.J .none)
 |_=> ah
theorem fX{c:CB}(h:cj (aI W O c' c V)=U r):ez W O c' c V=U r:=by
 unfold ez;cases e:aI W O c' c V with
 |none=> rw[e]at h;cases h
 |some o=> cases o <;> (rw[e]at h;first |exact h |cases h)
theorem DT{c:CB}{v:RV}(h:O.call f args=U r)(e:aI W O c' c V=aI W (K1 (O.call f args)) c' c V)(j:cj (aI W (K1 (U r)) c' c V)=U v):ez W O c' c V=U v:=
 fX (by rw[e,h];exact j)
theorem dX{c:CB}{τ:aa Slot}(h:aJ W O c' (az c 0) V=U (.nxt τ))(k:cj (aI W O c' (cW c 1) τ)=U r)(hi:bb 0 (qh c)=ag:=by kernel_rfl):ez W O c' c V=U r:=
 fX (by rw[show aI W O c' c V=aI W O c' (cW c 1) τ from st 0 h rfl hi];exact k)
noncomputable def lr:ae->aa aj
 |1=> [97] |3=> [40,49,41] |4=> [115,115] |_=> []
theorem G3(c:aj)(h:c∈sig):kT c=lr (kd c):=dm (g:=λc=> lr (kd c)) (by kernel_rfl) c h
def m7(m pA wA:av)(t l:au)(c:aj)(n:ae):aa Slot:=[.J (.int c),.J (dP m pA wA),.J (.bool t),.J (.bool l),.J (.str (kS l n)),.J (TI (lr n)),.un,.un,.un]
theorem Vm(O:bI)(c:aj)(t l:au):∀n,n < 7->((n=1∨n=3∧l=ak)->t=ak)->
  cj (aI 1000 O [] (cW gf 1) (m7 m pA wA t l c n))=U (Ap (match n with |0=> U [c] |1=> U (lr n) |2=> bif l then ah else U [c] |3=> bif l then ah else U (lr n) |4=> bif t then U (lr n)else U [c] |5=> U [] |_=> ah))
 |0,_,_=> by cases l <;> kernel_rfl
 |1,_,h=> by rw[h (.inl rfl)];cases l <;> kernel_rfl
 |2,_,_=> by cases l <;> kernel_rfl
 |3,_,h=> by
  cases l
  ·rw[h (.inr ⟨rfl,rfl⟩)];kernel_rfl
  ·kernel_rfl
 |4,_,_=> by cases l <;> cases t <;> kernel_rfl
 |5,_,_=> by cases l <;> kernel_rfl
 |6,_,_=> by cases l <;> kernel_rfl
 |n+7,h,_=> bf h (by lia)
def jC(t l:au)(c:aj):au:=t && (kd c==1 ||kd c==3 && !l)
def kC(t l:au)(c:aj):RV:=bif jC t l c then .own (II (kT c))else Ap (mp t l c)
theorem Vn(l:au)(c:aj)(d:∀c∈sig,O.call (.ref 423) [.int c,dP m pA wA,.bool l]=U (.J (.tup [.str (kS l (kd c)),TI (kT c)])))(w:c=65∨c=9424∨c=9332∧l=ak):
  cj (aI 1000 O [] (cW gf 1) (m7 m pA wA ag l c (kd c)))=U (.own (II (kT c))):=by
 let r:au->aj->ae->aa PV->Slot->Slot->aa Slot:=λl x n L a b=> [.J (.int x),.J (dP m pA wA),.J (.bool ag),.J (.bool l),.J (.str (kS l n)),.J (TI (lr n)),.own (.list L),a,b]
 have gw:∀(l:au) (x:aj) (n:ae) (y:aj) (L:aa PV) (a b:Slot),O.call (.ref 423) [.int y,dP m pA wA,.bool l]=U (.J (.tup [.str (S "valid"),TI []]))->aY (L.length+1)=ag->
   aI 1000 O [] (bE (az gf 7)) ((r l x n L a b).set 7 (.J (.int y)))=U (.nxt (r l x n (L++[.int y]) (.J (.int y)) (.J (.tup [.str (S "valid"),TI []])))):=λl x n y L a b h g=>
  st (τ:=r l x n L (.J (.int y)) (.J (.tup [.str (S "valid"),TI []]))) 0 (bD h (by kernel_rfl) (by kernel_rfl)) (st 1 (ll g (by kernel_rfl)) rfl)
 have o:∀x,kd x=1->kT x=[97]->cj (aI 1000 O [] (cW gf 1) (m7 m pA wA ag l x (kd x)))=U (.own (II (kT x))):=by
  intro x M G;have e:aI 1000 O [] (cW gf 1) (m7 m pA wA ag l x 1)=aI 1000 O [] (cW gf 7) (r l x 1 [] .un .un):=by cases l <;> kernel_rfl
  have I:aJ 1000 O [] (az gf 7) (r l x 1 [] .un .un)=U (.nxt (r l x 1 [.int 97] (.J (.int 97)) (.J (.tup [.str (S "valid"),TI []])))):=by
   refine dt (b:=forLoop (λp V=> aI 1000 O [] (bE (az gf 7)) (V.set 7 (.J p))) [.int 97] (r l x 1 [] .un .un)) (by kernel_rfl) ?_;rw[forLoop,gw l x 1 97 [] .un .un ((d 97 (by decide)).trans (by cases l <;> rfl)) rfl];rfl
  rw[M,G,e,st 7 I rfl];kernel_rfl
 rcases w with rfl |rfl |⟨rfl,rfl⟩
 ·exact o 65 (by kernel_rfl) (by kernel_rfl)
 ·exact o 9424 (by kernel_rfl) (by kernel_rfl)
 ·have e:aI 1000 O [] (cW gf 1) (m7 m pA wA ag ak 9332 (kd 9332))=aI 1000 O [] (cW gf 7) (r ak 9332 3 [] .un .un):=by kernel_rfl
  have I:aJ 1000 O [] (az gf 7) (r ak 9332 3 [] .un .un)=U (.nxt (r ak 9332 3 [.int 40,.int 49,.int 41] (.J (.int 41)) (.J (.tup [.str (S "valid"),TI []])))):=by
   refine dt (b:=forLoop (λp V=> aI 1000 O [] (bE (az gf 7)) (V.set 7 (.J p))) [.int 40,.int 49,.int 41] (r ak 9332 3 [] .un .un)) (by kernel_rfl) ?_;rw[forLoop,gw _ _ _ 40 [] .un .un (d 40 (by decide)) rfl];show forLoop _ _ _=_;rw[forLoop,gw _ _ _ 49 _ _ _ (d 49 (by decide)) rfl];show forLoop _ _ _=_;rw[forLoop,gw _ _ _ 41 _ _ _ (d 41 (by decide)) rfl];rfl
  rw[e,st 7 I rfl];kernel_rfl
theorem Ua(c:aj)(h:c∈sig)(l:au)(e:kd c=1∨kd c=3∧l=ak):c=65∨c=9424∨c=9332∧l=ak:=by
 have:=dm (f:=λc=> decide (c=65∨c=9424∨c=9332) ||!(kd c==1 ||kd c==3)) (g:=λL=> ag) (by kernel_rfl) c h;have q:=dm (f:=λc=> decide (c≠65∧c≠9424) ||kd c==1) (g:=λL=> ag) (by kernel_rfl) c h;have f:=dm (f:=λc=> decide (c≠9332) ||kd c==3) (g:=λL=> ag) (l:=sig) (by kernel_rfl) c h;simp only[jf,fQ,hV,sW,kY,eT]at this q f;rcases e with e |⟨e,rfl⟩
 ·rcases this with h |h
  ·rcases h with h |h |h
   ·exact .inl h
   ·exact .inr (.inl h)
   ·rcases f with f |f
    ·exact bf h f
    ·rw[e]at f;cases f
  ·exact bf e h.1
 ·rcases this with h |h
  ·rcases h with h |h |h
   ·exact .inl h
   ·exact .inr (.inl h)
   ·exact .inr (.inr ⟨h,rfl⟩)
  ·exact bf e h.2
theorem zv(c:aj)(h:c∈sig)(t l:au):(aA m pA wA (k+5)).call (.ref 430) [.int c,dP m pA wA,.bool t,.bool l]=U (kC t l c):=by
 refine cx gf [] (Vh m pA wA t l c) (dX (τ:=m7 m pA wA t l c (kd c)) (bD (uR c h l) (by kernel_rfl) (by rw[G3 c h];kernel_rfl)) ?_) (by kernel_rfl);by_cases e:t=ag∧(kd c=1∨kd c=3∧l=ak)
 ·obtain⟨rfl,e⟩:=e
  have:jC ag l c=ag:=by
   rcases e with e |⟨e,rfl⟩ <;> simp[jC,e]
  rw[kC,this];exact Vn l c (λc w=> uR c w l) (Ua c h l e)
 ·have:jC t l c=ak:=by
   cases t
   ·rfl
   ·cases l <;> simp_all [jC]
  rw[kC,this];have:=Vm (m:=m) (pA:=pA) (wA:=wA) (aA m pA wA (k+4)) c t l (kd c) (m2 c h) (λq=> by
   cases t
   ·rfl
   ·exact bf ⟨rfl,q⟩ e)
  rw[this];show _=U (Ap (mp t l c));rw[mp,G3 c h]
theorem lU{c:aa Slot->aq (au×aa Slot)}{f:aa Slot->aq Out}{a b:aa Slot}{o:aq Out}(w:c V=U (ag,a))(t:f a=U (.nxt b))(k:whileLoop c f n b=o):whileLoop c f (n+1) V=o:=by
 exact aU w (aU t k)
theorem KP{c:aa Slot->aq (au×aa Slot)}{f:aa Slot->aq Out}{a b:aa Slot}(w:c V=U (ag,a))(t:f a=U (.ret r b)):whileLoop c f (n+1) V=U (.ret r b):=by
 exact aU w (aU t rfl)
theorem om{c:aa Slot->aq (au×aa Slot)}{f:aa Slot->aq Out}{a:aa Slot}(w:c V=U (ak,a)):whileLoop c f (n+1) V=U (.nxt a):=by
 exact aU w rfl
theorem lj{E:Type}{f:PV->aa Slot->aq Out}(S:aa aj->E->aa Slot)(H:aa aj)(gw:∀K z Q e,H=K++z::Q->∃X,f (.int z) (S K e)=U (.nxt (S (K++[z]) X)))(e:E):
  ∃X,forLoop f (H.map .int) (S [] e)=U (.nxt (S H X)):=by
 have c:∀(Q K:aa aj) (e:E),H=K++Q->∃X,forLoop f (Q.map .int) (S K e)=U (.nxt (S H X)):=by
  intro Q
  induction Q with
  |nil=> intro K e h;rw[fu]at h;exact⟨e,by rw[h];rfl⟩
  |cons z Q D=>
   intro K e h;obtain⟨n,M⟩:=gw K z Q e h;obtain⟨j,G⟩:=D (K++[z]) n (by rw[h,bU];rfl);refine⟨j,?_⟩;exact aU M G
 exact c H [] e rfl
theorem Sa:∀c∈sig,(aA m pA wA (k+2)).call (.ref 115) [.int c]=U (.J .none):=dm (by kernel_rfl)
theorem R3(c:aj)(h:c∈sig)(b:au):(aA m pA wA (k+4)).call (.ref 129) [.int c,dP m pA wA,.bool b]=U (.J .none):=
 cx mK [] [.J (.int c),.J (dP m pA wA),.J (.bool b),.un,.un] (dX (τ:=[.J (.int c),.J (dP m pA wA),.J (.bool b),.J .none,.un]) (bD (Sa c h) (by kernel_rfl) (by kernel_rfl))
  (by
    rw[show aI 1000 (aA m pA wA (k+3)) [] (cW mK 1) [.J (.int c),.J (dP m pA wA),.J (.bool b),.J .none,.un]=aI 1000 (aA m pA wA (k+3)) [] (cW mK 2) [.J (.int c),.J (dP m pA wA),.J (.bool b),.J .none,.un]from by kernel_rfl];rw[st (c:=mK) (τ:=[.J (.int c),.J (dP m pA wA),.J (.bool b),.J .none,.J .none]) 2 (bD (SN c) (by kernel_rfl) (by kernel_rfl)) rfl];kernel_rfl)) (by kernel_rfl)
theorem FQ(c:aj)(h:c∈sig)(b:au):(aA m pA wA (k+5)).call (.ref 136) [.int c,dP m pA wA,.bool b]=U (.own (II [c])):=by
 refine cx jx [] ([.J (.int c),.J (dP m pA wA),.J (.bool b)]++de 6 .un) (fX ?_) (by kernel_rfl)
 let s:PV->PV->Slot->Slot->Slot->aa Slot:=λf w o x y=> [.J (.int c),.J (dP m pA wA),.J (.bool b),.own f,.own w,o,x,y,.un]
 have d:aJ 1000 (aA m pA wA (k+4)) [] (az jx 2) (s (.list []) (II [c]) (.own (.list [])) .un .un)=U (.nxt (s (II [c]) (.list []) (.own (.list [])) (.J (.int c)) (.J .none))):=by
  let cond:CE:=jO (az jx 2)
  let C:=bE (az jx 2)
  refine dt (b:=whileLoop (eW (aA m pA wA (k+4)) [] cond) (λV=> aI 1000 (aA m pA wA (k+4)) [] C V) 1000 (s (.list []) (II [c]) (.own (.list [])) .un .un)) (by kernel_rfl) ?_;refine lU (n:=999) (a:=s (.list []) (II [c]) (.own (.list [])) .un .un) (b:=s (II [c]) (.list []) (.own (.list [])) (.J (.int c)) (.J .none)) (by kernel_rfl) ?_ (om (n:=998) (by kernel_rfl));show aI 1000 (aA m pA wA (k+4)) [] (cW C 0) _=_;rw[st (c:=C) (τ:=s (.list []) (.list []) (.own (.list [])) (.J (.int c)) .un) 0 (by kernel_rfl) rfl,st (c:=C) (τ:=s (.list []) (.list []) (.own (.list [])) (.J (.int c)) .un) 1 (by kernel_rfl) rfl,
   st (c:=C) (τ:=s (.list []) (.list []) (.own (.list [])) (.J (.int c)) (.J .none)) 2 (bD (R3 c h b) (by kernel_rfl) (by kernel_rfl)) rfl]
  kernel_rfl
 rw[show aI 1000 (aA m pA wA (k+4)) [] jx ([.J (.int c),.J (dP m pA wA),.J (.bool b)]++de 6 .un)=aI 1000 (aA m pA wA (k+4)) [] (cW jx 2) (s (.list []) (II [c]) (.own (.list [])) .un .un)from by kernel_rfl,st (c:=jx) 2 d rfl];kernel_rfl
theorem F5:(aA m pA wA (k+1)).call (.ref 148) [.list []]=U (.own (.list [])):=by kernel_rfl
noncomputable def oS(k:PV)(t:PV)(L:aa PV)(a b:Slot):aa Slot:=[.J t,.J k,.own (.list L),.own (.list []),a,b]
theorem R8(H:aa aj)(Z:H.length < 1000):(aA m pA wA (k+4)).call (.ref 143) [II H,dP m pA wA]=U (.own (II H)):=by
 have u:∀(c:aj) (L:aa PV) (a b:Slot),L.length < 1000->aI 1000 (aA m pA wA (k+3)) [] (bE (az ip 1)) ((oS (dP m pA wA) (II H) L a b).set 4 (.J (.int c)))=U (.nxt (oS (dP m pA wA) (II H) (L++[.int c]) (.J (.int c)) (.J (.int 0)))):=λc L a b D=> by
  have x:aY (L.length+0)=ag:=bX (by exact bh (by assumption) (by decide));have M:aY L.length=ag:=bX (by exact bh (by assumption) (by decide));refine st (c:=bE (az ip 1)) (τ:=oS (dP m pA wA) (II H) L (.J (.int c)) (.J (.int 0))) 0 (bD (zE c) (by kernel_rfl) (by kernel_rfl)) ?_
  let d:CB:=GZ (az (bE (az ip 1)) 1)
  have e:aJ 1000 (aA m pA wA (k+3)) [] (az (bE (az ip 1)) 1) (oS (dP m pA wA) (II H) L (.J (.int c)) (.J (.int 0)))=aI 1000 (aA m pA wA (k+3)) [] (cW d 0) (oS (dP m pA wA) (II H) L (.J (.int c)) (.J (.int 0))):=by kernel_rfl
  refine st (c:=bE (az ip 1)) 1 (e.trans ?_) rfl;refine st (c:=d) (τ:=[.J (II H),.J (dP m pA wA),.own (.list (L++[])),.J (.list []),.J (.int c),.J (.int 0)]) 0 (bD (F5 (k:=k+2)) (by kernel_rfl) (ll x (by kernel_rfl))) ?_;rw[fu];exact st (c:=d) (τ:=[.J (II H),.J (dP m pA wA),.own (.list (L++[.int c])),.J (.list []),.J (.int c),.J (.int 0)]) 1 (ll M (by kernel_rfl)) (by kernel_rfl)
 obtain⟨⟨a,b⟩,M⟩:=lj (f:=λp V=> aI 1000 (aA m pA wA (k+3)) [] (bE (az ip 1)) (V.set 4 (.J p))) (λK (e:Slot×Slot)=> oS (dP m pA wA) (II H) (K.map .int) e.1 e.2) H (λK z Q e h=> ⟨(_,_),(by
  rw[bj];exact u z _ e.1 e.2 (by rw[h,da,dz]at Z;rw[bx];lia))⟩) (.un,.un)
 refine cx ip [] ([.J (II H),.J (dP m pA wA)]++de 4 .un) ?_ (by kernel_rfl);refine dX (τ:=oS (dP m pA wA) (II H) [] .un .un) (by kernel_rfl) ?_;rw[st (c:=ip) (τ:=oS (dP m pA wA) (II H) (H.map .int) a b) 1 (dt (by kernel_rfl) M) rfl];have x:aY ((H.map PV.int).length+0)=ag:=bX (by rw[bx];exact bh (by assumption) (by decide));rw[st (c:=ip) (τ:=[.J (II H),.J (dP m pA wA),.own (.list (H.map .int++[])),.J (.list []),a,b]) 2 (bD (F5 (k:=k+2)) (by kernel_rfl) (ll x (by kernel_rfl))) rfl,fu];kernel_rfl
theorem RQ(H:aa aj)(T:∀c∈H,c∈sig)(Z:H.length < 1000)(b:au):(aA m pA wA (k+6)).call (.ref 156) [II H,dP m pA wA,.bool b]=U (.J (II H)):=by
 let s:aa PV->Slot->aa Slot:=λL a=> [.J (II H),.J (dP m pA wA),.J (.bool b),.own (.list L),a]
 obtain⟨a,M⟩:=lj (f:=λp V=> aI 1000 (aA m pA wA (k+5)) [] (bE (az ur 1)) (V.set 4 (.J p))) (λK (e:Slot)=> s (K.map .int) e) H (λK z Q e h=> ⟨.J (.int z),(by
  rw[bj];have B:=T z (by rw[h];simp);have x:aY ((K.map PV.int).length+1)=ag:=bX (by rw[h,da,dz]at Z;rw[bx];lia);exact st 0 (bD (FQ z B b) (by kernel_rfl) (ll x (by kernel_rfl))) rfl)⟩) .un
 refine cx ur [] (s [] .un |>.set 3 .un) (dX (τ:=s [] .un) (by kernel_rfl) ?_) (by kernel_rfl);rw[st 1 (dt (by kernel_rfl) M) rfl];rw[cL (τ:=(s (H.map .int) a).set 3 (.J (II H))) 2 (bD (R8 (k:=k+1) H Z) (by kernel_rfl) (by kernel_rfl))];rfl
theorem Sf:(aA m pA wA (k+3)).call (.ref 620) [gj]=U (.J (.list [])):=by kernel_rfl
theorem Sb:(aA m pA wA (k+4)).call (.ref 163) [dP m pA wA]=U (.own (.aW [] [])):=by
 refine cx mQ [] ([.J (dP m pA wA)]++de 5 .un) (dX (τ:=[.J (dP m pA wA),.own (.aW [] []),.un,.un,.un,.un]) (by kernel_rfl) ?_) (by kernel_rfl);have e:aJ 1000 (aA m pA wA (k+3)) [] (az mQ 1) [.J (dP m pA wA),.own (.aW [] []),.un,.un,.un,.un]=U (.nxt [.J (dP m pA wA),.own (.aW [] []),.un,.un,.un,.un]):=by
  let it:CE:=match az mQ 1 with | .forT _ (.meth o _ _) _=> o |_=> .bad
  have M:ev (aA m pA wA (k+3)) [] [.J (dP m pA wA),.own (.aW [] []),.un,.un,.un,.un] (.meth (.var 0) (S "map_of") (.cons (.lit (.str (S "dm"))) .nil))=U (.J gj):=
   mz (by kernel_rfl) (c6 (p:=.J (.str (S "dm"))) (by kernel_rfl)) (by kernel_rfl) ((show ha (aA m pA wA (k+3)) (.J (dP m pA wA)) (S "map_of") [.str (S "dm")]=(aA m pA wA (k+3)).call (.ref 683) [dP m pA wA,.str (S "dm")]from by kernel_rfl).trans SQ)
  have G:=mz M DO (by kernel_rfl) ((show ha (aA m pA wA (k+3)) (.J gj) (S "ranges") []=(aA m pA wA (k+3)).call (.ref 620) [gj]from by kernel_rfl).trans Sf);exact aU G rfl
 rw[st (c:=mQ) (τ:=[.J (dP m pA wA),.own (.aW [] []),.un,.un,.un,.un]) 1 e rfl];kernel_rfl
def et:PV:=.inst 201 [S "pairs",S "seconds"] [.aW [] [],.aW [] []]
theorem FP:(aA m pA wA (k+5)).call (.ref 201) [dP m pA wA]=U (.J et):=by
 have e:(aA m pA wA (k+5)).call (.ref 201) [dP m pA wA]=qq 1000 (K1 ((aA m pA wA (k+4)).call (.ref 163) [dP m pA wA])) ⟨184,2,[],2,yR⟩ 201 [dP m pA wA]:=by kernel_rfl
 rw[e,Sb];kernel_rfl
theorem RX(c:aj):∀d∈sig,(aA m pA wA (k+2)).call (.ref 122) [.int d,.int c]=U (.J .none):=dm (by kernel_rfl)
theorem R9(d c:aj)(h:d∈sig):(aA m pA wA (k+3)).call (.ref 191) [et,.int d,.int c]=U (.J .none):=
 cx yS [] [.J et,.J (.int d),.J (.int c),.un] (dX (τ:=[.J et,.J (.int d),.J (.int c),.J .none]) (bD (RX c d h) (by kernel_rfl) (by kernel_rfl)) (by kernel_rfl)) (by kernel_rfl)
def cS(k:PV)(t:PV)(K:aa aj)(e:Slot×Slot×Slot):aa Slot:=[.J t,.J k,.J et,.own (II K),.J (.int (match K.length with |0=> -1 |n+1=> ar n)),.J (.int (-1)),e.1,e.2.1,e.2.2]
theorem Ph(t:PV)(K:aa aj)(z:aj)(e:Slot×Slot×Slot)(E:∀c∈K,c∈sig)(Z:K.length < 1000):
  ∃X,aI 1000 (aA m pA wA (k+3)) [] (bE (az ki 2)) ((cS (dP m pA wA) t K e).set 6 (.J (.int z)))=U (.nxt (cS (dP m pA wA) t (K++[z]) X)):=by
 let C:=bE (az ki 2)
 have x:aJ 1000 (aA m pA wA (k+3)) [] (az C 0) ((cS (dP m pA wA) t K e).set 6 (.J (.int z)))=U (.nxt (cS (dP m pA wA) t K (.J (.int z),.J (.int 0),e.2.2))):=bD (zE z) (by kernel_rfl) (by kernel_rfl);have M:∃y,aJ 1000 (aA m pA wA (k+3)) [] (az C 1) (cS (dP m pA wA) t K (.J (.int z),.J (.int 0),e.2.2))=U (.nxt (cS (dP m pA wA) t K (.J (.int z),.J (.int 0),y))):=by
  rcases List.eq_nil_or_concat K with rfl |⟨us,d,rfl⟩
  ·exact⟨e.2.2,by kernel_rfl⟩
  ·rw[List.concat_eq_append]at E Z⊢
   refine⟨.J .none,?_⟩;have I:(us++[d]).length=us.length+1:=by simp
   have g:aY ((us++[d]).map PV.int).length=ag:=bX (by rw[bx];lia)
   let V:aa Slot:=[.J t,.J (dP m pA wA),.J et,.own (II (us++[d])),.J (.int (ar us.length)),.J (.int (-1)),.J (.int z),.J (.int 0),e.2.2]
   have a:cS (dP m pA wA) t (us++[d]) (.J (.int z),.J (.int 0),e.2.2)=V:=by unfold cS;rw[I]
   have b:cS (dP m pA wA) t (us++[d]) (.J (.int z),.J (.int 0),.J .none)=V.set 8 (.J .none):=by unfold cS;rw[I];rfl
   rw[a,b];have Y:ev (aA m pA wA (k+3)) [] V (.var 3)=U (.bor (II (us++[d]))):=by kernel_rfl
   have W:ev (aA m pA wA (k+3)) [] V (.call (.glb (S "len") (.fn (.builtin "len"))) (.cons (.var 3) .nil))=U (.J (.int ((us++[d]).map PV.int).length)):=j6 (c6 Y) (by show(g9 (II (us++[d]))).map _=_;rw[show g9 (II (us++[d]))=U (((us++[d]).map PV.int).length:aj)from ct g];rfl);have P:ev (aA m pA wA (k+3)) [] V (zQ (az C 1))=U (.J (.bool ag)):=
    t6 (by kernel_rfl) (DL (eI (p:=.J (.int (ar us.length))) (q:=.J (.int (((us++[d]).map PV.int).length - 1))) (x:=ht (.int (ar us.length)) (.int (((us++[d]).map PV.int).length - 1))) (by kernel_rfl) (cQ W (q:=.J (.int 1)) (by kernel_rfl) (by kernel_rfl)) (by kernel_rfl)) λL=> by kernel_rfl)
   have v:ev (aA m pA wA (k+3)) [] V (.idx (.var 3) (.var 4))=U (.J (.int d)):=hy Y (q:=.J (.int (ar us.length))) (by kernel_rfl) (by
    refine(u7 (H:=(us++[d]).map PV.int) (i:=ar us.length)).trans ?_;have O:cb (ar us.length)=ag:=by simp only[cb,cP,fQ];rw[I]at Z;constructor <;> (show _ < _;simp only[Cd];lia)
    unfold iW gd;rw[O,g];simp)
   have f:ev (aA m pA wA (k+3)) [] V (.meth (.var 2) (S "pair") (.cons (.idx (.var 3) (.var 4)) (.cons (.var 6) .nil)))=U (.J .none):=
    mz (p:=.J et) (by kernel_rfl) (dT v (q:=.J (.int z)) (by kernel_rfl)) (ps:=[.int d,.int z]) (by kernel_rfl) ((show ha (aA m pA wA (k+3)) (.J et) (S "pair") [.int d,.int z]=(aA m pA wA (k+3)).call (.ref 191) [et,.int d,.int z]from by kernel_rfl).trans (R9 (k:=k) d z (E d (by simp))))
   let A:CB:=dH (az C 1)
   refine cN (x:=ag) (A:=A) (B:=.nil) (e':=V) (by kernel_rfl) P ?_;refine st (c:=A) (τ:=V.set 8 (.J .none)) 0 (c7 (e':=V) (by kernel_rfl) f (sl:=.J .none) (by kernel_rfl) (by kernel_rfl) rfl) ?_;kernel_rfl
 obtain⟨y,M⟩:=M;have g:aY (K.map PV.int).length=ag:=bX (by rw[bx];exact fI Z (by lia));refine⟨(.J (.int z),.J (.int 0),y),?_⟩;refine st (c:=C) 0 x (st (c:=C) 1 M ?_);have G:aJ 1000 (aA m pA wA (k+3)) [] (az C 2) (cS (dP m pA wA) t K (.J (.int z),.J (.int 0),y))=U (.nxt ((cS (dP m pA wA) t K (.J (.int z),.J (.int 0),y)).set 4 (.J (.int ((K.map PV.int).length))))):=by
  let B:CB:=dH (az C 2)
  refine dt (b:=aI 1000 (aA m pA wA (k+3)) [] (cW B 0) (cS (dP m pA wA) t K (.J (.int z),.J (.int 0),y))) (by kernel_rfl) ?_;have T:aJ 1000 (aA m pA wA (k+3)) [] (az B 0) (cS (dP m pA wA) t K (.J (.int z),.J (.int 0),y))=((g9 (II K)).map λn=> RV.J (.int n)).bind λr=> U (Out.nxt ((cS (dP m pA wA) t K (.J (.int z),.J (.int 0),y)).set 4 (.J r.read))):=by
   rw[show g9 (II K)=U ((K.map PV.int).length:aj)from ct g];have W:ev (aA m pA wA (k+3)) [] (cS (dP m pA wA) t K (.J (.int z),.J (.int 0),y)) (.call (.glb (S "len") (.fn (.builtin "len"))) (.cons (.var 3) .nil))=U (.J (.int (K.map PV.int).length)):=j6 (c6 (p:=.bor (II K)) (by kernel_rfl)) (by show(g9 (II K)).map _=_;rw[show g9 (II K)=U ((K.map PV.int).length:aj)from ct g];rfl);show aJ _ _ _ (.asgD [4,5] (.cons _ (.cons (.una .USub (.lit (.int 1))) .nil))) _=_;have H:bg (eF (.cons (.call (.glb (S "len") (.fn (.builtin "len"))) (.cons (.var 3) .nil)) (.cons (.una .USub (.lit (.int 1))) .nil))) (cS (dP m pA wA) t K (.J (.int z),.J (.int 0),y))=cS (dP m pA wA) t K (.J (.int z),.J (.int 0),y):=by kernel_rfl
   exact DV H (dT W (q:=.J (.int (-1))) (by kernel_rfl)) rfl rfl rfl
  rw[st (c:=B) 0 (T.trans (by rw[show g9 (II K)=U ((K.map PV.int).length:aj)from ct g];rfl)) rfl];rfl
 refine st (c:=C) 2 G ?_;refine st (c:=C) (τ:=cS (dP m pA wA) t (K++[z]) (.J (.int z),.J (.int 0),y)) 3 (ll g ?_) rfl;have I:(K++[z]).length=K.length+1:=by simp
 have O:((K.map PV.int).length:aj)=ar K.length:=by rw[bx];rfl
 unfold cS;rw[I,O,show II (K++[z])=.list (K.map PV.int++[.int z])from by rw[II,bj];rfl];kernel_rfl
theorem Pm(H:aa aj)(T:∀c∈H,c∈sig)(Z:H.length < 1000):ez 1000 (aA m pA wA (k+3)) [] (cW ki 1) [.J (II H),.J (dP m pA wA),.J et,.un,.un,.un,.un,.un,.un]=U (.own (II H)):=by
 obtain⟨e,M⟩:=lj (f:=λp V=> aI 1000 (aA m pA wA (k+3)) [] (bE (az ki 2)) (V.set 6 (.J p))) (λK e=> cS (dP m pA wA) (II H) K e) H (λK z Q e h=> by
  obtain⟨X,N⟩:=Ph (II H) K z e (λc w=> T c (by rw[h];simp[w])) (by rw[h,da,dz]at Z;lia);exact⟨X,N⟩) (.un,.un,.un)
 refine fX ?_;refine(aZ cj (st (τ:=cS (dP m pA wA) (II H) [] (.un,.un,.un)) 1 (by kernel_rfl) (st 2 (dt (by kernel_rfl) M) rfl))).trans (by kernel_rfl)
theorem RO(H:aa aj)(T:∀c∈H,c∈sig)(Z:H.length < 1000)(q:PV)(I:q=.none∨q=et):(aA m pA wA (k+6)).call (.ref 213) [II H,dP m pA wA,q]=U (.own (II H)):=by
 refine cx ki [] [.J (II H),.J (dP m pA wA),.J q,.un,.un,.un,.un,.un,.un] ?_ (by kernel_rfl);have f:=Pm (m:=m) (pA:=pA) (wA:=wA) (k:=k+2) H T Z;have x:aJ 1000 (aA m pA wA (k+5)) [] (az ki 0) [.J (II H),.J (dP m pA wA),.J q,.un,.un,.un,.un,.un,.un]=U (.nxt [.J (II H),.J (dP m pA wA),.J et,.un,.un,.un,.un,.un,.un]):=by
  rcases I with rfl |rfl
  ·exact bD FP (by kernel_rfl) (by kernel_rfl)
  ·kernel_rfl
 rw[← f];exact aZ (λo=> match o with |U (.ret r _)=> U r |U (.nxt _)=> U (.J .none) |_=> ah) (st 0 x rfl)
theorem FT(H:aa aj)(T:∀c∈H,c∈sig)(Z:H.length < 1000)(q:PV)(I:q=.none∨q=et):ez 1000 (aA m pA wA (k+6)) [] k9 [.J (II H),.J (dP m pA wA),.J (.str (S "nfc")),.J q,.un]=U (.J (II H)):=
 dX (τ:=[.J (II H),.J (dP m pA wA),.J (.str (S "nfc")),.J q,.J (II H)]) (bD (RQ H T Z ak) (by kernel_rfl) (by kernel_rfl)) (by
  rw[cL (τ:=[.J (II H),.J (dP m pA wA),.J (.str (S "nfc")),.J q,.J (II H)]) 1 (bD (RO H T Z q I) (by kernel_rfl) (by kernel_rfl))];rfl)
theorem RU(H:aa aj)(T:∀c∈H,c∈sig)(Z:H.length < 1000):(aA m pA wA (k+7)).call (.ref 221) [II H,dP m pA wA,.str (S "nfc")]=U (.J (II H)):=
 cx k9 [] _ (FT H T Z .none (.inl rfl)) (by kernel_rfl)
theorem RW(H:aa aj)(T:∀c∈H,c∈sig)(Z:H.length < 1000):(aA m pA wA (k+7)).call (.ref 221) [II H,dP m pA wA,.str (S "nfc"),et]=U (.J (II H)):=
 cx k9 [] _ (FT H T Z et (.inr rfl)) (by kernel_rfl)
theorem R4(H:aa aj)(T:∀c∈H,c∈sig)(Z:H.length < 1000):(aA m pA wA (k+8)).call (.ref 228) [II H,dP m pA wA]=U (.J (II H)):=
 cx yV [] [.J (II H),.J (dP m pA wA)] (DT (RU H T Z) (by kernel_rfl) (by kernel_rfl)) (by kernel_rfl)
theorem Sh:∀c∈sig,(aA m pA wA (k+1)).call (.ref 198) [et,.int c]=U (.J (.bool ak)):=dm (by kernel_rfl)
theorem zq:∀c∈sig,ey (II [c]) (II [c])=U ag:=dm (by kernel_rfl)
theorem Se(c:aj)(h:c∈sig):(aA m pA wA (k+8)).call (.ref 235) [.int c,dP m pA wA,.str (S "nfc"),et]=U (.J (.str (S "yes"))):=by
 let V:Slot->aa Slot:=λa=> [.J (.int c),.J (dP m pA wA),.J (.str (S "nfc")),.J et,a]
 refine cx hC [] (V .un) (dX (τ:=V .un) ?_ ?_) (by kernel_rfl)
 ·refine bD (RW [c] (by simpa using h) (by simp)) (by kernel_rfl) ?_
  have e:aJ 1000 (K1 (U (.J (II [c])))) [] (az hC 0) (V .un)=(match (match (ey (II [c]) (II [c])).map (!·)with |some b=> U (RV.J (.bool b)) |none=> ah)with
   |some r=> match truthy r.read with
    |some ag=> U (.ret (.J (.str (S "no"))) (V .un))
    |some ak=> U (.nxt (V .un))
    |none=> ah
   |none=> ah):=by
   refine dt (b:=match eW (K1 (U (.J (II [c])))) [] (zQ (az hC 0)) (V .un)with |U (ag,V)=> aI 1000 (K1 (U (.J (II [c])))) [] (dH (az hC 0)) V |U (ak,V)=> aI 1000 (K1 (U (.J (II [c])))) [] .nil V |none=> ah) (by kernel_rfl) ?_;have I:eE .NotEq (II [c]) (II [c])=U ak:=(show eE .NotEq (II [c]) (II [c])=(ey (II [c]) (II [c])).map (!·)from by kernel_rfl).trans (by rw[zq c h];rfl);have G:eW (K1 (U (.J (II [c])))) [] (zQ (az hC 0)) (V .un)=U (ak,V .un):=by
    have:=eI (O:=K1 (U (.J (II [c])))) (c':=[]) (V:=V .un) (w:=.NotEq) (a:=match az hC 0 with | .ite (.cmp a _) _ _=> a |_=> .bad) (b:=.lst (.cons (.var 0) .nil)) (p:=.J (II [c])) (q:=.own (II [c])) (by kernel_rfl) (by kernel_rfl) I;show(match ev (K1 (U (.J (II [c])))) [] (V .un) (.cmp (match az hC 0 with | .ite (.cmp a _) _ _=> a |_=> .bad) (.one .NotEq (.lst (.cons (.var 0) .nil))))with
     |some r=> match truthy r.read with |some b=> U (b,V .un) |none=> ah
     |none=> ah)=_
    rw[this];rfl
   rw[G,zq c h];rfl
  rw[e,zq c h];rfl
 ·rw[st (c:=hC) (τ:=V .un) 1 (by kernel_rfl) rfl,st (c:=hC) (τ:=V (.J (.int c))) 2 (bD (FQ (k:=k+2) c h ak) (by kernel_rfl) (by kernel_rfl)) rfl,
   cL (c:=hC) (v:=.J (.str (S "yes"))) (τ:=V (.J (.int c))) 3 (bD (Sh (k:=k+6) c h) (by kernel_rfl) (by kernel_rfl))]
  rfl
theorem Sd(H:aa aj)(T:∀c∈H,c∈sig):(aA m pA wA (k+9)).call (.ref 243) [II H,dP m pA wA,.str (S "nfc"),et]=U (.J (.str (S "yes"))):=by
 let s:Slot×Slot×Slot->aa Slot:=λe=> [.J (II H),.J (dP m pA wA),.J (.str (S "nfc")),.J et,.J (.str (S "yes")),.J (.int 0),e.1,e.2.1,e.2.2]
 let C:=bE (az mT 2)
 obtain⟨e,M⟩:=lj (f:=λp V=> aI 1000 (aA m pA wA (k+8)) [] C (V.set 6 (.J p))) (λL e=> s e) H (λK z Q e h=> ⟨(.J (.int z),.J (.int 0),.J (.str (S "yes"))),(by
  refine st (τ:=s (.J (.int z),.J (.int 0),e.2.2)) 0 (bD (zE z) (by kernel_rfl) (by kernel_rfl)) ?_;refine st (τ:=s (.J (.int z),.J (.int 0),.J (.str (S "yes")))) 1 (bD (Se z (T z (by rw[h];simp))) (by kernel_rfl) (by kernel_rfl)) ?_;kernel_rfl)⟩) (.un,.un,.un)
 refine cx mT [] [.J (II H),.J (dP m pA wA),.J (.str (S "nfc")),.J et,.un,.un,.un,.un,.un] (fX ?_) (by kernel_rfl);refine(aZ cj (st (τ:=[.J (II H),.J (dP m pA wA),.J (.str (S "nfc")),.J et,.un,.un,.un,.un,.un]) 0 (by kernel_rfl) (st (c:=mT) (τ:=s (.un,.un,.un)) 1 (by kernel_rfl) (st (c:=mT) 2 (dt (by kernel_rfl) M) rfl)))).trans (by kernel_rfl)
theorem RZ(H:aa aj)(T:∀c∈H,c∈sig):(aA m pA wA (k+10)).call (.ref 251) [II H,dP m pA wA,.str (S "nfc")]=U (.J (.bool ag)):=by
 let s:PV->Slot->aa Slot:=λq a=> [.J (II H),.J (dP m pA wA),.J (.str (S "nfc")),.J q,a]
 refine cx yU [] (s .none .un) (dX (τ:=s et .un) (bD (FP) (by kernel_rfl) (by kernel_rfl)) ?_) (by kernel_rfl);rw[st (τ:=s et (.J (.str (S "yes")))) 1 (bD (Sd H T) (by kernel_rfl) (by kernel_rfl)) rfl];kernel_rfl
def Gd(n:ae)(p:PV):Prop:=∃d,dE (pd p=U d) (d.canLay0=ag) (d.depth≤n) (ht d d=ag)
theorem SR(n:ae)(i:aj):Gd n (.int i):=⟨.int i,rfl,by simp[oC],by simp[oD],by simp[ht]⟩
theorem qa(n:ae)(x:ao)(h:x4 x=ag):Gd n (.str x):=⟨.str x,rfl,by simpa[oC]using h,by simp[oD],by simp[ht]⟩
theorem Gq(n:ae)(ps:aa PV):(∀p∈ps,Gd n p)->∃N,dE (jH ps=U N) (x2 N=ag) (CT N≤n) (x3 N N=ag):=by
 induction ps with
 |nil=> exact λL=> ⟨[],rfl,rfl,gp _,rfl⟩
 |cons p ps D=>
  intro h;obtain⟨d,M,G,j,B⟩:=h p (.head _);obtain⟨N,g1,R,I,i⟩:=D λq r=> h q (.tail _ r)
  exact⟨d::N,aU M (fW g1),by simp only[x2,G,R,Ca],by simp only[CT];exact Nat.max_le.mpr ⟨j,I⟩,by simp only[x3,B,i,Ca]⟩
theorem pZ(h:∀p∈ps,Gd n p):Gd (n+1) (.list ps):=by
 obtain⟨N,g1,R,I,i⟩:=Gq n ps h;exact⟨.list N,fW g1,by simpa only[oC]using R,by simp only[oD];(exact iL (by assumption)),by simpa only[ht]using i⟩
theorem SV(h:∀p∈ps,Gd n p):Gd (n+1) (.tup ps):=by
 obtain⟨N,g1,R,I,i⟩:=Gq n ps h;exact⟨.tuple N,fW g1,by simpa only[oC]using R,by simp only[oD];(exact iL (by assumption)),by simpa only[ht]using i⟩
theorem u2(n:ae)(H:aa aj):Gd (n+1) (II H):=pZ λp z=> by obtain⟨i,_,rfl⟩:=bz.mp z;exact SR n i
theorem YV{d:mh}(M:d.canLay0=ag)(G:d.depth≤64):hu d=ag:=by unfold hu;rw[M,KZ];exact cf G
theorem JJ(h:Gd 64 p):ey p p=U ag:=by
 obtain⟨d,M,G,j,B⟩:=h;exact aU M (aU M ((ct (by rw[YV G j];rfl)).trans (by rw[B])))
theorem JH(H:aa aj):jH (H.map .int)=U (H.map .int):=by
 induction H with
 |nil=> rfl
 |cons x r D=> exact aU (a:=.int x) rfl (fW D)
theorem RD(H:aa aj):∀K:aa aj,x3 (H.map .int) (K.map .int)=decide (H=K):=by
 induction H with
 |nil=> exact λK=> by cases K <;> rfl
 |cons x H D=>
  intro K;cases K with
  |nil=> rfl
  |cons y K=>
   simp only[dG,x3,ht,D K,Cg];exact(Bool.decide_and ..).symm
theorem n6(H K:aa aj):ey (II H) (II K)=U (decide (H=K)):=by
 have M:∀H:aa aj,pd (II H)=U (.list (H.map .int)):=λH=> fW (JH H)
 exact aU (M H) (aU (M K) ((ct (by simp only[PySem.W.ke_shaped_ints,Ca])).trans (by rw[ht,RD])))
def ba(t l:au)(H:aa aj):aa aj:=H.flatMap λc=> (mp t l c).getD [c]
def bad(t l:au)(H:aa aj):au:=H.any λc=> (mp t l c).isNone
def oj:PV:=.list [.str (S "disallowed")]
def cJ(b:au):PV:=bif b then oj else .list []
theorem uZ(t l:au)(H K:aa aj):ba t l (H++K)=ba t l H++ba t l K:=Ln
theorem ph(t l:au)(H K:aa aj):bad t l (H++K)=(bad t l H ||bad t l K):=List.any_append
theorem Aq:∀c∈sig,∀t l:au,(∀d∈(mp t l c).getD [c],d∈sig)∧((mp t l c).getD [c]).length≤3:=by
 intro c w t l;have:=dm (f:=λc=> ((mp t l c).getD [c]).all (λd=> sig.contains d) && c3 ((mp t l c).getD [c]).length 3) (g:=λL=> ag) (l:=sig) (by cases t <;> cases l <;> kernel_rfl) c w;simp only[cP,eh,ou]at this;exact⟨this.1,dg this.2⟩
theorem zy{t l:au}{H:aa aj}(h:∀c∈H,c∈sig):∀c∈ba t l H,c∈sig:=λc w=> by
 obtain⟨d,u,w⟩:=Co.mp w;exact(Aq d (h d u) t l).1 c w
theorem mW{t l:au}{H:aa aj}:(∀c∈H,c∈sig)->(ba t l H).length≤3 * H.length:=by
 induction H with
 |nil=> exact λL=> dh _
 |cons x H D=>
  intro h;have M:=(Aq x (h x (.head _)) t l).2;have G:=D λc w=> h c (.tail _ w)
  have e:ba t l (x::H)=(mp t l x).getD [x]++ba t l H:=rfl;rw[e,da,dz];exact bK (oy M G) (l9 (f7 _ _))
theorem VB{t l:au}{c:aj}{H:aa aj}(h:mp t l c=U H):kC t l c=.J (II H)∨kC t l c=.own (II H):=by
 unfold kC;cases e:jC t l c with
 |false=> left;rw[h];rfl
 |true=>
  right;have:mp t l c=U (kT c):=by
   simp only[jC,cP,jf,eT,hV]at e;obtain⟨rfl,e |⟨e,rfl⟩⟩:=e <;> simp[mp,e]
  rw[h]at this;cases this;rfl
theorem VA{t l:au}{c:aj}(h:mp t l c=ah):kC t l c=.J .none:=by
 unfold kC;cases e:jC t l c with
 |false=> rw[h];rfl
 |true=>
  simp only[jC,cP,jf,eT,hV]at e;obtain⟨rfl,e |⟨e,rfl⟩⟩:=e <;> simp[mp,e]at h
theorem F0(H:aa aj)(T:∀c∈H,c∈sig)(Z:H.length < 300)(t l:au):(aA m pA wA (k+9)).call (.ref 438) [II H,dP m pA wA,.bool t,.bool l]=U (.J (.tup [II (ba t l H),cJ (bad t l H)])):=by
 let s:aa aj->Slot×Slot->aa Slot:=λK e=> [.J (II H),.J (dP m pA wA),.J (.bool t),.J (.bool l),.own (II (ba t l K)),.own (cJ (bad t l K)),e.1,e.2]
 let C:=bE (az la 1)
 have S:∀(K:aa aj) (z:aj) (e:Slot×Slot),z∈sig->(ba t l K).length < 1000->∃X,aI 1000 (aA m pA wA (k+8)) [] C ((s K e).set 6 (.J (.int z)))=U (.nxt (s (K++[z]) X)):=by
  intro K z e B I;have b1:bad t l (K++[z])=(bad t l K ||(mp t l z).isNone):=by rw[ph];simp[bad]
  have b2:ba t l (K++[z])=ba t l K++(mp t l z).getD [z]:=by rw[uZ];simp[ba]
  have b3:=(Aq z B t l).2;have g:aY (((ba t l K).map PV.int).length+(((mp t l z).getD [z]).map PV.int).length)=ag:=bX (by rw[bx,bx];exact fI (Cs (by assumption) (by assumption)) (by decide));cases h:mp t l z with
  |some us=>
   rw[h]at b1 b2 g;have hb:bad t l (K++[z])=bad t l K:=by rw[b1];simp
   rcases VB h with a |a
   ·refine⟨(.J (.int z),.J (II us)),?_⟩
    refine st (c:=C) (τ:=s K (.J (.int z),.J (II us))) 0 (bD (zv (k:=k+3) z B t l) (by kernel_rfl) (by rw[a];kernel_rfl)) (st (c:=C) (τ:=s K (.J (.int z),.J (II us))) 1 (by kernel_rfl) (st (c:=C) 2 (o9 (e':=s K (.J (.int z),.J (II us))) (H:=(ba t l K).map .int) (K:=us.map .int) (by kernel_rfl) (by kernel_rfl) (r:=.J (II us)) (by kernel_rfl) rfl g ?_) rfl));simp only[s,hb,b2,xI,II,bj];rfl
   ·refine⟨(.J (.int z),.own (II us)),?_⟩
    refine st (c:=C) (τ:=s K (.J (.int z),.own (II us))) 0 (bD (zv (k:=k+3) z B t l) (by kernel_rfl) (by rw[a];kernel_rfl)) (st (c:=C) (τ:=s K (.J (.int z),.own (II us))) 1 (by kernel_rfl) (st (c:=C) 2 (o9 (e':=s K (.J (.int z),.own (II us))) (H:=(ba t l K).map .int) (K:=us.map .int) (by kernel_rfl) (by kernel_rfl) (r:=.bor (II us)) (by kernel_rfl) rfl g ?_) rfl));simp only[s,hb,b2,xI,II,bj];rfl
  |none=>
   rw[h]at b1 b2 g;have hb:bad t l (K++[z])=ag:=by rw[b1];simp
   refine⟨(.J (.int z),.own (II [z])),?_⟩
   let r:Slot->Slot->aa Slot:=λw v=> [.J (II H),.J (dP m pA wA),.J (.bool t),.J (.bool l),.own (II (ba t l K)),w,.J (.int z),v]
   refine st (c:=C) (τ:=r (.own (cJ (bad t l K))) (.J .none)) 0 (bD (zv (k:=k+3) z B t l) (by kernel_rfl) (by rw[VA h];kernel_rfl)) (st (c:=C) (τ:=r (.own oj) (.own (II [z]))) 1 (by kernel_rfl) (st (c:=C) 2 (o9 (e':=r (.own oj) (.own (II [z]))) (H:=(ba t l K).map .int) (K:=[.int z]) (by kernel_rfl) (by kernel_rfl) (r:=.bor (II [z])) (by kernel_rfl) rfl g ?_) rfl));simp only[s,hb,b2,Option.getD_none,II,bj];rfl
 obtain⟨e,M⟩:=lj (f:=λp V=> aI 1000 (aA m pA wA (k+8)) [] C (V.set 6 (.J p))) s H (λK z Q e h=> by
  have E:∀c∈K,c∈sig:=λc d=> T c (by rw[h];simp[d])
  have j:=mW (t:=t) (l:=l) E;obtain⟨X,N⟩:=S K z e (T z (by rw[h];simp)) (by rw[h,da]at Z;lia);exact⟨X,N⟩) (.un,.un)
 refine cx la [] [.J (II H),.J (dP m pA wA),.J (.bool t),.J (.bool l),.un,.un,.un,.un] (dX (τ:=s [] (.un,.un)) (by kernel_rfl) ?_) (by kernel_rfl);rw[st (c:=la) (τ:=s H e) 1 (dt (by kernel_rfl) M) rfl];have j:=mW (t:=t) (l:=l) T;have i:cj (aI 1000 (aA m pA wA (k+8)) [] (cW la 2) (s H e))=U (.J (.tup [II (ba t l H),cJ (bad t l H)])):=by
  refine(aZ cj (cL (c:=la) (v:=.J (.tup [II (ba t l H),cJ (bad t l H)])) (τ:=[.J (II H),.J (dP m pA wA),.J (.bool t),.J (.bool l),.J (II (ba t l H)),.J (cJ (bad t l H)),e.1,e.2]) 2 (bD (R4 (ba t l H) (zy T) (by lia)) (by kernel_rfl) (by kernel_rfl)))).trans rfl
 exact i
theorem Pe{elt cond:PV->aq PV}{c:PV->au}{g:PV->PV}:(∀p∈ps,cond p=U (.bool (c p)))->(∀p∈ps,elt p=U (g p))->compLoop elt cond ps=U ((ps.filter c).map g):=by
 induction ps with
 |nil=> exact λ_ _=> rfl
 |cons p ps D=>
  intro M G;refine aU (M p (.head _)) (aU (a:=c p) rfl ?_);replace D:=D (λq I=> M q (.tail _ I)) λq I=> G q (.tail _ I)
  cases h:c p with
  |false=> rw[List.filter_cons_of_neg (by rw[h];exact KY)];exact D
  |true=> rw[List.filter_cons_of_pos h];exact aU (G p (.head _)) (fW D)
theorem t7{elt it cond:CE}{caps:aa ae}{p:RV}{v:PV}{c:PV->au}{g:PV->PV}(M:ev O c' V it=U p)(G:p.bR=U v)(h:i2 v=U ps)(B:aY ps.length=ag)
  (w:∀x∈ps,∃q,ev O (caps.map λi=> (c'[i]?).getD .none) [.J x] cond=U q∧q.read=.bool (c x)) (f:∀x∈ps,∃q,ev O (caps.map λi=> (c'[i]?).getD .none) [.J x] elt=U q∧q.bR=U (g x)):
  ev O c' V (.comp elt it cond caps)=U (.own (.list ((ps.filter c).map g))):=by
 refine aU M (aU G (aU h ((ct B).trans (fW (Pe (λx T=> ?_) (λx T=> ?_))))))
 ·obtain⟨q,e,j⟩:=w x T
  rw[e];exact aZ U j
 ·obtain⟨q,e,j⟩:=f x T
  rw[e];exact j
theorem Ef{j:Type}(f:j->au):∀H:aa j,k8 (H.map λx=> .bool (f x))=U (H.map f)
 |[]=> rfl
 |x::r=> aU (a:=f x) rfl (fW (Ef f r))
noncomputable def asc(H:aa aj):au:=!(H.any λc=> decide (127 < c))
theorem zu(H:aa aj)(Z:H.length < 1000):(aA m pA wA (k+1)).call (.ref 450) [II H]=U (.J (.bool (asc H))):=by
 have g:aY (H.map PV.int).length=ag:=bX (by rw[bx];exact bh Z (by decide));refine cx uv [] [.J (II H)] (fX ?_) (by kernel_rfl);have w:=t7 (O:=aA m pA wA k) (c':=[]) (V:=[.J (II H)]) (elt:=.cmp (.var 0) (.one .Gt (.lit (.int 127)))) (it:=.var 0) (cond:=.lit (.bool ag)) (caps:=[]) (p:=.J (II H)) (v:=II H) (ps:=H.map .int) (c:=λL=> ag) (g:=λp=> match p with | .int c=> .bool (decide (127 < c)) |_=> .none)
  (by kernel_rfl) rfl rfl g (λx L=> ⟨.J (.bool ag),by kernel_rfl,rfl⟩) (λx T=> by obtain⟨c,_,rfl⟩:=bz.mp T;exact⟨.J (.bool (decide (127 < c))),by kernel_rfl,rfl⟩)
 have I:((H.map PV.int).filter λL=> ag).map (λp=> match p with | .int c=> .bool (decide (127 < c)) |_=> .none)=H.map λc=> PV.bool (decide (127 < c)):=by rw[Li.mpr (λL L=> rfl),dM];rfl
 rw[I]at w;have hb:=DK (j6 (O:=aA m pA wA k) (c':=[]) (V:=[.J (II H)]) (f:="any") (g:=S "any") (r:=.J (.bool ((H.map λc=> decide (127 < c)).any id))) (c6 w) (by
  show(k8 (H.map λc=> PV.bool (decide (127 < c)))).map _=_;rw[Ef];rfl))
 have e:(H.map λc=> decide (127 < c)).any id=H.any λc=> decide (127 < c):=by rw[tb];rfl
 rw[e]at hb;exact aZ cj (cL (c:=uv) (V:=[.J (II H)]) 0 (hA (e':=[.J (II H)]) (by kernel_rfl) hb rfl))
theorem EU(n i:ae):mn n (ar i)=min i n:=by
 show(max 0 (min (if(i:aj) < 0 then(i:aj)+n else(i:aj)) (n:aj))).toNat=_;rw[bW (kJ.mpr (hp i))];rcases xF i n with h |h
 ·rw[tl h,show min (i:aj) (n:aj)=(i:aj)from sX (f3.mpr h),xv (hp i)];exact Ce i
 ·rw[xH h,show min (i:aj) (n:aj)=(n:aj)from sY (f3.mpr h),xv (hp n)];exact Ce n
theorem xe{j:Type}(H:aa j)(i:ae):fF H ah (U (ar i))=H.take i:=by
 show(H.drop 0).take (mn H.length (ar i) - 0)=_;rw[EU,List.drop_zero,Nat.sub_zero];rcases xF i H.length with h |h
 ·rw[tl h]
 ·rw[xH h,Cq,LD h]
theorem Fn{j:Type}(H:aa j)(i:ae):fF H (U (ar i)) ah=H.drop i:=by
 show(H.drop (mn H.length (ar i))).take (H.length - mn H.length (ar i))=_;rw[EU];rcases xF i H.length with h |h
 ·rw[tl h,LD (by rw[lY];exact dh _)]
 ·rw[xH h,Lf,Lg h,List.take_nil]
theorem za(a b:ae):decide (ar a=ar b)=decide (a=b):=decide_eq_decide.mpr ⟨λh=> sZ h,λh=> h ▸ rfl⟩
theorem J9(H:aa aj)(Z:H.length < 1000):hh (II H) .none (.int 4)=U (.own (II (H.take 4))):=by
 have g:aY (H.map PV.int).length=ag:=bX (by rw[bx];exact bh Z (by decide));refine(show hh (II H) .none (.int 4)=gd (aY (H.map PV.int).length) (U (.own (.list (fF (H.map PV.int) ah (U 4)))))from by kernel_rfl).trans ?_;rw[ct g];have e:fF (H.map PV.int) ah (U 4)=(H.take 4).map .int:=by
  rw[show(4:aj)=ar 4 from rfl,xe,th]
 rw[e]
theorem Y1(H:aa aj)(Z:H.length < 1000):hh (II H) (.int 4) .none=U (.own (II (H.drop 4))):=by
 have g:aY (H.map PV.int).length=ag:=bX (by rw[bx];exact bh Z (by decide));refine(show hh (II H) (.int 4) .none=gd (aY (H.map PV.int).length) (U (.own (.list (fF (H.map PV.int) (U 4) ah))))from by kernel_rfl).trans ?_;rw[ct g];have e:fF (H.map PV.int) (U 4) ah=(H.drop 4).map .int:=by
  rw[show(4:aj)=ar 4 from rfl,Fn,Cm]
 rw[e]
noncomputable def cA:aa aj:=[120,110,45,45]
theorem RY(H:aa aj)(Z:H.length < 1000)(h:H.take 4≠cA):(aA m pA wA (k+1)).call (.ref 505) [II H,.bool ak]=U (.J (.list [])):=by
 let V:aa Slot:=[.J (II H),.J (.bool ak),.un]
 refine cx uu [] V (dX (τ:=V) (by kernel_rfl) ?_) (by kernel_rfl);have w:ev (aA m pA wA k) [] V (.cmp (.slc (.var 0) (.lit .none) (.lit (.int 4))) (.one .Eq (.glb (S "PREFIX") (II cA))))=U (.J (.bool ak)):=
  eI (jr (p:=.J (II H)) (q:=.J .none) (u:=.J (.int 4)) (by kernel_rfl) (by kernel_rfl) (by kernel_rfl) (J9 H Z)) (q:=.J (II cA)) (by kernel_rfl) ((show eE .Eq (II (H.take 4)) (II cA)=ey (II (H.take 4)) (II cA)from by kernel_rfl).trans (by rw[n6,cv h]))
 exact aZ cj (cL (c:=uu) (V:=V) 1 (hA (e':=V) (by kernel_rfl) (ig w (r:=.own (.list [])) (by kernel_rfl)) rfl))
def bY(t l:au):PV:=.inst 405 [S "is_transitional",S "only_letters",S "hyphens",S "joiners",S "directions",S "contexts",S "lengths"] [.bool t,.bool l,.bool ak,.bool ak,.bool ak,.bool ak,.bool ak]
def pb(t l e:au)(c:aj):au:=(match kd c with |0=> ak |2=> l |4=> !(e ||!t) |_=> ag) ||(l && decide (c≤127) && !(decide (97≤c∧c≤122) ||decide (48≤c∧c≤57) ||decide (c=45)))
def iv(m pA wA:av)(H:PV)(t l e:au)(x:Slot×Slot×Slot):aa Slot:=[.J H,.J (dP m pA wA),.J (bY t l),.J (.bool e),x.1,x.2.1,x.2.2]
theorem PC(H:PV)(t l e:au)(x:Slot):∀c∈sig,aI 1000 (aA m pA wA (k+1)) [] (cW (bE (az mL 0)) 1) (iv m pA wA H t l e (.J (.int c),.J (.str (kS l (kd c))),x))=
  (let V:=iv m pA wA H t l e (.J (.int c),.J (.str (kS l (kd c))),.J (.bool (bif e then ag else !t)));bif pb t l e c then U (.ret (.J oj) V)else U (.nxt V)):=
 dm (by cases t <;> cases l <;> cases e <;> kernel_rfl)
theorem FO(H:aa aj)(T:∀c∈H,c∈sig)(t l e:au):(aA m pA wA (k+5)).call (.ref 512) [II H,dP m pA wA,bY t l,.bool e]=U (.J (cJ (H.any (pb t l e)))):=by
 let C:=bE (az mL 0)
 have S:∀(z:aj) (x:Slot×Slot×Slot),z∈sig->∃v,aI 1000 (aA m pA wA (k+4)) [] C ((iv m pA wA (II H) t l e x).set 4 (.J (.int z)))=bif pb t l e z then U (.ret (.J oj) (iv m pA wA (II H) t l e v))else U (.nxt (iv m pA wA (II H) t l e v)):=by
  intro z x B;refine⟨(.J (.int z),.J (.str (kS l (kd z))),.J (.bool (bif e then ag else !t))),st 0 (bD (uR z B l) (by kernel_rfl) (by kernel_rfl)) ((PC (II H) t l e x.2.2 z B).trans ?_)⟩;rfl
 have a:∀(K:aa aj) (x:Slot×Slot×Slot),(∀c∈K,c∈sig)->∃v,forLoop (λp V=> aI 1000 (aA m pA wA (k+4)) [] C (V.set 4 (.J p))) (K.map .int) (iv m pA wA (II H) t l e x)=bif K.any (pb t l e)then U (.ret (.J oj) (iv m pA wA (II H) t l e v))else U (.nxt (iv m pA wA (II H) t l e v)):=by
  intro K
  induction K with
  |nil=> intro x _;exact⟨x,rfl⟩
  |cons y K D=>
   intro x h;obtain⟨A,M⟩:=S y x (h y (.head _));cases hb:pb t l e y with
   |true=> refine⟨A,?_⟩;rw[dG,forLoop,M,hq,hb];rfl
   |false=>
    obtain⟨Y,G⟩:=D A λc w=> h c (.tail _ w)
    refine⟨Y,?_⟩;rw[dG,forLoop,M,hb];simp only[fP,hq,hb,sV];exact G
 obtain⟨x,M⟩:=a H (.un,.un,.un) T;refine cx mL [] (iv m pA wA (II H) t l e (.un,.un,.un)) (fX ?_) (by kernel_rfl);have Z:aJ 1000 (aA m pA wA (k+4)) [] (az mL 0) (iv m pA wA (II H) t l e (.un,.un,.un))=forLoop (λp V=> aI 1000 (aA m pA wA (k+4)) [] C (V.set 4 (.J p))) (H.map .int) (iv m pA wA (II H) t l e (.un,.un,.un)):=by kernel_rfl
 cases hb:H.any (pb t l e)with
 |true=> rw[hb]at M;exact aZ cj (cL 0 (Z.trans M))
 |false=> rw[hb]at M;exact(aZ cj (st 0 (Z.trans M) rfl)).trans (by kernel_rfl)
theorem XM(c:aj)(H:aa aj):pin (.int c) (II H)=U (H.any λy=> y==c):=by
 have h:hu (.int c)=ag:=by simp[hu,oC,oD]
 show wY (.int c) (H.map .int)=_;refine aU rfl (aU (JH H) ((ct (by rw[h,PySem.W.ke_canLayAll0];rfl)).trans ?_));rw[tb];rfl
theorem FG{f:PV->aa Slot->aq Out}(S:Slot×Slot->aa Slot)(h:∀(i:ae) (p:PV) x,f (.tup [.int i,p]) (S x)=U (.nxt (S (.J (.int i),.J p)))):∀(ps:aa PV) (n:ae) (x:Slot×Slot),∃v,forLoop f (gC n ps) (S x)=U (.nxt (S v))
 |[],_,x=> ⟨x,rfl⟩
 |p::ps,n,x=> by
  obtain⟨v,N⟩:=FG S h ps (n+1) (.J (.int n),.J p);exact⟨v,by rw[gC,forLoop,h n p x];exact N⟩
theorem FV(r:aa aj)(T:∀c∈(97:aj)::r,c∈sig)(u:(46:aj)∉r)(Z:r.length < 900)(t l e:au):(aA m pA wA (k+11)).call (.ref 519) [II (97::r),dP m pA wA,bY t l,.bool e]=U (.own (cJ (((97:aj)::r).any (pb t l e)))):=by
 have g:aY ((97::r).map PV.int).length=ag:=bX (by rw[bx,dz];exact bc (by assumption) (by decide))
 let O:=aA m pA wA (k+10)
 let s:PV->Slot×Slot->aa Slot:=λw x=> [.J (II (97::r)),.J (dP m pA wA),.J (bY t l),.J (.bool e),.own w,x.1,x.2]
 let w:=cJ (((97:aj)::r).any (pb t l e))
 refine cx eU [] [.J (II (97::r)),.J (dP m pA wA),.J (bY t l),.J (.bool e),.un,.un,.un] (dX (τ:=s (.list []) (.un,.un)) (by kernel_rfl) ?_) (by kernel_rfl);have M:aJ 1000 O [] (az eU 1) (s (.list []) (.un,.un))=U (.nxt (s (.list []) (.un,.un))):=bD (RZ (97::r) T) (by kernel_rfl) (by kernel_rfl);have G:aJ 1000 O [] (az eU 2) (s (.list []) (.un,.un))=U (.nxt (s (.list []) (.un,.un))):=bD (RY (k:=k+9) (97::r) (by rw[dz];exact bc (by assumption) (by decide)) (by simp[cA])) (by kernel_rfl) (by kernel_rfl);have j:aJ 1000 O [] (az eU 3) (s (.list []) (.un,.un))=U (.nxt (s (.list []) (.un,.un))):=by
  refine cN (x:=ak) (e':=s (.list []) (.un,.un)) (A:=dH (az eU 3)) (B:=.nil) (e:=.cmp (.glb (S "STOP") (.int 46)) (.one .In (.var 0))) (by kernel_rfl) (eI (p:=.J (.int 46)) (q:=.J (II (97::r))) (by kernel_rfl) (by kernel_rfl) ((show eE .In (.int 46) (II (97::r))=pin (.int 46) (II (97::r))from by kernel_rfl).trans ?_)) (by kernel_rfl);rw[XM]
  congr 1
  rw[ta];intro x R;rcases bM.mp R with rfl |h
  ·decide
  ·simp only[eT];exact λe=> u (e ▸ h)
 have B:aJ 1000 O [] (az eU 4) (s (.list []) (.un,.un))=U (.nxt (s (.list []) (.un,.un))):=by
  have a:ev O [] (s (.list []) (.un,.un)) (.cmp (.var 0) (.one .NotEq (.lst .nil)))=U (.J (.bool ag)):=eI (p:=.J (II (97::r))) (q:=.own (II [])) (by kernel_rfl) (by kernel_rfl) ((show eE .NotEq (II (97::r)) (II [])=(ey (II (97::r)) (II [])).map (!·)from by kernel_rfl).trans (by rw[n6];rfl));have Q:ev O [] (s (.list []) (.un,.un)) (.idx (.var 0) (.lit (.int 0)))=U (.J (.int 97)):=hy (p:=.J (II (97::r))) (q:=.J (.int 0)) (by kernel_rfl) (by kernel_rfl) (by
   refine(show g7 (II (97::r)) (.int 0)=gd (aY ((97::r).map PV.int).length) (U (.int 97))from by kernel_rfl).trans (ct g))
  have X:ev O [] (s (.list []) (.un,.un)) (.meth (.var 1) (S "get") (.cons (.lit (.str (S "gc"))) (.cons (.idx (.var 0) (.lit (.int 0))) .nil)))=U (.J (.str (S "Cn"))):=mz (p:=.J (dP m pA wA)) (by kernel_rfl) (dT (p:=.J (.str (S "gc"))) (by kernel_rfl) Q) rfl ((show ha O (.J (dP m pA wA)) (S "get") [.str (S "gc"),.int 97]=O.call (.ref 676) [dP m pA wA,.str (S "gc"),.int 97]from by kernel_rfl).trans (SO (k:=k+9) 97));exact cN (x:=ak) (e':=s (.list []) (.un,.un)) (A:=dH (az eU 4)) (B:=.nil) (by kernel_rfl) (t6 a (eI X (q:=.J (.tup [.str (S "Mn"),.str (S "Mc"),.str (S "Me")])) (by kernel_rfl) (by kernel_rfl))) (by kernel_rfl)
 have N:aJ 1000 O [] (az eU 5) (s (.list []) (.un,.un))=U (.nxt (s w (.un,.un))):=by
  have q:∀b,aJ 1000 (K1 (U (.J (cJ b)))) [] (az eU 5) (s (.list []) (.un,.un))=U (.nxt (s (cJ b) (.un,.un))):=λb=> by cases b <;> kernel_rfl
  exact bD (FO (k:=k+5) (97::r) T t l e) (by kernel_rfl) (q _)
 obtain⟨x,Y⟩:=FG (f:=(λp V=> (hS [5,6] p V).bind λe'=> aI 1000 O [] (bE (az eU 6)) e':PV->aa Slot->aq Out)) (s w) (λi p x=> by kernel_rfl) ((97::r).map .int) 0 (.un,.un);have d:aJ 1000 O [] (az eU 6) (s w (.un,.un))=U (.nxt (s w x)):=dt (by kernel_rfl) Y;refine(aZ cj (st (c:=eU) 1 M (st (c:=eU) 2 G (st (c:=eU) 3 j (st (c:=eU) 4 B (st (c:=eU) 5 N (st (c:=eU) 6 d rfl))))))).trans ?_;have:∀b,cj (aI 1000 O [] (cW eU 7) (s (cJ b) x))=U (.own (cJ b)):=λb=> by cases b <;> kernel_rfl
 exact this _
abbrev zk:Ent:=⟨698,2,[],4,eV⟩
theorem qp{i:aj}(h:-4000000000 < i∧i < 4000000000):cb i=ag:=by
 unfold cb;simp only[cP,fQ];exact⟨iI (by decide) h.1,iI h.2 (by decide)⟩
theorem ui{a b:aj}(h:cb a=ag∨cb b=ag):binop .Mult (.int a) (.int b)=U (.J (.int (a * b))):=
 pj (ct (by rcases h with h |h <;> simp[h]))
theorem mI{a b:aj}(h:b≠0):binop .Mod (.int a) (.int b)=U (.J (.int (a.fmod b))):=
 pj (ct (by simpa using h))
theorem D5{C:aa aj}(I:C.length < 100)(h:i < C.length):g7 (II C) (.int (i:aj))=U (.int C[i]):=by
 refine(u7).trans ?_;unfold iW gd;rw[qp ⟨lW (by decide) (hp i),c9.mpr (bh h (bh I (by decide)))⟩,bx,bX (bh I (by decide)),cf (hp i)];simp[h]
section
variable {C:aa aj}{n:aj}
theorem Fi{a:CE}{p:RV}{g:ao}(I:C.length < 100)(M:ev O c' V a=U p)(G:p.read=II C):ev O c' V (.call (.glb g (.fn (.builtin "len"))) (.cons a .nil))=U (.J (.int C.length)):=j6 (c6 M) (by
 show ik "len" [p.read]=_;rw[G];exact(show ik "len" [II C]=(gd (aY (C.map PV.int).length) (U ((C.map PV.int).length:aj))).map (λn=> RV.J (.int n))from by kernel_rfl).trans (by rw[ct (by rw[bx];exact bX (bh I (by decide))),bx];rfl))
theorem P1(C:aa aj)(d':ae)(n:aj)(b':d' < 1000)(I:C.length < 100)(h0:0 < n):∃r,bG (iH 1000 O zk (.list [II C,.int d']) [.int n]=U (.int r,.list [II C,.int ((d'+1:ae):aj)])) (0≤r) (r < n):=by
 let t:aj:=((d'+1:ae):aj)
 let A:Slot:=.own (.list [II C,.int t])
 let u0:aa Slot:=[.own (.list [II C,.int d']),.J (.int n),.un,.un,.un,.un]
 let u:Slot->Slot->Slot->Slot->aa Slot:=λa b c d=> [A,.J (.int n),a,b,c,d]
 have L:aJ 1000 O [] (az eV 0) u0=U (.nxt (u .un .un .un .un)):=(by kernel_rfl)
 let H:=u (.J (.int t)) (.J (II C)) .un .un
 have s1:aJ 1000 O [] (az eV 1) (u .un .un .un .un)=U (.nxt H):=by kernel_rfl
 have i:∀c d,ev O [] (u (.J (.int t)) (.J (II C)) c d) (.var 2)=U (.J (.int t)):=λc d=> by kernel_rfl
 have Y:∀c d,ev O [] (u (.J (.int t)) (.J (II C)) c d) (.var 3)=U (.J (II C)):=λc d=> by kernel_rfl
 have X:∀a b c d,ev O [] (u a b c d) (.var 1)=U (.J (.int n)):=λa b c d=> by kernel_rfl
 have w:∀{τ r},aI 1000 O [] eV u0=U (.ret (.J (.int r)) τ)->τ[0]?=U A->0≤r->r < n->∃r,bG (iH 1000 O zk (.list [II C,.int d']) [.int n]=U (.int r,.list [II C,.int t])) (0≤r) (r < n):=λ{τ r} h M G h3=> by
  refine⟨r,?_,G,h3⟩;have e:iH 1000 O zk (.list [II C,.int d']) [.int n]=w1 1000 O eV u0:=by kernel_rfl
  rw[e,w1,h];show((τ[0]?).bind JC).map (λq=> (PV.int r,q))=_;rw[M];rfl
 have Z:∀a:aj,0≤a.fmod n∧a.fmod n < n:=λa=> ⟨Cc a h0,Cb a h0⟩
 let P:CE:=.cmp (.var 2) (.one .LtE (.call (.glb (S "len") (.fn (.builtin "len"))) (.cons (.var 3) .nil)))
 have c:ev O [] H P=U (.J (.bool (decide (t≤C.length)))):=eI (i _ _) (Fi I (Y _ _) rfl) (by kernel_rfl);by_cases h:t≤C.length
 ·have hi:=f3.mp h
  rw[cf h]at c;have v:=D5 I hi;have e1:ev O [] H (.bin .Sub (.var 2) (.lit (.int 1)))=U (.J (.int (d':aj))):=cQ (i _ _) (q:=.J (.int 1)) (by kernel_rfl) (by
   refine(show binop .Sub (.int t) (.int 1)=U (RV.J (.int (t - 1)))from by kernel_rfl).trans ?_;rw[show t - 1=(d':aj)from Int.add_sub_cancel (d':aj) 1])
  have e2:=cQ (O:=O) (c':=[]) (V:=H) (w:=.Mod) (hy (Y _ _) e1 v) (X _ _ _ _) (mI (K6 h0));refine w (st (c:=eV) 0 L (st (c:=eV) 1 s1 (cL (c:=eV) (v:=.J (.int (C[d'].fmod n))) (τ:=H) 2 (cN (e':=H) (by kernel_rfl) c (cL (c:=.cons (.ret (.bin .Mod (.idx (.var 3) (.bin .Sub (.var 2) (.lit (.int 1)))) (.var 1))) .nil) 0 (hA (e':=H) (by kernel_rfl) e2 rfl)))))) rfl (Z _).1 (Z _).2
 ·rw[cv h]at c
  have Q:aJ 1000 O [] (az eV 2) H=U (.nxt H):=cN (e':=H) (A:=.cons (.ret (.bin .Mod (.idx (.var 3) (.bin .Sub (.var 2) (.lit (.int 1)))) (.var 1))) .nil) (B:=.nil) (by kernel_rfl) c rfl;have val:∃x,ev O [] H (.ite (.cmp (.var 3) (.one .NotEq (.lst .nil))) (.idx (.var 3) (.bin .Mod (.var 2) (.call (.glb (S "len") (.fn (.builtin "len"))) (.cons (.var 3) .nil)))) (.lit (.int 7)))=U (.J (.int x)):=by
   have k:ev O [] H (.cmp (.var 3) (.one .NotEq (.lst .nil)))=U (.J (.bool (!decide (C=[])))):=eI (Y _ _) (q:=.own (II [])) (by kernel_rfl) ((show eE .NotEq (II C) (II [])=(ey (II C) (II [])).map (!·)from by kernel_rfl).trans (by rw[n6];rfl));by_cases F:C=[]
   ·rw[cf F]at k
    exact⟨7,ig k (by kernel_rfl)⟩
   ·rw[cv F]at k
    have K:0 < C.length:=List.length_pos_iff.mpr F;have a':(C.length:aj)≠0:=λe=> tn K (sZ e)
    have m:=cQ (O:=O) (c':=[]) (V:=H) (w:=.Mod) (i _ _) (Fi (g:=S "len") I (Y _ _) rfl) (mI a');have g1:0≤t.fmod C.length:=Cc t (c9.mpr K);have R:t.fmod C.length < C.length:=Cb t (c9.mpr K);obtain⟨j,o⟩:=xt g1;rw[o]at m;exact⟨_,gS k (hy (Y _ _) m (D5 (i:=j) I (c9.mp (o ▸ R))))⟩
  obtain⟨x,val⟩:=val
  let g:=u (.J (.int t)) (.J (II C)) (.J (.int x)) .un
  have s3:aJ 1000 O [] (az eV 3) H=U (.nxt g):=c7 (e':=H) (by kernel_rfl) val (sl:=.J (.int x)) rfl (by kernel_rfl) (by kernel_rfl);have l:cb t=ag:=qp ⟨lW (by decide) (hp _),c9.mpr (bc b' (by decide))⟩
  let N:aj:=x.fmod 2147483629
  let W:aj:=60013 * t * t
  let y:aj:=((N+W+17) * 48271).fmod 2147483647
  have w3:ev O [] g (.bin .Mod (.bin .Mult (.bin .Add (.bin .Add (.bin .Mod (.var 4) (.lit (.int 2147483629))) (.bin .Mult (.bin .Mult (.lit (.int 60013)) (.var 2)) (.var 2))) (.lit (.int 17))) (.lit (.int 48271))) (.lit (.int 2147483647)))=U (.J (.int y)):=by
   have m1:=cQ (O:=O) (c':=[]) (V:=g) (w:=.Mod) (a:=.var 4) (b:=.lit (.int 2147483629)) (p:=.J (.int x)) (q:=.J (.int 2147483629)) (by kernel_rfl) (by kernel_rfl) (mI (by decide));have D:=cQ (O:=O) (c':=[]) (V:=g) (w:=.Mult) (a:=.lit (.int 60013)) (p:=.J (.int 60013)) (by kernel_rfl) (i _ _) (ui (.inr l));have p:=cQ (O:=O) (c':=[]) (V:=g) (w:=.Mult) D (i _ _) (ui (.inr l));have s:=cQ (O:=O) (c':=[]) (V:=g) (w:=.Add) m1 p (r:=.J (.int (N+W))) (by kernel_rfl);have m5:=cQ (O:=O) (c':=[]) (V:=g) (w:=.Add) s (b:=.lit (.int 17)) (q:=.J (.int 17)) (by kernel_rfl) (r:=.J (.int (N+W+17))) (by kernel_rfl);have m6:=cQ (O:=O) (c':=[]) (V:=g) (w:=.Mult) m5 (b:=.lit (.int 48271)) (q:=.J (.int 48271)) (by kernel_rfl) (ui (.inr (by decide)));exact cQ m6 (q:=.J (.int 2147483647)) (by kernel_rfl) (mI (by decide))
  let B:=u (.J (.int t)) (.J (II C)) (.J (.int x)) (.J (.int y))
  have s4:aJ 1000 O [] (az eV 4) g=U (.nxt B):=c7 (e':=g) (by kernel_rfl) w3 (sl:=.J (.int y)) rfl (by kernel_rfl) (by kernel_rfl);have E:cb y=ag:=qp ⟨lW (by decide) (Cc _ (by decide)),iI (Cb _ (by decide)) (by decide)⟩
  let z:aj:=(y * y+t).fmod 2147483579
  have w4:ev O [] B (.bin .Mod (.bin .Add (.bin .Mult (.var 5) (.var 5)) (.var 2)) (.lit (.int 2147483579)))=U (.J (.int z)):=by
   have T:ev O [] B (.var 5)=U (.J (.int y)):=by kernel_rfl
   have m1:=cQ (O:=O) (c':=[]) (V:=B) (w:=.Mult) T T (ui (.inr E));have D:=cQ (O:=O) (c':=[]) (V:=B) (w:=.Add) m1 (i _ _) (r:=.J (.int (y * y+t))) (by kernel_rfl);exact cQ D (q:=.J (.int 2147483579)) (by kernel_rfl) (mI (by decide))
  let V:=u (.J (.int t)) (.J (II C)) (.J (.int x)) (.J (.int z))
  have f:aJ 1000 O [] (az eV 5) B=U (.nxt V):=c7 (e':=B) (by kernel_rfl) w4 (sl:=.J (.int z)) rfl (by kernel_rfl) (by kernel_rfl);have w5:ev O [] V (.bin .Mod (.bin .FloorDiv (.var 5) (.lit (.int 64))) (.var 1))=U (.J (.int ((z.fdiv 64).fmod n))):=
   cQ (cQ (a:=.var 5) (p:=.J (.int z)) (q:=.J (.int 64)) (by kernel_rfl) (by kernel_rfl) (r:=.J (.int (z.fdiv 64))) (by kernel_rfl)) (X _ _ _ _) (mI (K6 h0))
  exact w (st (c:=eV) 0 L (st (c:=eV) 1 s1 (st (c:=eV) 2 Q (st (c:=eV) 3 s3 (st (c:=eV) 4 s4 (st (c:=eV) 5 f (cL (c:=eV) (v:=.J (.int ((z.fdiv 64).fmod n))) (τ:=V) 6 (hA (e':=V) (by kernel_rfl) w5 rfl)))))))) rfl (Z _).1 (Z _).2
end
theorem c0.mono{g d:Fz->MT->Prop}{j e:Fz->MT->ai->MT->Prop}(c:c0 w I k f args g j)(z:∀F Y,I F Y->d F Y->g F Y)
  (C:∀F Y v t,(Y.map (·.1)).Nodup->j F Y v t->e F Y v t):c0 w I k f args d e:=λF Y Z A s Q E R T b m DD B i V KK=>
 c F Y Z A s Q E R T b (z F Y b m) DD B i V λv P W N t n l y H x q a u h O=> KK v P W N t n l y H x q a (C _ _ _ _ (q ▸ V) u) h O
def bN(w:aV)(g:av)(C:aa aj)(b:ae)(F:Fz)(Y:MT):Prop:=∀d,(g,d)∈Y->∃d':ae,d'≤b∧bB w F (.list [II C,.int (d':aj)]) d
theorem bN.ok{g:av}{C:aa aj}{b:ae}:bq (bN w g C b):=λL L L h H L d m=> let⟨p,e,o⟩:=h d m;⟨p,e,o.mono H⟩
theorem bN.up{g:av}{C:aa aj}{b c:ae}(h:bN w g C b F Y)(e:b≤c):bN w g C c F Y:=λd m=> let⟨p,X,o⟩:=h d m;⟨p,bK X e,o⟩
theorem Fj{C:aa aj}{d':ae}{n:aj}(z:d' < 1000)(I:C.length < 100)(x:0 < n):∃r,bG ((Kept w (.ref 698)∧iS w (λL Y=> Y=[]) (k+1) (.ref 698) (.list [II C,.int (d':aj)]) [.int n] (.int r) (.list [II C,.int ((d'+1:ae):aj)]))) (0≤r) (r < n):=by
 obtain⟨r,g,M,G⟩:=P1 C d' n z I x;exact⟨r,QV rfl (λL L L h L L=> h) eN g,M,G⟩
theorem Uc(w:aV):Kept w (.ref 698):=let⟨_,h,_,_⟩:=Fj (k:=0) (C:=[]) (d':=0) (n:=1) (by decide) (by decide) (by decide);h.1
def DE(w:aV)(g:av)(C:aa aj)(b:ae)(n:aj)(F:Fz)(Y:MT)(v:ai)(t:MT):Prop:=t=[]∧bN w g C b F Y∧∃i:aj,bG (0≤i) (i < n) (Den w F (.int i) v)
theorem P0{g:av}{C:aa aj}{b:ae}{n:aj}(hb:b < 900)(o:C.length < 100)(f:0 < n):c0 w (mB g) (k+1) (.ref 698) [.fn (.ref g),.int n] (bN w g C b) (DE w g C (b+1) n):=by
 intro F Y Z A s Q E R T I X DD B i V KK;obtain⟨d,rfl⟩:=I;obtain⟨d',z,ow⟩:=X d (.head _);obtain⟨r,⟨_,L⟩,M,G⟩:=Fj (d':=d') (by lia) o f;refine zX L F _ Z A s Q E R T ⟨d,rfl⟩ ⟨d,rfl,rfl,ow⟩ DD B i V λv P W N t c j y H x q a u h O=> ?_
 obtain⟨rfl,⟨S,rfl,ov⟩,dn⟩:=u;refine KK v P W _ [] c j y H x q a ⟨rfl,λe m=> ?_,r,M,G,dn⟩ h O;cases d5.mp m;exact⟨d'+1,iL z,ov.2⟩
def IA(w:aV)(D:Dt)(g:av):Fz->MT->Prop:=Sep (IM w D) (Sep (mB g) eb)
theorem IA.ok{D:Dt}{g:av}:bq (IA w D g):=Sep.ok IM.ok (Sep.ok Hg eb.ok)
theorem PZ{D:Dt}{g:av}{C:aa aj}{b:ae}{n:aj}(hb:b < 900)(I:C.length < 100)(x:0 < n):c0 w (IA w D g) (k+1) (.ref 698) [.fn (.ref g),.int n] (bN w g C b) (DE w g C (b+1) n):=by
 refine c0.mono (EN IM.ok (EJ eb.ok (P0 hb I x))) (λF Y L h m1 o e L L p s j L L d m=> h d (by rw[e,j];exact bp _ (bk _ m))) ?_
 rintro F Y v t V ⟨m1,o,rfl,_,_,p,s,rfl,⟨T,rfl⟩,_,l,u,hi⟩
 refine⟨l,λd m=> ?_,hi⟩;have a:(g,T)∈m1++([(g,T)]++s):=bp _ (.head _);have:(g,d)=(g,T):=by
  rw[bj,bj]at V;have K:=c2.mp V;have y:=c2.mp K.2.1;rcases dc.mp m with m |m
  ·exact bf rfl (K.2.2 g (bz.mpr ⟨(g,d),m,rfl⟩) g (bk _ (.head _)))
  ·rcases dc.mp m with m |m
   ·exact d5.mp m
   ·exact bf rfl (y.2.2 g (.head _) g (bz.mpr ⟨(g,d),m,rfl⟩))
 cases this;exact u T (.head _)
section
variable {k':ae}
theorem EM{z:Fz->MT->Prop}(G:bq z)(c':∀F Y,z F Y->X.I F Y)(C:aG X)(P:Pack (X.sw z) k O n){f:aw}{as:aa aw}{g:Fz->MT->Prop}{j:Fz->MT->ai->MT->Prop}(hf:notAttr f=ag)
  (S:ev O X.cps V (aE n X.G f)=U (.J (.fn (.ref a)))) (b:bO O X.cps V (br n X.G as)=U B) (e':b6 B=U ps) (kp:Kept X.w (.ref a)) (c:c0 X.w X.I k' (.ref a) ps g j) (l:aX k' A) (R:aX k A)
  (Sx:St (X.sw z) F Y ls (b'++a') s) (y:aR X.w F V (ls.map (·.2)) a') (q:∀W N,z W N->g W N)
  (K:∀v s' W N t t',St X W N ls (t++(t'++(b'++a'))) s'->Sub F W->j W N v t->Q v s'):aB (ay pw X.w) A (bt (.Call f as [] d') X.env) Q E s:=by
 have hp:=hF b;have I:((d9 d' (du as X.env)).any (·.1) ||([]:aa (aq ao×d8 ai)).any (·.1.isNone))=ak:=by rw[gK,hp];rfl
 have C2:=C.sw G;refine tr ((P.e f).read C2 S R Sx y λD s' W N u H p=> ?_) (pC hf);obtain rfl:=p.lh;refine f9 I (λh T=> kp _ h T) ?_;refine gc P.s b R u (y.mono H) λZ i F2 g' ts S2 w r=> ⟨S2.top.in S2.J,?_⟩
 obtain⟨F3,S3,x,dd⟩:=S2.b6 C2 r e';have M:=S3.inv;have L:=S3.ho (c' _ _ M);exact xl c l L (q _ _ M) dd λv m o e t S4 f' d=> K v m o e t [] S4 ((H.trans w).trans (x.trans f')) d
end
def sw(l:au):ae->ao
 |0=> S "stays" |1=> S "turns" |2=> bif l then S "bad" else S "stays" |3=> bif l then S "bad" else S "turns" |4=> S "both" |5=> S "goes" |_=> S "bad"
theorem uQ(l:au):∀c∈sig,(aA m pA wA (k+2)).call (.ref 719) [.int c,.bool l]=U (.J (.str (sw l (kd c)))):=dm (by cases l <;> kernel_rfl)
theorem NG{e' τ:aa Slot}{e:CE}{K:aa PV}(t:bg (cz e) V=e')(hi:e'[i]?=U (.own (.list H)))(f:ev O c' e' e=U r)(s:r.read=.tup K)(g:aY (H.length+K.length)=ag)(l:e'.set i (.own (.list (H++K)))=τ):aJ W O c' (.ext i e) V=U (.nxt τ):=by
 subst t;subst l;exact aU (aU hi rfl) (aU f (aU (aZ uP s) (ct g)))
def i3(t:PV)(D l:au)(o:aa aj)(b:au)(x:Slot×Slot):aa Slot:=[.J t,.J (.bool D),.J (.bool l),.own (II o),.J (.bool b),x.1,x.2]
noncomputable def turns(D l:au):ae->au
 |1=> ag |3=> !l |4=> D |_=> ak
theorem UY(t:PV)(D l:au)(o:aa aj)(b:au)(x:Slot):∀c∈sig,(bif turns D l (kd c)then ev (aA m pA wA (k+2)) [] (i3 t D l o b (.J (.int c),x)) (.idx (.idx (.call (.glb (S "_law_rows") (.fn (.ref 705))) .nil) (.var 5)) (.lit (.int 1)))else ah)=(bif turns D l (kd c)then U (.J (TI (kT c)))else ah):=
 dm (by cases D <;> cases l <;> kernel_rfl)
def vl:CE×CB×CB:=match az (bE (az km 1)) 2 with | .ite c a b=> (c,a,b) |_=> (.bad,.nil,.nil)
def vm:CE×CB×CB:=match az vl.2.2 0 with | .ite c a b=> (c,a,b) |_=> (.bad,.nil,.nil)
theorem Hl(t:PV)(D l:au)(o:aa aj)(b:au)(c:aj):∀n,n < 7->
  aJ 1000 (aA m pA wA (k+2)) [] (az (bE (az km 1)) 1) (i3 t D l o b (.J (.int c),.J (.str (sw l n))))=U (.nxt (i3 t D l o (b ||(match n with |2=> l |3=> l |6=> ag |_=> ak)) (.J (.int c),.J (.str (sw l n)))))
  ∧ev (aA m pA wA (k+2)) [] (i3 t D l o b (.J (.int c),.J (.str (sw l n)))) vl.1=U (.J (.bool (turns D l n)))∧ev (aA m pA wA (k+2)) [] (i3 t D l o b (.J (.int c),.J (.str (sw l n)))) vm.1=U (.J (.bool (!bJ n 5)))
 |0,_=> ⟨by cases b <;> kernel_rfl,by kernel_rfl,by kernel_rfl⟩
 |1,_=> ⟨by cases b <;> kernel_rfl,by kernel_rfl,by kernel_rfl⟩
 |2,_=> ⟨by cases b <;> cases l <;> kernel_rfl,by cases l <;> kernel_rfl,by cases l <;> kernel_rfl⟩
 |3,_=> ⟨by cases b <;> cases l <;> kernel_rfl,by cases l <;> kernel_rfl,by cases l <;> kernel_rfl⟩
 |4,_=> ⟨by cases b <;> kernel_rfl,by cases D <;> kernel_rfl,by kernel_rfl⟩
 |5,_=> ⟨by cases b <;> kernel_rfl,by kernel_rfl,by kernel_rfl⟩
 |6,_=> ⟨by cases b <;> kernel_rfl,by kernel_rfl,by kernel_rfl⟩
 |n+7,h=> bf h (by lia)
theorem VE(D l:au)(c:aj):(mp D l c).isNone=(match kd c with |2=> l |3=> l |6=> ag |_=> ak)∨7≤kd c:=by
 unfold mp
 match h:kd c with
 |0=> exact .inl rfl
 |1=> exact .inl rfl
 |2=> cases l <;> exact .inl rfl
 |3=> cases l <;> exact .inl rfl
 |4=> cases D <;> exact .inl rfl
 |5=> exact .inl rfl
 |6=> exact .inl rfl
 |n+7=> exact .inr (by lia)
theorem VC(D l:au)(c:aj):(mp D l c).getD [c]=(bif turns D l (kd c)then kT c else(bif bJ (kd c) 5 then[]else[c]))∨7≤kd c:=by
 unfold mp turns
 match h:kd c with
 |0=> exact .inl rfl
 |1=> exact .inl rfl
 |2=> cases l <;> exact .inl rfl
 |3=> cases l <;> exact .inl rfl
 |4=> cases D <;> exact .inl rfl
 |5=> exact .inl rfl
 |6=> exact .inl rfl
 |n+7=> exact .inr (by lia)
theorem FW(H:aa aj)(T:∀c∈H,c∈sig)(Z:H.length < 300)(D l:au):(aA m pA wA (k+3)).call (.ref 726) [II H,.bool D,.bool l]=U (.J (.tup [II (ba D l H),.bool (bad D l H)])):=by
 let O:=aA m pA wA (k+2)
 let C:=bE (az km 1)
 let s:aa aj->Slot×Slot->aa Slot:=λK x=> i3 (II H) D l (ba D l K) (bad D l K) x
 have S:∀(K:aa aj) (z:aj) (e:Slot×Slot),z∈sig->(ba D l K).length < 1000->aI 1000 O [] C ((s K e).set 5 (.J (.int z)))=U (.nxt (s (K++[z]) (.J (.int z),.J (.str (sw l (kd z)))))):=by
  intro K z e B I;have a:=m2 z B;have b1:bad D l (K++[z])=(bad D l K ||(mp D l z).isNone):=by rw[ph];simp[bad]
  have b2:ba D l (K++[z])=ba D l K++(mp D l z).getD [z]:=by rw[uZ];simp[ba]
  rw[(VE D l z).resolve_right (by exact ma.mpr (by assumption))]at b1;rw[(VC D l z).resolve_right (by exact ma.mpr (by assumption))]at b2
  let x:Slot×Slot:=(.J (.int z),.J (.str (sw l (kd z))))
  obtain⟨F,_,_⟩:=Hl (II H) D l (ba D l K) (bad D l K) z (kd z) a;rw[← b1]at F;obtain⟨_,b,d⟩:=Hl (II H) D l (ba D l K) (bad D l (K++[z])) z (kd z) a
  let V:=i3 (II H) D l (ba D l K) (bad D l (K++[z])) x
  have g:∀n,n≤3->aY (((ba D l K).map PV.int).length+n)=ag:=λn h=> bX (by rw[bx];exact fI (Cs (by assumption) (by assumption)) (by decide))
  refine st 0 (bD (uQ l z B) (by kernel_rfl) (by kernel_rfl)) (st 1 F (st 2 (cN (by kernel_rfl) b ?_) rfl));show _=U (Out.nxt (i3 (II H) D l (ba D l (K++[z])) (bad D l (K++[z])) _));rw[b2];cases u:turns D l (kd z)with
  |true=>
   have v:=UY (m:=m) (pA:=pA) (wA:=wA) (k:=k) (II H) D l (ba D l K) (bad D l (K++[z])) (.J (.str (sw l (kd z)))) z B;rw[u]at v;have W:((kT z).map PV.int).length≤3:=by
    have:=dm (f:=λc=> c3 ((kT c).map PV.int).length 3) (g:=λL=> ag) (l:=sig) (by kernel_rfl) z B;exact dg this
   refine st (c:=vl.2.1) 0 (NG (e':=V) (H:=(ba D l K).map .int) (K:=(kT z).map .int) (by kernel_rfl) (by kernel_rfl) v rfl (g _ W) ?_) rfl;rw[i3,hx,show II (ba D l K++kT z)=.list ((ba D l K).map .int++(kT z).map .int)from by rw[II,bj]];kernel_rfl
  |false=>
   refine st (c:=vl.2.2) 0 (cN (e':=V) (A:=vm.2.1) (B:=vm.2.2) (by kernel_rfl) d ?_) rfl;cases N:bJ (kd z) 5 with
   |true=> rw[fP,hx,fu];rfl
   |false=>
    refine st (c:=vm.2.1) 0 (iT (e':=V) (H:=(ba D l K).map .int) (r:=.J (.int z)) (by kernel_rfl) (by kernel_rfl) (by kernel_rfl) rfl (g 0 (by exact gp _)) ?_) rfl;rw[i3,fP,fP,show II (ba D l K++[z])=.list ((ba D l K).map .int++[.int z])from by rw[II,bj];rfl];kernel_rfl
 obtain⟨e,M⟩:=lj (f:=λp V=> aI 1000 O [] C (V.set 5 (.J p))) s H (λK z Q e h=> by
  have E:∀c∈K,c∈sig:=λc w=> T c (by rw[h];simp[w])
  have j:=mW (t:=D) (l:=l) E;exact⟨_,(S K z e (T z (by rw[h];simp)) (by rw[h,da]at Z;lia))⟩) (.un,.un)
 refine cx km [] [.J (II H),.J (.bool D),.J (.bool l),.un,.un,.un,.un] (dX (τ:=s [] (.un,.un)) (by kernel_rfl) ?_) (by kernel_rfl);exact aZ cj (st (c:=km) 1 (dt (by kernel_rfl) M) (cL (c:=km) (v:=.J (.tup [II (ba D l H),.bool (bad D l H)])) (τ:=[.J (II H),.J (.bool D),.J (.bool l),.J (II (ba D l H)),.J (.bool (bad D l H)),e.1,e.2]) 2 (by kernel_rfl)))
noncomputable def i6(H:PV)(t l e:au)(x:Slot×Slot):aa Slot:=[.J H,.J (.bool t),.J (.bool l),.J (.bool e),x.1,x.2]
theorem Vb(H:PV)(t l e:au):∀c∈sig,aI 1000 (aA m pA wA (k+1)) [] (cW (bE (az mO 0)) 1) (i6 H t l e (.J (.int c),.J (.str (sw l (kd c)))))=
  (bif pb t l e c then U (.ret (.J (.bool ag)) (i6 H t l e (.J (.int c),.J (.str (sw l (kd c))))))else U (.nxt (i6 H t l e (.J (.int c),.J (.str (sw l (kd c))))))):=
 dm (by cases t <;> cases l <;> cases e <;> kernel_rfl)
theorem F7(H:aa aj)(T:∀c∈H,c∈sig)(t l e:au):(aA m pA wA (k+3)).call (.ref 733) [II H,.bool t,.bool l,.bool e]=U (.J (.bool (H.any (pb t l e)))):=by
 let O:=aA m pA wA (k+2)
 let C:=bE (az mO 0)
 have a:∀(K:aa aj) (x:Slot×Slot),(∀c∈K,c∈sig)->∃v,forLoop (λp V=> aI 1000 O [] C (V.set 4 (.J p))) (K.map .int) (i6 (II H) t l e x)=bif K.any (pb t l e)then U (.ret (.J (.bool ag)) (i6 (II H) t l e v))else U (.nxt (i6 (II H) t l e v)):=by
  intro K
  induction K with
  |nil=> intro x _;exact⟨x,rfl⟩
  |cons y K D=>
   intro x h;have M:aI 1000 O [] C ((i6 (II H) t l e x).set 4 (.J (.int y)))=_:=st 0 (bD (uQ l y (h y (.head _))) (by kernel_rfl) (by kernel_rfl)) (Vb (II H) t l e y (h y (.head _)));cases hb:pb t l e y with
   |true=> refine⟨(.J (.int y),.J (.str (sw l (kd y)))),?_⟩;rw[dG,forLoop,M,hq,hb];rfl
   |false=>
    obtain⟨Y,G⟩:=D (.J (.int y),.J (.str (sw l (kd y)))) λc w=> h c (.tail _ w)
    refine⟨Y,?_⟩;rw[dG,forLoop,M,hb];simp only[fP,hq,hb,sV];exact G
 obtain⟨x,M⟩:=a H (.un,.un) T;refine cx mO [] (i6 (II H) t l e (.un,.un)) (fX ?_) (by kernel_rfl);have Z:aJ 1000 O [] (az mO 0) (i6 (II H) t l e (.un,.un))=forLoop (λp V=> aI 1000 O [] C (V.set 4 (.J p))) (H.map .int) (i6 (II H) t l e (.un,.un)):=by kernel_rfl
 cases hb:H.any (pb t l e)with
 |true=> rw[hb]at M;exact aZ cj (cL 0 (Z.trans M))
 |false=> rw[hb]at M;exact(aZ cj (st 0 (Z.trans M) rfl)).trans (by kernel_rfl)
noncomputable def eu(p b:ae):ae:=bif bb b (36 * p)then(bif bb (b+26) (36 * p)then 26 else 36 * p - b)else 1
noncomputable def ij:ae->ae->ae->ae×ae
 |0,d,c=> (d,c)
 |n+1,d,c=> bif bb 455 d then ij n (d / 35) (c+1)else(d,c)
noncomputable def NL(r:ae×ae):ae:=36 * r.2+36 * r.1 / (r.1+38)
noncomputable def kf(d p:ae):ae:=d+d / p
def adapt(delta p:ae)(first:au):ae:=NL (ij 40 (kf (bif first then delta / 700 else delta / 2) p) 0)
noncomputable def fC(v:ae):ae:=bif c3 26 v then 22+v else 97+v
noncomputable def fD:ae->ae->ae->ae->aa ae
 |0,_,_,_=> []
 |n+1,v,b,p=> bif bb v (eu p b)then[fC v]else fC (eu p b+(v - eu p b) % (36 - eu p b))::fD n ((v - eu p b) / (36 - eu p b)) b (p+1)
noncomputable def up(H:aa ae):aa aj:=H.map ar
def XO:aa ao:=[S "base",S "least",S "most",S "skew",S "damp",S "bias",S "first"]
def dq:PV:=.inst 283 XO [.int 36,.int 1,.int 26,.int 38,.int 700,.int 72,.int 128]
theorem BW(p b:ae):1≤eu p b∧eu p b≤26:=by
 unfold eu;cases h:bb b (36 * p)with
 |false=> exact⟨dh 1,(by decide:1≤26)⟩
 |true=>
  have M:=dg h;cases G:bb (b+26) (36 * p)with
  |true=> exact⟨(by decide:1≤26),dh 26⟩
  |false=>
   replace G:¬(b+26+1≤36 * p):=λq=> by rw[show bb (b+26) (36 * p)=ag from iJ q]at G;cases G
   simp only[hx,fP];exact⟨tp M,LU.mpr (f7 b 26 ▸ LL (ma.mp G))⟩
section
variable {a b:CE}{p q:RV}{x y:aj}
theorem j8(M:ev O c' V a=U p)(G:ev O c' V b=U q)(j:p.read=.int x)(B:q.read=.int y):ev O c' V (.cmp a (.one .Lt b))=U (.J (.bool (decide (x < y)))):=eI M G (by rw[j,B];rfl)
theorem Nv(M:ev O c' V a=U p)(G:ev O c' V b=U q)(j:p.read=.int x)(B:q.read=.int y):ev O c' V (.cmp a (.one .LtE b))=U (.J (.bool (decide (x≤y)))):=eI M G (by rw[j,B];rfl)
theorem o5(M:ev O c' V a=U p)(G:ev O c' V b=U q)(j:p.read=.int x)(B:q.read=.int y):ev O c' V (.cmp a (.one .Gt b))=U (.J (.bool (decide (y < x)))):=eI M G (by rw[j,B];rfl)
theorem yB(M:ev O c' V a=U p)(G:ev O c' V b=U q)(j:p.read=.int x)(B:q.read=.int y):ev O c' V (.cmp a (.one .GtE b))=U (.J (.bool (decide (y≤x)))):=eI M G (by rw[j,B];rfl)
theorem JI(x y:aj):ey (.int x) (.int y)=U (decide (x=y)):=by
 have h:∀x:aj,hu (.int x)=ag:=λx=> by simp[hu,oC,oD]
 exact aU rfl (aU rfl ((ct (by rw[h,h];rfl)).trans (by rw[ht];congr 1)))
theorem t8(M:ev O c' V a=U p)(G:ev O c' V b=U q)(j:p.read=.int x)(B:q.read=.int y):ev O c' V (.cmp a (.one .Eq b))=U (.J (.bool (decide (x=y)))):=eI M G (by rw[j,B];exact(show eE .Eq (.int x) (.int y)=ey (.int x) (.int y)from by kernel_rfl).trans (JI x y))
theorem k0(M:ev O c' V a=U p)(G:ev O c' V b=U q){m:ae}(f:p.read=.int (ar m))(B:q.read=.int (ar n))(Z:0 < n)(hb:n < 1000000000):ev O c' V (.bin .FloorDiv a b)=U (.J (.int (ar (m / n)))):=cQ M G (by
 rw[f,B];have c:(ar n==0)=ak:=kY.mpr λe=> tn Z (sZ e)
 have j:bb (ar n).natAbs 1073741824=ag:=iJ (bK hb (by decide));exact pj ((ct (by rw[c,j];rfl)).trans (aZ U (Int.ofNat_fdiv m n).symm)))
theorem DG(M:ev O c' V a=U p)(G:ev O c' V b=U q){m:ae}(j:p.read=.int (ar m))(B:q.read=.int (ar n))(Z:0 < n):ev O c' V (.bin .Mod a b)=U (.J (.int (ar (m % n)))):=cQ M G (by
 rw[j,B];have c:(ar n==0)=ak:=kY.mpr λe=> tn Z (sZ e)
 exact pj ((ct (by rw[c];rfl)).trans (aZ U (Int.ofNat_fmod m n).symm)))
theorem j9(M:ev O c' V a=U p)(G:ev O c' V b=U q){m:ae}(j:p.read=.int (ar m))(B:q.read=.int (ar n))(Z:n≤m):ev O c' V (.bin .Sub a b)=U (.J (.int (ar (m - n)))):=cQ M G (by
 rw[j,B];show U (RV.J (.int (ar m - ar n)))=_;rw[show ar m - ar n=ar (m - n)from(K7 Z).symm])
end
theorem F6(p b:ae):(aA m pA wA (k+1)).call (.ref 273) [dq,.int (ar p),.int (ar b)]=U (.J (.int (ar (eu p b)))):=by
 let T:aj:=36 * ar p - ar b
 let V:aa Slot:=[.J dq,.J (.int (ar p)),.J (.int (ar b)),.J (.int T)]
 refine cx uq [] [.J dq,.J (.int (ar p)),.J (.int (ar b)),.un] (dX (τ:=V) (by kernel_rfl) ?_) (by kernel_rfl);have Y:ev (aA m pA wA k) [] V (.var 3)=U (.J (.int T)):=by kernel_rfl
 have l:ev (aA m pA wA k) [] V (.attr (.var 0) (S "least"))=U (.J (.int 1)):=by kernel_rfl
 have o:ev (aA m pA wA k) [] V (.attr (.var 0) (S "most"))=U (.J (.int 26)):=by kernel_rfl
 have a:=j8 Y l rfl rfl;have Q:=o5 Y o rfl rfl;have g:∀{r:RV} {v:PV},ev (aA m pA wA k) [] V (.ite (.cmp (.var 3) (.one .Lt (.attr (.var 0) (S "least")))) (.attr (.var 0) (S "least")) (.ite (.cmp (.var 3) (.one .Gt (.attr (.var 0) (S "most")))) (.attr (.var 0) (S "most")) (.var 3)))=U r->r.bR=U v->cj (aI 1000 (aA m pA wA k) [] (cW uq 1) V)=U (.J v):=λM G=>
  aZ cj (cL 1 (hA (by kernel_rfl) M G))
 unfold eu;by_cases q:b < 36 * p
 ·have e:T=ar (36 * p - b):=(K7 (d6 q)).symm
  rw[show bb b (36 * p)=ag from iJ q];rw[e,cv (by exact kJ.mpr (f3.mpr (tp q)))]at a;by_cases f:b+26 < 36 * p
  ·rw[e,cf (by exact c9.mpr (Nat.lt_sub_of_add_lt (f7 b 26 ▸ f)))]at Q
   rw[show bb (b+26) (36 * p)=ag from iJ f];exact g (ig a (gS Q o)) rfl
  ·rw[e,cv (by exact kJ.mpr (f3.mpr (LU.mpr (f7 b 26 ▸ hs.mp f))))]at Q
   rw[show bb (b+26) (36 * p)=ak from KW.mpr λz=> f (dg z)];exact g (ig a (ig Q Y)) (aZ (λx=> U (PV.int x)) e)
 ·rw[cf (by exact Int.lt_add_one_of_le (Int.sub_nonpos_of_le (f3.mpr (hs.mp q))):T < 1)]at a
  rw[show bb b (36 * p)=ak from KW.mpr λz=> q (dg z)];exact g (gS a l) rfl
theorem F9(v:ae)(e:aj)(f:e=ar v):ez 1000 (aA m pA wA k) [] ir [.J (.int e),.J (.bool ak)]=U (.J (.int (ar (fC v)))):=by
 subst f
 let V:aa Slot:=[.J (.int (ar v)),.J (.bool ak)]
 have a:ev (aA m pA wA k) [] V (.cmp (.var 0) (.one .GtE (.glb (S "LETTERS") (.int 26))))=U (.J (.bool (decide (26≤ar v)))):=yB (p:=.J (.int (ar v))) (q:=.J (.int 26)) (by kernel_rfl) (by kernel_rfl) rfl rfl;unfold fC;by_cases h:26≤v
 ·rw[cf (by exact f3.mpr h)]at a
  rw[show c3 26 v=ag from iJ h];refine fX (aZ cj (cL (τ:=V) (v:=.J (.int (ar (22+v)))) 0 (cN (A:=dH (az ir 0)) (B:=.nil) (by kernel_rfl) a ?_)));refine(show aI 1000 (aA m pA wA k) [] (dH (az ir 0)) V=U (.ret (.J (.int (48+ar v - 26))) V)from by kernel_rfl).trans ?_;rw[show(48+ar v - 26:aj)=ar (22+v)from by simp only[Cd];lia]
 ·rw[cv (by exact λq=> h (f3.mp q))]at a
  rw[show c3 26 v=ak from by cases q:c3 26 v with
   |false=> rfl
   |true=> exact bf (dg q) h]
  refine dX (c:=ir) (τ:=V) (cN (x:=ak) (e':=V) (A:=dH (az ir 0)) (B:=.nil) (by kernel_rfl) a (by kernel_rfl)) (by kernel_rfl)
theorem RR(v:ae):(aA m pA wA (k+1)).call (.ref 295) [.int (ar v)]=U (.J (.int (ar (fC v)))):=cx ir [] _ (F9 v _ rfl) (by kernel_rfl)
theorem RS(v:ae):(aA m pA wA (k+1)).call (.ref 295) [.int (ar v),.bool ak]=U (.J (.int (ar (fC v)))):=cx ir [] _ (F9 v _ rfl) (by kernel_rfl)
theorem iX{a b:ae}(h:¬a < b):bb a b=ak:=by
 cases q:bb a b with
 |false=> rfl
 |true=> exact bf (dg q) h
theorem mJ{a b:ae}(h:a < b):bb a b=ag:=iJ h
theorem NT(L:aa aj)(v:ae)(r:aa ae):L++up (v::r)=(L++[ar v])++up r:=by simp[up]
def nS(v b:ae)(L:aa aj)(p:ae)(x:Slot×Slot):aa Slot:=[.J (.int (ar v)),.J (.int (ar b)),.J dq,.J (.bool ak),.own (II L),.J (.int (ar p)),x.1,x.2]
theorem VT(b:ae)(P:aa Slot->aq (au×aa Slot))(w:∀V,P V=U (ag,V)):∀(n N v p:ae) (L:aa aj) (x:Slot×Slot),v < 10 ^ n->L.length+n < 900->
  ∃e',whileLoop P (λV=> aI 1000 (aA m pA wA (k+1)) [] (bE (az mS 1)) V) (N+n+1) (nS v b L p x)=U (.ret (.own (II (L++up (fD (n+1) v b p)))) e'):=by
  intro n;refine Cy n ?_;intro n rec N v p L x E I
  let O:=aA m pA wA (k+1)
  let C:=bE (az mS 1)
  let t:=eu p b
  have l:=BW p b;have g:aY (L.map PV.int).length=ag:=bX (by rw[bx];exact bc (iK _ _) (bh I (by decide)))
  let F:=nS v b L p (.J (.int (ar t)),x.2)
  have j:aJ 1000 O [] (az C 0) (nS v b L p x)=U (.nxt F):=bD (F6 (k:=k) p b) (by kernel_rfl) (by kernel_rfl);have a:ev O [] F (.cmp (.var 0) (.one .Lt (.var 6)))=U (.J (.bool (decide (ar v < ar t)))):=j8 (p:=.J (.int (ar v))) (q:=.J (.int (ar t))) (by kernel_rfl) (by kernel_rfl) rfl rfl
  let A:CB:=dH (az C 1)
  by_cases h:v < t
  ·rw[cf (by exact c9.mpr h)]at a
   have e:fD (n+1) v b p=[fC v]:=by rw[fD,show bb v (eu p b)=ag from iJ h];rfl
   refine⟨(nS v b (L++[ar (fC v)]) p (.J (.int (ar t)),x.2)).set 4 .un,KP (n:=N+n) (w _) (st (c:=C) 0 j (cL (c:=C) 1 (cN (x:=ag) (e':=F) (A:=A) (B:=.nil) (by kernel_rfl) a (st (c:=A) (τ:=nS v b (L++[ar (fC v)]) p (.J (.int (ar t)),x.2)) 0 (bD (RS (k:=k) v) (by kernel_rfl) (ll g ?_)) (cL (c:=A) (v:=.own (II (L++up (fD (n+1) v b p)))) 1 ?_)))))⟩
   ·rw[nS,show II (L++[ar (fC v)])=.list (L.map .int++[.int (ar (fC v))])from by rw[II,bj];rfl]
    kernel_rfl
   ·rw[e];kernel_rfl
  ·rw[cv (by exact λq=> h (c9.mp q))]at a
   cases n with
   |zero=> exact bf (fI (show v < 1 from E) l.1) h
   |succ n=>
    let u:=(v - t) % (36 - t)
    let B:=(v - t) / (36 - t)
    have e:fD (n+1+1) v b p=fC (t+u)::fD (n+1) B b (p+1):=by rw[fD,iX h];rfl
    have f:B < 10 ^ n:=by
     have i:v < 10 ^ n * 10:=by rw[← LS];exact E
     apply LJ;have d:10≤36 - t:=Nat.le_sub_of_add_le (bK (fg l.2 10) (by decide));have:=tm (10 ^ n) d;rw[LQ (36 - t)];exact bc (mc _ _) (fI i this)
    obtain⟨e',D⟩:=rec n (jV n) N B (p+1) (L++[ar (fC (t+u))]) (.J (.int (ar t)),.J (.int (ar (36 - t)))) f (by rw[da];show L.length+1+n < 900;rw[gn,f7 1];exact I);refine⟨e',?_⟩;rw[e,NT,← D]
    let M:=nS v b L p (.J (.int (ar t)),.J (.int (ar (36 - t))))
    have K:∀y,ev O [] (nS v b L p y) (.var 0)=U (.J (.int (ar v))):=λy=> by kernel_rfl
    have c:∀y,ev O [] (nS v b L p (.J (.int (ar t)),y)) (.var 6)=U (.J (.int (ar t))):=λy=> by kernel_rfl
    have W:∀z,ev O [] (nS v b z p (.J (.int (ar t)),.J (.int (ar (36 - t))))) (.var 7)=U (.J (.int (ar (36 - t)))):=λz=> by kernel_rfl
    have H:ev O [] M (.bin .Sub (.var 0) (.var 6))=U (.J (.int (ar (v - t)))):=j9 (K _) (c _) rfl rfl (tk h);have Z:ev O [] M (.bin .Add (.var 6) (.bin .Mod (.bin .Sub (.var 0) (.var 6)) (.var 7)))=U (.J (.int (ar (t+u)))):=cQ (c _) (DG H (W _) rfl rfl (tp (bc l.2 (by decide)))) (by kernel_rfl)
    let T:=L++[ar (fC (t+u))]
    let G:=nS v b T p (.J (.int (ar t)),.J (.int (ar (36 - t))))
    have o:ev O [] G (.bin .Sub (.var 0) (.var 6))=U (.J (.int (ar (v - t)))):=j9 (p:=.J (.int (ar v))) (q:=.J (.int (ar t))) (by kernel_rfl) (by kernel_rfl) rfl rfl (tk h);refine lU (n:=N+(n+1)) (w _) (st (c:=C) 0 j (st (c:=C) (τ:=F) 1 (cN (x:=ak) (e':=F) (A:=A) (B:=.nil) (by kernel_rfl) a (by kernel_rfl)) (st (c:=C) (τ:=M) 2 (c7 (e':=F) (sl:=.J (.int (ar (36 - t)))) (by kernel_rfl) (j9 (m:=36) (p:=.J (.int 36)) (q:=.J (.int (ar t))) (by kernel_rfl) (by kernel_rfl) rfl rfl (bK l.2 (by decide))) rfl (by kernel_rfl) (by kernel_rfl))
     (st (c:=C) (τ:=G) 3 (iT (e':=M) (H:=L.map .int) (by kernel_rfl) (by kernel_rfl) (ek (c6 Z) rfl (RR (k:=k) (t+u))) rfl g ?_) (st (c:=C) (τ:=nS B b T p (.J (.int (ar t)),.J (.int (ar (36 - t))))) 4 (c7 (e':=G) (sl:=.J (.int (ar B))) (by kernel_rfl) (k0 o (W _) rfl rfl (tp (bc l.2 (by decide))) (bc (mc _ _) (by decide))) rfl (by kernel_rfl) (by kernel_rfl))
     (st (c:=C) (τ:=nS B b T (p+1) (.J (.int (ar t)),.J (.int (ar (36 - t))))) 5 (by kernel_rfl) rfl)))))) rfl
    rw[show G=[.J (.int (ar v)),.J (.int (ar b)),.J dq,.J (.bool ak),.own (.list (L.map .int++[.int (ar (fC (t+u)))])),.J (.int (ar p)),.J (.int (ar t)),.J (.int (ar (36 - t)))]from by show nS _ _ _ _ _=_;rw[nS,II,bj];rfl];kernel_rfl
theorem R5(v b:ae)(a:v < 10 ^ 39):(aA m pA wA (k+2)).call (.ref 310) [.int (ar v),.int (ar b),dq,.bool ak]=U (.own (II (up (fD 40 v b 1)))):=by
 let O:=aA m pA wA (k+1)
 obtain⟨e',h⟩:=VT (m:=m) (pA:=pA) (wA:=wA) (k:=k) b (eW O [] (.lit (.bool ag))) (λV=> by kernel_rfl) 39 960 v 1 [] (.un,.un) a (by decide);refine cx mS [] ([.J (.int (ar v)),.J (.int (ar b)),.J dq,.J (.bool ak)]++de 4 .un) (dX (τ:=nS v b [] 1 (.un,.un)) (by kernel_rfl) ?_) (by kernel_rfl);exact aZ cj (cL (c:=mS) 1 (dt (by kernel_rfl) h))
def aS(d p:ae)(f:au)(c:Slot):aa Slot:=[.J dq,.J (.int (ar d)),.J (.int (ar p)),.J (.bool f),c]
theorem NM(O:bI)(p:ae)(f:au):∀(n N d c:ae),d < 455 * 35 ^ n->
  (ij n d c).1≤455∧whileLoop (eW O [] (jO (az g4 3))) (λV=> aI 1000 O [] (bE (az g4 3)) V) (N+n+1) (aS d p f (.J (.int (ar c))))=U (.nxt (aS (ij n d c).1 p f (.J (.int (ar (ij n d c).2))))):=by
  intro n;refine Cy n ?_;intro n rec N d c h
  let P:CE:=jO (az g4 3)
  have a:∀c,ev O [] (aS d p f (.J (.int (ar c)))) P=U (.J (.bool (decide (455 < ar d)))):=λc=> by kernel_rfl
  have Q:∀c,eW O [] P (aS d p f (.J (.int (ar c))))=U (decide (455 < ar d),aS d p f (.J (.int (ar c)))):=λc=> by kernel_rfl
  by_cases u:455 < d
  ·have e:=Q c
   rw[cf (by exact c9.mpr u)]at e;cases n with
   |zero=> exact bf h (hs.mpr (d6 u))
   |succ n=>
    have j:ij (n+1) d c=ij n (d / 35) (c+1):=by rw[ij,mJ u];rfl
    obtain⟨M,G⟩:=rec n (jV n) N (d / 35) (c+1) (LJ (by rw[LS,← Nat.mul_assoc,LQ _ 35]at h;exact h));rw[j];refine⟨M,?_⟩;rw[← G];refine lU (n:=N+(n+1)) e (b:=aS (d / 35) p f (.J (.int (ar (c+1))))) ?_ rfl
    let C:=bE (az g4 3)
    exact st (c:=C) (τ:=aS (d / 35) p f (.J (.int (ar c)))) 0 (c7 (e':=aS d p f (.J (.int (ar c)))) (sl:=.J (.int (ar (d / 35)))) (by kernel_rfl) (k0 (m:=d) (n:=35) (p:=.J (.int (ar d))) (q:=.J (.int 35)) (by kernel_rfl) (by kernel_rfl) rfl rfl (by decide) (by decide)) rfl (by kernel_rfl) (by kernel_rfl)) (by kernel_rfl)
  ·have e:=Q c
   rw[cv (by exact λq=> u (c9.mp q))]at e;have j:ij n d c=(d,c):=by cases n with
    |zero=> rfl
    |succ n=> rw[ij,iX u];rfl
   rw[j];exact⟨tk u,om (n:=N+n) e⟩
theorem FK(d p:ae)(f:au)(u:d < 10 ^ 39)(M:0 < p)(G:p < 1000000):(aA m pA wA (k+1)).call (.ref 280) [dq,.int (ar d),.int (ar p),.bool f]=U (.J (.int (ar (adapt d p f)))):=by
 let O:=aA m pA wA k
 let T:=bif f then d / 700 else d / 2
 have v:T≤d:=by cases f <;> exact LI _ _
 have L:aJ 1000 O [] (az g4 0) (aS d p f .un)=U (.nxt (aS T p f .un)):=by
  refine c7 (e':=aS d p f .un) (sl:=.J (.int (ar T))) (r:=.J (.int (ar T))) (by kernel_rfl) ?_ rfl (by kernel_rfl) (by kernel_rfl);cases f
  ·exact ig (by kernel_rfl) (k0 (m:=d) (n:=2) (p:=.J (.int (ar d))) (q:=.J (.int 2)) (by kernel_rfl) (by kernel_rfl) rfl rfl (by decide) (by decide))
  ·exact gS (by kernel_rfl) (k0 (m:=d) (n:=700) (p:=.J (.int (ar d))) (q:=.J (.int 700)) (by kernel_rfl) (by kernel_rfl) rfl rfl (by decide) (by decide))
 have X:ev O [] (aS T p f .un) (.var 1)=U (.J (.int (ar T))):=by kernel_rfl
 have o:aJ 1000 O [] (az g4 1) (aS T p f .un)=U (.nxt (aS (kf T p) p f .un)):=
  c7 (e':=aS T p f .un) (r:=.J (.int (ar (kf T p)))) (sl:=.J (.int (ar (kf T p)))) (by kernel_rfl) (cQ X (k0 X (q:=.J (.int (ar p))) (by kernel_rfl) rfl rfl M (bh G (by decide))) (by kernel_rfl)) rfl (by kernel_rfl) (by kernel_rfl)
 have hb:kf T p < 455 * 35 ^ 40:=by
  have:T / p≤T:=LI _ _;exact bh (bc (oy v (bK this v)) (LG u u)) (by decide)
 obtain⟨j,B⟩:=NM O p f 40 959 (kf T p) 0 hb
 let r:=ij 40 (kf T p) 0
 refine cx g4 [] (aS d p f .un) (dX L ?_) (by kernel_rfl);refine(aZ cj (st (c:=g4) 1 o (st (c:=g4) (τ:=aS (kf T p) p f (.J (.int (ar 0)))) 2 (by kernel_rfl) (st (c:=g4) 3 (dt (by kernel_rfl) B) (cL (c:=g4) 4 (hA (e':=aS r.1 p f (.J (.int (ar r.2)))) (v:=.int (ar (adapt d p f))) (by kernel_rfl) (cQ (p:=.J (.int (ar (36 * r.2)))) (by kernel_rfl) (k0 (m:=36 * r.1) (n:=r.1+38) (p:=.J (.int (ar (36 * r.1)))) (q:=.J (.int (ar (r.1+38)))) (by kernel_rfl) (by kernel_rfl) rfl rfl (ji _) (bc (jS j 38) (by decide))) (r:=.J (.int (ar (adapt d p f)))) (by kernel_rfl)) rfl)))))).trans rfl
structure ES where
 delta:ae
 bias:ae
 done:ae
 out:aa ae
def i0(aL l c:ae)(s:ES):ES:=bif bb c aL then⟨s.delta+1,s.bias,s.done,s.out⟩else bif bJ c aL then⟨0,adapt s.delta (s.done+1) (bJ s.done l),s.done+1,s.out++fD 40 s.delta s.bias 1⟩else s
def g6(aL l:ae)(H:aa ae)(s:ES):ES:=H.foldl (λs c=> i0 aL l c s) s
noncomputable def fq(H:aa ae)(aL a:ae):ae:=H.foldl (λa c=> bif c3 aL c && bb c a then c else a) a
def Ry(H:aa ae)(m l aL:ae)(s:ES)(k:ae->ES->ES):ES:=
 match g6 m l H ⟨s.delta+(m - aL) * (s.done+1),s.bias,s.done,s.out⟩with
 |⟨a,b,c,d⟩=> k (m+1) ⟨a+1,b,c,d⟩
noncomputable def pM(H:aa ae)(a l:ae):ae->ae->ES->ES
 |0,_,s=> s
 |n+1,aL,s=> bif bb s.done a then Ry H (fq H aL 1114112) l aL s (pM H a l n)else s
def encL(H:aa ae):aa ae:=
 let b:=H.filter λc=> bb c 128
 (pM H H.length b.length 64 128 ⟨0,72,b.length,bif b.isEmpty then[]else b++[45]⟩).out
theorem k5(a b:ae):bJ a b=decide (a=b):=by
 cases h:bJ a b with
 |true=> exact(cf (jT h)).symm
 |false=> exact(cv (Nat.ne_of_beq_eq_false h)).symm
theorem k7(a b:ae):bb a b=decide (a < b):=by
 by_cases h:a < b
 ·rw[mJ h,cf h]
 ·rw[iX h,cv h]
theorem yN(a b:ae):c3 a b=decide (a≤b):=by
 by_cases h:a≤b
 ·rw[iJ h,cf h]
 ·rw[cv h]
  cases q:c3 a b with
  |false=> rfl
  |true=> exact bf (dg q) h
theorem Ga{v:ae}(h:v < 36):fC v < 128:=by
 unfold fC;cases q:c3 26 v with
 |true=> exact fI (Cr h 22) (by decide)
 |false=>
  rw[yN]at q;have:=of_decide_eq_false q;exact fI (Cr (ma.mp this) 97) (by decide)
theorem HR(n:ae):∀(v b p:ae),(∀o∈fD n v b p,o < 128)∧(fD n v b p).length≤n:=by
 induction n with
 |zero=> exact λ_ _ _=> ⟨λL h=> (nm h),dh _⟩
 |succ n D=>
  intro v b p;have l:=BW p b;rw[fD,k7];by_cases h:v < eu p b
  ·rw[cf h]
   refine⟨λo R=> ?_,by simp⟩;rw[d5.mp R];exact Ga (fI h (bK l.2 (by decide)))
  ·rw[cv h]
   obtain⟨M,G⟩:=D ((v - eu p b) / (36 - eu p b)) b (p+1);refine⟨λo R=> ?_,iL G⟩;rcases bM.mp R with rfl |R
   ·have:=LP (v - eu p b) (show 0 < 36 - eu p b from tp (bc l.2 (by decide)))
    exact Ga (by rw[f7];exact Nat.add_lt_of_lt_sub this)
   ·exact M o R
structure EB(s:ES)(B D L:ae):Prop where
 d:s.delta≤B
 o:s.done≤D
 l:s.out.length≤L+40 * s.done
 b:∀x∈s.out,x < 128
theorem Rx{s:ES}{B D L:ae}(h:EB s B D L)(m l c:ae):EB (i0 m l c s) (B+1) (D+1) L:=by
 unfold i0;rw[k7,k5];by_cases M:c < m
 ·rw[cf M];exact⟨iL h.d,jU h.o,h.l,h.b⟩
 ·rw[cv M]
  by_cases G:c=m
  ·rw[cf G]
   obtain⟨K,y⟩:=HR 40 s.delta s.bias 1;refine⟨gp _,iL h.o,?_,λx T=> ?_⟩
   ·have:=h.l
    simp only[fP,hx,da];rw[Cw,← gn];exact oy this y
   ·rcases dc.mp T with T |T
    ·exact h.b x T
    ·exact K x T
  ·rw[cv G];exact⟨jU h.d,jU h.o,h.l,h.b⟩
theorem Rw(m l c:ae)(s:ES):(i0 m l c s).done=s.done+(if c=m then 1 else 0):=by
 unfold i0;rw[k7,k5];by_cases M:c < m
 ·rw[cf M,bW (e3 M)];rfl
 ·rw[cv M]
  by_cases G:c=m
  ·rw[cf G,bZ G];rfl
  ·rw[cv G,bW G];rfl
theorem zo(m l:ae):∀(K:aa ae) {s:ES} {B D L:ae},EB s B D L->EB (g6 m l K s) (B+K.length) (D+K.length) L
 |[],_,_,_,_,h=> h
 |y::K,s,B,D,L,h=> by
  have:=zo m l K (Rx h m l y);rw[dz];show EB (g6 m l K (i0 m l y s)) _ _ _;rw[show B+(K.length+1)=B+1+K.length from by rw[f7 K.length 1,gn],show D+(K.length+1)=D+1+K.length from by rw[f7 K.length 1,gn]];exact this
theorem zm(m l:ae):∀(K:aa ae) (s:ES),(g6 m l K s).done=s.done+K.countP (λc=> decide (c=m))
 |[],_=> rfl
 |y::K,s=> by
  show(g6 m l K (i0 m l y s)).done=_;rw[zm m l K,Rw,xw];by_cases h:y=m <;> simp[h] <;> lia
theorem Ru(m l:ae)(K:aa ae)(z:ae)(s:ES):g6 m l (K++[z]) s=i0 m l z (g6 m l K s):=by simp[g6]
theorem pick{aL x a b:ae}(hb:(bif c3 aL x && bb x a then x else a)=b):(aL≤x∧x < a∧b=x)∨(¬(aL≤x∧x < a)∧b=a):=by
 cases h:c3 aL x && bb x a with
 |true=> rw[h]at hb;exact .inl ⟨dg (bu h).1,dg (bu h).2,hb.symm⟩
 |false=> rw[h]at hb;exact .inr ⟨λq=> by rw[iJ q.1,show bb x a=ag from iJ q.2]at h;exact nf h.symm,hb.symm⟩
theorem Vy(aL:ae)(H:aa ae):∀(a:ae),(fq H aL a≤a)∧(∀c∈H,aL≤c->fq H aL a≤c)∧(fq H aL a=a∨fq H aL a∈H∧aL≤fq H aL a):=by
 induction H with
 |nil=> exact λa=> ⟨dh _,λL h=> (nm h),.inl rfl⟩
 |cons x H D=>
  intro a;show fq H aL (bif c3 aL x && bb x a then x else a)≤a∧(∀c∈x::H,aL≤c->fq H aL (bif c3 aL x && bb x a then x else a)≤c)∧(fq H aL (bif c3 aL x && bb x a then x else a)=a∨fq H aL (bif c3 aL x && bb x a then x else a)∈x::H∧aL≤fq H aL (bif c3 aL x && bb x a then x else a));generalize hb:(bif c3 aL x && bb x a then x else a)=b;obtain⟨M,G,j⟩:=D b;rcases pick hb with ⟨A,f,rfl⟩ |⟨q,rfl⟩
  ·exact⟨bK M (d6 f),λc w W=> (bM.mp w).elim (λe=> e ▸ M) λw=> G c w W,j.elim (λj=> .inr (by rw[j];exact⟨.head _,A⟩)) λj=> .inr ⟨.tail _ j.1,j.2⟩⟩
  ·exact⟨M,λc w W=> (bM.mp w).elim (λe=> bK M (hs.mp λz=> q ⟨e ▸ W,e ▸ z⟩)) λw=> G c w W,j.elim .inl λj=> .inr ⟨.tail _ j.1,j.2⟩⟩
theorem F1:(aA m pA wA (k+1)).call (.ref 283) []=U (.J dq):=by kernel_rfl
theorem RM(c:aj):(aA m pA wA (k+1)).call (.ref 343) [.int c,.none]=U (.J (.int c)):=by kernel_rfl
theorem FL(c:aj):(aA m pA wA (k+1)).call (.ref 324) [.int c,dq]=U (.J (.bool (decide (c < 128)))):=by kernel_rfl
theorem F3:∀c∈sig,(aA m pA wA (k+2)).call (.ref 87) [.int c]=U (.J (.bool ag)):=dm (by kernel_rfl)
theorem RN(H:aa aj)(T:∀c∈H,c∈sig):(aA m pA wA (k+3)).call (.ref 331) [II H]=U (.J .none):=by
 obtain⟨e,M⟩:=lj (f:=λp V=> aI 1000 (aA m pA wA (k+2)) [] (bE (az mR 0)) (V.set 1 (.J p))) (λ_ (e:Slot)=> [.J (II H),e]) H (λK z Q e h=> ⟨.J (.int z),
  (st (c:=bE (az mR 0)) (τ:=[.J (II H),.J (.int z)]) 0 (bD (F3 z (T z (by rw[h];simp))) (by kernel_rfl) (by kernel_rfl)) rfl)⟩) .un
 exact cx mR [] [.J (II H),.un] (fX (aZ cj (st (c:=mR) 0 (dt (by kernel_rfl) M) rfl))) (by kernel_rfl)
theorem zz{j E:Type}{f:PV->aa Slot->aq Out}(g:j->PV)(S:aa j->E->aa Slot)(H:aa j)(gw:∀K z Q e,H=K++z::Q->∃X,f (.tup [.int K.length,g z]) (S K e)=U (.nxt (S (K++[z]) X)))(e:E):
  ∃X,forLoop f (gC 0 (H.map g)) (S [] e)=U (.nxt (S H X)):=by
 have c:∀(Q K:aa j) (e:E),H=K++Q->∃X,forLoop f (gC K.length (Q.map g)) (S K e)=U (.nxt (S H X)):=by
  intro Q
  induction Q with
  |nil=> intro K e h;rw[fu]at h;exact⟨e,by rw[h];rfl⟩
  |cons z Q D=>
   intro K e h;obtain⟨n,M⟩:=gw K z Q e h;obtain⟨b,G⟩:=D (K++[z]) n (by rw[h,bU];rfl);refine⟨b,?_⟩;rw[dG,gC,forLoop,M];rw[da]at G;exact G
 exact c H [] e rfl
theorem ints_map:∀H:aa aj,fU (H.map .int)=U H
 |[]=> rfl
 |x::r=> aU (a:=x) rfl (fW (ints_map r))
theorem Oq(a b:aj):binI .Mult a b=gd (cb a ||cb b) (U (a * b)):=rfl
theorem Ov{n:aj}:binop .Mult (.list H) (.int n)=gd (ag && cb n && aY (H.length * n.toNat)) (U (.own (.list (de n.toNat H).flatten))):=rfl
theorem yC{a b:CE}{p q:RV}{m:ae}(M:ev O c' V a=U p)(G:ev O c' V b=U q)(g1:p.read=.int (ar m))(R:q.read=.int (ar n))(h:m < 1000000000∨n < 1000000000):ev O c' V (.bin .Mult a b)=U (.J (.int (ar (m * n)))):=cQ M G (by
 rw[g1,R];refine pj ((Oq _ _).trans (ct ?_));have o:∀m:ae,m < 1000000000->cb (ar m)=ag:=λm h=> by
  simp only[cb,cP,fQ];exact⟨lW (by decide) (hp m),c9.mpr (bh h (by decide))⟩
 rcases h with h |h
 ·rw[o _ h];rfl
 ·rw[o _ h,Bool.or_true])
theorem ty_bytes{H:aa ae}(g:aY (up H).length=ag)(I:∀d∈H,d < 256):hn "bytes" [II (up H)]=U (.J (.a8 (up H))):=by
 refine(show hn "bytes" [II (up H)]=(fU ((up H).map .int)).bind λis=> gd (aY is.length && is.all λi=> decide (0≤i) && decide (i < 256)) (U (.J (.a8 is)))from by kernel_rfl).trans (aU (ints_map _) (ct ?_));rw[g,KZ,eh];intro c w;obtain⟨d,u,rfl⟩:=bz.mp w;have:=I d u;simp only[cP,fQ];exact⟨hp d,c9.mpr this⟩
theorem Ol{i:aj}{r:aa aj}:ik "min" [II (i::r)]=U (.J (.int (r.foldl min i))):=
 (show ik "min" [II (i::r)]=(fU ((i::r).map .int)).bind λis=> (lb is).map λq=> .J (.int (q.2.foldl min q.1))from by kernel_rfl).trans (aU (ints_map _) rfl)
theorem Oj{i:aj}{r:aa aj}:ik "max" [II (i::r)]=U (.J (.int (r.foldl max i))):=
 (show ik "max" [II (i::r)]=(fU ((i::r).map .int)).bind λis=> (lb is).map λq=> .J (.int (q.2.foldl max q.1))from by kernel_rfl).trans (aU (ints_map _) rfl)
theorem Gi(aL:ae):∀(H:aa ae) (a:ae),ar (fq H aL a)=((up H).filter λc=> decide (ar aL≤c)).foldl min (ar a)
 |[],a=> rfl
 |x::H,a=> by
  have e:fq (x::H) aL a=fq H aL (bif c3 aL x && bb x a then x else a):=rfl;rw[e,Gi aL H,show up (x::H)=ar x::up H from rfl,List.filter_cons];rw[yN,k7];by_cases q:aL≤x
  ·rw[cf q,bZ (cf (by exact f3.mpr q)),kL]
   congr 1
   by_cases f:x < a
   ·rw[cf f];exact(sY (f3.mpr (d6 f))).symm
   ·rw[cv f];exact(sX (f3.mpr (hs.mp f))).symm
  ·rw[cv q,bW (by rw[cv (by exact λz=> q (f3.mp z))];exact Bool.false_ne_true)]
   rfl
theorem R2(H:aa ae)(aL:ae)(Z:H.length < 1000)(T:∀c∈H,c < 1114112)(h:∃c∈H,aL≤c):(aA m pA wA (k+1)).call (.ref 336) [II (up H),.int (ar aL)]=U (.J (.int (ar (fq H aL 1114112)))):=by
 refine cx ux [.int (ar aL)] [.J (II (up H))] (fX ?_) (by kernel_rfl);have g:aY ((up H).map PV.int).length=ag:=bX (by rw[bx,up,bx];exact bh Z (by decide))
 let O:=aA m pA wA k
 let K:=(up H).filter λc=> decide (ar aL≤c)
 have w:=t7 (O:=O) (c':=[.int (ar aL)]) (V:=[.J (II (up H))]) (elt:=.var 0) (it:=.var 0) (cond:=.cmp (.var 0) (.one .GtE (.cel 0))) (caps:=[0]) (p:=.J (II (up H))) (v:=II (up H)) (ps:=(up H).map .int) (c:=λp=> match p with | .int c=> decide (ar aL≤c) |_=> ak) (g:=λp=> p)
  (by kernel_rfl) rfl rfl g (λx T=> by obtain⟨c,_,rfl⟩:=bz.mp T;exact⟨.J (.bool (decide (ar aL≤c))),by kernel_rfl,rfl⟩) (λx T=> ⟨.J x,by kernel_rfl,rfl⟩)
 have I:(((up H).map PV.int).filter λp=> match p with | .int c=> decide (ar aL≤c) |_=> ak).map (λp=> p)=K.map .int:=by rw[xC,Lj];rfl
 rw[I]at w;obtain⟨y,r,E⟩:bH λy r=> K=y::r:=by
  obtain⟨c,M,G⟩:=h;have:ar c∈K:=l6.mpr ⟨cY M,cf (by exact f3.mpr G)⟩;cases q:K with
  |nil=> rw[q]at this;cases this
  |cons y r=> exact⟨y,r,rfl⟩
 have n:ar (fq H aL 1114112)=r.foldl min y:=by
  rw[Gi aL H];show K.foldl min _=_;rw[E,kL]
  congr 1
  have:y∈K:=by rw[E];exact .head _
  obtain⟨M,_⟩:=l6.mp this;obtain⟨c,j,rfl⟩:=bz.mp M;have:=T c j;exact sY (f3.mpr (d6 this))
 refine aZ cj (cL (c:=ux) (V:=[.J (II (up H))]) 0 (hA (e':=[.J (II (up H))]) (by kernel_rfl) (j6 (r:=.J (.int (ar (fq H aL 1114112)))) (c6 w) ?_) rfl));show ik "min" [II K]=_;rw[E,n];exact Ol
theorem X6(n:ae):(de n [PV.none]).flatten=de n PV.none:=by
 induction n with
 |zero=> rfl
 |succ n D=> rw[kM,tc,D,kM];rfl
theorem D4{j:Type}(H:aa j)(i:ae)(g:H.length < 1000)(hi:i < 1000):iW H (ar i)=H[i]?:=by
 have M:cb (ar i)=ag:=by
  simp only[cb,cP,fQ];exact⟨lW (by decide) (hp i),c9.mpr (bh hi (by decide))⟩
 unfold iW gd;rw[M,bX (bh g (by decide))];simp
theorem KC(a b:aa ae):up (a++b)=up a++up b:=bj
theorem dJ(a:aa ae):(up a).length=a.length:=bx _
theorem ua(a b:aa ae):II (up (a++b))=.list ((up a).map .int++(up b).map .int):=by rw[II,KC,bj]
noncomputable def wl(n:ae):PV:=.list (de n .none)
structure EX where
 (s5 s6 s7 s8 s9 s10 s11 s12:Slot)
def eS(H:aa ae)(o:aa ae)(x:EX):aa Slot:=[.J (II (up H)),.J dq,.J .none,.own (wl H.length),.own (II (up o)),x.s5,x.s6,x.s7,x.s8,x.s9,x.s10,x.s11,x.s12]
noncomputable abbrev sI(n:ae):Slot:=.J (.int (ar n))
theorem vj{H:aa ae}(h:ev O [] V (.var i)=U r)(f:r.read=II (up H))(Z:H.length < 10000):ev O [] V (.call (.glb (S "len") (.fn (.builtin "len"))) (.cons (.var i) .nil))=U (.J (.int (ar H.length))):=by
 refine j6 (c6 h) ?_;have g:aY ((up H).map PV.int).length=ag:=bX (by rw[bx,dJ];exact bh Z (by decide));show(g9 r.read).map _=_;rw[f,show g9 (II (up H))=U (((up H).map PV.int).length:aj)from ct g,bx,dJ];rfl
theorem Rz(H:aa ae)(Z:H.length≤20):∃x:Slot×Slot,aJ 1000 (aA m pA wA (k+1)) [] (az dj 4) (eS H [] ⟨.un,.un,.un,.un,.un,.un,.un,.un⟩)=U (.nxt (eS H (H.filter λc=> bb c 128) ⟨x.1,x.2,.un,.un,.un,.un,.un,.un⟩)):=by
 let O:=aA m pA wA (k+1)
 let C:=bE (az dj 4)
 let u:aa ae->Slot×Slot->aa Slot:=λK x=> eS H (K.filter λc=> bb c 128) ⟨x.1,x.2,.un,.un,.un,.un,.un,.un⟩
 obtain⟨x,h⟩:=zz (f:=(λp V=> (hS [5,6] p V).bind λe'=> aI 1000 O [] C e':PV->aa Slot->aq Out)) (λc:ae=> PV.int (ar c)) u H (λK z Q e T=> by
  refine⟨(sI K.length,sI z),?_⟩;have E:K.length < H.length:=by rw[T];simp
  let V:=u K (sI K.length,sI z)
  have a:ev O [] V (.call (.glb (S "puny_basic") (.fn (.ref 324))) (.cons (.var 6) (.cons (.var 1) .nil)))=U (.J (.bool (decide (ar z < 128)))):=ek (B:=[.J (.int (ar z)),.J dq]) (by kernel_rfl) rfl (FL (ar z))
  let A:CB:=dH (az C 0)
  have n:(K++[z]).filter (λc=> bb c 128)=(K.filter λc=> bb c 128)++bif bb z 128 then[z]else[]:=by
   rw[List.filter_append];congr 1
  show aI 1000 O [] (cW C 0) V=_;by_cases B:z < 128
  ·rw[cf (by exact c9.mpr B)]at a
   rw[mJ B]at n;have v:ev O [] V (.idx (.var 3) (.var 5))=U (.J .none):=hy (p:=.bor (wl H.length)) (q:=.J (.int (ar K.length))) (by kernel_rfl) (by kernel_rfl) (by
    refine(u7 (H:=de H.length PV.none) (i:=ar K.length)).trans ?_;rw[D4 _ _ (by rw[Lv];exact bc Z (by decide)) (fI E (bK Z (by decide))),Lr,bZ E])
   have g:aY ((up (K.filter λc=> bb c 128)).map PV.int).length=ag:=bX (by
    rw[bx,dJ];exact bc (bK (Lu (λc=> bb c 128) K) (d6 E)) (bc Z (by decide)))
   refine st (c:=C) 0 (cN (x:=ag) (e':=V) (A:=A) (B:=.nil) (by kernel_rfl) a (st (c:=A) (τ:=u (K++[z]) (sI K.length,sI z)) 0 (iT (e':=V) (H:=(up (K.filter λc=> bb c 128)).map .int) (by kernel_rfl) (by kernel_rfl) (ek (dT (p:=.J (.int (ar z))) (by kernel_rfl) v) rfl (RM (k:=k) (ar z))) rfl g ?_) rfl)) rfl;show _=eS H ((K++[z]).filter λc=> bb c 128) _;rw[n,eS,hx,ua];kernel_rfl
  ·rw[cv (by exact λq=> B (c9.mp q))]at a
   rw[iX B,fP,fu]at n;refine st (c:=C) (τ:=u (K++[z]) (sI K.length,sI z)) 0 (cN (x:=ak) (e':=V) (A:=A) (B:=.nil) (by kernel_rfl) a ?_) rfl;show U (Out.nxt (u K _))=U (.nxt (eS H ((K++[z]).filter λc=> bb c 128) _));rw[n]) (.un,.un)
 refine⟨x,dt ?_ h⟩;rw[show H.map (λc:ae=> PV.int (ar c))=(up H).map .int from by rw[up,dM];rfl];kernel_rfl
theorem RC(H:aa ae)(d l:ae)(K:aa ae)(z:ae)(s:ES)(x X o:Slot)(E:K.length < H.length)(Z:H.length≤20)(u:s.delta < 10 ^ 39)(R:s.done < 1000)(I:s.out.length < 10000):
  ((hS [5,12] (.tup [.int K.length,.int (ar z)]) (eS H s.out ⟨x,sI d,sI l,sI s.done,sI s.delta,sI s.bias,X,o⟩)).bind λe'=> aI 1000 (aA m pA wA (k+2)) [] (bE (az (bE (az dj 9)) 3)) e')=U (.nxt (let P:=i0 d l z s;eS H P.out ⟨sI K.length,sI d,sI l,sI P.done,sI P.delta,sI P.bias,X,sI z⟩)):=by
 let O:=aA m pA wA (k+2)
 let C:=bE (az (bE (az dj 9)) 3)
 let V:=eS H s.out ⟨sI K.length,sI d,sI l,sI s.done,sI s.delta,sI s.bias,X,sI z⟩
 show aI 1000 O [] (cW C 0) V=_
 let A:CB:=dH (az C 0)
 let B:CB:=GZ (az C 0)
 let w:CB:=dH (az B 0)
 have b:ev O [] V (.var 12)=U (.J (.int (ar z))):=by kernel_rfl
 have c:ev O [] V (.var 6)=U (.J (.int (ar d))):=by kernel_rfl
 have a:=j8 b c rfl rfl;have Q:=t8 b c rfl rfl;unfold i0;rw[k7,k5];by_cases M:z < d
 ·rw[cf (by exact c9.mpr M)]at a
  rw[cf M];exact st 0 (cN (by kernel_rfl) a (by kernel_rfl)) rfl
 ·rw[cv (by exact λq=> M (c9.mp q))]at a
  rw[cv M];by_cases G:z=d
  ·rw[cf (by rw[G])]at Q
   rw[cf G];have v:ev O [] V (.idx (.var 3) (.var 5))=U (.J .none):=hy (p:=.bor (wl H.length)) (q:=.J (.int (ar K.length))) (by kernel_rfl) (by kernel_rfl) (by
    refine(u7 (H:=de H.length PV.none) (i:=ar K.length)).trans ?_;rw[D4 _ _ (by rw[Lv];exact bc Z (by decide)) (fI E (bK Z (by decide))),Lr,bZ E])
   have i:ev O [] V (.and (.cmp (.idx (.var 3) (.var 5)) (.one .IsNot (.lit .none))) (.idx (.var 3) (.var 5)))=U (.J (.bool ak)):=yA (eI v (q:=.J .none) (by kernel_rfl) (by kernel_rfl));have g:aY (((up s.out).map PV.int).length+((up (fD 40 s.delta s.bias 1)).map PV.int).length)=ag:=bX (by
    have:=(HR 40 s.delta s.bias 1).2;rw[bx,bx,dJ,dJ];exact fI (Cs I this) (by decide))
   let o':=s.out++fD 40 s.delta s.bias 1
   let F:=eS H o' ⟨sI K.length,sI d,sI l,sI s.done,sI s.delta,sI s.bias,X,sI z⟩
   let f:=decide (ar s.done=ar l)
   have t:f=bJ s.done l:=by
    rw[k5];exact za _ _
   have h:ev O [] F (.var 8)=U (.J (.int (ar s.done))):=by kernel_rfl
   have W:ev O [] F (.var 7)=U (.J (.int (ar l))):=by kernel_rfl
   have Y:ev O [] F (.meth (.var 1) (S "adapted") (.cons (.var 9) (.cons (.bin .Add (.var 8) (.lit (.int 1))) (.cons (.cmp (.var 8) (.one .Eq (.var 7))) .nil))))=U (.J (.int (ar (adapt s.delta (s.done+1) (bJ s.done l))))):=
    mz (p:=.J dq) (by kernel_rfl) (eJ (p:=.J (.int (ar s.delta))) (by kernel_rfl) (dT (p:=.J (.int (ar (s.done+1)))) (by kernel_rfl) (t8 h W rfl rfl))) rfl ((show ha O (.J dq) (S "adapted") [.int (ar s.delta),.int (ar (s.done+1)),.bool f]=O.call (.ref 280) [dq,.int (ar s.delta),.int (ar (s.done+1)),.bool f]from by kernel_rfl).trans (by rw[t];exact FK (k:=k+1) s.delta (s.done+1) _ u (ji _) (bc R (by decide))))
   refine st (c:=C) 0 (cN (x:=ak) (e':=V) (A:=A) (B:=B) (by kernel_rfl) a (st (c:=B) 0 (cN (x:=ag) (e':=V) (A:=w) (B:=.nil) (by kernel_rfl) Q (st (c:=w) (τ:=F) 0 (o9 (e':=V) (H:=(up s.out).map .int) (K:=(up (fD 40 s.delta s.bias 1)).map .int) (by kernel_rfl) (by kernel_rfl) (ek (eJ (p:=.J (.int (ar s.delta))) (by kernel_rfl) (eJ (p:=.J (.int (ar s.bias))) (by kernel_rfl) (dT (p:=.J dq) (by kernel_rfl) i))) rfl (R5 (k:=k) s.delta s.bias u)) rfl g ?_)
    (st (c:=w) (τ:=F.set 10 (sI (adapt s.delta (s.done+1) (bJ s.done l)))) 1 (c7 (e':=F) (by kernel_rfl) Y (sl:=sI (adapt s.delta (s.done+1) (bJ s.done l))) rfl (by kernel_rfl) rfl) (by kernel_rfl)))) rfl)) rfl
   show _=eS H (s.out++fD 40 s.delta s.bias 1) _;rw[eS,ua];kernel_rfl
  ·rw[cv (by exact λe=> G (sZ e))]at Q
   rw[cv G];exact st (c:=C) 0 (cN (x:=ak) (e':=V) (A:=A) (B:=B) (by kernel_rfl) a (st (c:=B) 0 (cN (x:=ak) (e':=V) (A:=w) (B:=.nil) (by kernel_rfl) Q (by kernel_rfl)) rfl)) rfl
theorem uN{c:CE}{e':aa Slot}{b:au}(t:bg (cz c) V=e')(h:ev O c' e' c=U (.J (.bool b))):eW O c' c V=U (b,e'):=by subst t;exact aU h rfl
theorem RA(H:aa ae)(d l:ae)(s:ES)(B:ae)(f X o:Slot)(Z:H.length≤20)(u:EB s B 20 21)(A:B < 10 ^ 30):
  ∃x:Slot×Slot,aJ 1000 (aA m pA wA (k+2)) [] (az (bE (az dj 9)) 3) (eS H s.out ⟨f,sI d,sI l,sI s.done,sI s.delta,sI s.bias,X,o⟩)=
   U (.nxt (let P:=g6 d l H s;eS H P.out ⟨x.1,sI d,sI l,sI P.done,sI P.delta,sI P.bias,X,x.2⟩)):=by
 let O:=aA m pA wA (k+2)
 let C:=bE (az (bE (az dj 9)) 3)
 obtain⟨x,h⟩:=zz (f:=(λp V=> (hS [5,12] p V).bind λe'=> aI 1000 O [] C e':PV->aa Slot->aq Out)) (λc:ae=> PV.int (ar c))
  (λK (x:Slot×Slot)=> let P:=g6 d l K s;eS H P.out ⟨x.1,sI d,sI l,sI P.done,sI P.delta,sI P.bias,X,x.2⟩) H (λK z Q e T=> by
  have E:K.length < H.length:=by rw[T];simp
  have b:=zo d l K u;have I:=b.l;have R:=b.o;have j:=b.d;refine⟨(sI K.length,sI z),?_⟩;have g:=fI E Z;have a:(g6 d l K s).delta < 10 ^ 39:=bc j (bh (LG A g) (by decide));have i:=bc R (Cr g 20);have:=RC (m:=m) (pA:=pA) (wA:=wA) (k:=k) H d l K z (g6 d l K s) e.1 X e.2 E Z a (bh i (by decide)) (bc I (bc (fg (tm 40 (d6 i)) 21) (by decide)));rw[Ru];exact this) (f,o)
 refine⟨x,dt ?_ h⟩;rw[show H.map (λc:ae=> PV.int (ar c))=(up H).map .int from by rw[up,dM];rfl];kernel_rfl
theorem PA(H:aa ae)(aL:ae)(h:H.countP (λc=> decide (c < aL)) < H.length):∃c∈H,aL≤c:=by
 refine aax λw=> ?_
 have:H.countP (λc=> decide (c < aL))=H.length:=List.countP_eq_length.mpr λc O=> cf (by
  by_cases q:aL≤c
  ·exact bf ⟨c,O,q⟩ w
  ·exact ma.mp q)
 exact fH _ (this ▸ h:H.length < H.length)
theorem E4:∀(H:aa ae) (aL d:ae),(∀c∈H,aL≤c->d≤c)->aL≤d->H.countP (λc=> decide (c < d+1))=H.countP (λc=> decide (c < aL))+H.countP (λc=> decide (c=d))
 |[],_,_,_,_=> rfl
 |x::H,aL,d,h,w=> by
  have D:=E4 H aL d (λc O=> h c (.tail _ O)) w;have T:=h x (.head _);rw[xw,xw,xw,D];by_cases M:x < aL
  ·rw[cf M,cf (LO (d6 (fI M w))),cv (λe:x=d=> hs.mpr w (e ▸ M))];simp;exact xE _ _ _
  ·have:=T (hs.mp M)
   rw[cv M];by_cases G:x=d
   ·rw[cf G,cf (G ▸ jV x)];simp;lia
   ·rw[cv G,cv (λq:x < d+1=> G (LK (LL q) this))];simp
theorem RB(H:aa ae)(l:ae)(Z:H.length≤20)(T:∀c∈H,c < 1114112):∀(n N aL:ae) (s:ES) (B:ae) (f X o:Slot),H.length≤s.done+n->s.done=H.countP (λc=> decide (c < aL))->EB s B 20 21->B+n * 40000000 < 10 ^ 20->
  ea λ(y:Slot×Slot×Slot) (P:ES) (p:ae)=> dE ((∀c∈P.out,c < 128)) (P.out.length < 900) (whileLoop (eW (aA m pA wA (k+2)) [] (jO (az dj 9))) (λV=> aI 1000 (aA m pA wA (k+2)) [] (bE (az dj 9)) V) (N+n+1) (eS H s.out ⟨f,sI aL,sI l,sI s.done,sI s.delta,sI s.bias,X,o⟩)=
   U (.nxt (eS H P.out ⟨y.1,sI p,sI l,sI P.done,sI P.delta,sI P.bias,y.2.1,y.2.2⟩))) (P.out=(pM H H.length l (n+1) aL s).out)
 :=by
  intro n;refine Cy n ?_;intro n D N aL s B f X o M h2 u A
  let O:=aA m pA wA (k+2)
  let V:=eS H s.out ⟨f,sI aL,sI l,sI s.done,sI s.delta,sI s.bias,X,o⟩
  let b':CE:=jO (az dj 9)
  have W:∀x,ev O [] (eS H s.out x) (.call (.glb (S "len") (.fn (.builtin "len"))) (.cons (.var 0) .nil))=U (.J (.int (ar H.length))):=λx=> vj (r:=.J (II (up H))) (by kernel_rfl) rfl (bc Z (by decide))
  have c1:ev O [] V b'=U (.J (.bool (decide (ar s.done < ar H.length)))):=j8 (p:=.J (.int (ar s.done))) (by kernel_rfl) (W _) rfl rfl;have Q:eW O [] b' V=U (decide (ar s.done < ar H.length),V):=uN (by kernel_rfl) c1;have m':H.countP (λc=> decide (c < aL))≤H.length:=Le;by_cases hd:s.done < H.length
  ·rw[cf (by exact c9.mpr hd)]at Q
   cases n with
   |zero=> exact bf hd (hs.mpr M)
   |succ n=>
    have h:=PA H aL (h2 ▸ hd);obtain⟨g1,R,I⟩:=Vy aL H 1114112;obtain⟨d,f'⟩:∃d,fq H aL 1114112=d:=⟨_,rfl⟩;have fl:=R2 (m:=m) (pA:=pA) (wA:=wA) (k:=k+1) H aL (bc Z (by decide)) T h;rw[f']at g1 R I fl;obtain⟨G,d',j'⟩:=h;have k':=R G d' j';have hm:d∈H∧aL≤d:=by
     rcases I with I |I
     ·exact bf (I ▸ k':1114112≤G) (ma.mpr (T G d'))
     ·exact I
    let r:ES:=⟨s.delta+(d - aL) * (s.done+1),s.bias,s.done,s.out⟩
    have l':(d - aL) * (s.done+1)≤1114112 * 21:=Nat.mul_le_mul (bK (mc _ _) (d6 (T d hm.1))) (bK hd (jU Z));have c':EB r (B+23396352) 20 21:=⟨oy u.d (bK l' (by decide)),u.o,u.l,u.b⟩;have g':B+23396352 < 10 ^ 30:=bh (Ct (bc (iK _ _) A) _) (by decide);obtain⟨x,i'⟩:=RA (m:=m) (pA:=pA) (wA:=wA) (k:=k) H d l r (B+23396352) f (sI d) o Z c' g'
    let i:=g6 d l H r
    let j:ES:=⟨i.delta+1,i.bias,i.done,i.out⟩
    have a':=zo d l H c';have e':i.done=H.countP (λc=> decide (c < d+1)):=by
     rw[E4 H aL d R hm.2,← h2];exact zm d l H r
    have z:i.done≤H.length:=by rw[e'];exact Le
    have K:s.done < i.done:=by
     have e:i.done=s.done+H.countP (λc=> decide (c=d)):=zm d l H r;rw[e];exact Nat.lt_add_of_pos_right (List.countP_pos_iff.mpr ⟨d,hm.1,cf rfl⟩)
    have h':EB j (B+40000000) 20 21:=⟨bK (iL (bK a'.d (fg Z _))) (show B+23396352+20+1≤B+40000000 from by rw[gn,gn];exact fg (by decide) B),bK z Z,a'.l,a'.b⟩;obtain⟨y,P,p,k1,Y,v,E⟩:=D n (jV n) N (d+1) j (B+40000000) x.1 (sI d) x.2 (bK M (by rw[f7 n 1,← gn];exact jS K n)) e' h' (by rw[Nat.succ_mul,f7 (n * 40000000),← gn]at A;exact A);refine⟨y,P,p,k1,Y,?_,?_⟩
    ·rw[← v]
     let C:=bE (az dj 9)
     let L:Slot->Slot->Slot->EX:=λa b c=> ⟨f,a,sI l,sI s.done,b,sI s.bias,c,o⟩
     let F:=eS H s.out (L (sI aL) (sI s.delta) (sI d))
     have g:ev O [] F (.var 11)=U (.J (.int (ar d))):=by kernel_rfl
     have v6:ev O [] F (.var 6)=U (.J (.int (ar aL))):=by kernel_rfl
     have ml:ev O [] F (.bin .Mult (.bin .Sub (.var 11) (.var 6)) (.bin .Add (.var 8) (.lit (.int 1))))=U (.J (.int (ar ((d - aL) * (s.done+1))))):=
      yC (p:=.J (.int (ar (d - aL)))) (q:=.J (.int (ar (s.done+1)))) (j9 g v6 rfl rfl hm.2) (by kernel_rfl) rfl rfl (.inl (bc (bK (mc _ _) (d6 (T d hm.1))) (by decide)))
     refine lU (n:=N+(n+1)) Q (b:=eS H j.out ⟨x.1,sI (d+1),sI l,sI j.done,sI j.delta,sI j.bias,sI d,x.2⟩) ?_ rfl;have t0:aJ 1000 O [] (az C 0) V=U (.nxt F):=bD fl (by kernel_rfl) (by kernel_rfl);have t:aJ 1000 O [] (az C 1) F=U (.nxt (eS H s.out (L (sI aL) (sI r.delta) (sI d)))):=c7 (e':=F) (r:=.J (.int (ar r.delta))) (sl:=sI r.delta) (by kernel_rfl) (cQ (p:=.J (.int (ar s.delta))) (by kernel_rfl) ml (by kernel_rfl)) rfl (by kernel_rfl) (by kernel_rfl);have w:aJ 1000 O [] (az C 2) (eS H s.out (L (sI aL) (sI r.delta) (sI d)))=U (.nxt (eS H s.out (L (sI d) (sI r.delta) (sI d)))):=by kernel_rfl
     have t4:aJ 1000 O [] (az C 4) (eS H i.out ⟨x.1,sI d,sI l,sI i.done,sI i.delta,sI i.bias,sI d,x.2⟩)=U (.nxt (eS H j.out ⟨x.1,sI (d+1),sI l,sI j.done,sI j.delta,sI j.bias,sI d,x.2⟩)):=by kernel_rfl
     show aI 1000 O [] (cW C 0) V=_;exact st (c:=C) 0 t0 (st (c:=C) 1 t (st (c:=C) 2 w (st (c:=C) 3 i' (st (c:=C) 4 t4 rfl))))
    ·rw[E]
     conv=> rhs;rw[pM,mJ hd,f']
     rfl
  ·rw[cv (by exact λq=> hd (c9.mp q))]at Q
   refine⟨(f,X,o),s,aL,u.b,bc u.l (bc (fg (tm 40 u.o) 21) (by decide)),om (n:=N+n) Q,?_⟩;rw[pM,iX hd];rfl
theorem Rv(H:aa ae)(Z:H.length≤20)(T:∀c∈up H,c∈sig):(aA m pA wA (k+5)).call (.ref 351) [II (up H)]=U (.J (.a8 (up (encL H))))∧(∀c∈encL H,c < 128)∧(encL H).length < 900:=by
 have R:∀c∈H,c < 1114112:=λc w=> by
  have:=dm (f:=λc=> decide (c < 1114112)) (g:=λL=> ag) (by kernel_rfl) _ (T _ (cY w));have:=gx this;exact c9.mp this
 let O:=aA m pA wA (k+4)
 let b:=H.filter λc=> bb c 128
 let f:=bif b.isEmpty then[]else b++[45]
 have l:b.length≤H.length:=Lu _ _;have z:∀c∈b,c < 128:=λc w=> by
  have:=(l6.mp w).2;rw[k7]at this;exact gx this
 have C:b.length=H.countP (λc=> decide (c < 128)):=by
  rw[List.countP_eq_length_filter];congr 1;exact List.filter_congr λc L=> k7 c 128
 have D:∀c∈f,c < 128:=λc w=> by
  simp only[f]at w;cases q:b.isEmpty with
  |true=> rw[q]at w;cases w
  |false=>
   rw[q]at w;rcases dc.mp w with w |w
   ·exact z c w
   ·rw[d5.mp w];decide
 have F:f.length≤b.length+1:=by
  simp only[f];cases q:b.isEmpty <;> simp
 obtain⟨x,X⟩:=Rz (k:=k+3) H Z;obtain⟨y,P,K,i,Y,v,E⟩:=RB (m:=m) (pA:=pA) (wA:=wA) (k:=k+2) H b.length Z R 63 936 128 ⟨0,72,b.length,f⟩ 0 x.1 .un .un (bK (bK Z (by decide)) (tj 63 _)) C ⟨dh _,bK l Z,bK F (by rw[f7];exact oy (by decide) (Nat.le_mul_of_pos_left _ (by decide))),D⟩ (by decide);have N:P.out=encL H:=E;rw[← N];refine⟨?_,i,Y⟩
 let t:=II (up H)
 let u:aa Slot:=[.J t,.J .none,.J .none,.un,.un,.un,.un,.un,.un,.un,.un,.un,.un]
 refine cx dj [] u (dX (τ:=u) (bD (RN (k:=k+1) (up H) T) (by kernel_rfl) (by kernel_rfl)) ?_) (by kernel_rfl)
 let I:EX:=⟨.un,.un,.un,.un,.un,.un,.un,.un⟩
 have W:∀V:aa Slot,ev O [] V (.var 0)=U (.J t)->ev O [] V (.call (.glb (S "len") (.fn (.builtin "len"))) (.cons (.var 0) .nil))=U (.J (.int (ar H.length))):=λV h=> vj h rfl (bc Z (by decide))
 have Q:aJ 1000 O [] (az dj 2) (u.set 1 (.J dq))=U (.nxt ((u.set 1 (.J dq)).set 3 (.own (wl H.length)))):=by
  refine c7 (e':=u.set 1 (.J dq)) (r:=.own (wl H.length)) (sl:=.own (wl H.length)) (by kernel_rfl) (gS (by kernel_rfl) (cQ (p:=.own (.list [.none])) (by kernel_rfl) (W _ (by kernel_rfl)) ?_)) rfl (by kernel_rfl) rfl;refine(Ov (H:=[PV.none]) (n:=ar H.length)).trans ?_;have M:cb (ar H.length)=ag:=by
   simp only[cb,cP,fQ];exact⟨lW (by decide) (hp _),c9.mpr (bc Z (by decide))⟩
  have G:aY (1 * (ar H.length).toNat)=ag:=bX (by rw[Nat.one_mul];exact bc Z (by decide));rw[ct (by show(ag && cb (ar H.length) && aY (1 * (ar H.length).toNat))=ag;rw[M,G];rfl)];show U (RV.own (.list (de H.length [PV.none]).flatten))=_;rw[X6];rfl
 have j:aJ 1000 O [] (az dj 3) ((u.set 1 (.J dq)).set 3 (.own (wl H.length)))=U (.nxt (eS H [] I)):=by kernel_rfl
 let e:Slot->Slot->EX:=λp q=> ⟨x.1,x.2,p,q,.un,.un,.un,.un⟩
 have s5:aJ 1000 O [] (az dj 5) (eS H b (e .un .un))=U (.nxt (eS H b (e (sI b.length) .un))):=
  c7 (e':=eS H b (e .un .un)) (sl:=sI b.length) (by kernel_rfl) (vj (r:=.bor (II (up b))) (H:=b) (by kernel_rfl) rfl (bc (bK l Z) (by decide))) rfl (by kernel_rfl) (by kernel_rfl)
 have d:aJ 1000 O [] (az dj 7) (eS H b (e (sI b.length) (sI b.length)))=U (.nxt (eS H f (e (sI b.length) (sI b.length)))):=by
  let V:=eS H b (e (sI b.length) (sI b.length))
  have a:ev O [] V (.cmp (.var 7) (.one .Gt (.lit (.int 0))))=U (.J (.bool (decide (0 < ar b.length)))):=o5 (p:=.J (.int (ar b.length))) (q:=.J (.int 0)) (by kernel_rfl) (by kernel_rfl) rfl rfl
  let A:CB:=dH (az dj 7)
  show _=U (Out.nxt (eS H (bif b.isEmpty then[]else b++[45]) (e (sI b.length) (sI b.length))));cases q:b.isEmpty with
  |true=>
   have s:b=[]:=hr.mp q;have o:b.length=0:=by rw[s];rfl
   rw[cv (by rw[o];decide)]at a;refine cN (x:=ak) (e':=V) (A:=A) (B:=.nil) (by kernel_rfl) a ?_;show U (Out.nxt (eS H b _))=U (.nxt (eS H [] _));rw[s]
  |false=>
   have o:0 < b.length:=by
    cases hb:b with
    |nil=> rw[hb]at q;cases q
    |cons=> simp
   rw[cf (by exact c9.mpr o)]at a;have g:aY ((up b).map PV.int).length=ag:=bX (by rw[bx,dJ];exact bc (bK l Z) (by decide));refine cN (x:=ag) (e':=V) (A:=A) (B:=.nil) (by kernel_rfl) a (st (c:=A) (τ:=eS H (b++[45]) (e (sI b.length) (sI b.length))) 0 (iT (e':=V) (H:=(up b).map .int) (r:=.J (.int 45)) (by kernel_rfl) (by kernel_rfl) (by kernel_rfl) rfl g ?_) rfl);rw[eS,ua];kernel_rfl
 have n:=dt (show aJ 1000 O [] (az dj 9) (eS H f ⟨x.1,sI 128,sI b.length,sI b.length,sI 0,sI 72,.un,.un⟩)=whileLoop (eW O [] (jO (az dj 9))) (λV=> aI 1000 O [] (bE (az dj 9)) V) (936+63+1) (eS H f ⟨x.1,sI 128,sI b.length,sI b.length,sI 0,sI 72,.un,.un⟩)from by kernel_rfl) v
 let r:=eS H P.out ⟨y.1,sI K,sI b.length,sI P.done,sI P.delta,sI P.bias,y.2.1,y.2.2⟩
 have B:aJ 1000 O [] (az dj 10) r=U (.ret (.J (.a8 (up P.out))) r):=by
  refine hA (e':=r) (by kernel_rfl) (jt (c6 (p:=.bor (II (up P.out))) (by kernel_rfl)) (r:=.J (.a8 (up P.out))) ?_) rfl;exact ty_bytes (bX (by rw[dJ];exact bh Y (by decide))) λc h=> bh (i c h) (by decide)
 exact aZ cj (st (c:=dj) (τ:=u.set 1 (.J dq)) 1 (bD (F1 (k:=k+3)) (by kernel_rfl) (by kernel_rfl)) (st (c:=dj) 2 Q (st (c:=dj) 3 j (st (c:=dj) 4 X (st (c:=dj) 5 s5 (st (c:=dj) (τ:=eS H b (e (sI b.length) (sI b.length))) 6 (by kernel_rfl) (st (c:=dj) 7 d (st (c:=dj) (τ:=eS H f ⟨x.1,sI 128,sI b.length,sI b.length,sI 0,sI 72,.un,.un⟩) 8 (by kernel_rfl) (st (c:=dj) 9 n (cL (c:=dj) 10 B))))))))))
section
variable {a b c:CE}{p q u:RV}{x y z:aj}{e f:au}
theorem DF(M:ev O c' V a=U (.J (.bool e)))(G:ev O c' V b=U (.J (.bool f))):ev O c' V (.and a b)=U (.J (.bool (e && f))):=by
 cases e
 ·exact yA M
 ·exact t6 M G
theorem Nw(M:ev O c' V a=U p)(G:ev O c' V b=U q)(f:ev O c' V c=U u)(g1:p.read=.int x)(R:q.read=.int y)(I:u.read=.int z):ev O c' V (.cmp a (.cons .LtE b (.one .Lt c)))=U (.J (.bool (decide (x≤y) && decide (y < z)))):=by
 have n:eE .LtE p.read q.read=U (decide (x≤y)):=by rw[g1,R];rfl
 have j:eE .Lt q.read u.read=U (decide (y < z)):=by rw[R,I];rfl
 refine aU M (fW (aU G (aU n ?_)));cases decide (x≤y)
 ·rfl
 ·exact aU f j
end
noncomputable def val(o:ae):aq ae:=bif c3 97 o && bb o 123 then U (o - 97)else bif c3 65 o && bb o 91 then U (o - 65)else bif c3 48 o && bb o 58 then U (o - 22)else ah
theorem KL{o f:ae}(h:val o=U f):o < 123:=by
 refine Nat.lt_of_not_le λZ=> ?_
 rw[val,iX (show ¬o < 123 by lia),iX (show ¬o < 91 by lia),iX (show ¬o < 58 by lia),xp,xp,xp]at h;exact nn h
theorem aah{o f:ae}(h:val o=U f):f < 36:=by
 have:=dm (f:=λo=> (val o).all (bb · 36)) (g:=λ_=> ag) (by kernel_rfl) o (l7.mpr (KL h));rw[h]at this;exact dg this
theorem Sm(o f:ae)(h:val o=U f):(aA m pA wA (k+1)).call (.ref 302) [.int (ar o)]=U (.J (.int (ar f))):=by
 have:=dm (f:=λo=> bif (val o).isSome then(aA m pA wA (k+1)).call (.ref 302) [.int (ar o)]else ah) (g:=λo=> (val o).map λf=> .J (.int (ar f))) (by kernel_rfl) o (l7.mpr (KL h));rw[h]at this;exact this
noncomputable def ly:aa ae->ae->ae->ae->ae->ae->aq (ae×ae)
 |[],_,_,_,_,_=> ah
 |o::r,v,w,p,b,i=> (val o).bind λf=> bif bb f (eu p b)then U (v+f * w,i+1)else ly r (v+f * w) (w * (36 - eu p b)) (p+1) b (i+1)
def bS(H:aa ae)(b i v w p:ae)(x:Slot×Slot):aa Slot:=[.J (.a8 (up H)),sI i,sI b,.J dq,sI v,sI w,sI p,x.1,x.2]
theorem yP(H:aa ae)(i o:ae)(Z:H.length < 1000)(h:H[i]?=U o):g7 (.a8 (up H)) (.int (ar i))=U (.int (ar o)):=by
 refine(show g7 (.a8 (up H)) (.int (ar i))=gd ((ag && aY (up H).length)) (((up H)[i]?).map .int)from by kernel_rfl).trans ?_;rw[ct (by rw[bX (by rw[dJ];exact bh Z (by decide))];rfl),up,eP,h];rfl
theorem vi{H:aa ae}(h:ev O [] V (.var i)=U r)(f:r.read=.a8 (up H))(Z:H.length < 10000):ev O [] V (.call (.glb (S "len") (.fn (.builtin "len"))) (.cons (.var i) .nil))=U (.J (.int (ar H.length))):=by
 refine j6 (c6 h) ?_;have g:aY (up H).length=ag:=bX (by rw[dJ];exact bh Z (by decide));show(g9 r.read).map _=_;rw[f,show g9 (.a8 (up H))=U ((up H).length:aj)from ct g,dJ];rfl
theorem VH(H:aa ae)(b:ae)(Z:H.length < 1000)(P:aa Slot->aq (au×aa Slot))(y:∀V,P V=U (ag,V)):∀(r:aa ae) (N i v w p:ae) (x:Slot×Slot) (c I:ae),H.drop i=r->ly r v w p b i=U (c,I)->
  ∃e',whileLoop P (λV=> aI 1000 (aA m pA wA (k+1)) [] (bE (az pz 1)) V) (N+r.length) (bS H b i v w p x)=U (.ret (.J (.tup [.int (ar c),.int (ar I)])) e'):=by
 intro r
 induction r with
 |nil=> intro N i v w p x c I _ h;cases h
 |cons o r D=>
  intro N i v w p x c I u h
  let O:=aA m pA wA (k+1)
  let C:=bE (az pz 1)
  refine aC h ?_;clear h;intro f a h
  ·have B:=aah a
   have hi:H[i]?=U o:=by
    have:=aZ (λl=> l[0]?) u;simpa[List.getElem?_drop]using this
   have s:=(eO.mp hi).1
   let t:=eu p b
   have R:=BW p b
   let V:=bS H b i v w p x
   have W:ev O [] V (.call (.glb (S "len") (.fn (.builtin "len"))) (.cons (.var 0) .nil))=U (.J (.int (ar H.length))):=vi (r:=.J (.a8 (up H))) (by kernel_rfl) rfl (bh Z (by decide));have L:aJ 1000 O [] (az C 0) V=U (.nxt V):=cN (e':=V) (A:=dH (az C 0)) (B:=.nil) (by kernel_rfl) (by
    have:=yB (p:=.J (.int (ar i))) (O:=O) (c':=[]) (V:=V) (a:=.var 1) (by kernel_rfl) W rfl rfl;rw[cv (by exact oq.mpr (c9.mpr s))]at this;exact this) (by kernel_rfl)
   let F:=bS H b i v w p (sI f,x.2)
   have E:aJ 1000 O [] (az C 1) V=U (.nxt F):=c7 (e':=V) (sl:=sI f) (by kernel_rfl) (ek (c6 (hy (p:=.J (.a8 (up H))) (q:=.J (.int (ar i))) (by kernel_rfl) (by kernel_rfl) (yP H i o Z hi))) rfl (Sm (k:=k) o f a)) rfl (by kernel_rfl) (by kernel_rfl);have K:aJ 1000 O [] (az C 2) F=U (.nxt F):=cN (x:=ak) (e':=F) (A:=dH (az C 2)) (B:=.nil) (by kernel_rfl) (by
    have:=yB (p:=.J (.int (ar f))) (q:=.J (.int 36)) (O:=O) (c':=[]) (V:=F) (a:=.var 7) (b:=.attr (.var 3) (S "base")) (by kernel_rfl) (by kernel_rfl) rfl rfl;rw[cv (by exact oq.mpr (c9.mpr B))]at this;exact DM (by kernel_rfl) this) (by kernel_rfl)
   let G:=bS H b (i+1) v w p (sI f,x.2)
   let e:=bS H b (i+1) (v+f * w) w p (sI f,x.2)
   have M:aJ 1000 O [] (az C 4) G=U (.nxt e):=c7 (e':=G) (r:=.J (.int (ar (v+f * w)))) (sl:=sI (v+f * w)) (by kernel_rfl) (cQ (p:=.J (.int (ar v))) (by kernel_rfl) (yC (m:=f) (n:=w) (p:=.J (.int (ar f))) (q:=.J (.int (ar w))) (by kernel_rfl) (by kernel_rfl) rfl rfl (.inl (bh B (by decide)))) (by kernel_rfl)) rfl (by kernel_rfl) (by kernel_rfl)
   let z:=bS H b (i+1) (v+f * w) w p (sI f,sI t)
   have Q:aJ 1000 O [] (az C 5) e=U (.nxt z):=bD (F6 (k:=k) p b) (by kernel_rfl) (by kernel_rfl);have j:ev O [] z (.cmp (.var 7) (.one .Lt (.var 8)))=U (.J (.bool (decide (ar f < ar t)))):=j8 (p:=.J (.int (ar f))) (q:=.J (.int (ar t))) (by kernel_rfl) (by kernel_rfl) rfl rfl
   let A:CB:=dH (az C 6)
   by_cases n:f < t
   ·rw[show bb f (eu p b)=ag from mJ n]at h
    cases h;rw[cf (by exact c9.mpr n)]at j;exact⟨z,KP (n:=N+r.length) (y _) (st (c:=C) 0 L (st (c:=C) 1 E (st (c:=C) 2 K (st (c:=C) (τ:=G) 3 (by kernel_rfl) (st (c:=C) 4 M (st (c:=C) 5 Q (cL (c:=C) 6 (cN (x:=ag) (e':=z) (A:=A) (B:=.nil) (by kernel_rfl) j (by kernel_rfl)))))))))⟩
   ·rw[show bb f (eu p b)=ak from iX n]at h
    rw[cv (by exact λq=> n (c9.mp q))]at j;obtain⟨e',g⟩:=D N (i+1) (v+f * w) (w * (36 - t)) (p+1) (sI f,sI t) c I (by rw[← List.drop_drop,u];rfl) h;refine⟨e',?_⟩;rw[← g];have d:aJ 1000 O [] (az C 7) z=U (.nxt (bS H b (i+1) (v+f * w) (w * (36 - t)) p (sI f,sI t))):=c7 (e':=z) (r:=.J (.int (ar (w * (36 - t))))) (sl:=sI (w * (36 - t))) (by kernel_rfl) (yC (m:=w) (n:=36 - t) (p:=.J (.int (ar w))) (by kernel_rfl) (j9 (m:=36) (p:=.J (.int 36)) (q:=.J (.int (ar t))) (by kernel_rfl) (by kernel_rfl) rfl rfl (bK R.2 (by decide))) rfl rfl (.inr (bc (mc _ _) (by decide)))) rfl (by kernel_rfl) (by kernel_rfl);exact lU (n:=N+r.length) (y _) (st (c:=C) 0 L (st (c:=C) 1 E (st (c:=C) 2 K (st (c:=C) (τ:=G) 3 (by kernel_rfl) (st (c:=C) 4 M (st (c:=C) 5 Q (st (c:=C) (τ:=z) 6 (cN (x:=ak) (e':=z) (A:=A) (B:=.nil) (by kernel_rfl) j (by kernel_rfl)) (st (c:=C) 7 d (by kernel_rfl))))))))) rfl
theorem R6(H:aa ae)(i b c I:ae)(Z:H.length < 1000)(h:ly (H.drop i) 0 1 1 b i=U (c,I)):(aA m pA wA (k+2)).call (.ref 317) [.a8 (up H),.int (ar i),.int (ar b),dq]=U (.J (.tup [.int (ar c),.int (ar I)])):=by
 let O:=aA m pA wA (k+1)
 obtain⟨e',g⟩:=VH (m:=m) (pA:=pA) (wA:=wA) (k:=k) H b Z (eW O [] (.lit (.bool ag))) (λV=> by kernel_rfl) _ (1000 - (H.drop i).length) i 0 1 1 (.un,.un) c I rfl h;rw[show 1000 - (H.drop i).length+(H.drop i).length=1000 from by rw[lY];lia]at g;refine cx pz [] ([.J (.a8 (up H)),sI i,sI b,.J dq]++de 5 .un) (dX (τ:=bS H b i 0 1 1 (.un,.un)) (by kernel_rfl) ?_) (by kernel_rfl);exact aZ cj (cL 1 (dt (by kernel_rfl) g))
theorem Ny{a b:CE}{p q:RV}{x y:aj}(M:ev O c' V a=U p)(G:ev O c' V b=U q)(j:p.read=.int x)(B:q.read=.int y):ev O c' V (.cmp a (.one .NotEq b))=U (.J (.bool (!decide (x=y)))):=
 eI M G (by rw[j,B];exact(show eE .NotEq (.int x) (.int y)=(ey (.int x) (.int y)).map (!·)from by kernel_rfl).trans (by rw[JI];rfl))
noncomputable def gJ(H:aa ae):ae->ae
 |0=> 0
 |n+1=> (H[n+1]?).elim 0 λc=> bif bJ c 45 then n+1 else gJ H n
theorem Zc(O:bI)(H:aa ae)(Z:H.length < 1000)(n:ae):∀(N:ae),n < H.length->whileLoop (eW O [] (jO (az gB 1))) (λV=> aI 1000 O [] (bE (az gB 1)) V) (N+n+1) [.J (.a8 (up H)),sI n]=U (.nxt [.J (.a8 (up H)),sI (gJ H n)]):=by
 induction n with
 |zero=> exact λN _=> om (n:=N) (uN (b:=ak) (by kernel_rfl) (yA (by kernel_rfl)))
 |succ n D=>
  intro N h;obtain⟨c,w⟩:∃c,H[n+1]?=U c:=⟨_,jR h⟩
  let V:aa Slot:=[.J (.a8 (up H)),sI (n+1)]
  have a:ev O [] V (.cmp (.var 1) (.one .Gt (.lit (.int 0))))=U (.J (.bool ag)):=by
   have:=o5 (O:=O) (c':=[]) (V:=V) (a:=.var 1) (b:=.lit (.int 0)) (p:=.J (.int (ar (n+1)))) (q:=.J (.int 0)) (by kernel_rfl) (by kernel_rfl) rfl rfl
   rwa [cf (by exact c9.mpr (ji n))]at this
  have Q:ev O [] V (.cmp (.idx (.var 0) (.var 1)) (.one .NotEq (.glb (S "HYPHEN_punycode") (.int 45))))=U (.J (.bool (!bJ c 45))):=by
   have:=Ny (O:=O) (c':=[]) (V:=V) (b:=.glb (S "HYPHEN_punycode") (.int 45)) (q:=.J (.int 45)) (hy (a:=.var 0) (b:=.var 1) (p:=.J (.a8 (up H))) (q:=.J (.int (ar (n+1)))) (by kernel_rfl) (by kernel_rfl) (yP H (n+1) c Z w)) (by kernel_rfl) rfl rfl;rw[k5];rw[show decide (ar c=45)=decide (c=45)from za c 45]at this;exact this
  have b:=uN (by kernel_rfl:bg (cz (jO (az gB 1))) V=V) (t6 a Q);show _=U (Out.nxt [.J (.a8 (up H)),sI ((H[n+1]?).elim 0 λc=> bif bJ c 45 then n+1 else gJ H n)]);rw[w];show _=U (Out.nxt [.J (.a8 (up H)),sI (bif bJ c 45 then n+1 else gJ H n)]);cases hb:bJ c 45 with
  |true=> rw[hb]at b;exact om (n:=N+(n+1)) b
  |false=>
   rw[hb]at b;refine lU (n:=N+(n+1)) (b:=[.J (.a8 (up H)),sI n]) b ?_ (D N (LN h));exact st (c:=bE (az gB 1)) (τ:=[.J (.a8 (up H)),sI n]) 0 (c7 (e':=V) (sl:=sI n) (by kernel_rfl) (j9 (m:=n+1) (n:=1) (p:=.J (.int (ar (n+1)))) (q:=.J (.int 1)) (by kernel_rfl) (by kernel_rfl) rfl rfl (tj 1 n)) rfl (by kernel_rfl) (by kernel_rfl)) rfl
theorem An(h:i < 1000000000):cb (ar i)=ag:=by
 simp only[cb,cP,fQ];exact⟨lW (by decide) (hp i),c9.mpr (bh h (by decide))⟩
theorem J8{lo hi:PV}{l h:aq aj}(M:lL lo=U l)(G:lL hi=U h):hh (.list H) lo hi=gd (cb (l.getD 0) && cb (h.getD 0)) (gd (aY H.length) (U (.own (.list (fF H l h))))):=aU M (aU G rfl)
theorem Y0{H:aa aj}{lo hi:PV}{l h:aq aj}(M:lL lo=U l)(G:lL hi=U h):hh (.a8 H) lo hi=gd (cb (l.getD 0) && cb (h.getD 0)) (gd (aY H.length) (U (.J (.a8 (fF H l h))))):=aU M (aU G rfl)
theorem Ka(H:aa PV)(i:ae)(Z:H.length < 10000)(hi:i < 10000):hh (.list H) .none (.int (ar i))=U (.own (.list (H.take i))):=by
 refine dt (J8 (l:=ah) (h:=U (ar i)) (lo:=.none) (hi:=.int (ar i)) rfl rfl) ?_;rw[ct (by show(_ && cb (ar i))=ag;rw[An (bh hi (by decide))];rfl),ct (bX (bh Z (by decide))),xe]
theorem J7(H:aa PV)(i:ae)(Z:H.length < 10000)(hi:i < 10000):hh (.list H) (.int (ar i)) .none=U (.own (.list (H.drop i))):=by
 refine dt (J8 (l:=U (ar i)) (h:=ah) (lo:=.int (ar i)) (hi:=.none) rfl rfl) ?_;rw[ct (by show(cb (ar i) && _)=ag;rw[An (bh hi (by decide))];rfl),ct (bX (bh Z (by decide))),Fn]
theorem YY(H:aa aj)(i:ae)(Z:H.length < 10000)(hi:i < 10000):hh (.a8 H) .none (.int (ar i))=U (.J (.a8 (H.take i))):=by
 refine dt (Y0 (l:=ah) (h:=U (ar i)) (lo:=.none) (hi:=.int (ar i)) rfl rfl) ?_;rw[ct (by show(_ && cb (ar i))=ag;rw[An (bh hi (by decide))];rfl),ct (bX (bh Z (by decide))),xe]
noncomputable def hR(p:ae):ae:=match p with |0=> 0 |p+1=> p+2
set_option tactic.hygienic true in
theorem BQ(H:aa ae):∀n,gJ H n≤n
 |0=> dh _
 |n+1=> by
  show(H[n+1]?).elim 0 (λc=> bif bJ c 45 then n+1 else gJ H n)≤_;cases H[n+1]? with
  |none=> exact gp _
  |some c=>
   show(bif bJ c 45 then n+1 else gJ H n)≤_;cases bJ c 45 with
   |false=> exact jU (BQ H n)
   |true=> exact dh _
theorem Sk(H:aa ae)(x:0 < H.length)(Z:H.length < 1000):(aA m pA wA (k+1)).call (.ref 358) [.a8 (up H)]=U (.J (.tup [.a8 (up (H.take (gJ H (H.length - 1)))),.int (ar (hR (gJ H (H.length - 1))))])):=by
 let O:=aA m pA wA k
 have I:=Zc O H Z (H.length - 1) (1000 - H.length) (LV x LR);rw[show 1000 - H.length+(H.length - 1)+1=1000 from by rw[gn,Cz x,Cz (d6 Z)]]at I;have n:=BQ H (H.length - 1);have W:ev O [] [.J (.a8 (up H)),.un] (.call (.glb (S "len") (.fn (.builtin "len"))) (.cons (.var 0) .nil))=U (.J (.int (ar H.length))):=vi (r:=.J (.a8 (up H))) (by kernel_rfl) rfl (bh Z (by decide));refine cx gB [] [.J (.a8 (up H)),.un] (dX (τ:=[.J (.a8 (up H)),sI (H.length - 1)]) (c7 (e':=[.J (.a8 (up H)),.un]) (sl:=sI (H.length - 1)) (by kernel_rfl) (j9 (n:=1) W (q:=.J (.int 1)) (by kernel_rfl) rfl rfl x) rfl (by kernel_rfl) (by kernel_rfl)) ?_) (by kernel_rfl);generalize gJ H (H.length - 1)=p at I n⊢
 let V:aa Slot:=[.J (.a8 (up H)),sI p]
 have r:aJ 1000 O [] (az gB 1) [.J (.a8 (up H)),sI (H.length - 1)]=U (.nxt V):=dt (by kernel_rfl) I;have Q:=Nv (O:=O) (c':=[]) (V:=V) (a:=.var 1) (b:=.lit (.int 0)) (p:=.J (.int (ar p))) (q:=.J (.int 0)) (by kernel_rfl) (by kernel_rfl) rfl rfl
 let A:CB:=dH (az gB 2)
 cases p with
 |zero=>
  exact aZ cj (st (c:=gB) 1 r (cL (c:=gB) (v:=.J (.tup [.a8 [],.int 0])) (τ:=V) 2 (cN (x:=ag) (e':=V) (A:=A) (B:=.nil) (by kernel_rfl) (by rwa [cf (by decide)]at Q) (by kernel_rfl))))
 |succ p=>
  refine aZ cj (st (c:=gB) 1 r (st (c:=gB) (τ:=V) 2 (cN (x:=ak) (e':=V) (A:=A) (B:=.nil) (by kernel_rfl) (by rwa [cv (by exact oq.mpr (c9.mpr (ji p)))]at Q) (by kernel_rfl)) (cL (c:=gB) (v:=.J (.tup [.a8 (up (H.take (p+1))),.int (ar (p+2))])) (τ:=V) 3 (hA (e':=V) (by kernel_rfl) (js (ps:=[.a8 (up (H.take (p+1))),.int (ar (p+2))]) (dT (jr (p:=.J (.a8 (up H))) (q:=.J .none) (u:=.J (.int (ar (p+1)))) (by kernel_rfl) (by kernel_rfl) (by kernel_rfl) (YY (up H) (p+1) (by rw[dJ];exact bh Z (by decide)) (bc (bK n (mc _ _)) (bh Z (by decide))))) (q:=.J (.int (ar (p+2)))) (by kernel_rfl)) ?_ rfl) rfl))));show U [PV.a8 ((up H).take (p+1)),_]=_;rw[up,← th];rfl
noncomputable def vx:aa ae:=[233,223,173,9332,8800,8814,8232,9424,19968]
def E8(t:aa ae)(aL e l d:ae)(k:ae->ae->ae->aa ae->aq (aa ae)):aq (aa ae):=
 gd (c3 d 1000000000000 && vx.any (bJ (aL+(e+d) / (t.length+1)))) (k (aL+(e+d) / (t.length+1)) ((e+d) % (t.length+1)+1) (adapt d (t.length+1) (bJ e 0 && bJ t.length l)) (t.take ((e+d) % (t.length+1))++(aL+(e+d) / (t.length+1))::t.drop ((e+d) % (t.length+1))))
noncomputable def pF(H:aa ae)(l:ae):ae->ae->ae->ae->ae->aa ae->aq (aa ae)
 |0,_,_,_,_,_=> ah
 |n+1,i,aL,e,s,t=> bif bb i H.length then(ly (H.drop i) 0 1 1 s i).bind (λq=> E8 t aL e l q.1 (pF H l n q.2))else U t
def pE(H:aa ae):aq (aa ae):=pF H (gJ H (H.length - 1)) 12 (hR (gJ H (H.length - 1))) 128 0 72 (H.take (gJ H (H.length - 1)))
noncomputable def iu(o:aj):au:=decide (65≤o) && decide (o < 91)
theorem FN(o:aj):(aA m pA wA (k+1)).call (.ref 365) [.int o]=U (.J (.bool (iu o))):=by
 refine cx yW [] [.J (.int o)] (fX (aZ cj (cL 0 (hA (e':=[.J (.int o)]) (by kernel_rfl) (Nw (p:=.J (.int 65)) (q:=.J (.int o)) (u:=.J (.int 91)) (by kernel_rfl) (by kernel_rfl) (by kernel_rfl) rfl rfl rfl) rfl)))) (by kernel_rfl)
structure DX where
 (s6 s7 s8 s9 s10 s11:Slot)
def dS(H o:aa ae)(i:ae)(t:aa ae)(f:aa PV)(x:DX):aa Slot:=[.J (.a8 (up H)),.J dq,.J (.a8 (up o)),sI i,.own (II (up t)),.own (.list f),x.s6,x.s7,x.s8,x.s9,x.s10,x.s11]
theorem YW{t:aa ae}(h:t.length < 10000):aY ((up t).map PV.int).length=ag:=bX (by rw[bx,dJ];exact bh h (by decide))
theorem TX(t:aa ae)(j:ae):((up t).map PV.int).take j=(up (t.take j)).map .int:=by rw[up,up,← th,← th]
theorem TV(t:aa ae)(j:ae):((up t).map PV.int).drop j=(up (t.drop j)).map .int:=by rw[up,up,← Cm,← Cm]
set_option tactic.hygienic true in
theorem VG(r:aa ae):∀(v w p b i c I:ae),ly r v w p b i=U (c,I)->i < I∧I≤i+r.length:=by
 induction r with
 |nil=> exact λ_ _ _ _ _ _ _ h=> nn h
 |cons o r D=>
  intro v w p b i c I h;refine aC h ?_;clear h;intro f _ h;cases hb:bb f (eu p b)with
  |true=> rw[hb]at h;cases h;exact⟨jV _,fg (iL (gp _)) _⟩
  |false=>
   rw[hb]at h;obtain⟨M,G⟩:=D _ _ _ _ _ c I h;rw[gn,f7 1]at G;exact⟨LN M,G⟩
theorem PI(H o:aa ae)(i I d aL e s:ae)(t:aa ae)(f:aa PV)(r B X:Slot)(Z:H.length < 1000)(l:t.length < 1000)(b':f.length < 1000)(j':o.length < 1000)(d':ly (H.drop i) 0 1 1 s i=U (d,I))(hd:d≤1000000000000)
  (w:(aL+(e+d) / (t.length+1))∈vx):bH λ(A:aa PV) (y:Slot×Slot)=> A.length≤f.length+1∧
  aI 1000 (aA m pA wA (k+3)) [] (bE (az fB 5)) (dS H o i t f ⟨r,sI aL,sI e,sI s,B,X⟩)=
   U (.nxt (dS H o I (t.take ((e+d) % (t.length+1))++(aL+(e+d) / (t.length+1))::t.drop ((e+d) % (t.length+1))) A ⟨r,sI (aL+(e+d) / (t.length+1)),sI ((e+d) % (t.length+1)+1),sI (adapt d (t.length+1) (bJ e 0 && bJ t.length o.length)),y.1,y.2⟩)):=by
 let O:=aA m pA wA (k+3)
 let C:=bE (az fB 5)
 let p:=t.length+1
 let j:=(e+d) % p
 let c:=aL+(e+d) / p
 have hj:j < p:=LP _ (ji _);obtain⟨f',g'⟩:=VG _ _ _ _ _ _ _ _ d';rw[lY]at g';have k':i < H.length:=by
  cases T:H.drop i with
  |nil=> rw[T]at d';cases d'
  |cons=>
       by_cases h:i < H.length
       ·exact h
       ·rw[Lg (hs.mp h)]at T;cases T
 let E:=adapt d p (bJ e 0 && bJ t.length o.length)
 let D:=dS H o i t f ⟨r,sI aL,sI e,sI s,B,X⟩
 let F:=dS H o I t f ⟨r,sI aL,sI e,sI s,sI d,X⟩
 let M:=dS H o I t f ⟨r,sI aL,sI e,sI s,sI d,sI p⟩
 let G:=dS H o I t f ⟨r,sI aL,sI e,sI E,sI d,sI p⟩
 let e':=dS H o I t f ⟨r,sI aL,sI (e+d),sI E,sI d,sI p⟩
 let z:=dS H o I t f ⟨r,sI c,sI (e+d),sI E,sI d,sI p⟩
 let q:=dS H o I t f ⟨r,sI c,sI j,sI E,sI d,sI p⟩
 have K:aJ 1000 O [] (az C 0) D=U (.nxt F):=bD (R6 H i s d I Z d') (by kernel_rfl) (by kernel_rfl);have R:∀x,ev O [] (dS H o I t f x) (.call (.glb (S "len") (.fn (.builtin "len"))) (.cons (.var 4) .nil))=U (.J (.int (ar t.length))):=λx=> vj (r:=.bor (II (up t))) (by kernel_rfl) rfl (bh l (by decide))
 have N:aJ 1000 O [] (az C 1) F=U (.nxt M):=c7 (e':=F) (r:=.J (.int (ar p))) (sl:=sI p) (by kernel_rfl) (cQ (R _) (q:=.J (.int 1)) (by kernel_rfl) (by kernel_rfl)) rfl (by kernel_rfl) (by kernel_rfl);have i':ev O [] M (.and (.cmp (.var 8) (.one .Eq (.lit (.int 0)))) (.cmp (.call (.glb (S "len") (.fn (.builtin "len"))) (.cons (.var 4) .nil)) (.one .Eq (.call (.glb (S "len") (.fn (.builtin "len"))) (.cons (.var 2) .nil)))))=U (.J (.bool (bJ e 0 && bJ t.length o.length))):=by
  have n:=t8 (O:=O) (c':=[]) (V:=M) (a:=.var 8) (b:=.lit (.int 0)) (p:=.J (.int (ar e))) (q:=.J (.int 0)) (by kernel_rfl) (by kernel_rfl) rfl rfl;have e2:=t8 (R _) (vi (H:=o) (i:=2) (r:=.J (.a8 (up o))) (O:=O) (V:=M) (by kernel_rfl) rfl (bh j' (by decide))) rfl rfl;have g:∀a b:ae,decide (ar a=ar b)=bJ a b:=λa b=> by
   rw[k5];exact za a b
  rw[show(0:aj)=ar 0 from rfl,g]at n;rw[g]at e2;exact DF n e2
 have W:aJ 1000 O [] (az C 2) M=U (.nxt G):=c7 (e':=M) (r:=.J (.int (ar E))) (sl:=sI E) (by kernel_rfl)
  (mz (p:=.J dq) (by kernel_rfl) (eJ (p:=.J (.int (ar d))) (by kernel_rfl) (dT (p:=.J (.int (ar p))) (by kernel_rfl) i')) rfl ((show ha O (.J dq) (S "adapted") [.int (ar d),.int (ar p),.bool (bJ e 0 && bJ t.length o.length)]=O.call (.ref 280) [dq,.int (ar d),.int (ar p),.bool (bJ e 0 && bJ t.length o.length)]from by kernel_rfl).trans
   (FK (k:=k+2) d p _ (bc hd (by decide)) (ji _) (bc l (by decide))))) rfl (by kernel_rfl) (by kernel_rfl)
 have a4:aJ 1000 O [] (az C 4) e'=U (.nxt z):=c7 (e':=e') (r:=.J (.int (ar c))) (sl:=sI c) (by kernel_rfl) (cQ (p:=.J (.int (ar aL))) (by kernel_rfl) (k0 (m:=e+d) (n:=p) (p:=.J (.int (ar (e+d)))) (q:=.J (.int (ar p))) (by kernel_rfl) (by kernel_rfl) rfl rfl (ji _) (bc l (by decide))) (by kernel_rfl)) rfl (by kernel_rfl) (by kernel_rfl);have a5:aJ 1000 O [] (az C 5) z=U (.nxt q):=c7 (e':=z) (sl:=sI j) (by kernel_rfl) (DG (m:=e+d) (n:=p) (p:=.J (.int (ar (e+d)))) (q:=.J (.int (ar p))) (by kernel_rfl) (by kernel_rfl) rfl rfl (ji _)) rfl (by kernel_rfl) (by kernel_rfl);have P:ar c∈sig:=by
  have:=dm (f:=λc=> sig.contains (ar c)) (g:=λL=> ag) (l:=vx) (by kernel_rfl) c w;exact ou.mp this
 have l':c≤1114111:=dg (dm (f:=λc=> c3 c 1114111) (g:=λL=> ag) (l:=vx) (by kernel_rfl) c w);have a6:aJ 1000 O [] (az C 6) q=U (.nxt q):=cN (x:=ak) (e':=q) (A:=dH (az C 6)) (B:=.nil) (by kernel_rfl) (by
  have:=o5 (O:=O) (c':=[]) (V:=q) (a:=.var 7) (b:=.glb (S "MAX_CODE") (.int 1114111)) (p:=.J (.int (ar c))) (q:=.J (.int 1114111)) (by kernel_rfl) (by kernel_rfl) rfl rfl
  rwa [cv (by exact kJ.mpr (f3.mpr l'))]at this) (by kernel_rfl)
 have a7:aJ 1000 O [] (az C 7) q=U (.nxt q):=bD (F3 (k:=k+1) (ar c) P) (by kernel_rfl) (by kernel_rfl)
 let t':=t.take j++c::t.drop j
 let Q:=dS H o I t' f ⟨r,sI c,sI j,sI E,sI d,sI p⟩
 have Y:ev O [] q (.var 4)=U (.bor (II (up t))):=by kernel_rfl
 have v8:ev O [] q (.var 8)=U (.J (.int (ar j))):=by kernel_rfl
 have c':j < 10000:=fI hj (bK l (by decide));have h':((up t).map PV.int).length < 10000:=by rw[bx,dJ];exact bh l (by decide)
 have a':∀(a b:aa PV),a.length+b.length < 10000->binop .Add (.list a) (.list b)=U (.own (.list (a++b))):=λa b h=>
  (show binop .Add (.list a) (.list b)=gd ((ag && aY (a.length+b.length))) (U (RV.own (.list (a++b))))from by kernel_rfl).trans (ct (by rw[bX (bh h (by decide))];rfl))
 have a8:aJ 1000 O [] (az C 8) q=U (.nxt Q):=by
  let u:=(up t).map PV.int
  have lu:u.length < 2000:=by show((up t).map PV.int).length < 2000;rw[bx,dJ];exact bh l (by decide)
  have n:=cQ (jr Y (q:=.J .none) (b:=.lit .none) (by kernel_rfl) v8 (Ka u j h' c')) (b:=.lst (.cons (.var 7) .nil)) (q:=.own (.list [.int (ar c)])) (by kernel_rfl) (a' (u.take j) [.int (ar c)] (by rw[jh,tg];exact HI lu (by decide)));have e2:=cQ n (jr Y v8 (u:=.J .none) (c:=.lit .none) (by kernel_rfl) (J7 u j h' c')) (a' (u.take j++[.int (ar c)]) (u.drop j) (by rw[da,jh,lY,tg];exact E5 lu (by decide)));refine c7 (e':=q) (by kernel_rfl) e2 (sl:=.own (.list (u.take j++[.int (ar c)]++u.drop j))) rfl (by kernel_rfl) ?_;show _=Q;show(q.set 4 (.own (.list (((up t).map PV.int).take j++[.int (ar c)]++((up t).map PV.int).drop j))))=_;rw[TX,TV];show _=dS H o I (t.take j++c::t.drop j) f _;rw[dS,show II (up (t.take j++c::t.drop j))=.list ((up (t.take j)).map PV.int++[.int (ar c)]++(up (t.drop j)).map PV.int)from by
   rw[II,KC,bj,bU];rfl]
  kernel_rfl
 let v:=PV.bool (iu (ar ((H[I - 1]?).getD 0)))
 let A:=f.take j++[v]++f.drop j
 let V:=dS H o I t' A ⟨r,sI c,sI j,sI E,sI d,sI p⟩
 have hI:H[I - 1]?=U ((H[I - 1]?).getD 0):=by
  have:I - 1 < H.length:=fI (LV (JL f') LR) (bK g' (l9 (LH (d6 k'))));rw[jR this];rfl
 have a9:aJ 1000 O [] (az C 9) Q=U (.nxt V):=by
  have v5:ev O [] Q (.var 5)=U (.bor (.list f)):=by kernel_rfl
  have w8:ev O [] Q (.var 8)=U (.J (.int (ar j))):=by kernel_rfl
  have cp:ev O [] Q (.call (.glb (S "puny_is_capital") (.fn (.ref 365))) (.cons (.idx (.var 0) (.bin .Sub (.var 3) (.lit (.int 1)))) .nil))=U (.J v):=ek (c6 (hy (p:=.J (.a8 (up H))) (by kernel_rfl) (j9 (m:=I) (n:=1) (p:=.J (.int (ar I))) (q:=.J (.int 1)) (by kernel_rfl) (by kernel_rfl) rfl rfl (JL f')) (yP H (I - 1) _ Z hI))) rfl (FN (k:=k+2) _);have ls:ev O [] Q (.lst (.cons (.call (.glb (S "puny_is_capital") (.fn (.ref 365))) (.cons (.idx (.var 0) (.bin .Sub (.var 3) (.lit (.int 1)))) .nil)) .nil))=U (.own (.list [v])):=by
   have:=c6 cp;exact aU this rfl
  have n:=cQ (jr v5 (q:=.J .none) (b:=.lit .none) (by kernel_rfl) w8 (Ka f j (bh b' (by decide)) c')) ls (a' (f.take j) [v] (by rw[jh,tg];exact HI b' (by decide)));have e2:=cQ n (jr v5 w8 (u:=.J .none) (c:=.lit .none) (by kernel_rfl) (J7 f j (bh b' (by decide)) c')) (a' (f.take j++[v]) (f.drop j) (by rw[da,jh,lY,tg];exact E5 b' (by decide)));exact c7 (e':=Q) (by kernel_rfl) e2 (sl:=.own (.list A)) rfl (by kernel_rfl) (by kernel_rfl)
 refine⟨A,(sI d,sI p),?_,?_⟩
 ·show(f.take j++[v]++f.drop j).length≤_
  rw[da,da,jh,lY,tg];exact y7 _ _
 ·exact st (c:=C) 0 K (st (c:=C) 1 N (st (c:=C) 2 W (st (c:=C) (τ:=e') 3 (by kernel_rfl) (st (c:=C) 4 a4 (st (c:=C) 5 a5 (st (c:=C) 6 a6 (st (c:=C) 7 a7 (st (c:=C) 8 a8 (st (c:=C) 9 a9 (st (c:=C) (τ:=dS H o I t' A ⟨r,sI c,sI (j+1),sI E,sI d,sI p⟩) 10 (by kernel_rfl) rfl))))))))))
theorem PH(H o:aa ae)(Z:H.length < 500)(l:o.length < 500):∀(n N i aL e s:ae) (t:aa ae) (f:aa PV) (r B X:Slot) (K:aa ae),t.length+n < 900->f.length+n < 900->pF H o.length n i aL e s t=U K->
  ea λ(j:ae) (A:aa PV) (x:DX)=> whileLoop (eW (aA m pA wA (k+3)) [] (jO (az fB 5))) (λV=> aI 1000 (aA m pA wA (k+3)) [] (bE (az fB 5)) V) (N+n) (dS H o i t f ⟨r,sI aL,sI e,sI s,B,X⟩)=U (.nxt (dS H o j K A x)):=by
 intro n
 induction n with
 |zero=> intro N i aL e s t f r B X K _ _ h;cases h
 |succ n v=>
  intro N i aL e s t f r B X K M G h
  let O:=aA m pA wA (k+3)
  let V:=dS H o i t f ⟨r,sI aL,sI e,sI s,B,X⟩
  have a:=j8 (O:=O) (V:=V) (a:=.var 3) (p:=.J (.int (ar i))) (by kernel_rfl) (vi (i:=0) (r:=.J (.a8 (up H))) (by kernel_rfl) rfl (bh Z (by decide))) rfl rfl;have Q:=uN (by kernel_rfl:bg (cz (.cmp (.var 3) (.one .Lt (.call (.glb (S "len") (.fn (.builtin "len"))) (.cons (.var 0) .nil))))) V=V) a;replace h:(bif bb i H.length then(ly (H.drop i) 0 1 1 s i).bind (λq=> E8 t aL e o.length q.1 (pF H o.length n q.2))else U t)=U K:=h;by_cases hi:i < H.length
  ·rw[cf (by exact c9.mpr hi)]at Q
   rw[mJ hi]at h;refine aC h ?_;clear h;intro q b h;obtain⟨d,I⟩:=q;refine cg h ?_;clear h;intro D h;obtain⟨g1,R⟩:=bu D;obtain⟨c,w,R⟩:=ot.mp R;obtain⟨A,y,u,g⟩:=PI (m:=m) (pA:=pA) (wA:=wA) (k:=k) H o i I d aL e s t f r B X (bh Z (by decide)) (bc (iK _ _) (bh M (by decide))) (bc (iK _ _) (bh G (by decide))) (bh l (by decide)) b (dg g1) (jT R ▸ w);obtain⟨j,p,x,z⟩:=v N I _ _ _ _ A r y.1 y.2 K (by rw[da,dz,jh,lY];exact bc (jS (PB _ _) n) (by rw[gn,f7 1];exact M)) (bc (jS u n) (by rw[gn,f7 1];exact G)) h;exact⟨j,p,x,lU (n:=N+n) Q g z⟩
  ·rw[cv (by exact λq=> hi (c9.mp q))]at Q
   rw[iX hi]at h;obtain rfl:=bo h;exact⟨i,f,_,om (n:=N+n) Q⟩
theorem RP(H K:aa ae)(v:0 < H.length)(Z:H.length < 500)(hb:∀c∈H,c < 128)(h:pE H=U K):(aA m pA wA (k+5)).call (.ref 381) [.a8 (up H)]=U (.J (II (up K))):=by
 let O:=aA m pA wA (k+3)
 unfold pE at h;have a:=Sk (m:=m) (pA:=pA) (wA:=wA) (k:=k+2) H v (bh Z (by decide));have n:=BQ H (H.length - 1);generalize E:gJ H (H.length - 1)=p at h a n
 let o:=H.take p
 have T:=bK n (mc _ _);have M:=bc T Z;have l:o.length=p:=by rw[jh];exact tl T
 have q:∀c∈o,c < 128:=λc w=> hb c (List.mem_of_mem_take w)
 replace h:pF H o.length 12 (hR p) 128 0 72 o=U K:=by rw[l];exact h
 let s:DX:=⟨.un,.un,.un,.un,.un,.un⟩
 let S3:aa ae->Slot->aa Slot:=λQ e=> dS H o (hR p) Q (Q.map λc=> .bool (iu (ar c))) ⟨e,.un,.un,.un,.un,.un⟩
 let C:=bE (az fB 3)
 have d:∀(Q:aa ae) (z:ae) (e:Slot),z < 128->Q.length < 900->aI 1000 O [] C ((S3 Q e).set 6 (sI z))=U (.nxt (S3 (Q++[z]) (sI z))):=λQ z e B I=> by
  have b0:aJ 1000 O [] (az C 0) ((S3 Q e).set 6 (sI z))=U (.nxt (S3 Q (sI z))):=cN (x:=ak) (e':=S3 Q (sI z)) (A:=dH (az C 0)) (B:=.nil) (by kernel_rfl) (by
   have:=ek (O:=O) (c':=[]) (V:=S3 Q (sI z)) (g:=S "puny_basic") (dT (a:=.var 6) (b:=.var 1) (p:=.J (.int (ar z))) (q:=.J dq) (by kernel_rfl) (by kernel_rfl)) rfl (FL (m:=m) (pA:=pA) (wA:=wA) (k:=k+2) (ar z));rw[cf (by exact c9.mpr B)]at this;exact DK this) (by kernel_rfl)
  have b1:aJ 1000 O [] (az C 1) (S3 Q (sI z))=U (.nxt (dS H o (hR p) (Q++[z]) (Q.map λc=> .bool (iu (ar c))) ⟨sI z,.un,.un,.un,.un,.un⟩)):=by
   refine iT (e':=S3 Q (sI z)) (H:=(up Q).map .int) (r:=.J (.int (ar z))) (by kernel_rfl) (by kernel_rfl) (by kernel_rfl) rfl (YW (bh I (by decide))) ?_;rw[dS,ua];kernel_rfl
  have b2:aJ 1000 O [] (az C 2) (dS H o (hR p) (Q++[z]) (Q.map λc=> .bool (iu (ar c))) ⟨sI z,.un,.un,.un,.un,.un⟩)=U (.nxt (S3 (Q++[z]) (sI z))):=by
   refine iT (e':=dS H o (hR p) (Q++[z]) (Q.map λc=> .bool (iu (ar c))) ⟨sI z,.un,.un,.un,.un,.un⟩) (H:=Q.map λc=> .bool (iu (ar c))) (by kernel_rfl) (by kernel_rfl) (ek (c6 (p:=.J (.int (ar z))) (by kernel_rfl)) rfl (FN (k:=k+2) (ar z))) rfl (bX (by rw[bx];exact bh I (by decide))) ?_;show _=dS H o (hR p) (Q++[z]) ((Q++[z]).map λc=> .bool (iu (ar c))) _;rw[bj];kernel_rfl
  exact st (c:=C) 0 b0 (st (c:=C) 1 b1 (st (c:=C) 2 b2 rfl))
 have i:∀(Q us:aa ae) (e:Slot),o=us++Q->∃X,forLoop (λp V=> aI 1000 O [] C (V.set 6 (.J p))) ((up Q).map .int) (S3 us e)=U (.nxt (S3 o X)):=by
  intro Q
  induction Q with
  |nil=> intro us e B;rw[fu]at B;exact⟨e,by rw[B];rfl⟩
  |cons z Q D=>
   intro us e B;have I:us.length < 900:=by have:=aZ te B;rw[da,l]at this;exact bc (bK (iK us.length _) (l9 this.symm)) (bh M (by decide))
   obtain⟨X,g⟩:=D (us++[z]) (sI z) (by rw[B,bU];rfl);refine⟨X,?_⟩;show forLoop _ (.int (ar z)::(up Q).map .int) _=_;rw[forLoop,d us z e (q z (by rw[B];simp)) I];exact g
 obtain⟨y,l3⟩:=i o [] .un rfl;obtain⟨j,A,x,r⟩:=PH (m:=m) (pA:=pA) (wA:=wA) (k:=k) H o Z (l.symm ▸ M) 12 988 (hR p) 128 0 72 o (o.map λc=> .bool (iu (ar c))) y .un .un K (by rw[l];exact fI (Ct M 12) (by decide)) (by rw[bx,l];exact fI (Ct M 12) (by decide)) h
 let u:aa Slot:=[.J (.a8 (up H)),.J .none]++de 10 .un
 let F:aa Slot:=[.J (.a8 (up H)),.J dq]++de 10 .un
 have ann:(aA m pA wA (k+4)).call (.ref 373) [.a8 (up H),.none]=U (.J (.tup [II (up K),.list A])):=by
  refine cx fB [] u (dX (τ:=F) (bD (F1 (k:=k+2)) (by kernel_rfl) (by kernel_rfl)) ?_) (by kernel_rfl);have t:aJ 1000 O [] (az fB 1) F=U (.nxt ((F.set 2 (.J (.a8 (up o)))).set 3 (sI (hR p)))):=bD a (by kernel_rfl) (by kernel_rfl);have f:aJ 1000 O [] (az fB 3) (S3 [] .un)=U (.nxt (S3 o y)):=dt (by kernel_rfl) l3;have b:aJ 1000 O [] (az fB 5) (dS H o (hR p) o (o.map λc=> .bool (iu (ar c))) ⟨y,sI 128,sI 0,sI 72,.un,.un⟩)=U (.nxt (dS H o j K A x)):=dt (by kernel_rfl) r;exact aZ cj (st (c:=fB) 1 t (st (c:=fB) (τ:=S3 [] .un) 2 (by kernel_rfl) (st (c:=fB) 3 f (st (c:=fB) (τ:=dS H o (hR p) o (o.map λc=> .bool (iu (ar c))) ⟨y,sI 128,sI 0,sI 72,.un,.un⟩) 4 (by kernel_rfl) (st (c:=fB) 5 b (cL (c:=fB) (v:=.J (.tup [II (up K),.list A])) (τ:=[.J (.a8 (up H)),.J dq,.J (.a8 (up o)),sI j,.J (II (up K)),.J (.list A),x.s6,x.s7,x.s8,x.s9,x.s10,x.s11]) 6 (by kernel_rfl)))))))
 exact cx yT [] [.J (.a8 (up H)),.J .none] (DT ann (by kernel_rfl) (by kernel_rfl)) (by kernel_rfl)
noncomputable def bV:aa ae:=[97,115,49,45,95,61,233,223,173,9332,8800,8814,8232,9424,19968]
noncomputable def qc(c:ae):au:=(c3 97 c && c3 c 122) ||(c3 48 c && c3 c 57) ||bJ c 45 ||bJ c 95 ||bJ c 61
noncomputable def kr(H:aa ae):au:=H.any λc=> bJ c 95 ||bJ c 61
noncomputable def uM:aa ae->aa ae->au
 |[],K=> K.isEmpty
 |a::r,K=> match K with
  |[]=> ak
  |b::t=> bJ a b && uM r t
def ER(H e:aa ae):au:=(match pE e with |some K=> uM K H |none=> ak) && e.all qc && (kr e==kr H) && bb e.length 100 && !e.isEmpty
def eK(H:aa ae):au:=ER H (encL H)
theorem OR:(bV.all λb=> bV.all λc=> eK [97,97,b,c])=ag:=by kernel_rfl
theorem OS:(bV.all λb=> bV.all λc=> eK [97,115,b,c])=ag:=by kernel_rfl
theorem OY:(bV.all λb=> bV.all λc=> eK [97,49,b,c])=ag:=by kernel_rfl
theorem OZ:(bV.all λb=> bV.all λc=> eK [97,45,b,c])=ag:=by kernel_rfl
theorem O0:(bV.all λb=> bV.all λc=> eK [97,95,b,c])=ag:=by kernel_rfl
theorem O1:(bV.all λb=> bV.all λc=> eK [97,61,b,c])=ag:=by kernel_rfl
theorem O2:(bV.all λb=> bV.all λc=> eK [97,233,b,c])=ag:=by kernel_rfl
theorem O3:(bV.all λb=> bV.all λc=> eK [97,223,b,c])=ag:=by kernel_rfl
theorem O4:(bV.all λb=> bV.all λc=> eK [97,173,b,c])=ag:=by kernel_rfl
theorem O5:(bV.all λb=> bV.all λc=> eK [97,9332,b,c])=ag:=by kernel_rfl
theorem OT:(bV.all λb=> bV.all λc=> eK [97,8800,b,c])=ag:=by kernel_rfl
theorem OU:(bV.all λb=> bV.all λc=> eK [97,8814,b,c])=ag:=by kernel_rfl
theorem OV:(bV.all λb=> bV.all λc=> eK [97,8232,b,c])=ag:=by kernel_rfl
theorem OW:(bV.all λb=> bV.all λc=> eK [97,9424,b,c])=ag:=by kernel_rfl
theorem OX:(bV.all λb=> bV.all λc=> eK [97,19968,b,c])=ag:=by kernel_rfl
theorem O6:(bV.all λa=> bV.all λb=> eK [97,a,b])=ag:=by kernel_rfl
theorem O7:(bV.all λa=> eK [97,a])=ag:=by kernel_rfl
theorem O8:eK [97]=ag:=by kernel_rfl
theorem O9:∀a∈bV,(bV.all λb=> bV.all λc=> eK [97,a,b,c])=ag:=
 fc OR <|fc OS <|fc OY <|fc OZ <|fc O0 <|fc O1 <|fc O2 <|fc O3 <|fc O4 <|fc O5 <|fc OT <|fc OU <|fc OV <|fc OW <|fc OX pU
theorem Uv:∀r:aa ae,(∀c∈r,c∈bV)->r.length≤3->eK (97::r)=ag
 |[],_,_=> O8
 |[a],h,_=> eh.mp O7 a (h a (.head _))
 |[a,b],h,_=> eh.mp (eh.mp O6 a (h a (.head _))) b (h b (.tail _ (.head _)))
 |[a,b,c],h,_=> eh.mp (eh.mp (O9 a (h a (.head _))) b (h b (.tail _ (.head _)))) c (h c (.tail _ (.tail _ (.head _))))
 |_::_::_::_::_,_,h=> bf h (ma.mpr (tj _ _))
def ck(d a:au):aa PV:=(bif d then[PV.str (S "disallowed")]else[])++(bif a then[PV.str (S "ascii")]else[])
def d2(d a:au):aa PV:=(bif a then[PV.str (S "ascii")]else[])++(bif d then[PV.str (S "disallowed")]else[])
theorem F4(b l N e W:au):(aA m pA wA (k+1)).call (.ref 540) [.list (ck b ak++(ck l N++ck e W))]=U (.own (.list (d2 (b ||l ||e) (N ||W)))):=by
 cases b <;> (refine eq4 l N e W (ow.mp ?_);kernel_rfl)
theorem Si(d a:au):(aA m pA wA (k+1)).call (.ref 540) [.list (d2 d a)]=U (.own (.list (d2 d a))):=by
 cases d <;> cases a <;> kernel_rfl
noncomputable def bP:aa (aa aj)->aa aj
 |[]=> []
 |a::r=> a++r.flatMap λb=> 46::b
noncomputable def jK:aa (aa aj)->aa aj
 |[]=> []
 |_::_=> [46]
theorem sN(K:aa (aa aj)):(jK K).length≤1:=by cases K <;> simp[jK]
theorem zR:∀(K:aa (aa aj)) (z:aa aj),bP (K++[z])=bP K++(jK K++z)
 |[],z=> by simp[bP,jK]
 |a::r,z=> by simp[bP,jK,bU]
theorem NF{τ:aa Slot}{e:CE}{H K:aa aj}(t:bg (cz e) V=V)(hi:V[i]?=U (.own (II H)))(f:ev O [] V e=U r)(s:r.read=II K)(g:H.length+K.length < 10000)(l:V.set i (.own (II (H++K)))=τ):aJ W O [] (.ext i e) V=U (.nxt τ):=
 o9 t hi f s (bX (by rw[bx,bx];exact bh (by assumption) (by decide))) (by rw[← l,II,bj])
theorem kZ{a b:CE}{p q:RV}{H K:aa aj}(M:ev O c' V a=U p)(G:ev O c' V b=U q)(j:p.read=II H)(B:q.read=II K)(g:H.length+K.length < 10000):ev O c' V (.bin .Add a b)=U (.own (II (H++K))):=cQ M G (by
 rw[j,B];refine(show binop .Add (II H) (II K)=gd ((ag && aY ((H.map PV.int).length+(K.map PV.int).length))) (U (RV.own (.list (H.map .int++K.map .int))))from by kernel_rfl).trans ?_;rw[bX (by rw[bx,bx];exact bh (by assumption) (by decide)),← bj];rfl)
theorem pT:∀(K:aa (aa aj)),(bP K).length≤(K.map λy=> y.length+1).sum
 |[]=> dh _
 |a::r=> by
  have:∀r:aa (aa aj),(r.flatMap λb=> (46:aj)::b).length=(r.map λy=> y.length+1).sum:=λr=> by
   induction r with
   |nil=> rfl
   |cons b r D=> rw[xA,da,D];simp
  simp only[bP,da,this,dG,xD];lia
theorem FU(ls:aa (aa aj))(Z:(ls.map λy=> y.length+1).sum < 5000):(aA m pA wA (k+1)).call (.ref 554) [.list (ls.map II)]=U (.own (II (bP ls))):=by
 let O:=aA m pA wA k
 let C:=bE (az mM 1)
 let s:aa (aa aj)->Slot×Slot->aa Slot:=λK x=> [.J (.list (ls.map II)),.own (II (bP K)),x.1,x.2]
 obtain⟨x,h⟩:=zz (f:=(λp V=> (hS [2,3] p V).bind λe'=> aI 1000 O [] C e':PV->aa Slot->aq Out)) II s ls (λK z Q e T=> by
  refine⟨(.J (.int K.length),.J (II z)),?_⟩
  let V:=s K (.J (.int K.length),.J (II z))
  have q:(bP K).length+(z.length+1) < 5000:=by
   have M:=pT K;rw[T,bj,LB,dG,xD]at Z
   lia
  show aI 1000 O [] (cW C 0) V=_;have b:ev O [] V (.bin .Add (.ite (.cmp (.var 2) (.one .Gt (.lit (.int 0)))) (.lst (.cons (.glb (S "STOP") (.int 46)) .nil)) (.lst .nil)) (.var 3))=U (.own (II (jK K++z))):=by
   cases K with
   |nil=> exact kZ (H:=[]) (p:=.own (II [])) (q:=.J (II z)) (by kernel_rfl) (by kernel_rfl) rfl rfl (by simp only[lZ];exact d6 (bh (by assumption) (by decide)))
   |cons y K=>
    have c:=o5 (O:=O) (c':=[]) (V:=V) (a:=.var 2) (b:=.lit (.int 0)) (p:=.J (.int (y::K).length)) (q:=.J (.int 0)) (by kernel_rfl) (by kernel_rfl) rfl rfl;rw[cf (by simp only[dz];lia)]at c;exact kZ (H:=[46]) (K:=z) (p:=.own (II [46])) (q:=.J (II z)) (gS c (by kernel_rfl)) (by kernel_rfl) rfl rfl (by simp only[dz,lZ];lia)
  refine st (c:=C) 0 (NF (H:=bP K) (by kernel_rfl) (by kernel_rfl) b rfl (by have:=sN K;rw[da];lia) ?_) rfl;show _=s (K++[z]) _;show _=[Slot.J (.list (ls.map II)),.own (II (bP (K++[z]))),.J (.int K.length),.J (II z)];rw[zR];rfl) (.un,.un)
 refine cx mM [] [.J (.list (ls.map II)),.un,.un,.un] (dX (τ:=s [] (.un,.un)) (by kernel_rfl) ?_) (by kernel_rfl);exact aZ cj (st (c:=mM) 1 (dt (by kernel_rfl) h) (cL (c:=mM) (v:=.own (II (bP ls))) (τ:=[.J (.list (ls.map II)),.un,x.1,x.2]) 2 (by kernel_rfl)))
theorem mX{j E:Type}{f:PV->aa Slot->aq Out}(g:j->PV)(S:aa j->E->aa Slot)(H:aa j)(gw:∀K z Q e,H=K++z::Q->∃X,f (g z) (S K e)=U (.nxt (S (K++[z]) X)))(e:E):
  ∃X,forLoop f (H.map g) (S [] e)=U (.nxt (S H X)):=by
 have c:∀(Q K:aa j) (e:E),H=K++Q->∃X,forLoop f (Q.map g) (S K e)=U (.nxt (S H X)):=by
  intro Q
  induction Q with
  |nil=> intro K e h;rw[fu]at h;exact⟨e,by rw[h];rfl⟩
  |cons z Q D=>
   intro K e h;obtain⟨n,M⟩:=gw K z Q e h;obtain⟨b,G⟩:=D (K++[z]) n (by rw[h,bU];rfl);exact⟨b,by rw[dG,forLoop,M];exact G⟩
 exact c H [] e rfl
theorem j7{a:CE}{p:RV}{H:aa aj}{g:ao}(M:ev O c' V a=U p)(j:p.read=II H)(t:H.length < 10000):ev O c' V (.call (.glb g (.fn (.type "list"))) (.cons a .nil))=U (.own (II H)):=jt (c6 M) (by
 show hn "list" [p.read]=_;rw[j];exact(show hn "list" [II H]=gd (aY (H.map PV.int).length) (U (RV.own (II H)))from by kernel_rfl).trans (ct (bX (by rw[bx];exact bh (by assumption) (by decide)))))
theorem DN{p:RV}{H:aa aj}(M:ev O c' V (.var i)=U p)(j:p.read=II H):∃b:au,(b=ag↔H≠[])∧ev O c' V (.bin .Mult (.lst (.cons (.lit (.int 46)) .nil)) (.call (.glb (S "int") (.fn (.type "int"))) (.cons (.cmp (.var i) (.one .NotEq (.lst .nil))) .nil)))=U (.own (II (bif b then[46]else[]))):=by
 refine⟨!decide (H=[]),by simp,?_⟩;have c:ev O c' V (.cmp (.var i) (.one .NotEq (.lst .nil)))=U (.J (.bool (!decide (H=[])))):=eI M (q:=.own (II [])) (by kernel_rfl) (by
  rw[j];exact(show eE .NotEq (II H) (II [])=(ey (II H) (II [])).map (!·)from by kernel_rfl).trans (by rw[n6];rfl))
 have n:=jt (f:="int") (g:=S "int") (c6 c) (r:=.J (.int (bif (!decide (H=[]))then 1 else 0))) (by kernel_rfl);refine cQ (p:=.own (.list [.int 46])) (by kernel_rfl) n ?_;cases (!decide (H=[])) <;> kernel_rfl
theorem FY(ls:aa (aa aj))(Z:(ls.map λy=> y.length+1).sum < 5000)(R:∀y∈ls,y≠[]):(aA m pA wA (k+1)).call (.ref 750) [.list (ls.map II)]=U (.own (II (bP ls))):=by
 let O:=aA m pA wA k
 let C:=bE (az mP 1)
 let s:aa (aa aj)->Slot->aa Slot:=λK x=> [.J (.list (ls.map II)),.own (II (bP K)),x]
 obtain⟨x,h⟩:=mX (f:=λp V=> aI 1000 O [] C (V.set 2 (.J p))) II s ls (λK z Q e T=> by
  refine⟨.J (II z),?_⟩
  let V:=s K (.J (II z))
  have q:(bP K).length+(z.length+1) < 5000:=by
   have M:=pT K;rw[T,bj,LB,dG,xD]at Z
   lia
  obtain⟨b,hb,f⟩:=DN (p:=.bor (II (bP K))) (by kernel_rfl) rfl;have F:(bif b then[46]else([]:aa aj))=jK K:=by
   cases K with
   |nil=>
    cases b with
    |false=> rfl
    |true=> exact bf rfl (hb.mp rfl)
   |cons y K=>
    have:bP (y::K)≠[]:=by
     have:=R y (by rw[T];simp);simp[bP,this]
    rw[hb.mpr this];rfl
  rw[F]at f;have n:=kZ (a:=.var 1) (p:=.bor (II (bP K))) (by kernel_rfl) f rfl rfl (by have:=sN K;lia);have j:=kZ n (j7 (O:=O) (c':=[]) (V:=V) (a:=.var 2) (g:=S "list") (p:=.J (II z)) (by kernel_rfl) rfl (by lia)) rfl rfl (by have:=sN K;rw[da];lia);refine st (c:=C) 0 (c7 (e':=V) (by kernel_rfl) j (sl:=.own (II (bP (K++[z])))) ?_ (by kernel_rfl) rfl) rfl;rw[zR,bU];rfl) .un
 refine cx mP [] [.J (.list (ls.map II)),.un,.un] (dX (τ:=s [] .un) (by kernel_rfl) ?_) (by kernel_rfl);exact aZ cj (st (c:=mP) 1 (dt (by kernel_rfl) h) (cL (c:=mP) (v:=.own (II (bP ls))) (τ:=[.J (.list (ls.map II)),.un,x]) 2 (by kernel_rfl)))
structure Row where
 lab:aa ae
 enc:au
def Row.ok(r:Row):Prop:=∃s:aa ae,bG (r.lab=97::s) (s.length≤3) (∀c∈s,c∈(bif r.enc then bV else 65::bV))
def Row.sg(r:Row):aa aj:=bif r.enc then cA++up (encL r.lab)else up r.lab
def Row.sh(t l:au)(r:Row):aa aj:=bif r.enc then up r.lab else ba t l (up r.lab)
def Row.wb(t l:au)(r:Row):au:=(r.sh t l).any (pb t l r.enc)
def Row.ab(r:Row):au:=r.enc && asc (up r.lab)
theorem ql{H:aa ae}{c:aj}(h:c∈up H):∃d∈H,ar d=c:=by
 obtain⟨d,M,G⟩:=bz.mp h;exact⟨d,M,G⟩
theorem Row.vg{r:Row}(h:r.ok):∀c∈up r.lab,c∈sig:=λc w=> by
 obtain⟨s,e,_,g⟩:=h;obtain⟨d,u,rfl⟩:=ql w;have:d∈65::bV:=by
  rw[e]at u;rcases bM.mp u with rfl |u
  ·decide
  ·have:=g d u
   cases q:r.enc
   ·rw[q]at this;exact this
   ·rw[q]at this;exact .tail _ this
 have:=dm (f:=λd=> sig.contains (ar d)) (g:=λL=> ag) (l:=65::bV) (by kernel_rfl) d this;exact ou.mp this
theorem Row.qf{r:Row}(h:r.ok):r.lab.length≤4:=by
 obtain⟨s,e,G,_⟩:=h;rw[e,dz];exact bc (by assumption) (by decide)
theorem Row.pN{r:Row}(h:r.ok)(f:r.enc=ag):j4 (pE (encL r.lab)=U r.lab) ((∀c∈encL r.lab,qc c=ag)) (kr (encL r.lab)=kr r.lab) ((encL r.lab).length < 100) (encL r.lab≠[]):=by
 obtain⟨s,e,G,j⟩:=h;replace j:∀c∈s,c∈bV:=λc w=> by have:=j c w;rwa [f]at this
 have W:=Uv s j G;rw[← e]at W;have g:∀(a b:aa ae),uM a b=ag->a=b:=λa=> by
  induction a with
  |nil=> intro b hb;cases b with
   |nil=> rfl
   |cons=> cases hb
  |cons x a D=> intro b hb;cases b with
   |nil=> cases hb
   |cons y b=>
    simp only[uM,cP]at hb;rw[jT hb.1,D b hb.2]
 unfold eK ER at W;simp only[cP]at W;obtain⟨⟨⟨⟨i,Y⟩,v⟩,E⟩,d⟩:=W;refine⟨?_,eh.mp Y,eq_of_beq v,dg E,λq=> by rw[q]at d;cases d⟩;cases u:pE (encL r.lab)with
 |none=> rw[u]at i;cases i
 |some K=> rw[u]at i;rw[g _ _ i]
noncomputable def iV:aa ae:=[97,98,99,100,101,102,103,104,105,106,107,108,109,110,111,112,113,114,115,116,117,118,119,120,121,122,48,49,50,51,52,53,54,55,56,57,45,95,61]
theorem u9{c:ae}(h:qc c=ag):c∈iV:=by
 have C:c < 123:=by
  unfold qc at h;simp only[jf,cP,yN,k5,fQ]at h
  lia
 have:∀n,n < 123->(qc n=ag->n∈iV):=by decide+kernel
 exact this c C h
theorem Row.YU{r:Row}(h:r.ok):∀c∈r.sg,c∈sig:=λc w=> by
 unfold Row.sg at w;cases f:r.enc with
 |false=> rw[f]at w;exact r.vg h c w
 |true=>
  rw[f]at w;rcases dc.mp w with w |w
  ·exact(by decide:∀c∈cA,c∈sig) c w
  ·obtain⟨d,u,rfl⟩:=ql w
   obtain⟨_,j,_,_⟩:=Row.pN h f;have:=u9 (j d u);have:=dm (f:=λd=> sig.contains (ar d)) (g:=λL=> ag) (l:=iV) (by kernel_rfl) d this;exact ou.mp this
theorem Row.w6{r:Row}(h:r.ok):r.sg.length≤110:=by
 unfold Row.sg;cases f:r.enc with
 |false=> have:=r.qf h;rw[fP,dJ];exact bK (by assumption) (by decide)
 |true=> obtain⟨_,_,_,this⟩:=Row.pN h f;rw[hx,da,dJ];simp only[cA,dz,lZ];lia
theorem Fy{t l:au}:∀(H:aa aj),(∀c∈H,c∈up iV)->ba t l H=H
 |[],_=> rfl
 |x::H,h=> by
  have e:ba t l (x::H)=(mp t l x).getD [x]++ba t l H:=rfl;rw[e,Fy H λc w=> h c (.tail _ w)];have:=dm (f:=λc=> (mp t l c).getD [c]) (g:=λc=> [c]) (l:=up iV) (by cases t <;> cases l <;> kernel_rfl) x (h x (.head _));rw[this];rfl
theorem Row.BK{r:Row}(h:r.ok)(f:r.enc=ag):∀c∈r.sg,c∈up iV:=λc w=> by
 unfold Row.sg at w;rw[f]at w;rcases dc.mp w with w |w
 ·exact(by decide:∀c∈cA,c∈up iV) c w
 ·obtain⟨d,u,rfl⟩:=ql w
  obtain⟨_,j,_,_⟩:=Row.pN h f;exact cY (u9 (j d u))
theorem Row.HG{t l:au}{r:Row}(h:r.ok):ba t l r.sg=bif r.enc then r.sg else r.sh t l:=by
 cases f:r.enc with
 |false=> rw[fP,Row.sg,Row.sh,f];rfl
 |true=> rw[hx];exact Fy _ (Row.BK h f)
theorem Sz(t l:au)(s:aa aj):ba t l (97::s)=97::ba t l s:=by
 have e:ba t l (97::s)=(mp t l 97).getD [97]++ba t l s:=rfl;rw[e,show mp t l 97=U [97]from by cases t <;> cases l <;> rfl];rfl
theorem VL{t l:au}{H:aa ae}(h:∀c∈H,c∈97::65::bV):(46:aj)∉ba t l (up H):=λO=> by
 obtain⟨c,w,O⟩:=Co.mp O;obtain⟨d,u,rfl⟩:=ql w;have:=dm (f:=λd=> !((mp t l (ar d)).getD [ar d]).contains 46) (g:=λL=> ag) (l:=97::65::bV) (by cases t <;> cases l <;> kernel_rfl) d (h d u);rw[ou.mpr O]at this;cases this
theorem Row.G8{r:Row}(h:r.ok):∀c∈r.lab,c∈97::65::bV:=λc w=> by
 obtain⟨s,e,_,g⟩:=h;rw[e]at w;rcases bM.mp w with rfl |w
 ·exact .head _
 ·have:=g c w
  cases q:r.enc
  ·rw[q]at this;exact .tail _ this
  ·rw[q]at this;exact .tail _ (.tail _ this)
theorem Row.kG(t l:au){r:Row}(h:r.ok):∃u,dE (r.sh t l=97::u) ((∀c∈(97:aj)::u,c∈sig)) ((46:aj)∉u) (u.length≤12):=by
 have P:=r.vg h;have O:=Row.G8 h;have m:=r.qf h;obtain⟨s,e,G,j⟩:=h;cases f:r.enc with
 |true=>
  refine⟨up s,by rw[Row.sh,f,e];rfl,by rw[e]at P;exact P,λq=> ?_,by rw[dJ];exact bK (by assumption) (by decide)⟩;obtain⟨d,g,I⟩:=ql q;have:d=46:=by simp only[Cd]at I;lia
  have B:=j d g;rw[f,this]at B;exact bf B (by decide)
 |false=>
  have I:ba t l (up r.lab)=97::ba t l (up s):=by rw[e];exact Sz t l (up s)
  refine⟨ba t l (up s),by rw[Row.sh,f];exact I,λc w=> ?_,VL λc w=> O c (by rw[e];exact .tail _ w),?_⟩
  ·rw[← I]at w;exact zy P c w
  ·have:=mW (t:=t) (l:=l) (H:=up s) λc w=> P c (by rw[e];exact .tail _ w)
   rw[dJ]at this;lia
theorem Row.Vx(t l:au){r:Row}(h:r.ok):(46:aj)∉ba t l r.sg:=by
 rw[Row.HG h];cases f:r.enc with
 |true=>
  rw[hx];intro q;exact bf (Row.BK h f 46 q) (by decide)
 |false=>
  rw[fP];obtain⟨u,e,_,j,_⟩:=Row.kG t l h;rw[e];intro q;rcases bM.mp q with q |q
  ·cases q
  ·exact j q
theorem R7(t l:au)(r:Row)(h:r.ok)(f:r.enc=ag):(aA m pA wA (k+12)).call (.ref 526) [II r.sg,dP m pA wA,bY t l]=U (.J (.tup [II (r.sh t l),.list (ck (r.wb t l) r.ab)])):=by
 obtain⟨D,j,y,H,x⟩:=Row.pN h f;have o:r.sg=cA++up (encL r.lab):=by rw[Row.sg,f];rfl
 have s:r.sh t l=up r.lab:=by rw[Row.sh,f];rfl
 have v:r.wb t l=(up r.lab).any (pb t l ag):=by rw[Row.wb,s,f]
 have p:r.ab=asc (up r.lab):=by rw[Row.ab,f];rfl
 have G:=r.qf h;have n:∀c∈encL r.lab,c < 128:=λc w=> (by decide:∀c∈iV,c < 128) c (u9 (j c w))
 obtain⟨u,g,z,B,C⟩:=Row.kG t l h;rw[s]at g
 let O:=aA m pA wA (k+11)
 let V:Slot->Slot->aa Slot:=λa b=> [.J (II r.sg),.J (dP m pA wA),.J (bY t l),a,b]
 have E:r.sg.length < 1000:=bc (r.w6 h) (by decide);have sl:ev O [] (V .un .un) (.slc (.var 0) (.call (.glb (S "len") (.fn (.builtin "len"))) (.cons (.glb (S "PREFIX") (II cA)) .nil)) (.lit .none))=U (.own (II (up (encL r.lab)))):=by
  have:=jr (O:=O) (c':=[]) (V:=V .un .un) (a:=.var 0) (b:=.call (.glb (S "len") (.fn (.builtin "len"))) (.cons (.glb (S "PREFIX") (II cA)) .nil)) (c:=.lit .none) (p:=.J (II r.sg)) (q:=.J (.int 4)) (u:=.J .none) (by kernel_rfl) (by kernel_rfl) (by kernel_rfl) (Y1 r.sg E);rw[this,o];rfl
 have A:ev O [] (V .un .un) (.call (.glb (S "bytes") (.fn (.type "bytes"))) (.cons (.slc (.var 0) (.call (.glb (S "len") (.fn (.builtin "len"))) (.cons (.glb (S "PREFIX") (II cA)) .nil)) (.lit .none)) .nil))=U (.J (.a8 (up (encL r.lab)))):=jt (c6 sl) (by
  exact ty_bytes (bX (by rw[dJ];exact bh (by assumption) (by decide))) λc h=> bh (n c h) (by decide))
 have e:ev O [] (V .un .un) (.call (.glb (S "decode_label") (.fn (.ref 381))) (.cons (.call (.glb (S "bytes") (.fn (.type "bytes"))) (.cons (.slc (.var 0) (.call (.glb (S "len") (.fn (.builtin "len"))) (.cons (.glb (S "PREFIX") (II cA)) .nil)) (.lit .none)) .nil)) .nil))=U (.J (II (up r.lab))):=
  ek (c6 A) rfl (RP (k:=k+6) (encL r.lab) r.lab (by cases q:encL r.lab with
   |nil=> exact bf q x
   |cons=> simp) (by exact bh (by assumption) (by decide)) n D)
 let T:CB:=match az hD 0 with | .tryN b=> b |_=> .nil
 have L:aJ 1000 O [] (az hD 0) (V .un .un)=U (.nxt (V (.J (II (up r.lab))) .un)):=
  (show aJ 1000 O [] (az hD 0) (V .un .un)=aI 1000 O [] (cW T 0) (V .un .un)from by kernel_rfl).trans (st (c:=T) 0 (c7 (e':=V .un .un) (by kernel_rfl) e (sl:=.J (II (up r.lab))) rfl (by kernel_rfl) (by kernel_rfl)) rfl)
 have I:aJ 1000 O [] (az hD 1) (V (.J (II (up r.lab))) .un)=U (.nxt (V (.J (II (up r.lab))) (.own (cJ (r.wb t l))))):=by
  rw[v,g];exact bD (FV (k:=k) u z B (by exact bc (by assumption) (by decide)) t l ag) (by kernel_rfl) (by kernel_rfl)
 have F:∀d a,aJ 1000 (K1 (U (.J (.bool a)))) [] (az hD 2) (V (.J (II (up r.lab))) (.own (cJ d)))=U (.nxt (V (.J (II (up r.lab))) (.own (.list (ck d a))))):=λd a=> by cases d <;> cases a <;> kernel_rfl
 have i:=bD (W:=1000) (O:=O) (c':=[]) (s:=az hD 2) (V:=V (.J (II (up r.lab))) (.own (cJ (r.wb t l)))) (zu (m:=m) (pA:=pA) (wA:=wA) (k:=k+10) (up r.lab) (by rw[dJ];exact bc (by assumption) (by decide))) (by kernel_rfl) (F (r.wb t l) (asc (up r.lab)));refine cx hD [] (V .un .un) (dX L ?_) (by kernel_rfl);rw[s,p];exact aZ cj (st (c:=hD) 1 I (st (c:=hD) 2 i (cL (c:=hD) (v:=.J (.tup [II (up r.lab),.list (ck (r.wb t l) (asc (up r.lab)))])) (τ:=[.J (II r.sg),.J (dP m pA wA),.J (bY t l),.J (II (up r.lab)),.J (.list (ck (r.wb t l) (asc (up r.lab))))]) 3 (by kernel_rfl))))
theorem Sj(t l:au)(r:Row)(h:r.ok):(aA m pA wA (k+13)).call (.ref 533) [II (ba t l r.sg),dP m pA wA,bY t l]=U (.J (.tup [II (r.sh t l),.list (ck (r.wb t l) r.ab)])):=by
 let O:=aA m pA wA (k+12)
 let H:=ba t l r.sg
 have d:=Row.HG (t:=t) (l:=l) h
 let V:aa Slot:=[.J (II H),.J (dP m pA wA),.J (bY t l)]
 obtain⟨u,g,z,B,C⟩:=Row.kG t l h;have y:H.length < 1000:=by
  show(ba t l r.sg).length < 1000;rw[d];cases r.enc with
  |true=> exact bc (r.w6 h) (by decide)
  |false=> rw[fP,g,dz];exact bc (jS (by assumption) _) (by decide)
 have G:ev O [] V (.cmp (.slc (.var 0) (.lit .none) (.call (.glb (S "len") (.fn (.builtin "len"))) (.cons (.glb (S "PREFIX") (II cA)) .nil))) (.one .NotEq (.glb (S "PREFIX") (II cA))))=U (.J (.bool (!decide (H.take 4=cA)))):=
  eI (jr (p:=.J (II H)) (q:=.J .none) (u:=.J (.int 4)) (by kernel_rfl) (by kernel_rfl) (by kernel_rfl) (J9 H y)) (q:=.J (II cA)) (by kernel_rfl) ((show eE .NotEq (II (H.take 4)) (II cA)=(ey (II (H.take 4)) (II cA)).map (!·)from by kernel_rfl).trans (by rw[n6];rfl))
 let A:CB:=dH (az kj 0)
 refine cx kj [] V (fX ?_) (by kernel_rfl);cases f:r.enc with
 |false=>
  have a:H=r.sh t l:=by show ba t l r.sg=_;rw[d,f];rfl
  have x:decide (H.take 4=cA)=ak:=cv (by rw[a,g];simp[cA]);rw[x]at G;have p:r.ab=ak:=by rw[Row.ab,f];rfl
  have v:r.wb t l=(H.any (pb t l ak)):=by rw[Row.wb,f,a]
  have e:II H=II (97::u):=by rw[a,g]
  rw[p,v,← a];have i:O.call (.ref 519) [II H,dP m pA wA,bY t l,.bool ak]=U (.own (cJ (H.any (pb t l ak)))):=by
   rw[a,g];exact FV (k:=k+1) u z B (by exact bc (by assumption) (by decide)) t l ak
  have q:∀b,cJ b=.list (ck b ak):=λb=> by cases b <;> rfl
  rw[q]at i;exact aZ cj (cL (c:=kj) (v:=.J (.tup [II H,.list (ck (H.any (pb t l ak)) ak)])) (τ:=V) 0 (cN (x:=ag) (e':=V) (A:=A) (B:=.nil) (by kernel_rfl) G (cL (c:=A) 0 (bD i (by kernel_rfl) (by kernel_rfl)))))
 |true=>
  have a:H=r.sg:=by show ba t l r.sg=_;rw[d,f];rfl
  have x:decide (H.take 4=cA)=ag:=cf (by rw[a,Row.sg,f];rfl);rw[x]at G;have D:asc H=ag:=by
   unfold asc;rw[hV,ta];intro c j;rw[a]at j;have:=(by decide:∀c∈up iV,¬(127 < c)) c (Row.BK h f c j);simpa using this
  have as:=zu (m:=m) (pA:=pA) (wA:=wA) (k:=k+11) H y;rw[D]at as;have w:=R7 (m:=m) (pA:=pA) (wA:=wA) (k:=k) t l r h f;rw[← a]at w;exact aZ cj (st (c:=kj) (τ:=V) 0 (cN (x:=ak) (e':=V) (A:=A) (B:=.nil) (by kernel_rfl) G rfl) (st (c:=kj) (τ:=V) 1 (bD as (by kernel_rfl) (by kernel_rfl)) (cL (c:=kj) (v:=.J (.tup [II (r.sh t l),.list (ck (r.wb t l) r.ab)])) (τ:=V) 2 (bD w (by kernel_rfl) (by kernel_rfl)))))
theorem R0(H:aa PV)(g:dI H≠[])(Z:H.length < 1000):(aA m pA wA (k+1)).call (.ref 445) [.list H]=U (.J (.list ((dI H).map .list))):=by
 refine(show _=zT H from by kernel_rfl).trans ?_;unfold zT;rw[show bb H.length 1000=ag from Nat.ble_eq.mpr Z];cases e:dI H with
 |nil=> exact bf e g
 |cons=> rfl
theorem Kc{a:aa aj}(H:aa PV)(h:(46:aj)∉a):dI (a.map .int++H)=yJ (a.map .int) (dI H):=by
 induction a with
 |nil=> show dI H=yJ [] (dI H);cases dI H <;> rfl
 |cons x a D=>
  have T:(x==46)=ak:=by simp only[kY];exact λe=> h (e ▸ .head _)
  show stI (x==46) (.int x) (dI (a.map .int++H))=_;rw[T,D λq=> h (.tail _ q)];cases dI H <;> rfl
theorem Zb(r:aa (aa aj)):∀a:aa aj,(∀y∈a::r,(46:aj)∉y)->dI ((bP (a::r)).map .int)=(a::r).map (λy=> y.map .int):=by
 induction r with
 |nil=>
  intro a h;have:=Kc [] (h a (.head _));simp only[bP,List.flatMap_nil,fu]at this⊢;rw[this];show[a.map PV.int++[]]=_;rw[fu];rfl
 |cons b r D=>
  intro a h;have e:bP (a::b::r)=a++(46::bP (b::r)):=by simp[bP]
  rw[e,bj,Kc _ (h a (.head _)),dG];show yJ _ (stI ag _ (dI _))=_;rw[D b λy E=> h y (.tail _ E)];show(a.map PV.int++[])::_=_;rw[fu];rfl
theorem SD(t l:au):∀ls:aa (aa aj),ba t l (bP ls)=bP (ls.map (ba t l))
 |[]=> rfl
 |a::r=> by
  have c:∀b,ba t l (46::b)=46::ba t l b:=λb=> by
   have e:ba t l (46::b)=(mp t l 46).getD [46]++ba t l b:=rfl;rw[e,show mp t l 46=U [46]from by cases t <;> cases l <;> rfl];rfl
  have:∀r:aa (aa aj),ba t l (r.flatMap λb=> 46::b)=(r.map (ba t l)).flatMap λb=> 46::b:=λr=> by
   induction r with
   |nil=> rfl
   |cons b r D=> rw[xA,uZ,c,D];rfl
  simp only[bP,uZ,this,dG]
theorem Ob(t l:au):∀ls:aa (aa aj),bad t l (bP ls)=ls.any (bad t l)
 |[]=> rfl
 |a::r=> by
  have c:∀b,bad t l (46::b)=bad t l b:=λb=> by
   show((mp t l 46).isNone ||bad t l b)=_;rw[show mp t l 46=U [46]from by cases t <;> cases l <;> rfl];rfl
  have:∀r:aa (aa aj),bad t l (r.flatMap λb=> 46::b)=r.any (bad t l):=λr=> by
   induction r with
   |nil=> rfl
   |cons b r D=> rw[xA,ph,c,D];rfl
  simp only[bP,ph,this,hq]
def Rs(B:aa Row):Prop:=B≠[]∧B.length≤2∧∀r∈B,r.ok
def bF(B:aa Row):aa aj:=bP (B.map Row.sg)
def dY(t l:au)(B:aa Row):aa (aa aj):=B.map (Row.sh t l)
def dB(t l:au)(r:Row):au:=bad t l r.sg
def ed(t l:au)(B:aa Row):au:=B.any (dB t l) ||B.any (Row.wb t l)
def ec(B:aa Row):au:=B.any Row.ab
theorem Ff{B:aa Row}(h:Rs B):∀c∈bF B,c∈sig:=λc w=> by
 have o:∀ls:aa (aa aj),(∀y∈ls,∀c∈y,c∈sig)->∀c∈bP ls,c∈sig:=λls I c w=> by
  cases ls with
  |nil=> cases w
  |cons a r=>
   rcases dc.mp w with w |w
   ·exact I a (.head _) c w
   ·obtain⟨b,hb,w⟩:=Co.mp w
    rcases bM.mp w with rfl |w
    ·decide
    ·exact I b (.tail _ hb) c w
 refine o _ (λy E=> ?_) c w;obtain⟨r,f,rfl⟩:=bz.mp E;exact Row.YU (h.2.2 r f)
theorem oe(f:Row->ae)(b:ae):∀B:aa Row,(∀r∈B,f r≤b)->(B.map f).sum≤b * B.length
 |[],_=> dh _
 |r::B,h=> by
  have:=oe f b B λq I=> h q (.tail _ I)
  have:=h r (.head _);rw[dG,xD,dz,Nat.mul_add];lia
theorem uI{B:aa Row}(h:Rs B):(bF B).length < 300:=by
 have M:=pT (B.map Row.sg);rw[dM]at M;have G:=oe ((λy:aa aj=> y.length+1) ∘ Row.sg) 111 B λr f=> by have:=Row.w6 (h.2.2 r f);show r.sg.length+1≤111;exact bc (by assumption) (by decide)
 have:=h.2.1;show(bP (B.map Row.sg)).length < 300;have:111 * B.length≤222:=by lia
 lia
theorem JZ{t l:au}{B:aa Row}(h:Rs B):((dY t l B).map λy=> y.length+1).sum≤28:=by
 have G:=oe ((λy:aa aj=> y.length+1) ∘ Row.sh t l) 14 B λr f=> by
  obtain⟨u,e,_,_,I⟩:=Row.kG t l (h.2.2 r f);show(r.sh t l).length+1≤14;rw[e,dz];exact bc (jS (by assumption) _) (by decide)
 have:=h.2.1;rw[dY,dM]
 lia
theorem HK(t l:au)(B:aa Row):ba t l (bF B)=bP (B.map λr=> ba t l r.sg):=by rw[bF,SD,dM];rfl
theorem N9(t l:au)(B:aa Row):bad t l (bF B)=B.any (dB t l):=by
 rw[bF,Ob,tb];rfl
def kI(t l:au)(B:aa Row):aa PV:=ck (B.any (dB t l)) ak++B.flatMap λr=> ck (r.wb t l) r.ab
theorem Jy{B:aa Row}(M:B≠[])(G:B.length≤2):(∃r,B=[r])∨∃r q,B=[r,q]:=by
 rcases B with L |⟨r,L |⟨q,L |⟨L,L⟩⟩⟩
 ·exact bf rfl M
 ·exact .inl ⟨r,rfl⟩
 ·exact .inr ⟨r,q,rfl⟩
 ·exact bf G (Nat.not_le_of_gt (tj 3 _))
theorem YT{t l:au}{B:aa Row}(h:Rs B):(aA m pA wA (k+1)).call (.ref 540) [.list (kI t l B)]=U (.own (.list (d2 (ed t l B) (ec B)))):=by
 obtain⟨M,G,_⟩:=h;obtain⟨r,rfl⟩ |⟨r,q,rfl⟩:=Jy M G
 ·have:=F4 (m:=m) (pA:=pA) (wA:=wA) (k:=k) ([r].any (dB t l)) (r.wb t l) r.ab ak ak
  have e:kI t l [r]=ck ([r].any (dB t l)) ak++(ck (r.wb t l) r.ab++ck ak ak):=by simp[kI,ck]
  rw[e,this];simp[ed,ec]
 ·have:=F4 (m:=m) (pA:=pA) (wA:=wA) (k:=k) ([r,q].any (dB t l)) (r.wb t l) r.ab (q.wb t l) q.ab
  have e:kI t l [r,q]=ck ([r,q].any (dB t l)) ak++(ck (r.wb t l) r.ab++ck (q.wb t l) q.ab):=by simp[kI]
  rw[e,this];have j:ed t l [r,q]=([r,q].any (dB t l) ||r.wb t l ||q.wb t l):=by
   show(_ ||((r.wb t l) ||((q.wb t l) ||ak)))=_;rw[xq,Bool.or_assoc]
  have y:ec [r,q]=(r.ab ||q.ab):=by
   show(r.ab ||(q.ab ||ak))=_;rw[xq]
  rw[j,y]
def hg(t l:au)(B:aa Row):PV:=.list ((dY t l B).map II)
def ee(t l:au)(B:aa Row):PV:=.list (d2 (ed t l B) (ec B))
def w4(t l:au)(B K:aa Row):Slot:=match K with
 |[]=> .J (cJ (B.any (dB t l)))
 |_::_=> .own (.list (ck (B.any (dB t l)) ak++K.flatMap λr=> ck (r.wb t l) r.ab))
theorem aal(b:au):cJ b=.list (ck b ak):=by cases b <;> rfl
theorem B6(a b:au):(ck a b).length≤2:=by cases a <;> cases b <;> decide
theorem Gf(f g:Row->au):∀K:aa Row,(K.flatMap λr=> ck (f r) (g r)).length≤2 * K.length
 |[]=> dh _
 |y::K=> by
  have:=Gf f g K;have:=B6 (f y) (g y);rw[xA,da,dz];lia
theorem zw(t l:au)(B:aa Row)(h:Rs B):(aA m pA wA (k+14)).call (.ref 547) [II (bF B),dP m pA wA,bY t l]=U (.J (.tup [hg t l B,ee t l B])):=by
 let O:=aA m pA wA (k+13)
 let ls:=B.map λr=> ba t l r.sg
 let s:aa Row->Slot×Slot×Slot->aa Slot:=λK x=> [.J (II (bF B)),.J (dP m pA wA),.J (bY t l),.J (II (bP ls)),w4 t l B K,.own (.list ((K.map λr=> II (r.sh t l)))),x.1,x.2.1,x.2.2]
 let C:=bE (az iq 2)
 have n:=h.2.1;obtain⟨x,v⟩:=mX (f:=λp V=> aI 1000 O [] C (V.set 6 (.J p))) (λr:Row=> II (ba t l r.sg)) s B (λK z Q e T=> by
  have Z:=h.2.2 z (by rw[T];simp);have H:K.length < 2:=by rw[T,da,dz]at n;lia
  let A:Slot×Slot×Slot:=(.J (II (ba t l z.sg)),.J (II (z.sh t l)),.J (.list (ck (z.wb t l) z.ab)))
  let D:=s K (.J (II (ba t l z.sg)),e.2.1,e.2.2)
  let F:=s K A
  refine⟨A,?_⟩;have b0:aJ 1000 O [] (az C 0) D=U (.nxt F):=bD (Sj t l z Z) (by kernel_rfl) (by kernel_rfl);have g:aY ((K.map λr=> II (r.sh t l)).length)=ag:=bX (by rw[bx];exact bh (by assumption) (by decide))
  let M:Slot->aa Slot:=λw=> [.J (II (bF B)),.J (dP m pA wA),.J (bY t l),.J (II (bP ls)),w,.own (.list ((K++[z]).map λr=> II (r.sh t l))),A.1,A.2.1,A.2.2]
  have b1:aJ 1000 O [] (az C 1) F=U (.nxt (M (w4 t l B K))):=iT (e':=F) (H:=K.map λr=> II (r.sh t l)) (r:=.J (II (z.sh t l))) (by kernel_rfl) (by kernel_rfl) (by kernel_rfl) rfl g (by
   show _=[_,_,_,_,_,_,_,_,_];rw[bj];rfl)
  have Y:∃p,ev O [] (M (w4 t l B K)) (.var 4)=U p∧p.read=.list (ck (B.any (dB t l)) ak++K.flatMap λr=> ck (r.wb t l) r.ab):=by
   cases K with
   |nil=> exact⟨.J (cJ (B.any (dB t l))),by kernel_rfl,by rw[RV.read,aal];simp⟩
   |cons y K=> exact⟨.bor (.list (ck (B.any (dB t l)) ak++(y::K).flatMap λr=> ck (r.wb t l) r.ab)),by kernel_rfl,rfl⟩
  obtain⟨p,Y,X⟩:=Y;have d:=B6 (B.any (dB t l)) ak;have P:=B6 (z.wb t l) z.ab;have R:=Gf (λr=> r.wb t l) Row.ab K;have b:ev O [] (M (w4 t l B K)) (.bin .Add (.var 4) (.var 8))=U (.own (.list (ck (B.any (dB t l)) ak++(K++[z]).flatMap λr=> ck (r.wb t l) r.ab))):=cQ Y (q:=.J (.list (ck (z.wb t l) z.ab))) (by kernel_rfl) (by
   rw[X];refine(show binop .Add (.list (ck (B.any (dB t l)) ak++K.flatMap λr=> ck (r.wb t l) r.ab)) (.list (ck (z.wb t l) z.ab))=gd ((ag && aY ((ck (B.any (dB t l)) ak++K.flatMap λr=> ck (r.wb t l) r.ab).length+(ck (z.wb t l) z.ab).length))) (U (RV.own (.list ((ck (B.any (dB t l)) ak++K.flatMap λr=> ck (r.wb t l) r.ab)++ck (z.wb t l) z.ab))))from by kernel_rfl).trans ?_;rw[bX (by rw[da];lia),Ln,bU];simp[gd])
  refine st (c:=C) 0 b0 (st (c:=C) 1 b1 (st (c:=C) 2 (c7 (e':=M (w4 t l B K)) ?_ b (sl:=.own (.list (ck (B.any (dB t l)) ak++(K++[z]).flatMap λr=> ck (r.wb t l) r.ab))) rfl (by kernel_rfl) ?_) rfl))
  ·cases K <;> kernel_rfl
  ·show M _=s (K++[z]) A
   have:w4 t l B (K++[z])=.own (.list (ck (B.any (dB t l)) ak++(K++[z]).flatMap λr=> ck (r.wb t l) r.ab)):=by cases K <;> rfl
   show M _=[_,_,_,_,w4 t l B (K++[z]),_,_,_,_];rw[this]) (.un,.un,.un)
 have c:=F0 (m:=m) (pA:=pA) (wA:=wA) (k:=k+4) (bF B) (Ff h) (uI h) t l;rw[HK,N9]at c
 let u:aa Slot:=[.J (II (bF B)),.J (dP m pA wA),.J (bY t l),.un,.un,.un,.un,.un,.un]
 let N:aa Slot:=[.J (II (bF B)),.J (dP m pA wA),.J (bY t l),.J (II (bP ls)),.J (cJ (B.any (dB t l))),.un,.un,.un,.un]
 have L:aJ 1000 O [] (az iq 0) u=U (.nxt N):=bD c (by kernel_rfl) (by kernel_rfl);have a:dI ((bP ls).map .int)=ls.map (λy=> y.map .int):=by
  obtain⟨r,j,e⟩:bH λr j=> B=r::j:=by
   cases f:B with
   |nil=> exact bf f h.1
   |cons r j=> exact⟨r,j,rfl⟩
  have S:∀y∈ls,(46:aj)∉y:=λy E=> by
   obtain⟨q,I,rfl⟩:=bz.mp E;exact Row.Vx t l (h.2.2 q I)
  have o:ls=ba t l r.sg::j.map (λr=> ba t l r.sg):=by show B.map _=_;rw[e];rfl
  rw[o]at S⊢;exact Zb _ _ S
 have fl:=R0 (m:=m) (pA:=pA) (wA:=wA) (k:=k+12) ((bP ls).map .int) (by
  rw[a];intro e;exact h.1 (xB.mp (xB.mp e))) (by
  rw[bx,show bP ls=ba t l (bF B)from(HK t l B).symm];have:=mW (t:=t) (l:=l) (Ff h);have:=uI h
  lia)
 rw[a,dM]at fl;have i:aJ 1000 O [] (az iq 2) (s [] (.un,.un,.un))=U (.nxt (s B x)):=by
  refine dt (b:=forLoop (λp V=> aI 1000 O [] C (V.set 6 (.J p))) (ls.map (PV.list ∘ λy=> y.map .int)) (s [] (.un,.un,.un))) ?_ ?_
  ·have e:aJ 1000 O [] (az iq 2) (s [] (.un,.un,.un))=(match O.call (.ref 445) [II (bP ls)]with
     |some r=> match r.bR with
      |some p=> match i2 p with
       |some ps=> forLoop (λp V=> aI 1000 O [] C (V.set 6 (.J p))) ps (s [] (.un,.un,.un))
       |none=> ah
      |none=> ah
     |none=> ah):=by kernel_rfl
   rw[e,fl];rfl
  ·rw[show ls.map (PV.list ∘ λy=> y.map .int)=B.map (λr:Row=> II (ba t l r.sg))from by show(B.map _).map _=_;rw[dM];rfl]
   exact v
 have d:w4 t l B B=.own (.list (kI t l B)):=by
  cases f:B with
  |nil=> exact bf f h.1
  |cons r j=> rfl
 refine cx iq [] u (dX L ?_) (by kernel_rfl)
 let G:aa Slot:=[.J (II (bF B)),.J (dP m pA wA),.J (bY t l),.J (II (bP ls)),.own (.list (kI t l B)),.own (.list (B.map λr=> II (r.sh t l))),x.1,x.2.1,x.2.2]
 have W:s B x=G:=by show[_,_,_,_,w4 t l B B,_,_,_,_]=_;rw[d]
 rw[W]at i;refine(aZ cj (st (c:=iq) (τ:=s [] (.un,.un,.un)) 1 (by kernel_rfl) (st (c:=iq) 2 i (st (c:=iq) (τ:=G.set 5 (.J (.list (B.map λr=> II (r.sh t l))))) 3 (by kernel_rfl) (cL (c:=iq) (v:=.J (.tup [.list (B.map λr=> II (r.sh t l)),ee t l B])) (τ:=[.J (II (bF B)),.J (dP m pA wA),.J (bY t l),.J (II (bP ls)),.J (.list (kI t l B)),.J (.list (B.map λr=> II (r.sh t l))),x.1,x.2.1,x.2.2]) 4 (bD (YT (k:=k+12) (t:=t) (l:=l) h) (by kernel_rfl) (by kernel_rfl))))))).trans ?_;show U (RV.J (.tup [.list (B.map λr=> II (r.sh t l)),_]))=U (.J (.tup [.list ((B.map (Row.sh t l)).map II),_]));rw[dM];rfl
theorem Sl(t l:au)(B:aa Row)(h:Rs B):(aA m pA wA (k+15)).call (.ref 582) [II (bF B),dP m pA wA,bY t l]=U (.J (.tup [II (bP (dY t l B)),ee t l B])):=by
 let O:=aA m pA wA (k+14)
 let V:Slot->Slot->aa Slot:=λa b=> [.J (II (bF B)),.J (dP m pA wA),.J (bY t l),a,b]
 have o:=FU (m:=m) (pA:=pA) (wA:=wA) (k:=k+13) (dY t l B) (bc (JZ h) (by decide));exact cx yX [] (V .un .un) (dX (τ:=V (.J (hg t l B)) (.J (ee t l B))) (bD (zw t l B h) (by kernel_rfl) (by kernel_rfl))
  (aZ cj (cL (v:=.J (.tup [II (bP (dY t l B)),ee t l B])) (τ:=V (.J (hg t l B)) (.J (ee t l B))) 1 (bD o (by kernel_rfl) (by kernel_rfl))))) (by kernel_rfl)
noncomputable def dn(H:aa aj):aa ae:=H.map Int.toNat
theorem KD{H:aa aj}(h:∀c∈H,c∈sig):up (dn H)=H:=by
 rw[up,dn,dM];refine(Ck λc w=> ?_).trans (Lx H);have:=(by decide:∀c∈sig,ar c.toNat=c) c (h c w);exact this
def wr(H:aa aj):aa aj:=bif asc H then H else cA++up (encL (dn H))
theorem uL(H:aa aj)(T:∀c∈H,c∈sig)(Z:H.length≤20):(aA m pA wA (k+5)).call (.ref 351) [II H]=U (.J (.a8 (up (encL (dn H)))))∧(encL (dn H)).length < 900:=by
 have:=Rv (m:=m) (pA:=pA) (wA:=wA) (k:=k) (dn H) (by rw[dn,bx];exact Z) (by rw[KD T];exact T);rw[KD T]at this;exact⟨this.1,this.2.2⟩
theorem Nx{a:CE}{p:RV}{H:aa aj}{g:ao}(M:ev O c' V a=U p)(j:p.read=.a8 H)(t:H.length < 10000):ev O c' V (.call (.glb g (.fn (.type "list"))) (.cons a .nil))=U (.own (II H)):=jt (c6 M) (by
 show hn "list" [p.read]=_;rw[j];exact(show hn "list" [.a8 H]=gd (aY (H.map PV.int).length) (U (RV.own (II H)))from by kernel_rfl).trans (ct (bX (by rw[bx];exact bh (by assumption) (by decide)))))
theorem zp{p:RV}{a:CE}{H:aa aj}(T:∀c∈H,c∈sig)(Z:H.length≤20)(w:ev (aA m pA wA (k+5)) c' V (.var i)=U p)(b:p.bR=U (II H)){q:RV}(D:ev (aA m pA wA (k+5)) c' V a=U q)(I:q.read=II cA):
  ev (aA m pA wA (k+5)) c' V (.bin .Add a (.call (.glb (S "list") (.fn (.type "list"))) (.cons (.call (.glb (S "encode_label") (.fn (.ref 351))) (.cons (.var i) .nil)) .nil)))=U (.own (II (cA++up (encL (dn H))))):=by
 obtain⟨n,j⟩:=uL H T Z;have G:=ek (g:=S "encode_label") (c6 w) (aU b rfl) n;exact kZ D (Nx G rfl (by rw[dJ];exact bh (by assumption) (by decide))) I rfl (by rw[dJ];simp only[cA,dz,lZ];lia)
theorem Sn(H:aa aj)(y:∀c∈H,c∈sig)(Z:H.length≤20):(aA m pA wA (k+6)).call (.ref 561) [II H]=U (.J (.tup [II (wr H),.list []])):=by
 let O:=aA m pA wA (k+5)
 let V:aa Slot:=[.J (II H)]
 have as:=zu (m:=m) (pA:=pA) (wA:=wA) (k:=k+4) H (by exact bc (by assumption) (by decide));refine cx kk [] V (fX ?_) (by kernel_rfl);unfold wr;cases D:asc H with
 |true=>
  rw[D]at as;exact aZ cj (cL (τ:=V) 0 (bD as (by kernel_rfl) (by kernel_rfl)))
 |false=>
  rw[D]at as
  let T:CB:=match az kk 1 with | .tryN b=> b |_=> .nil
  have G:=zp (m:=m) (pA:=pA) (wA:=wA) (k:=k) (c':=[]) (V:=V) (i:=0) (p:=.J (II H)) (a:=.glb (S "PREFIX") (II cA)) (q:=.J (II cA)) y Z (by kernel_rfl) rfl (by kernel_rfl) rfl;have r:aJ 1000 O [] (az kk 1) V=U (.ret (.J (.tup [II (cA++up (encL (dn H))),.list []])) V):=
   (show aJ 1000 O [] (az kk 1) V=aI 1000 O [] (cW T 0) V from by kernel_rfl).trans (cL (c:=T) 0 (hA (e':=V) (by kernel_rfl) (js (ps:=[II (cA++up (encL (dn H))),.list []]) (dT G (q:=.own (.list [])) (by kernel_rfl)) rfl rfl) rfl))
  exact aZ cj (st (c:=kk) (τ:=V) 0 (bD as (by kernel_rfl) (by kernel_rfl)) (cL (c:=kk) 1 r))
theorem lO{t l:au}{r:Row}(h:r.ok):(∀c∈r.sh t l,c∈sig)∧(r.sh t l).length≤20:=by
 obtain⟨u,e,G,_,B⟩:=Row.kG t l h;rw[e];exact⟨G,by rw[dz];exact bc (by assumption) (by decide)⟩
def outI(t l:au)(B:aa Row):aa (aa aj):=(dY t l B).map wr
def fE(t l:au)(B:aa Row):PV:=bif ed t l B ||ec B then .tup [.str (S "refused"),ee t l B]else II (bP (outI t l B))
theorem FZ(t l:au)(B:aa Row)(h:Rs B):
  (∃x:Slot×Slot×Slot,aI 1000 (aA m pA wA (k+15)) [] kh [.J (II (bF B)),.J (dP m pA wA),.J (bY t l),.un,.un,.un,.un,.un,.un]=
   U (.nxt [.J (II (bF B)),.J (dP m pA wA),.J (bY t l),.J (hg t l B),.own (.list (d2 (ed t l B) (ec B))),.own (.list ((outI t l B).map II)),x.1,x.2.1,x.2.2]))∧
  (aA m pA wA (k+15)).call (.ref 554) [.list ((outI t l B).map II)]=U (.own (II (bP (outI t l B))))∧
  (aA m pA wA (k+15)).call (.ref 540) [.list (d2 (ed t l B) (ec B))]=U (.own (.list (d2 (ed t l B) (ec B)))):=by
 let O:=aA m pA wA (k+15)
 let C:=bE (az kh 2)
 let W:Slot:=.J (ee t l B)
 have n:=h.2.1;have c:(d2 (ed t l B) (ec B)).length≤2:=by cases ed t l B <;> cases ec B <;> decide
 let w:aa Row->Slot:=λK=> match K with
  |[]=> .J (ee t l B)
  |_::_=> .own (ee t l B)
 let s:aa Row->Slot×Slot×Slot->aa Slot:=λK x=> [.J (II (bF B)),.J (dP m pA wA),.J (bY t l),.J (hg t l B),w K,.own (.list (K.map λr=> II (wr (r.sh t l)))),x.1,x.2.1,x.2.2]
 obtain⟨x,v⟩:=mX (f:=λp V=> aI 1000 O [] C (V.set 6 (.J p))) (λr:Row=> II (r.sh t l)) s B (λK z Q e T=> by
  have I:=h.2.2 z (by rw[T];simp);have H:K.length < 2:=by rw[T,da,dz]at n;lia
  let A:Slot×Slot×Slot:=(.J (II (z.sh t l)),.J (II (wr (z.sh t l))),.J (.list []))
  obtain⟨g1,R⟩:=lO I;refine⟨A,?_⟩
  let F:=s K A
  have b0:aJ 1000 O [] (az C 0) (s K (.J (II (z.sh t l)),e.2.1,e.2.2))=U (.nxt F):=bD (Sn (z.sh t l) g1 R) (by kernel_rfl) (by kernel_rfl);have g:aY ((K.map λr=> II (wr (r.sh t l))).length)=ag:=bX (by rw[bx];exact bh (by assumption) (by decide))
  let M:Slot->aa Slot:=λw=> [.J (II (bF B)),.J (dP m pA wA),.J (bY t l),.J (hg t l B),w,.own (.list ((K++[z]).map λr=> II (wr (r.sh t l)))),A.1,A.2.1,A.2.2]
  have b1:aJ 1000 O [] (az C 1) F=U (.nxt (M (w K))):=iT (e':=F) (H:=K.map λr=> II (wr (r.sh t l))) (r:=.J (II (wr (z.sh t l)))) (by kernel_rfl) (by kernel_rfl) (by kernel_rfl) rfl g (by
   show _=[_,_,_,_,_,_,_,_,_];rw[bj];rfl)
  have Y:∃p,ev O [] (M (w K)) (.var 4)=U p∧p.read=ee t l B:=by
   cases K with
   |nil=> exact⟨.J (ee t l B),by kernel_rfl,rfl⟩
   |cons y K=> exact⟨.bor (ee t l B),by kernel_rfl,rfl⟩
  obtain⟨p,Y,D⟩:=Y;have b:ev O [] (M (w K)) (.bin .Add (.var 4) (.var 8))=U (.own (ee t l B)):=cQ Y (q:=.J (.list [])) (by kernel_rfl) (by
   rw[D];refine(show binop .Add (ee t l B) (.list [])=gd ((ag && aY ((d2 (ed t l B) (ec B)).length+0))) (U (RV.own (.list (d2 (ed t l B) (ec B)++[]))))from by kernel_rfl).trans ?_;rw[bX (by exact bc (by assumption) (by decide)),fu];rfl)
  refine st (c:=C) 0 b0 (st (c:=C) 1 b1 (st (c:=C) 2 (c7 (e':=M (w K)) ?_ b (sl:=.own (ee t l B)) rfl (by kernel_rfl) ?_) rfl))
  ·cases K <;> kernel_rfl
  ·have:w (K++[z])=.own (ee t l B):=by cases K <;> rfl
   show M _=[_,_,_,_,w (K++[z]),_,_,_,_];rw[this]) (.un,.un,.un)
 have d:w B=.own (ee t l B):=by
  have:∀K:aa Row,K≠[]->w K=.own (ee t l B):=λK E=> by
   cases K with
   |nil=> exact bf rfl E
   |cons=> rfl
  exact this B h.1
 let u:aa Slot:=[.J (II (bF B)),.J (dP m pA wA),.J (bY t l),.un,.un,.un,.un,.un,.un]
 let G:aa Slot:=[.J (II (bF B)),.J (dP m pA wA),.J (bY t l),.J (hg t l B),.own (ee t l B),.own (.list (B.map λr=> II (wr (r.sh t l)))),x.1,x.2.1,x.2.2]
 have j:s B x=G:=by show[_,_,_,_,w B,_,_,_,_]=_;rw[d]
 have i:aJ 1000 O [] (az kh 2) (s [] (.un,.un,.un))=U (.nxt G):=by
  rw[← j,← v];rw[show B.map (λr:Row=> II (r.sh t l))=(dY t l B).map II from by rw[dY,dM];rfl];kernel_rfl
 have run:aI 1000 O [] kh u=U (.nxt G):=st (c:=kh) (τ:=[.J (II (bF B)),.J (dP m pA wA),.J (bY t l),.J (hg t l B),.J (ee t l B),.un,.un,.un,.un]) 0 (bD (zw (k:=k+1) t l B h) (by kernel_rfl) (by kernel_rfl))
  (st (c:=kh) (τ:=s [] (.un,.un,.un)) 1 (by kernel_rfl) (st (c:=kh) 2 i (by kernel_rfl)))
 have o:=FU (m:=m) (pA:=pA) (wA:=wA) (k:=k+14) (outI t l B) (by
  rw[outI,dM];refine bc (bK (l9 (by rw[dY,dM])) (oe _ 1010 B λr f=> ?_)) (show 1010 * B.length < 5000 by lia);obtain⟨g1,R⟩:=lO (t:=t) (l:=l) (h.2.2 r f);show(wr (r.sh t l)).length+1≤1010;unfold wr;cases asc (r.sh t l)with
  |true=> rw[hx];exact bc (by assumption) (by decide)
  |false=> have:=(uL (m:=m) (pA:=pA) (wA:=wA) (k:=k) (r.sh t l) g1 R).2;rw[fP,da,dJ];simp only[cA,dz,lZ];lia)
 have a:(PV.list (B.map λr=> II (wr (r.sh t l))))=.list ((outI t l B).map II):=by rw[outI,dY,dM,dM];rfl
 have q:=Si (m:=m) (pA:=pA) (wA:=wA) (k:=k+14) (ed t l B) (ec B);rw[← a];exact⟨⟨x,run⟩,a ▸ o,q⟩
def gG(r:Row):PV:=.tup [II (up r.lab),.bool r.enc]
def hb(t l:au)(H:aa aj):au:=H.any λc=> decide (c < 128) && (mp t l c).isNone
theorem Gh:∀(H:aa aj) (a:aj),decide (H.foldl max a < 128)=(decide (a < 128) && !H.any λc=> decide (127 < c))
 |[],a=> by show decide (a < 128)=(decide (a < 128) && ag);cases decide (a < 128) <;> rfl
 |x::H,a=> by
  rw[kL,Gh H,hq];by_cases M:a < 128
  ·by_cases G:127 < x
   ·rw[cv (show ¬max a x < 128 by lia),cf G];simp
   ·rw[cf (show max a x < 128 by lia),cf M,cv G];simp
  ·rw[cv (show ¬max a x < 128 by lia),cv M];simp
theorem DJ{a:CE}{p:RV}{u:aa aj}(M:ev O c' V a=U p)(G:p.read=II (97::u)):ev O c' V (.cmp (.call (.glb (S "max") (.fn (.builtin "max"))) (.cons a .nil)) (.one .Lt (.lit (.int 128))))=U (.J (.bool (asc (97::u)))):=by
 have n:ev O c' V (.call (.glb (S "max") (.fn (.builtin "max"))) (.cons a .nil))=U (.J (.int (u.foldl max 97))):=j6 (c6 M) (by
  show ik "max" [p.read]=_;rw[G];exact Oj)
 have j:=j8 n (b:=.lit (.int 128)) (q:=.J (.int 128)) rfl rfl rfl;rw[j,Gh];rfl
noncomputable def e6(l:au):ae->au
 |2=> l |3=> l |6=> ag |_=> ak
theorem VD(t l:au)(c:aj)(h:kd c < 7):(mp t l c).isNone=e6 l (kd c):=by
 unfold mp
 match h:kd c with
 |0=> rfl
 |1=> rfl
 |2=> cases l <;> rfl
 |3=> cases l <;> rfl
 |4=> cases t <;> rfl
 |5=> rfl
 |6=> rfl
 |n+7=> lia
theorem Y5(l:au):∀n,n < 7->ey (.str (sw l n)) (.str (S "bad"))=U (e6 l n)
 |0,_=> by kernel_rfl
 |1,_=> by kernel_rfl
 |2,_=> by cases l <;> kernel_rfl
 |3,_=> by cases l <;> kernel_rfl
 |4,_=> by kernel_rfl
 |5,_=> by kernel_rfl
 |6,_=> by kernel_rfl
 |n+7,h=> bf h (by lia)
theorem Nu(t l:au)(H:aa aj)(T:∀c∈H,c∈sig)(Z:H.length < 300)(f:c'[0]?=U (.bool l)){p:RV}(M:ev (aA m pA wA (k+2)) c' V (.var 4)=U p)(G:p.bR=U (II H)):
  ev (aA m pA wA (k+2)) c' V (.cmp (.comp (.var 0) (.var 4) (.and (.cmp (.var 0) (.one .Lt (.lit (.int 128)))) (.cmp (.call (.glb (S "_law_sort") (.fn (.ref 719))) (.cons (.var 0) (.cons (.cel 0) .nil))) (.one .Eq (.lit (.str (S "bad")))))) [0]) (.one .NotEq (.lst .nil)))=U (.J (.bool (hb t l H))):=by
 let O:=aA m pA wA (k+2)
 let b:PV->au:=λp=> match p with | .int c=> decide (c < 128) && (mp t l c).isNone |_=> ak
 have g:aY (H.map PV.int).length=ag:=bX (by rw[bx];exact bh (by assumption) (by decide));have n:=t7 (O:=O) (c':=c') (V:=V) (elt:=.var 0) (it:=.var 4) (caps:=[0]) (c:=b) (g:=λp=> p) M G (ps:=H.map .int) rfl g (cond:=.and (.cmp (.var 0) (.one .Lt (.lit (.int 128)))) (.cmp (.call (.glb (S "_law_sort") (.fn (.ref 719))) (.cons (.var 0) (.cons (.cel 0) .nil))) (.one .Eq (.lit (.str (S "bad")))))) (λx R=> by
  obtain⟨c,w,rfl⟩:=bz.mp R;have d:([0].map λi=> (c'[i]?).getD .none)=[PV.bool l]:=by simp[f]
  rw[d];have a:=j8 (O:=O) (c':=[.bool l]) (V:=[.J (.int c)]) (a:=.var 0) (b:=.lit (.int 128)) (p:=.J (.int c)) (q:=.J (.int 128)) (by kernel_rfl) (by kernel_rfl) rfl rfl;have Q:=ek (O:=O) (c':=[.bool l]) (V:=[.J (.int c)]) (g:=S "_law_sort") (dT (a:=.var 0) (b:=.cel 0) (p:=.J (.int c)) (q:=.J (.bool l)) (by kernel_rfl) (by kernel_rfl)) rfl (uQ (m:=m) (pA:=pA) (wA:=wA) (k:=k) l c (T c w));have X:=eI Q (w:=.Eq) (b:=.lit (.str (S "bad"))) (q:=.J (.str (S "bad"))) (by kernel_rfl) ((show eE .Eq (.str (sw l (kd c))) (.str (S "bad"))=ey (.str (sw l (kd c))) (.str (S "bad"))from by kernel_rfl).trans (Y5 l (kd c) (m2 c (T c w))));refine⟨_,DF a X,?_⟩;show PV.bool _=.bool (decide (c < 128) && (mp t l c).isNone);rw[VD t l c (m2 c (T c w))]) (λx L=> ⟨.J x,by kernel_rfl,rfl⟩)
 have o:((H.map PV.int).filter b).map (λp=> p)=(H.filter λc=> decide (c < 128) && (mp t l c).isNone).map .int:=by rw[xC,Lj];rfl
 rw[o]at n;refine(eI n (q:=.own (II [])) (by kernel_rfl) ((show eE .NotEq (II (H.filter λc=> decide (c < 128) && (mp t l c).isNone)) (II [])=(ey (II (H.filter λc=> decide (c < 128) && (mp t l c).isNone)) (II [])).map (!·)from by kernel_rfl).trans (by rw[n6];rfl))).trans ?_
 congr 3
 unfold hb;cases h:H.any λc=> decide (c < 128) && (mp t l c).isNone with
 |true=>
  obtain⟨c,w,z⟩:=ot.mp h;rw[cv λe=> ?_];· rfl
  have:c∈H.filter λc=> decide (c < 128) && (mp t l c).isNone:=l6.mpr ⟨w,z⟩
  rw[e]at this;cases this
 |false=>
  rw[cf];· rfl
  rw[List.filter_eq_nil_iff];intro c w;rw[ta]at h;exact h c w
theorem TA{t l:au}{r:Row}(h:r.ok)(f:r.enc=ag):hb t l (up r.lab)=bad t l r.sg:=by
 obtain⟨n,j,y,H,x⟩:=Row.pN h f;have o:r.sg=cA++up (encL r.lab):=by rw[Row.sg,f];rfl
 have O:=Row.G8 h;have i:∀c∈r.lab,c∈97::bV:=by
  obtain⟨s,e,_,g⟩:=h;intro c w;rw[e]at w;rcases bM.mp w with rfl |w
  ·exact .head _
  ·have:=g c w;rw[f]at this;exact .tail _ this
 rw[o,ph,show bad t l cA=ak from by cases t <;> cases l <;> rfl,sV];have N:hb t l (up r.lab)=(l && kr r.lab):=by
  unfold hb kr up;rw[tb];have:∀c∈r.lab,((λc:aj=> decide (c < 128) && (mp t l c).isNone) ∘ ar) c=(l && (bJ c 95 ||bJ c 61)):=λc w=>
   dm (f:=λd:ae=> decide (ar d < 128) && (mp t l (ar d)).isNone) (g:=λc=> l && (bJ c 95 ||bJ c 61)) (l:=97::bV) (by cases t <;> cases l <;> kernel_rfl) c (i c w)
  rw[show r.lab.any ((λc:aj=> decide (c < 128) && (mp t l c).isNone) ∘ ar)=r.lab.any (λc=> l && (bJ c 95 ||bJ c 61))from by
   clear n j y O i
   revert this
   generalize r.lab=ls;intro this
   induction ls with
   |nil=> rfl
   |cons c ls D=> rw[hq,hq,this c (.head _),D λd u=> this d (.tail _ u)]]
  cases l
  ·simp
  ·simp
 have W:bad t l (up (encL r.lab))=(l && kr (encL r.lab)):=by
  unfold bad kr up;rw[tb];have:∀c∈encL r.lab,((λc:aj=> (mp t l c).isNone) ∘ ar) c=(l && (bJ c 95 ||bJ c 61)):=λc w=>
   dm (f:=λd:ae=> (mp t l (ar d)).isNone) (g:=λc=> l && (bJ c 95 ||bJ c 61)) (l:=iV) (by cases t <;> cases l <;> kernel_rfl) c (u9 (j c w))
  rw[show(encL r.lab).any ((λc:aj=> (mp t l c).isNone) ∘ ar)=(encL r.lab).any (λc=> l && (bJ c 95 ||bJ c 61))from by
   clear n j y H x
   revert this
   generalize encL r.lab=ls;intro this
   induction ls with
   |nil=> rfl
   |cons c ls D=> rw[hq,hq,this c (.head _),D λd u=> this d (.tail _ u)]]
  cases l
  ·simp
  ·simp
 rw[N,W,y]
def hE(d a:au)(s:aa ao×aa PV):aa ao×aa PV:=
 let r:=bif a then cy s.1 s.2 (S "ascii") (.bool ag)else s
 bif d then cy r.1 r.2 (S "disallowed") (.bool ag)else r
def K2(l N e W:au):aa ao×aa PV:=hE e W (hE l N ([],[]))
def dd(t l:au)(r:Row):au:=dB t l r ||r.wb t l
theorem Qg(t l:au)(g':PV)(L:aa PV)(K:aa ao×aa PV)(r:Row)(h:r.ok)(D:L.length < 100)(z:gy λa b c d=> K=K2 a b c d)(x:Slot×Slot×Slot×Slot):
  ∃v:Slot×Slot×Slot×Slot,aI 1000 (aA m pA wA (k+3)) [.bool l] (bE (az il 1)) [.J g',.J (.bool t),.own (.list L),.own (.aW K.1 K.2),.J (II (up r.lab)),.J (.bool r.enc),x.1,x.2.1]=
   U (.nxt [.J g',.J (.bool t),.own (.list (L++[II (r.sh t l)])),.own (.aW (hE (dd t l r) r.ab K).1 (hE (dd t l r) r.ab K).2),v.1,v.2.1,v.2.2.1,v.2.2.2]):=by
 let O:=aA m pA wA (k+3)
 let c':aa PV:=[.bool l]
 let C:=bE (az il 1)
 let g:=up r.lab
 let s:PV->PV->Slot->Slot->aa Slot:=λL d a b=> [.J g',.J (.bool t),.own L,.own d,.J (II g),.J (.bool r.enc),a,b]
 let p:PV:=.aW K.1 K.2
 have P:=r.vg h;have G:=r.qf h;have Z:g.length < 300:=by show(up r.lab).length < 300;rw[dJ];exact bc (by assumption) (by decide)
 have b0:aJ 1000 O c' (az C 0) (s (.list L) p x.1 x.2.1)=U (.nxt (s (.list L) p (.J (II (ba t l g))) (.J (.bool (bad t l g))))):=bD (FW (k:=k) g P Z t l) (by kernel_rfl) (by kernel_rfl)
 let i:PV:=II (r.sh t l)
 let e6:=bif r.enc then hb t l g else bad t l g
 have Q:e6=dB t l r:=by
  show(bif r.enc then hb t l (up r.lab)else bad t l (up r.lab))=bad t l r.sg;cases f:r.enc with
  |true=> rw[hx];exact TA h f
  |false=> rw[fP,Row.sg,f];rfl
 let E:PV:=bif r.ab then .aW (cy K.1 K.2 (S "ascii") (.bool ag)).1 (cy K.1 K.2 (S "ascii") (.bool ag)).2 else p
 have b1:aJ 1000 O c' (az C 1) (s (.list L) p (.J (II (ba t l g))) (.J (.bool (bad t l g))))=U (.nxt (s (.list L) E (.J i) (.J (.bool e6)))):=by
  let A:CB:=dH (az C 1)
  let V:=s (.list L) p (.J (II (ba t l g))) (.J (.bool (bad t l g)))
  have c:ev O c' V (.var 5)=U (.J (.bool r.enc)):=by kernel_rfl
  refine cN (x:=r.enc) (e':=V) (A:=A) (B:=.nil) (by kernel_rfl) c ?_;cases f:r.enc with
  |false=>
   have n:i=II (ba t l g):=by show II (r.sh t l)=_;rw[Row.sh,f];rfl
   have j:e6=bad t l g:=by show(bif r.enc then _ else _)=_;rw[f];rfl
   have y:E=p:=by show(bif r.ab then _ else _)=_;rw[Row.ab,f];rfl
   rw[n,j,y];rfl
  |true=>
   have n:i=II g:=by show II (r.sh t l)=_;rw[Row.sh,f];rfl
   have j:e6=hb t l g:=by show(bif r.enc then _ else _)=_;rw[f];rfl
   have y:r.ab=asc g:=by rw[Row.ab,f];rfl
   let F:=s (.list L) p (.J (II g)) (.J (.bool (hb t l g)))
   have Y:ev O c' V (.var 4)=U (.J (II g)):=by kernel_rfl
   have o:=Nu (m:=m) (pA:=pA) (wA:=wA) (k:=k+1) (c':=c') (V:=V) t l g P Z rfl Y rfl;have X:aJ 1000 O c' (az A 0) V=U (.nxt F):=by
    have e:aJ 1000 O c' (.asgD [6,7] (.cons (.var 4) (.cons (.cmp (.comp (.var 0) (.var 4) (.and (.cmp (.var 0) (.one .Lt (.lit (.int 128)))) (.cmp (.call (.glb (S "_law_sort") (.fn (.ref 719))) (.cons (.var 0) (.cons (.cel 0) .nil))) (.one .Eq (.lit (.str (S "bad")))))) [0]) (.one .NotEq (.lst .nil))) .nil))) V=U (.nxt (gH [6,7] [.J (II g),.J (.bool (hb t l g))] V)):=by
     have H:bg (eF (.cons (.var 4) (.cons (.cmp (.comp (.var 0) (.var 4) (.and (.cmp (.var 0) (.one .Lt (.lit (.int 128)))) (.cmp (.call (.glb (S "_law_sort") (.fn (.ref 719))) (.cons (.var 0) (.cons (.cel 0) .nil))) (.one .Eq (.lit (.str (S "bad")))))) [0]) (.one .NotEq (.lst .nil))) .nil))) V=V:=by kernel_rfl
     exact DV H (dT Y o) rfl rfl rfl
    exact e.trans (by kernel_rfl)
   obtain⟨u,N,_⟩:=Row.kG t l h;have M:g=97::u:=by rw[← N,Row.sh,f];rfl
   have q:=DJ (O:=O) (c':=c') (V:=F) (a:=.var 4) (p:=.J (II g)) (u:=u) (by kernel_rfl) (by rw[M];rfl);rw[← M]at q
   let w:CB:=dH (az A 1)
   refine st (c:=A) 0 X (st (c:=A) 1 (cN (x:=asc g) (e':=F) (A:=w) (B:=.nil) (by kernel_rfl) q ?_) rfl);rw[n,j];show _=U (Out.nxt (s (.list L) (bif r.ab then .aW (cy K.1 K.2 (S "ascii") (.bool ag)).1 (cy K.1 K.2 (S "ascii") (.bool ag)).2 else p) (.J (II g)) (.J (.bool (hb t l g)))));rw[y];obtain⟨a,b,c,d,z⟩:=z;show _=U (Out.nxt (s (.list L) (bif asc g then .aW (cy K.1 K.2 (S "ascii") (.bool ag)).1 (cy K.1 K.2 (S "ascii") (.bool ag)).2 else .aW K.1 K.2) _ _));show aI 1000 O c' (bif asc g then w else .nil) [.J g',.J (.bool t),.own (.list L),.own (.aW K.1 K.2),.J (II g),.J (.bool r.enc),.J (II g),.J (.bool (hb t l g))]=_;rw[z];cases asc g with
   |false=> rfl
   |true=> (refine eq4 a b c d (ow.mp ?_);kernel_rfl)
 let B:PV:=.aW (hE (dd t l r) r.ab K).1 (hE (dd t l r) r.ab K).2
 have b2:aJ 1000 O c' (az C 2) (s (.list L) E (.J i) (.J (.bool e6)))=U (.nxt (s (.list L) B (.J i) (.J (.bool e6)))):=by
  let A:CB:=dH (az C 2)
  let V:=s (.list L) E (.J i) (.J (.bool e6))
  obtain⟨g1,_⟩:=lO (t:=t) (l:=l) h;have R:=ek (O:=O) (c':=c') (V:=V) (g:=S "_law_is_wrong") (eJ (a:=.var 6) (p:=.J i) (by kernel_rfl) (eJ (a:=.var 1) (p:=.J (.bool t)) (by kernel_rfl) (dT (a:=.cel 0) (b:=.var 5) (p:=.J (.bool l)) (q:=.J (.bool r.enc)) (by kernel_rfl) (by kernel_rfl)))) rfl (F7 (m:=m) (pA:=pA) (wA:=wA) (k:=k) (r.sh t l) g1 t l r.enc);have c:ev O c' V (.or (.var 7) (.call (.glb (S "_law_is_wrong") (.fn (.ref 733))) (.cons (.var 6) (.cons (.var 1) (.cons (.cel 0) (.cons (.var 5) .nil))))))=U (.J (.bool (dd t l r))):=by
   have W:ev O c' V (.var 7)=U (.J (.bool e6)):=by kernel_rfl
   have T:dd t l r=(e6 ||(r.sh t l).any (pb t l r.enc)):=by rw[Q];rfl
   rw[T];cases I:e6 with
   |true=> rw[I]at W;exact DL W (λe=> nomatch e)
   |false=> rw[I]at W;exact DM W R
  refine cN (x:=dd t l r) (e':=V) (A:=A) (B:=.nil) (by kernel_rfl) c ?_;obtain⟨a,b,c,d,z⟩:=z;show aI 1000 O c' (bif dd t l r then A else .nil) (s (.list L) (bif r.ab then .aW (cy K.1 K.2 (S "ascii") (.bool ag)).1 (cy K.1 K.2 (S "ascii") (.bool ag)).2 else .aW K.1 K.2) (.J i) (.J (.bool e6)))=U (.nxt (s (.list L) (.aW (hE (dd t l r) r.ab K).1 (hE (dd t l r) r.ab K).2) (.J i) (.J (.bool e6))));rw[z];cases dd t l r <;> cases r.ab
  ·rfl
  ·rfl
  ·(refine eq4 a b c d (ow.mp ?_);kernel_rfl)
  ·(refine eq4 a b c d (ow.mp ?_);kernel_rfl)
 have b3:aJ 1000 O c' (az C 3) (s (.list L) B (.J i) (.J (.bool e6)))=U (.nxt (s (.list (L++[i])) B (.J i) (.J (.bool e6)))):=
  iT (e':=s (.list L) B (.J i) (.J (.bool e6))) (H:=L) (r:=.J i) (by kernel_rfl) (by kernel_rfl) (by kernel_rfl) rfl (bX (by exact bh (by assumption) (by decide))) (by kernel_rfl)
 exact⟨(.J (II g),.J (.bool r.enc),.J i,.J (.bool e6)),st (c:=C) 0 b0 (st (c:=C) 1 b1 (st (c:=C) 2 b2 (st (c:=C) 3 b3 rfl)))⟩
def fb(B:aa Row):PV:=.list (B.map gG)
theorem R1(t l:au)(B:aa Row)(h:Rs B):(aA m pA wA (k+4)).call (.ref 743) [fb B,.bool t,.bool l]=U (.J (.tup [hg t l B,ee t l B])):=by
 let O:=aA m pA wA (k+3)
 let c':aa PV:=[.bool l]
 let C:=bE (az il 1)
 let F:PV->aa Slot->aq Out:=λp V=> (hS [4,5] p V).bind λe'=> aI 1000 O c' C e'
 let s:aa PV->aa ao×aa PV->Slot×Slot×Slot×Slot->aa Slot:=λL K x=> [.J (fb B),.J (.bool t),.own (.list L),.own (.aW K.1 K.2),x.1,x.2.1,x.2.2.1,x.2.2.2]
 have gw:∀(L:aa PV) (K:aa ao×aa PV) (r:Row) (x:Slot×Slot×Slot×Slot),r.ok->L.length < 100->(gy λa b c d=> K=K2 a b c d)->∃v,F (gG r) (s L K x)=U (.nxt (s (L++[II (r.sh t l)]) (hE (dd t l r) r.ab K) v)):=λL K r x f D z=>
  Qg t l (fb B) L K r f D z (x.2.2.1,x.2.2.2,.un,.un)
 let o:Slot×Slot×Slot×Slot:=(.un,.un,.un,.un)
 have P:aJ 1000 O c' (az il 0) [.J (fb B),.J (.bool t),.un,.un,.un,.un,.un,.un]=U (.nxt (s [] ([],[]) o)):=by kernel_rfl
 have n:aJ 1000 O c' (az il 1) (s [] ([],[]) o)=forLoop F (B.map gG) (s [] ([],[]) o):=by kernel_rfl
 have w:∀(L:aa PV) (K:aa ao×aa PV) (d a:au) (x:Slot×Slot×Slot×Slot),aJ 1000 O c' (az il 1) (s [] ([],[]) o)=U (.nxt (s L K x))->(∀x,cj (aI 1000 O c' (cW il 2) (s L K x))=U (.J (.tup [.list L,.list (d2 d a)])))->L=(dY t l B).map II->d2 d a=d2 (ed t l B) (ec B)->
   (aA m pA wA (k+4)).call (.ref 743) [fb B,.bool t,.bool l]=U (.J (.tup [hg t l B,ee t l B])):=λL K d a x g1 R I i=> by
  refine cx il c' [.J (fb B),.J (.bool t),.un,.un,.un,.un,.un,.un] (dX P ?_) (by kernel_rfl);refine(aZ cj (st 1 g1 rfl)).trans ((R x).trans ?_);rw[I,i];rfl
 have u:∀(L:aa PV) (Z N e W:au) (x:Slot×Slot×Slot×Slot),cj (aI 1000 O c' (cW il 2) (s L (K2 Z N e W) x))=U (.J (.tup [.list L,.list (d2 (Z ||e) (N ||W))])):=λL Z N e W x=> by
  (refine eq4 Z N e W (ow.mp ?_);kernel_rfl)
 obtain⟨M,G,j⟩:=h;obtain⟨r,rfl⟩ |⟨r,q,rfl⟩:=Jy M G
 ·obtain⟨x,g⟩:=gw [] ([],[]) r o (j r (.head _)) (by decide) ⟨ak,ak,ak,ak,rfl⟩
  refine w [II (r.sh t l)] (K2 ak ak (dd t l r) r.ab) (ak ||dd t l r) (ak ||r.ab) x (n.trans ?_) (λx=> u _ ak ak (dd t l r) r.ab x) rfl ?_
  ·show forLoop F [gG r] _=_
   rw[forLoop,g];show U (Out.nxt (s _ (hE (dd t l r) r.ab ([],[])) x))=_;rfl
  ·show d2 (dd t l r) r.ab=d2 (([r].any (dB t l)) ||([r].any (Row.wb t l))) ([r].any Row.ab)
   simp[dd]
 ·obtain⟨x,g⟩:=gw [] ([],[]) r o (j r (.head _)) (by decide) ⟨ak,ak,ak,ak,rfl⟩
  obtain⟨y,A⟩:=gw [II (r.sh t l)] (hE (dd t l r) r.ab ([],[])) q x (j q (by simp)) (by decide:1 < 100) ⟨ak,ak,dd t l r,r.ab,rfl⟩;refine w [II (r.sh t l),II (q.sh t l)] (K2 (dd t l r) r.ab (dd t l q) q.ab) (dd t l r ||dd t l q) (r.ab ||q.ab) y (n.trans ?_) (λx=> u _ (dd t l r) r.ab (dd t l q) q.ab x) rfl ?_
  ·show forLoop F [gG r,gG q] _=_
   rw[forLoop,g];show forLoop F [gG q] (s ([]++[II (r.sh t l)]) (hE (dd t l r) r.ab ([],[])) x)=_;rw[forLoop,LA,A];rfl
  ·have E:ec [r,q]=(r.ab ||q.ab):=by
    show(r.ab ||(q.ab ||ak))=_;rw[xq]
   have H:ed t l [r,q]=(dd t l r ||dd t l q):=by
    show((dB t l r ||(dB t l q ||ak)) ||(r.wb t l ||(q.wb t l ||ak)))=((dB t l r ||r.wb t l) ||(dB t l q ||q.wb t l));cases dB t l r <;> cases dB t l q <;> cases r.wb t l <;> cases q.wb t l <;> rfl
   rw[E,H]
structure LZ where
 (s0 s2 s3 s4 s5 s9:Slot)
structure LX where
 (x12 x13 x14 x15 x16 x17 x18 x19 x20 x21 x22 x23:Slot)
def lS(k:PV)(z:LZ)(t l:au)(g':PV)(d:Slot)(x:LX):aa Slot:=[z.s0,.J k,z.s2,z.s3,z.s4,z.s5,.J (.bool t),.J (.bool l),.J (bY t l),z.s9,.J g',d,x.x12,x.x13,x.x14,x.x15,x.x16,x.x17,x.x18,x.x19,x.x20,x.x21,x.x22,x.x23]
theorem RT(t l:au):(aA m pA wA (k+1)).call (.ref 405) [.bool t,.bool l,.bool ak,.bool ak,.bool ak,.bool ak,.bool ak]=U (.J (bY t l)):=by kernel_rfl
theorem Gp(n:ae)(b:au):Gd (n+1) (cJ b):=by
 cases b
 ·exact pZ λp z=> nm z
 ·refine pZ λp z=> ?_
  rw[d5.mp z];exact qa n _ (by decide+kernel)
theorem Pc(h:Gd 64 p):eE .NotEq p p=U ak:=by
 show(ey p p).map (!·)=_;rw[JJ h];rfl
theorem o6{a b:CE}{p q:RV}{v:PV}(M:ev O c' V a=U p)(G:ev O c' V b=U q)(j:p.read=v)(B:q.read=v)(h:Gd 64 v):ev O c' V (.cmp a (.one .NotEq b))=U (.J (.bool ak)):=eI M G (by rw[j,B];exact Pc h)
def lB:CB:=bE (az eo 1)
def vf:CB:=bE (az lB 3)
def m3:CB:=bE (az vf 0)
theorem DI{a:CE}{p:RV}{b:au}{g:ao}(M:ev O c' V a=U p)(j:p.read=cJ b):ev O c' V (.call (.glb g (.fn (.type "list"))) (.cons a .nil))=U (.own (cJ b)):=jt (c6 M) (by
 show hn "list" [p.read]=_;rw[j];cases b <;> kernel_rfl)
theorem Hb(z:LZ)(t l:au)(g':PV)(d:Slot)(x:LX)(H:aa aj)(f:au)(T:∀c∈H,c∈sig)(Z:H.length < 300)(e:x.x17=.J (II H))(g:x.x18=.J (.bool f)):
  ∃w,aI 1000 (aA m pA wA (k+5)) c' m3 (lS (dP m pA wA) z t l g' d x)=U (.nxt (lS (dP m pA wA) z t l g' d {x with x19:=w})):=by
 let O:=aA m pA wA (k+5)
 let b:=H.any (pb t l f)
 let V:=lS (dP m pA wA) z t l g' d x
 let F:=lS (dP m pA wA) z t l g' d {x with x19:=.own (cJ b)}
 have h:ev O c' V (.var 17)=U (.J (II H)):=(show ev O c' V (.var 17)=x.x17.rv from by kernel_rfl).trans (by rw[e];rfl);have i:ev O c' V (.var 18)=U (.J (.bool f)):=(show ev O c' V (.var 18)=x.x18.rv from by kernel_rfl).trans (by rw[g];rfl);have j:ev O c' F (.var 17)=U (.J (II H)):=(show ev O c' F (.var 17)=x.x17.rv from by kernel_rfl).trans (by rw[e];rfl);have n:ev O c' F (.var 18)=U (.J (.bool f)):=(show ev O c' F (.var 18)=x.x18.rv from by kernel_rfl).trans (by rw[g];rfl);have wr:=ek (O:=O) (c':=c') (V:=V) (g:=S "_law_is_wrong") (eJ h (eJ (a:=.var 6) (p:=.J (.bool t)) (by kernel_rfl) (dT (a:=.var 7) (p:=.J (.bool l)) (by kernel_rfl) i))) rfl (F7 (m:=m) (pA:=pA) (wA:=wA) (k:=k+2) H T t l f);have r:ev O c' V (.ite (.call (.glb (S "_law_is_wrong") (.fn (.ref 733))) (.cons (.var 17) (.cons (.var 6) (.cons (.var 7) (.cons (.var 18) .nil))))) (.lst (.cons (.lit (.str (S "disallowed"))) .nil)) (.lst .nil))=U (.own (cJ b)):=by
  show _=U (RV.own (cJ (H.any (pb t l f))));cases hb:H.any (pb t l f)with
  |true=> rw[hb]at wr;exact gS wr (by kernel_rfl)
  |false=> rw[hb]at wr;exact ig wr (by kernel_rfl)
 have o:bg [17,6,7,18] V=V:=by
  show bg [17,6,7,18] [z.s0,.J (dP m pA wA),z.s2,z.s3,z.s4,z.s5,.J (.bool t),.J (.bool l),.J (bY t l),z.s9,.J g',d,x.x12,x.x13,x.x14,x.x15,x.x16,x.x17,x.x18,x.x19,x.x20,x.x21,x.x22,x.x23]=[z.s0,.J (dP m pA wA),z.s2,z.s3,z.s4,z.s5,.J (.bool t),.J (.bool l),.J (bY t l),z.s9,.J g',d,x.x12,x.x13,x.x14,x.x15,x.x16,x.x17,x.x18,x.x19,x.x20,x.x21,x.x22,x.x23];rw[e,g];rfl
 have L:aJ 1000 O c' (az m3 0) V=U (.nxt F):=c7 (e':=V) o r (sl:=.own (cJ b)) rfl (by kernel_rfl) (by kernel_rfl);have p:=ek (O:=O) (c':=c') (V:=F) (g:=S "idna_code_words") (eJ (j7 (g:=S "list") j rfl (by lia)) (eJ (a:=.var 1) (p:=.J (dP m pA wA)) (by kernel_rfl) (dT (a:=.var 8) (p:=.J (bY t l)) (by kernel_rfl) n))) rfl (FO (m:=m) (pA:=pA) (wA:=wA) (k:=k) H T t l f);have a:=o6 (DI (g:=S "list") p rfl) (b:=.var 19) (q:=.bor (cJ b)) (show ev O c' F (.var 19)=_ from by kernel_rfl) rfl rfl (Gp 63 b);have q:bg [1,8,18] F=F:=by
  show bg [1,8,18] [z.s0,.J (dP m pA wA),z.s2,z.s3,z.s4,z.s5,.J (.bool t),.J (.bool l),.J (bY t l),z.s9,.J g',d,x.x12,x.x13,x.x14,x.x15,x.x16,x.x17,x.x18,.own (cJ b),x.x20,x.x21,x.x22,x.x23]=[z.s0,.J (dP m pA wA),z.s2,z.s3,z.s4,z.s5,.J (.bool t),.J (.bool l),.J (bY t l),z.s9,.J g',d,x.x12,x.x13,x.x14,x.x15,x.x16,x.x17,x.x18,.own (cJ b),x.x20,x.x21,x.x22,x.x23];rw[g];rfl
 exact⟨.own (cJ b),st (c:=m3) 0 L (st (c:=m3) 1 (cN (x:=ak) (e':=F) (A:=dH (az m3 1)) (B:=.nil) q a rfl) rfl)⟩
theorem uY{f:PV->aa Slot->aq Out}{e':aa Slot}{o:aq Out}(h:f p V=U (.nxt e'))(k:forLoop f ps e'=o):forLoop f (p::ps) V=o:=by rw[forLoop,h];exact k
theorem PT(H:aa ae):dn (up H)=H:=by
 rw[dn,up,dM];exact(Ck λc L=> rfl).trans (Lx H)
theorem u3{q:PV}(M:Gd n p)(G:Gd n q):Gd (n+1) (.tup [p,q]):=SV λx T=> by
 rcases bM.mp T with rfl |T
 ·exact M
 ·rw[d5.mp T];exact G
section
variable (z:LZ)(t l:au)(g':PV)
theorem Hc(d:Slot)(x:LX)(H:aa aj)(T:∀c∈H,c∈sig)(Z:H.length < 300)(e:x.x17=.J (II H)):
  bH λw v=> aI 1000 (aA m pA wA (k+5)) c' vf (lS (dP m pA wA) z t l g' d x)=U (.nxt (lS (dP m pA wA) z t l g' d {x with x18:=v,x19:=w})):=by
 let O:=aA m pA wA (k+5)
 obtain⟨F,n⟩:=Hb (m:=m) (pA:=pA) (wA:=wA) (k:=k) (c':=c') z t l g' d {x with x18:=.J (.bool ak)} H ak T Z e rfl;obtain⟨b,j⟩:=Hb (m:=m) (pA:=pA) (wA:=wA) (k:=k) (c':=c') z t l g' d {x with x18:=.J (.bool ag),x19:=F} H ag T Z e rfl;refine⟨b,.J (.bool ag),st (c:=vf) 0 ?_ rfl⟩;refine dt (b:=forLoop (λp V=> aI 1000 O c' m3 (V.set 18 (.J p))) [.bool ak,.bool ag] (lS (dP m pA wA) z t l g' d x)) (by kernel_rfl) ?_;exact uY n (uY j rfl)
theorem UE(K:aa Row)(r:Row)(h:r.ok)(E:∀q∈K,q.ok)(hl:K.length≤1)(x:LX):∃x':LX,aI 1000 (aA m pA wA (k+9)) c' lB (lS (dP m pA wA) z t l g' (.own (II (bF K))) {x with x12:=.J (II (up r.lab)),x13:=.J (.bool r.enc)})=
  U (.nxt (lS (dP m pA wA) z t l g' (.own (II (bF (K++[r])))) x')):=by
 let O:=aA m pA wA (k+9)
 let g:=up r.lab
 have P:=r.vg h;have n':=r.qf h;have Z:g.length < 300:=by show(up r.lab).length < 300;rw[dJ];lia
 have o':g.length≤4:=by show(up r.lab).length≤4;rw[dJ];lia
 let f:=ba t l g
 let b:=bad t l g
 have i':∀c∈f,c∈sig:=zy P;have l':f.length≤3 * g.length:=mW P
 let D:Slot:=.own (II (bF K))
 let L:LX:={x with x12:=.J (II g),x13:=.J (.bool r.enc)}
 let s:LX->aa Slot:=λx=> lS (dP m pA wA) z t l g' D x
 let A:LX:={L with x14:=.J (II f),x15:=.J (.bool b)}
 have G:aJ 1000 O c' (az lB 0) (s L)=U (.nxt (s A)):=bD (FW (k:=k+6) g P Z t l) (by kernel_rfl) (by kernel_rfl)
 let Y:LX:={A with x16:=.J (.tup [II f,cJ b])}
 have c1:aJ 1000 O c' (az lB 1) (s A)=U (.nxt (s Y)):=c7 (e':=s A) (sl:=.J (.tup [II f,cJ b])) (by kernel_rfl) (ek (eJ (j7 (a:=.var 12) (g:=S "list") (p:=.J (II g)) (by kernel_rfl) rfl (by lia)) (eJ (a:=.var 1) (p:=.J (dP m pA wA)) (by kernel_rfl) (dT (a:=.var 6) (b:=.var 7) (p:=.J (.bool t)) (q:=.J (.bool l)) (by kernel_rfl) (by kernel_rfl)))) rfl (F0 (m:=m) (pA:=pA) (wA:=wA) (k:=k) g P Z t l)) rfl (by kernel_rfl) (by kernel_rfl);have Q:aJ 1000 O c' (az lB 2) (s Y)=U (.nxt (s Y)):=by
  have T:ev O c' (s Y) (.idx (.var 16) (.lit (.int 0)))=U (.J (II f)):=by kernel_rfl
  have i1:ev O c' (s Y) (.idx (.var 16) (.lit (.int 1)))=U (.J (cJ b)):=by kernel_rfl
  have N:=js (O:=O) (c':=c') (V:=s Y) (dT (j7 (g:=S "list") T rfl (by lia)) (DI (g:=S "list") i1 rfl)) (ps:=[II f,cJ b]) rfl rfl;have w:ev O c' (s Y) (.ite (.var 15) (.lst (.cons (.lit (.str (S "disallowed"))) .nil)) (.lst .nil))=U (.own (cJ b)):=by
   have b':ev O c' (s Y) (.var 15)=U (.J (.bool b)):=by kernel_rfl
   have:∀q,b=q->ev O c' (s Y) (.ite (.var 15) (.lst (.cons (.lit (.str (S "disallowed"))) .nil)) (.lst .nil))=U (.own (cJ q)):=λq e=> by
    rw[e]at b';cases q
    ·exact ig b' (by kernel_rfl)
    ·exact gS b' (by kernel_rfl)
   exact this b rfl
  have W:=js (O:=O) (c':=c') (V:=s Y) (dT (a:=.var 14) (p:=.J (II f)) (by kernel_rfl) w) (ps:=[II f,cJ b]) rfl rfl;exact cN (x:=ak) (e':=s Y) (A:=dH (az lB 2)) (B:=.nil) (by kernel_rfl) (o6 N W rfl rfl (u3 (n:=63) (u2 62 f) (Gp 62 b))) rfl
 obtain⟨w1,v1,v⟩:=Hc (m:=m) (pA:=pA) (wA:=wA) (k:=k+4) (c':=c') z t l g' D {Y with x17:=.J (II g)} g P Z rfl;obtain⟨w2,i,C⟩:=Hc (m:=m) (pA:=pA) (wA:=wA) (k:=k+4) (c':=c') z t l g' D {Y with x17:=.J (II f),x18:=v1,x19:=w1} f i' (by lia) rfl
 let H:LX:={Y with x17:=.J (II f),x18:=i,x19:=w2}
 have X:aJ 1000 O c' (az lB 3) (s Y)=U (.nxt (s H)):=by
  refine dt (b:=forLoop (λp V=> aI 1000 O c' vf (V.set 17 (.J p))) [II g,II f] (s Y)) (by kernel_rfl) ?_;exact uY v (uY C rfl)
 have k':∀y:LX,y.x12=.J (II g)->ev O c' (s y) (.var 12)=U (.J (II g)):=λy E=> (show ev O c' (s y) (.var 12)=y.x12.rv from by kernel_rfl).trans (by rw[E];rfl)
 let a:Slot:=bif r.enc then .own (II r.sg)else .J (II r.sg)
 let u:LX:={H with x20:=a}
 have c4:aJ 1000 O c' (az lB 4) (s H)=U (.nxt (s u)):=by
  have a':ev O c' (s H) (.var 13)=U (.J (.bool r.enc)):=by kernel_rfl
  have f':=k' H rfl;have:∀q,r.enc=q->∃rv,ev O c' (s H) (.ite (.var 13) (.bin .Add (.lst (.cons (.lit (.int 120)) (.cons (.lit (.int 110)) (.cons (.lit (.int 45)) (.cons (.lit (.int 45)) .nil))))) (.call (.glb (S "list") (.fn (.type "list"))) (.cons (.call (.glb (S "encode_label") (.fn (.ref 351))) (.cons (.var 12) .nil)) .nil))) (.var 12))=U rv∧rv.slot=U a:=λq e=> by
   rw[e]at a';have o:r.sg=bif q then cA++up (encL r.lab)else up r.lab:=by rw[Row.sg,e]
   have j':a=bif q then .own (II r.sg)else .J (II r.sg):=by show(bif r.enc then _ else _)=_;rw[e]
   rw[j',o];cases q
   ·exact⟨_,ig a' f',rfl⟩
   ·have ea:=zp (m:=m) (pA:=pA) (wA:=wA) (k:=k+4) (c':=c') (V:=s H) (i:=12) (a:=.lst (.cons (.lit (.int 120)) (.cons (.lit (.int 110)) (.cons (.lit (.int 45)) (.cons (.lit (.int 45)) .nil))))) (q:=.own (II cA)) P (show g.length≤20 by lia) f' rfl (by kernel_rfl) rfl
    rw[show dn g=r.lab from PT r.lab]at ea;exact⟨_,gS a' ea,rfl⟩
  obtain⟨rv,M,h2⟩:=this r.enc rfl;refine c7 (e':=s H) ?_ M h2 (by kernel_rfl) (by kernel_rfl);kernel_rfl
 have p':(bF K).length < 400:=by
  cases K with
  |nil=> decide
  |cons q h'=> exact bh (uI ⟨by simp,by lia,E⟩) (by decide)
 have m':r.sg.length≤110:=r.w6 h;have B:aJ 1000 O c' (az lB 5) (s u)=U (.nxt (lS (dP m pA wA) z t l g' (.own (II (bF (K++[r])))) u)):=by
  have e':ev O c' (s u) (.var 11)=U (.bor (II (bF K))):=by kernel_rfl
  obtain⟨q,I,he⟩:=DN (O:=O) (c':=c') (V:=s u) (i:=11) e' rfl;have F:(bif q then[46]else([]:aa aj))=jK (K.map Row.sg):=by
   cases K with
   |nil=>
    cases q with
    |false=> rfl
    |true=> exact bf rfl (I.mp rfl)
   |cons y h'=>
    have:bF (y::h')≠[]:=by
     have R:y.sg≠[]:=by
      obtain⟨w,d,_⟩:=E y (.head _);rw[Row.sg,d];cases y.enc <;> simp[cA,up]
     show bP (y.sg::_)≠[];simp[bP,R]
    rw[I.mpr this];rfl
  rw[F]at he;have n:=kZ e' he rfl rfl (by have:=sN (K.map Row.sg);lia);have d':∃p,ev O c' (s u) (.var 20)=U p∧p.read=II r.sg:=by
   have e:ev O c' (s u) (.var 20)=a.rv:=by kernel_rfl
   rw[e];show ∃p,(bif r.enc then Slot.own (II r.sg)else .J (II r.sg)).rv=U p∧_;cases r.enc
   ·exact⟨_,rfl,rfl⟩
   ·exact⟨_,rfl,rfl⟩
  obtain⟨p,d',hp⟩:=d';have j:=kZ n d' rfl hp (by have:=sN (K.map Row.sg);rw[da];lia);refine c7 (e':=s u) (by kernel_rfl) j (sl:=.own (II (bF (K++[r])))) ?_ (by kernel_rfl) (by kernel_rfl);have ej:bF (K++[r])=bP (K.map Row.sg)++jK (K.map Row.sg)++r.sg:=by rw[bF,bj,dG,Cn,zR,bU]
  rw[ej];rfl
 exact⟨u,st (c:=lB) 0 G (st (c:=lB) 1 c1 (st (c:=lB) 2 Q (st (c:=lB) 3 X (st (c:=lB) 4 c4 (st (c:=lB) 5 B rfl)))))⟩
end
theorem DH{a:CE}{p:RV}{g:ao}(M:ev O c' V a=U p)(j:p.read=.list H)(t:H.length < 10000):ev O c' V (.call (.glb g (.fn (.type "list"))) (.cons a .nil))=U (.own (.list H)):=jt (c6 M) (by
 show hn "list" [p.read]=_;rw[j];exact(show hn "list" [.list H]=gd (aY H.length) (U (RV.own (.list H)))from by kernel_rfl).trans (ct (bX (by exact bh (by assumption) (by decide)))))
theorem Qf(d a:au):(d2 d a).length≤2:=by cases d <;> cases a <;> decide
theorem zF(n:ae)(d a:au):Gd (n+1) (.list (d2 d a)):=by
 have M:x4 (S "ascii")=ag:=by decide+kernel
 have G:x4 (S "disallowed")=ag:=by decide+kernel
 refine pZ λp z=> ?_
 rcases dc.mp z with z |z
 ·cases a with
  |false=> cases z
  |true=> rw[d5.mp z];exact qa n _ M
 ·cases d with
  |false=> cases z
  |true=> rw[d5.mp z];exact qa n _ G
theorem SS(n:ae)(ls:aa (aa aj)):Gd (n+2) (.list (ls.map II)):=pZ λp z=> by
 obtain⟨y,_,rfl⟩:=bz.mp z;exact u2 n y
theorem JY{t l:au}{B:aa Row}(h:Rs B):∀y∈dY t l B,y≠[]:=λy E=> by
 obtain⟨r,f,rfl⟩:=bz.mp E;obtain⟨u,e,_⟩:=Row.kG t l (h.2.2 r f);rw[e];simp
theorem aaw{H:aa aj}(h:H≠[]):wr H≠[]:=by
 unfold wr;cases asc H
 ·simp[cA]
 ·exact h
theorem UL(z:LZ)(t l:au)(B:aa Row)(h:Rs B)(d:Slot)(x:LX):∃y:LX,aI 1000 (aA m pA wA (k+16)) c' eo (lS (dP m pA wA) z t l (fb B) d x)=U (.nxt (lS (dP m pA wA) z t l (fb B) (.own (II (bF B))) y))∧
  bH λw rv=> dE (bg [20] (lS (dP m pA wA) z t l (fb B) (.own (II (bF B))) y)=lS (dP m pA wA) z t l (fb B) (.own (II (bF B))) w) (bO (aA m pA wA (k+16)) c' (lS (dP m pA wA) z t l (fb B) (.own (II (bF B))) w) (.cons (.call (.glb (S "list") (.fn (.type "list"))) (.cons (.var 11) .nil)) (.cons (.var 1) (.cons (.var 8) .nil)))=U [.own (II (bF B)),.J (dP m pA wA),.J (bY t l)]) (ev (aA m pA wA (k+16)) c' (lS (dP m pA wA) z t l (fb B) (.own (II (bF B))) w) mN=U rv) (rv.read=fE t l B):=by
 let O:=aA m pA wA (k+16)
 let g':=fb B
 have f':=h.2.1;have p':=uI h;obtain⟨A,M⟩:=mX (f:=(λp V=> (hS [12,13] p V).bind λe'=> aI 1000 O c' lB e':PV->aa Slot->aq Out)) gG (λK (x:LX)=> lS (dP m pA wA) z t l g' (.own (II (bF K))) x) B (λK r zs x T=> by
  obtain⟨v,g⟩:=UE z t l g' K r (h.2.2 r (by rw[T];simp)) (λq hq=> h.2.2 q (by rw[T];simp[hq])) (by rw[T,da,dz]at f';lia) x;exact⟨v,g⟩) x
 let s:LX->aa Slot:=λx=> lS (dP m pA wA) z t l g' (.own (II (bF B))) x
 have G:aJ 1000 O c' (az eo 0) (lS (dP m pA wA) z t l g' d x)=U (.nxt (lS (dP m pA wA) z t l g' (.own (II (bF []))) x)):=by kernel_rfl
 have c1:aJ 1000 O c' (az eo 1) (lS (dP m pA wA) z t l g' (.own (II (bF []))) x)=U (.nxt (s A)):=dt (by kernel_rfl) M
 let a:=hg t l B
 let o:=ee t l B
 let Y:LX:={A with x21:=.J a,x19:=.J o}
 have Q:aJ 1000 O c' (az eo 2) (s A)=U (.nxt (s Y)):=bD (R1 (k:=k+12) t l B h) (by kernel_rfl) (by kernel_rfl);have o':∀y,ev O c' (s y) (.var 11)=U (.bor (II (bF B))):=λy=> by kernel_rfl
 have c:∀y,ev O c' (s y) (.call (.glb (S "list") (.fn (.type "list"))) (.cons (.var 11) .nil))=U (.own (II (bF B))):=λy=> j7 (o' y) rfl (by exact bh (by assumption) (by decide))
 have args:∀y,bO O c' (s y) (.cons (.call (.glb (S "list") (.fn (.type "list"))) (.cons (.var 11) .nil)) (.cons (.var 1) (.cons (.var 8) .nil)))=U [.own (II (bF B)),.J (dP m pA wA),.J (bY t l)]:=λy=> eJ (c y) (dT (by kernel_rfl) (by kernel_rfl))
 let H:LX:={Y with x22:=.J a,x16:=.J o}
 have X:aJ 1000 O c' (az eo 3) (s Y)=U (.nxt (s H)):=DW (e':=s Y) (r:=.J (.tup [a,o])) (by kernel_rfl) (ek (args Y) rfl (zw (k:=k+2) t l B h)) rfl (by kernel_rfl);have sl:((dY t l B).map II).length < 10000:=by rw[bx,dY,bx];exact bc (by assumption) (by decide)
 have d':(d2 (ed t l B) (ec B)).length < 10000:=bc (Qf _ _) (by decide);have q':=JZ (t:=t) (l:=l) h;have c4:aJ 1000 O c' (az eo 4) (s H)=U (.nxt (s H)):=by
  have n:=t7 (O:=O) (c':=c') (V:=s H) (elt:=.call (.glb (S "list") (.fn (.type "list"))) (.cons (.var 0) .nil)) (it:=.var 22) (cond:=.lit (.bool ag)) (caps:=[]) (p:=.J a) (v:=a) (ps:=(dY t l B).map II) (c:=λL=> ag) (g:=λp=> p) (by kernel_rfl) rfl rfl (bX (bh sl (by decide)))
   (λy L=> ⟨.J (.bool ag),by kernel_rfl,rfl⟩) (λy E=> by
    obtain⟨u,N,rfl⟩:=bz.mp E;obtain⟨r,f,rfl⟩:=bz.mp N;have:=(lO (t:=t) (l:=l) (h.2.2 r f)).2;exact⟨_,j7 (p:=.J (II (r.sh t l))) (by kernel_rfl) rfl (by exact bc (by assumption) (by decide)),rfl⟩)
  have el:(((dY t l B).map II).filter λL=> ag).map (λp=> p)=(dY t l B).map II:=by rw[xC,Li.mpr (λL L=> rfl)]
  rw[el]at n;have j:=DH (O:=O) (c':=c') (V:=s H) (a:=.var 16) (g:=S "list") (p:=.J o) (H:=d2 (ed t l B) (ec B)) (by kernel_rfl) rfl d';have a1:=js (dT n j) (ps:=[a,o]) rfl rfl;have W:=js (O:=O) (c':=c') (V:=s H) (dT (a:=.var 21) (b:=.var 19) (p:=.J a) (q:=.J o) (by kernel_rfl) (by kernel_rfl)) (ps:=[a,o]) rfl rfl;exact cN (x:=ak) (e':=s H) (A:=dH (az eo 4)) (B:=.nil) (by kernel_rfl) (o6 a1 W rfl rfl (u3 (n:=63) (SS 61 _) (zF 62 _ _))) rfl
 let Z:=bP (dY t l B)
 have hJ:Z.length < 100:=by have:=pT (dY t l B);show(bP (dY t l B)).length < 100;exact bc (bK (by assumption) (by assumption)) (by decide)
 let e:LX:={H with x23:=.J (II Z),x16:=.J o}
 have c5:aJ 1000 O c' (az eo 5) (s H)=U (.nxt (s e)):=DW (e':=s H) (r:=.J (.tup [II Z,o])) (by kernel_rfl) (ek (args H) rfl (Sl (k:=k+1) t l B h)) rfl (by kernel_rfl);have i':aJ 1000 O c' (az eo 6) (s e)=U (.nxt (s e)):=by
  have n:=j7 (O:=O) (c':=c') (V:=s e) (a:=.var 23) (g:=S "list") (p:=.J (II Z)) (by kernel_rfl) rfl (by exact bh (by assumption) (by decide));have j:=DH (O:=O) (c':=c') (V:=s e) (a:=.var 16) (g:=S "list") (p:=.J o) (H:=d2 (ed t l B) (ec B)) (by kernel_rfl) rfl d';have a1:=js (dT n j) (ps:=[II Z,o]) rfl rfl;have e3:=ek (O:=O) (c':=c') (V:=s e) (g:=S "_law_joined") (c6 (a:=.var 21) (p:=.J a) (by kernel_rfl)) rfl (FY (m:=m) (pA:=pA) (wA:=wA) (k:=k+15) (dY t l B) (by exact bc (by assumption) (by decide)) (JY h));have W:=js (dT e3 (b:=.var 19) (q:=.J o) (by kernel_rfl)) (ps:=[II Z,o]) rfl rfl;exact cN (x:=ak) (e':=s e) (A:=dH (az eo 6)) (B:=.nil) (by kernel_rfl) (o6 a1 W rfl rfl (u3 (n:=63) (u2 62 _) (zF 62 _ _))) rfl
 let x7:Slot->aa Row->LX:=λq K=> {e with x12:=q,x20:=.own (.list (K.map λr=> II (wr (r.sh t l))))}
 have c7:aJ 1000 O c' (az eo 7) (s e)=U (.nxt (s (x7 e.x12 []))):=by kernel_rfl
 let C:=bE (az eo 8)
 obtain⟨F,h8⟩:=mX (f:=λp V=> aI 1000 O c' C (V.set 12 (.J p))) (λr:Row=> II (r.sh t l)) (λK (q:Slot)=> s (x7 q K)) B (λK r zs q T=> by
  have f:=h.2.2 r (by rw[T];simp);obtain⟨u,N,_⟩:=Row.kG t l f;obtain⟨g1,R⟩:=lO (t:=t) (l:=l) f;refine⟨.J (II (r.sh t l)),?_⟩
  let V:=s (x7 (.J (II (r.sh t l))) K)
  have b':ev O c' V (.var 12)=U (.J (II (r.sh t l))):=by kernel_rfl
  have mx:=DJ b' (u:=u) (by rw[N];rfl);rw[← N]at mx;have val:∃rv,ev O c' V (.ite (.cmp (.call (.glb (S "max") (.fn (.builtin "max"))) (.cons (.var 12) .nil)) (.one .Lt (.lit (.int 128)))) (.var 12) (.bin .Add (.lst (.cons (.lit (.int 120)) (.cons (.lit (.int 110)) (.cons (.lit (.int 45)) (.cons (.lit (.int 45)) .nil))))) (.call (.glb (S "list") (.fn (.type "list"))) (.cons (.call (.glb (S "encode_label") (.fn (.ref 351))) (.cons (.var 12) .nil)) .nil))))=U rv∧rv.bR=U (II (wr (r.sh t l))):=by
   have ea:=zp (m:=m) (pA:=pA) (wA:=wA) (k:=k+11) (c':=c') (V:=V) (i:=12) (a:=.lst (.cons (.lit (.int 120)) (.cons (.lit (.int 110)) (.cons (.lit (.int 45)) (.cons (.lit (.int 45)) .nil))))) (q:=.own (II cA)) g1 R b' rfl (by kernel_rfl) rfl;unfold wr;cases D:asc (r.sh t l)with
   |true=> rw[D]at mx;exact⟨_,gS mx b',rfl⟩
   |false=> rw[D]at mx;exact⟨_,ig mx ea,rfl⟩
  obtain⟨rv,n,j⟩:=val;have hs:aY ((K.map λr=> II (wr (r.sh t l))).length)=ag:=bX (by rw[bx];rw[T,da]at f';exact bc (iK _ _) (bh (by assumption) (by decide)));refine st (c:=C) 0 (iT (e':=V) (H:=K.map λr=> II (wr (r.sh t l))) (by kernel_rfl) (by kernel_rfl) n j hs ?_) rfl;have e3:x7 (.J (II (r.sh t l))) (K++[r])={e with x12:=.J (II (r.sh t l)),x20:=.own (.list ((K.map λr=> II (wr (r.sh t l)))++[II (wr (r.sh t l))]))}:=by show({e with x12:=_,x20:=.own (.list ((K++[r]).map λr=> II (wr (r.sh t l))))}:LX)=_;rw[bj];rfl
  rw[e3];kernel_rfl) e.x12
 have c8:aJ 1000 O c' (az eo 8) (s (x7 e.x12 []))=U (.nxt (s (x7 F B))):=by
  rw[← h8,show B.map (λr:Row=> II (r.sh t l))=(dY t l B).map II from by rw[dY,dM];rfl];kernel_rfl
 let OT:PV:=.list (B.map λr=> II (wr (r.sh t l)))
 have k':OT=.list ((outI t l B).map II):=by show PV.list (B.map _)=_;rw[outI,dY,dM,dM];rfl
 let a':=s {(x7 F B)with x20:=.J OT}
 have c9:∃rv,ev O c' a' mN=U rv∧rv.read=fE t l B:=by
  have l':((outI t l B).map λy=> y.length+1).sum < 5000:=by
   rw[outI,dM];refine bc (bK (l9 (by rw[dY,dM])) (oe _ 1010 B λr f=> ?_)) (show 1010 * B.length < 5000 by lia);obtain⟨g1,R⟩:=lO (t:=t) (l:=l) (h.2.2 r f);show(wr (r.sh t l)).length+1≤1010;unfold wr;cases asc (r.sh t l)with
   |true=> rw[hx];exact bc (by assumption) (by decide)
   |false=> have:=(uL (m:=m) (pA:=pA) (wA:=wA) (k:=k) (r.sh t l) g1 R).2;rw[fP,da,dJ];simp only[cA,dz,lZ];lia
  have jo:=FY (m:=m) (pA:=pA) (wA:=wA) (k:=k+15) (outI t l B) l' (λy E=> by
   obtain⟨u,N,rfl⟩:=bz.mp E;exact aaw (JY h u N))
  rw[← k']at jo;have j:=ek (O:=O) (c':=c') (V:=a') (g:=S "_law_joined") (c6 (a:=.var 20) (p:=.J OT) (by kernel_rfl)) rfl jo;have h':ev O c' a' (.var 19)=U (.J o):=by kernel_rfl
  have n':∀dd P,ed t l B=dd->ec B=P->∃rv,ev O c' a' (.ite (.cmp (.var 19) (.one .NotEq (.lst .nil))) (.tup (.cons (.lit (.str (S "refused"))) (.cons (.var 19) .nil))) (.call (.glb (S "_law_joined") (.fn (.ref 750))) (.cons (.var 20) .nil)))=U rv∧rv.read=fE t l B:=λdd P hd D=> by
   have j':o=.list (d2 dd P):=by show PV.list (d2 (ed t l B) (ec B))=_;rw[hd,D]
   have m':fE t l B=bif dd ||P then .tup [.str (S "refused"),o]else II (bP (outI t l B)):=by show(bif ed t l B ||ec B then _ else _)=_;rw[hd,D]
   rw[m'];have I:=js (O:=O) (c':=c') (V:=a') (dT (a:=.lit (.str (S "refused"))) (b:=.var 19) (p:=.J (.str (S "refused"))) (by kernel_rfl) h') (ps:=[.str (S "refused"),o]) rfl rfl;have cm:∀b,ey (.list (d2 dd P)) (.list [])=U b->ev O c' a' (.cmp (.var 19) (.one .NotEq (.lst .nil)))=U (.J (.bool (!b))):=λb hb=> eI h' (q:=.own (.list [])) (by kernel_rfl) (by
    show(ey o (.list [])).map (!·)=_;rw[j',hb];rfl)
   cases dd <;> cases P
   ·exact⟨_,ig (cm ag (by kernel_rfl)) j,rfl⟩
   ·exact⟨_,gS (cm ak (by kernel_rfl)) I,rfl⟩
   ·exact⟨_,gS (cm ak (by kernel_rfl)) I,rfl⟩
   ·exact⟨_,gS (cm ak (by kernel_rfl)) I,rfl⟩
  exact n' _ _ rfl rfl
 obtain⟨rv,i,k2⟩:=c9;exact⟨x7 F B,st (c:=eo) 0 G (st (c:=eo) 1 c1 (st (c:=eo) 2 Q (st (c:=eo) 3 X (st (c:=eo) 4 c4 (st (c:=eo) 5 c5 (st (c:=eo) 6 i' (st (c:=eo) 7 c7 (st (c:=eo) 8 c8 rfl)))))))),{(x7 F B)with x20:=.J OT},rv,by kernel_rfl,args _,i,k2⟩
noncomputable def jA:aa aj:=[97,115,49,45,95,61,233,223,173,9332,8800,8814,8232,9424,19968,65]
def sR:PV:=.aW [S "stays",S "goes",S "turns",S "both",S "bad"] [.str (S "valid"),.str (S "ignored"),.str (S "mapped"),.str (S "deviation"),.str (S "disallowed")]
noncomputable def fS(k:PV)(z:LZ)(t l:au)(F B q:Slot)(r:aa Slot):aa Slot:=z.s0::.J k::z.s2::z.s3::z.s4::B::.J (.bool t)::.J (.bool l)::F::q::r
def lM:CB:=bE (az kl 2)
theorem aan(l:au):∀n,n < 7->g7 sR (.str (sw l n))=U (.str (kS l n))
 |0,_=> by kernel_rfl
 |1,_=> by kernel_rfl
 |2,_=> by cases l <;> kernel_rfl
 |3,_=> by cases l <;> kernel_rfl
 |4,_=> by kernel_rfl
 |5,_=> by kernel_rfl
 |6,_=> by kernel_rfl
 |n+7,h=> bf h (by lia)
theorem T9(l:au):∀n,n < 7->x4 (kS l n)=ag
 |0,_=> by kernel_rfl
 |1,_=> by kernel_rfl
 |2,_=> by cases l <;> kernel_rfl
 |3,_=> by cases l <;> kernel_rfl
 |4,_=> by kernel_rfl
 |5,_=> by kernel_rfl
 |6,_=> by kernel_rfl
 |n+7,h=> bf h (by lia)
theorem UD(z:LZ)(t l:au)(F:Slot)(r:aa Slot):∃B,aI 1000 (aA m pA wA (k+5)) c' kl (fS (dP m pA wA) z t l F z.s5 z.s9 r)=U (.nxt (fS (dP m pA wA) z t l (.J (bY t l)) B (.own sR) r)):=by
 let O:=aA m pA wA (k+5)
 let s:Slot->aa Slot:=λB=> fS (dP m pA wA) z t l (.J (bY t l)) B (.own sR) r
 have G:aJ 1000 O c' (az kl 0) (fS (dP m pA wA) z t l F z.s5 z.s9 r)=U (.nxt (fS (dP m pA wA) z t l (.J (bY t l)) z.s5 z.s9 r)):=bD (RT t l) (by kernel_rfl) (by kernel_rfl);have a:aJ 1000 O c' (az kl 1) (fS (dP m pA wA) z t l (.J (bY t l)) z.s5 z.s9 r)=U (.nxt (s z.s5)):=by kernel_rfl
 obtain⟨B,h⟩:=mX (f:=λp V=> aI 1000 O c' lM (V.set 5 (.J p))) PV.int (λ_ (q:Slot)=> s q) jA (λK c Q q T=> by
  have w:c∈sig:=by
   have:c∈jA:=by rw[T];simp
   exact(by decide:∀c∈jA,c∈sig) c this
  have b:=m2 c w;refine⟨.J (.int c),?_⟩
  let V:=s (.J (.int c))
  have n:=ek (c':=c') (V:=V) (g:=S "idna_status") (eJ (a:=.var 5) (p:=.J (.int c)) (by kernel_rfl) (dT (a:=.var 1) (b:=.var 7) (p:=.J (dP m pA wA)) (q:=.J (.bool l)) (by kernel_rfl) (by kernel_rfl))) rfl (uR (m:=m) (pA:=pA) (wA:=wA) (k:=k+1) c w l);have j:=jt (O:=O) (f:="tuple") (g:=S "tuple") (c6 n) (r:=.J (.tup [.str (kS l (kd c)),TI (kT c)])) (by kernel_rfl);have y:=hy j (b:=.lit (.int 0)) (q:=.J (.int 0)) (by kernel_rfl) (v:=.str (kS l (kd c))) (by kernel_rfl);have H:=ek (O:=O) (c':=c') (V:=V) (g:=S "_law_sort") (dT (a:=.var 5) (b:=.var 7) (p:=.J (.int c)) (q:=.J (.bool l)) (by kernel_rfl) (by kernel_rfl)) rfl (uQ (m:=m) (pA:=pA) (wA:=wA) (k:=k+3) l c w);have x:=hy (a:=.var 9) (p:=.bor sR) (by kernel_rfl) H (aan l (kd c) b);exact st (c:=lM) (τ:=V) 0 (cN (x:=ak) (e':=V) (A:=dH (az lM 0)) (B:=.nil) (by kernel_rfl) (o6 y x rfl rfl (qa 64 _ (T9 l (kd c) b))) rfl) rfl) z.s5
 exact⟨B,st (c:=kl) 0 G (st (c:=kl) 1 a (st (c:=kl) 2 (dt (by kernel_rfl) h) rfl))⟩
theorem uV(P:aT):ka P 738 hN (fdOf hN) (cw hN) 737 Ju [S "deck"] [] [0] [S "is_encoded"] GS:=by
 obtain⟨r,m,n,d,s,t,p,k,u,v,w,z,C⟩:=y0 (by kernel_rfl) (by kernel_rfl) (by kernel_rfl);exact⟨r,m,n,d,s,t,p,k,b1 λK=> (by kernel_rfl),rfl,gL.mpr ⟨.inr ⟨by kernel_rfl,λL=> by kernel_rfl⟩,(λx T=> nm T)⟩,b1 λK=> (show jq (λx=> (fdOf hN).scope.names.lookup x) [(S "deck",K)] (λy=> ah)=lk []from by kernel_rfl).trans (m4 _ _).symm,b1 λK=> (by kernel_rfl),λL=> by kernel_rfl,λH h=> (match H,h with |[K],_=> rfl),by decide+kernel,by decide+kernel,by decide+kernel,by decide+kernel,iy P,u,v,w,z,C⟩
def pK(n:aj)(l c a Q X c4 B:ae):aw:=.Call (.Name (S "_law_draw") ⟨l,c,l,a⟩) [.Name (S "deck") ⟨l,Q,l,X⟩,.Constant (.int n) 0 ⟨l,c4,l,B⟩] [] ⟨l,c,l,B+1⟩
def P9:aw:=.Compare (pK 2 685 17 26 27 31 33 34) [.Eq] [.Constant (.int 1) 0 ⟨685,39,685,40⟩] ⟨685,17,685,40⟩
def Fq:aw:=.IfExp (.Name (S "is_encoded") ⟨686,29,686,39⟩) (.Subscript (.Name (S "_law_menu") ⟨686,11,686,20⟩) (.Slice ah (U (.Constant (.int 15) 0 ⟨686,22,686,24⟩)) ah ⟨686,21,686,24⟩) ⟨686,11,686,25⟩) (.Name (S "_law_menu") ⟨686,45,686,54⟩) ⟨686,11,686,54⟩
def uK:dZ:=(((((cw hN)[2]?.bind BE).bind sP).bind λq=> q.1[0]?).bind λe=> (Ou e).bind uD).elim (fdOf hN).scope (·.2)
def Fp:aw:=.Subscript (.Name (S "menu") ⟨687,20,687,24⟩) (.Call (.Name (S "_law_draw") ⟨687,25,687,34⟩) [.Name (S "deck") ⟨687,35,687,39⟩,.Call (.Name (S "len") ⟨687,41,687,44⟩) [.Name (S "menu") ⟨687,45,687,49⟩] [] ⟨687,41,687,50⟩] [] ⟨687,25,687,51⟩) ⟨687,20,687,52⟩
def Qb:aw:=.Call (.Name (S "range") ⟨687,62,687,67⟩) [pK 4 687 68 77 78 82 84 85] [] ⟨687,62,687,87⟩
def Qa:aw:=.ListComp Fp [⟨.Name (S "k") ⟨687,57,687,58⟩,Qb,[],0⟩] uK ⟨687,19,687,88⟩
def Qc:a9:=.Return (U (.Tuple [.BinOp (.List [(.Constant (.int 97) 0 ⟨687,13,687,15⟩)] ⟨687,12,687,16⟩) .Add Qa ⟨687,12,687,88⟩,.Name (S "is_encoded") ⟨687,90,687,100⟩] 0 ⟨687,11,687,101⟩)) ⟨687,4,687,101⟩
theorem P2:cw hN=[.Assign [.Name (S "is_encoded") ⟨685,4,685,14⟩] P9 ⟨685,4,685,40⟩,.Assign [.Name (S "menu") ⟨686,4,686,8⟩] Fq ⟨686,4,686,54⟩,Qc]:=by kernel_rfl
def ky(e:au):PV:=.tup ((bif e then jA.take 15 else jA).map .int)
def Fl:TG:=⟨(fdOf hN).scope.names,[S "is_encoded"],[],GS,[]⟩
def zg:TG:={Fl with cs:=[S "deck"]}
def P4:TG:={Fl with cs:=[S "deck",S "menu"]}
theorem P5(L:av):([S "deck",S "menu"]:aa ao).map (λx=> (ia (L+1) (fdOf hN).scope.names []).lookup x)=(dO 2).map λi=> U (L+1+i):=by kernel_rfl
section
variable {prog:mf}
theorem NN(b n:ae)(hb:b≤n):CI ah (U (b:aj)) 1 (n:aj)=(0,(b:aj)):=by
 unfold CI;have M:¬((1:aj) < 0):=by decide
 have G:=kJ.mpr (hp b);simp only[M,G,o3]
 congr 1
 exact sX (f3.mpr hb)
theorem XN(b:ae):xR 0 (b:aj) 1=b:=by
 unfold xR;have M:(1:aj) > 0:=by decide
 simp only[M,o4,Int.ediv_one]
 split <;> lia
theorem NU{sl:av}{b:ae}{u:fM}{Q:aj×aj×ae->aD->Prop}(g:s.heap.IsSliceOf sl .none (.int b u) .none)(hb:b≤n)(h:Q (0,1,b) s):aB (ay prog w) A (Mb (.ref sl) (pure (n:aj))) Q E s:=by
 obtain⟨os,a,f,c⟩:=id g;unfold Mb aaR;refine aM (aM (mv a c rfl (aM (mv a c rfl (aM (mv a c rfl (bA ?_)))))));refine aM (L8 ?_);show aB _ _ (if((1:aj)==0)=ag then _ else _) _ _ s;rw[bW (by decide)];refine aM (L8 (aM (slicePart_int (aM (bA ?_)))));show aB _ _ (match CI ah (U (b:aj)) 1 (n:aj)with |(lo,hi)=> pure (lo,(1:aj),xR lo hi 1)) _ _ s;rw[NN b n hb];show aB _ _ (pure ((0:aj),(1:aj),xR 0 (b:aj) 1)) _ _ s;rw[XN b];exact bA h
theorem XJ(H:c8 ai)(b:ae):((dO b).filterMap λ(k:ae)=> H[((0:aj)+(k:aj) * 1).toNat]?).toArray=(H.toList.take b).toArray:=by
 have e:(λ(k:ae)=> H[((0:aj)+(k:aj) * 1).toNat]?)=λk=> H[0+k]?:=by
  funext k
  have:((0:aj)+(k:aj) * 1).toNat=0+k:=by rw[K5,K9,LY];exact Ce k
  rw[this]
 rw[e];have:=pick_run H 0 b;rw[List.filterMap_map]at this;have j:((λx=> H[x]?) ∘ λx=> 0+x)=λk=> H[0+k]?:=rfl
 rw[j]at this;rw[this];rfl
theorem ZX{t sl:av}{items:c8 ai}{b:ae}{u:fM}(l:IsTup s.heap t items)(g:s.heap.IsSliceOf sl .none (.int b u) .none)(hb:b < items.size)
  (h:Q (.ref s.heap.objs.size) {s with heap:=s.heap.push {cls:=.type "tuple",data:=.seq (items.toList.take b).toArray}})
  (d:items.size≤ej):aB (ay prog w) A (oV (.ref t) (.ref sl)) Q E s:=by
 have e:sizeOk (.seq (items.toList.take b).toArray):=by
  show(items.toList.take b).toArray.size≤ej;rw[hW,jh,oo];exact bK (Cv _ _) d
 obtain⟨os,a,f,c⟩:=id g;have i:s.TypeIs (.ref sl) "slice":=⟨os,a,f⟩;unfold oV
 try with_reducible refine mw ?_
 first |refine aM (bA ?_) |skip
 refine aM (Nh l.typeIs (by decide) ?_);refine aM (M9 l.typeIs CD
  (Ds CD l.typeIs entry_tuple_getitem ?_ (args_tuple_getitem _ _)))
 show aB _ _ (aaS (.ref t) >>=_) _ _ s;refine aM (tupleItemsOf_ l ?_);refine aM (yw i ?_);rw[bZ (by decide)];refine aM (NU g (d6 hb) ?_);have j:¬(((0:aj)==0 && (1:aj)==1 && b==items.size)=ag):=by
  have:(b==items.size)=ak:=by rw[kY];exact e3 hb
  rw[this];simp
 show aB _ _ (if((0:aj)==0 && (1:aj)==1 && b==items.size)=ag then _ else _) _ _ s;rw[bW j,XJ items b]
 first
  |exact aM (o2 (bA ⟨_,rfl,bA h⟩) e)
  |exact aM (o2 (aM (bA (bA ⟨_,rfl,bA h⟩))) e)
  |exact aM (aM (o2 (bA (bA ⟨_,rfl,bA h⟩)) e))
  |exact aM (aM (o2 (bA ⟨_,rfl,bA h⟩) e))
end
section
variable {k':ae}
theorem Vr(C:aG X)(P:Pack X k O₀ 6)(O:X.G=zg)(e:au)(R:aX k A)(n:St X F Y ls (b'++a') s)(y:aR X.w F [.J (.bool e)] (ls.map (·.2)) a')
  (K:∀v h W N,St X W N ls (b'++a') h->Sub F W->Den X.w W (ky e) v->Q v h):aB (ay pw X.w) A (bt Fq X.env) Q E s:=by
 refine IfExp_ (P.t (.Name (S "is_encoded") ⟨686,29,686,39⟩) [.J (.bool e)] (.J (.bool e)) e A F Y ls b' a' s _ E (by rw[O];kernel_rfl) (by cases e <;> rfl) R n y λr F1 H S1 B=> ?_);have o:ev O₀ X.cps [.J (.bool e)] (aE 6 X.G (.Name (S "_law_menu") ⟨686,45,686,54⟩))=U (.J (ky ak)):=by rw[O];kernel_rfl
 cases e
 ·refine(P.e _).bR C o rfl R S1 (y.mono B) λv i p G S2 w d=> K v i p G S2 (B.trans w) d
 ·refine oz ((P.e (.Name (S "_law_menu") ⟨686,11,686,20⟩)).read C (rv:=.J (ky ak)) (by rw[O];kernel_rfl) R S1 (y.mono B) λv i p G S2 w c=> ?_)
  refine wpAny_Slice (ys (Na ((P.e _).read C (rv:=.J (.int 15)) (by rw[O];kernel_rfl) R S2 (y.mono (B.trans w)) λu j T L S3 x f=> ys ?_)));obtain⟨t,rfl⟩:=f.int;have S4:=S3.push (o:={cls:=.type "slice",data:=.fields #[.none,.int 15 t,.none]}) rfl;obtain⟨a,Z,m,rfl,D,l⟩:=aP.tup (b':=(j.heap.objs.size,{cls:=.type "slice",data:=.fields #[.none,.int 15 t,.none]})::b') S4 (c.mono x);have g:=(S4.al _ (bp _ (.head _))).1;have I:Z.length=16:=by rw[← l.length];rfl
  refine jY ⟨_,D,rfl⟩ CD.lookup (ZX ⟨_,D,rfl,m,rfl⟩ ⟨_,g,rfl,rfl⟩ (by rw[hW,I];decide) ?_ (by rw[hW,I];decide)) (BV _ _);have M:=(S4.drop (t:=[_])).push (o:=eB (Z.take 15).toArray 0) rfl;obtain⟨V,b,q⟩:=M.freeze C.inv;exact K _ _ _ L V (((B.trans w).trans x).trans b) (.tup q ⟨0,rfl⟩ ((l.take 15).mono b))
theorem EO{l:Fz->MT->Prop}{g:Fz->MT->Prop}{j:Fz->MT->ai->MT->Prop}{M:aa av}(h:∀F Y,l F Y↔I F Y∧Y.map (·.1)=M)(c:c0 w I k f args g j):c0 w l k f args g j:=
 λF Y Z A s Q E R T b m DD B i V KK=> c F Y Z A s Q E R T ((h F Y).mp b).1 m DD B i V λv P W N t n d y H x q a u o O=> KK v P W N t n d ((h W N).mpr ⟨y,q.trans ((h F Y).mp b).2⟩) H x q a u o O
theorem pJ{D:Dt}{g:av}{L:aa aj}{b:ae}{M:aa av}(C:aG X)(p:∀F Y,X.I F Y↔IA X.w D g F Y∧Y.map (·.1)=M){f:aw}{as:aa aw}{a:aj}(o:notAttr f=ag)
  (S:ev O₀ X.cps V (aE 6 X.G f)=U (.J (.fn (.ref 698)))) (O:bO O₀ X.cps V (br 6 X.G as)=U [.J (.fn (.ref g)),.J (.int a)]) (hb:b < 900) (I:L.length < 100) (x:0 < a) (R:aX (k+1) A) (Z:St X F Y ls (b'++a') s) (l:bN X.w g L b F Y)
  (y:aR X.w F V (ls.map (·.2)) a') (K:∀v P W N i,St X W N ls (b'++a') P->Sub F W->bN X.w g L (b+1) W N->0≤i->i < a->Den X.w W (.int i) v->Q v P):aB (ay pw X.w) A (bt (.Call f as [] d') X.env) Q E s:=by
 let z:Fz->MT->Prop:=λF Y=> X.I F Y∧bN X.w g L b F Y
 have G:bq z:=λF W Y h H n=> ⟨C.inv F W Y h.1 H n,bN.ok F W Y h.2 H n⟩
 refine EM G (λw w h=> h.1) C (dU 6 z eN (X.sw z) (C.sw G) rfl rfl) o S O rfl (Uc _) (EO p (PZ hb I x)) R R (Z.sw ⟨Z.inv,l⟩) y (λw w h=> h.2) λv P W N t m u H T=> ?_
 obtain⟨rfl,j,i,e,G,d⟩:=T;exact K v P W N i (u.drop (t:=m)) H j e G d
end
theorem Qd:∃z,je 6 zg [.Eq] [.Constant (.int 1) 0 ⟨685,39,685,40⟩]=U z∧∀c' V i,kp O₀ c' V (.int i) z=U (i==1):=⟨.one .Eq (.lit (.int 1)),by kernel_rfl,λc' V i=> by kernel_rfl⟩
theorem ZZ{j:Type}:∀{l:aa j},l.length=2->bH λp q=> l=[p,q]
 |[p,q],_=> ⟨p,q,rfl⟩
theorem P7(L:av):(ia (L+1) (fdOf hN).scope.names []).lookup (S "deck")=U (L+1+0)∧(ia (L+1) (fdOf hN).scope.names []).lookup (S "menu")=U (L+1+1):=⟨by kernel_rfl,by kernel_rfl⟩
section
variable {k':ae}
theorem Kv{z:Fz->MT->Prop}(G:bq z)(C:aG X)(P:Pack (X.sw z) k O n){f:aw}{T:bL}(t:notAttr f=ag)(S:ev O X.cps V (aE n X.G f)=U (.J (.fn (.type T))))(x:du [e] X.env=[(ak,bt e X.env)])
  (R:aX k A) (d:St (X.sw z) F Y ls (b'++a') s) (y:aR X.w F V (ls.map (·.2)) a')
  (c:∀g W N,St (X.sw z) W N ls (b'++a') g->Sub F W->aB (ay pw X.w) A (bt e X.env) (λv i=> aB (ay pw X.w) A (bQ (.type T) [v]) Q E i) E g):aB (ay pw X.w) A (bt (.Call f [e] [] d') X.env) Q E s:=by
 have r:=C.sw G;have I:((d9 d' (du [e] X.env)).any (·.1) ||([]:aa (aq ao×d8 ai)).any (·.1.isNone))=ak:=by rw[x];rfl
 refine tr ((P.e f).read r S R d y λD g W N u H p=> ?_) (pC t);obtain rfl:=p.lh;refine f9 (P:=λL=> eR) I (λh L=> ⟨_,.inr (.inl rfl),lu (λL e=> by cases e)⟩) ?_;have q:aB (ay pw X.w) A (spliced (d9 d' (du [e] X.env))) (λZ g=> eR∧aB (ay pw X.w) A (bQ (.type T) ([]++(⟨Z,[]⟩:Args).pos) (⟨Z,[]⟩:Args).kw) Q E g) E g:=
  xN (fN (c g W N u H) (λv i h=> oB ⟨trivial,h⟩) λL L h=> h) x
 rw[x]at q⊢;exact Mc q
end
def qm(e:au):aa aj:=bif e then jA.take 15 else jA
noncomputable def vt(e:au):aj:=bif e then 15 else 16
set_option tactic.hygienic true in
theorem Vq(e:au)(i:aj)(x:0≤i)(M:i < vt e):∃c∈qm e,g7 (ky e) (.int i)=U (.int c):=by
 have g:∀n:Fin 16,(n.val:aj) < vt e->(match g7 (ky e) (.int (n.val:aj))with |U (.int c)=> (qm e).contains c |_=> ak)=ag:=by cases e <;> decide+kernel
 obtain⟨n,rfl⟩:=xt x;have Z:n < 16:=by cases e <;> simp only[vt,hx,fP]at M <;> lia
 have:=g ⟨n,Z⟩ M
 split at this
 ·rename_i c q
  exact⟨c,by simpa using this,q⟩
 ·cases this
theorem P6{D:Dt}{g:av}{L:aa aj}{b:ae}{M:aa av}{e:au}(C:aG X)(hw:X.w=w)(V:∀F Y,X.I F Y↔IA w D g F Y∧Y.map (·.1)=M)(O:X.G=⟨jy uK.names,[S "k"],eD uK,GS,[]⟩)
  (m:X.cps=[.fn (.ref g),ky e]) (hb:b < 900) (I:L.length < 100) (R:aX (k+1) A) {x:PV}:o7 X A (bN w g L b) (bN w g L (b+1)) Fp x (λq=> ∃c∈qm e,q=.int c):=by
 subst hw;intro F Y ls b' a' s Q E Z y hj K
 let l:Fz->MT->Prop:=λF Y=> X.I F Y∧bN X.w g L b F Y
 have j:bq l:=λF W Y h t n=> ⟨C.inv F W Y h.1 t n,bN.ok F W Y h.2 t n⟩
 have a:=C.sw j;have P3:Pack (X.sw l) k O₀ 6:=dU 6 l eN (X.sw l) a rfl rfl;refine oz ((P3.e (.Name (S "menu") ⟨687,20,687,24⟩)).read a (rv:=.J (ky e)) (by show ev O₀ X.cps _ (aE 6 X.G _)=_;rw[O,m];kernel_rfl) (R.mono (hX _)) (Z.sw ⟨Z.inv,hj⟩) y λv r F1 H S1 B ra=> ?_);have o:=S1.inv;refine pJ (b:=b) (a:=vt e) C V rfl (by rw[O,m];kernel_rfl) (by rw[O,m];cases e <;> kernel_rfl) hb I (by cases e <;> decide) R (S1.ho o.1) o.2 (y.mono B) λu s2 p G i S2 N z T i2 P=> ?_
 obtain⟨c,m,f⟩:=Vq e i T i2;exact GL rfl S2 (ra.mono N) (.J P) f λv' s3 S3 d=> K v' s3 p G _ S3 (B.trans N) d ⟨c,m,rfl⟩ z
theorem Tu{e:au}{n:aa PV}(h:gW (λL q=> ∃c∈qm e,q=.int c) (λL=> ag) ps n):∃s:aa ae,bG (n=(up s).map .int) (s.length=ps.length) (∀c∈s,c∈(bif e then bV else 65::bV)):=by
 induction h with
 |nil=> exact⟨[],rfl,rfl,λL h=> nm h⟩
 |skip _ h=> cases h
 |keep _ _ r D=>
  obtain⟨s,rfl,I,g⟩:=D;obtain⟨c,w,rfl⟩:=r;have E:∀c∈qm e,((c.toNat:ae):aj)=c∧c.toNat∈(bif e then bV else 65::bV):=by cases e <;> decide+kernel
  obtain⟨i,Y⟩:=E c w;refine⟨s++[c.toNat],by simp[up,i],by simp[I],λx T=> ?_⟩;rcases dc.mp T with T |T
  ·exact g x T
  ·rw[d5.mp T];exact Y
theorem Yc{n j:aw}{p1 p2:aQ}{Q:dD->aD->Prop}(h:du [n,j] D=[(ak,bt n D),(ak,bt j D)])
  (c:aB (ay pw w) A (bt n D) (λv r=> aB (ay pw w) A (bt j D) (λu i=> Q (.ret (.ref i.heap.objs.size)) {i with heap:=i.heap.push (eB #[v,u] 0)}) E r) E s):
  wpAny (ay pw w) A (ei [.Return (U (.Tuple [n,j] 0 p1)) p2] D) Q E s:=by
 refine cK (iP (yq ?_));rw[h];exact xS (fN c (λv r M=> xS (fN M (λu i G=> oB ⟨by show 2≤ej;decide,G⟩) λL L h=> h)) λL L h=> h)
theorem UQ{j:Fz->MT->ai->MT->Prop}(n:∀F N,X.I F N->I F N∧N.map (·.1)=Y.map (·.1))(x:X.s₀=s)(f:X.F₀=F)(h:X.ex=Y.map (·.1))
  (KK:∀v P W N t,Ext (Y.map (·.1)) s P->Sub F W->I W N->(∀a o,W a=U o->P.heap.get? a=U o)->(∀a o,W a=U o->F a=U o∨s.heap.get? a=ah)->
   N.map (·.1)=Y.map (·.1)->(∀p∈N,P.heap.get? p.1=U p.2∧W p.1=ah)->j W N v t->(∀p∈t,P.heap.get? p.1=U p.2∧W p.1=ah∧s.heap.get? p.1=ah)->(t.map (·.1)).Nodup->Q v P)
  {v:ai} {P:aD} {W:Fz} {N t a':MT} {ls:aa (ao×aq ai)} (S:St X W N ls (t++a') P) (d:j W N v t):Q v P:=
 KK v P W N t (by rw[← h,← x];exact S.ext) (by rw[← f];exact S.sub) (n _ _ S.inv).1 S.J (by rw[← f,← x];exact S.fr) (n _ _ S.inv).2 (λp z=> ⟨(S.al p (bk _ z)).1,(S.al p (bk _ z)).2.1⟩) d
  (λp z=> have B:=S.al p (bp _ (bk _ z));⟨B.1,B.2.1,by rw[← x];exact S.nw p (bk _ z)⟩)
  (by have b:=S.nd;rw[bj,bj]at b;exact(c2.mp (c2.mp b).2.1).1)
theorem OG{D:Dt}{g:av}{L:aa aj}{b:ae}(hb:b < 800)(I:L.length < 100):c0 w (IA w D g) (k+2) (.ref 738) [.fn (.ref g)] (bN w g L b)
  (λW N v t=> t=[]∧bN w g L (b+5) W N∧∃r:Row,r.ok∧Den w W (gG r) v):=by
 intro F Y Z A s Q E R T Im Pr DD hz aa' nd KK;refine iQ (OH (uV w.params) IA.ok rfl (λL=> P5 L) R T Im DD hz aa' nd λX s1 θ ls C hw σ O au' V ae' ο Ψ V' y S0 D' p'=> ?_);subst hw;obtain⟨K,rfl,d0⟩:=DD.n4;obtain rfl:K=.ref g:=d0.inv;have h':∀F N,X.I F N↔IA X.w D g F N∧N.map (·.1)=Y.map (·.1):=λF N=> by rw[σ]
 obtain⟨f,e0,k'⟩:=p' 0 _ rfl;obtain⟨o1,e1,q'⟩:=p' 1 _ rfl;replace k':f.data=.cell (U (.ref g)):=k'.trans (by kernel_rfl);replace q':o1.data=.cell ah:=q'.trans (by kernel_rfl);have Ω:θ.length=2:=by have:=aZ te D';simpa using this
 obtain⟨p,q,rfl⟩:=ZZ Ω;have g0:=bo e0;have g1:=bo e1;clear e0 e1 p' D';have G':=P7 s.heap.objs.size;have l0:X.env.cells.lookup (S "deck")=U (s.heap.objs.size+1+0):=by rw[V];exact G'.1
 have l1:X.env.cells.lookup (S "menu")=U (s.heap.objs.size+1+1):=by rw[V];exact G'.2
 generalize s.heap.objs.size+1+0=G at g0 l0;generalize s.heap.objs.size+1+1=c1 at g1 l1;subst g0 g1;have π:=O;replace y:aR X.w F [.un] (ls.map (·.2)) []:=y;obtain⟨S1,B,f1⟩:=St.freeze C.inv S0
 let a:=X.g5 [S "deck"] [G] [.fn (.ref g)]
 have C1:aG a:=C.g5 (λi x h=> by
  cases i with
  |zero=> cases h;exact⟨G,rfl,l0⟩
  |succ i=> simp at h) (by decide+kernel)
 have S2:St a (F.ins G f) Y ls ([(c1,o1)]++[]) s1:=S1.g5 λi c h=> by
  cases i with
  |zero=> cases h;exact⟨_,_,_,f1,k',rfl,.fn _⟩
  |succ i=> simp at h
 have c':a.G=zg:=by show({X.G with cs:=[S "deck"]}:TG)=_;rw[π];rfl
 have hx:a.G.ns[0]?=U (S "is_encoded"):=by rw[c'];rfl
 have ψ:bN X.w g L b (F.ins G f) Y:=λd m=> let⟨p,e,o⟩:=Pr d m;⟨p,e,o.mono B⟩
 have kp:=V';rw[P2];obtain⟨z,υ,Φ⟩:=Qd;refine cK (mr ?_ (fG rfl _ _ _));refine uA rfl ?_;refine pJ (a:=2) (b:=b) C1 h' rfl (by rw[c'];kernel_rfl) (by rw[c'];kernel_rfl) (by lia) I (by decide) kp S2 ψ (y.mono B) λv s3 F3 I' i S3 w' Γ i0 i2 d3=> ?_
 let l:Fz->MT->Prop:=λF Y=> X.I F Y∧bN X.w g L (b+1) F Y
 have h3:bq l:=λF W Y h H n=> ⟨C.inv F W Y h.1 H n,bN.ok F W Y h.2 H n⟩
 have C3:aG (a.sw l):=C1.sw h3;have P3:Pack (a.sw l) k O₀ 6:=dU 6 l eN (a.sw l) C3 rfl rfl;have i':aX k (A.deeper X.env):=kp.mono (hX _);have γ:St (a.sw l) F3 I' ls ([(c1,o1)]++[]) s3:=S3.sw ⟨S3.inv,Γ⟩;refine((P3.r [.Eq] [.Constant (.int 1) 0 ⟨685,39,685,40⟩] z (by show je 6 a.G _ _=_;rw[c'];exact υ)).2 [.un] (.int i) v (i==1) _ F3 I' ls [(c1,o1)] [] s3 ⟨685,17,685,40⟩ _ (Φ _ _ _) i' γ ((y.mono B).mono w') (.J d3)).1 _ λs4 F4 n' S4 M'=> ?_
 have i4:l F4 n':=S4.inv;have δ:St a F4 n' ls ([]++([(c1,o1)]++[])) s4:=S4.ho i4.1;have ai':=((y.mono B).mono w').mono M';refine hQ (X:=a) (V:=[.un]) (t:=[]) (sl:=.J (.bool (i==1))) C1 hx (by rw[c'];exact λm=> nm m) (L1) δ ai' ⟨.bool _,rfl⟩ λs5 R5=> ?_
 obtain⟨g',e',l',S5⟩:=R5;replace l':aR X.w F4 [.J (.bool (i==1))] (g'.map (·.2)) e':=l';have Δ:bN X.w g L (b+1) F4 n':=i4.2;have ε:St (a.sw l) F4 n' g' ([(c1,o1)]++e') s5:=S5.sw ⟨S5.inv,Δ⟩;refine cK (mr ?_ (fG rfl _ _ _));refine Vr (X:=a.sw l) C3 P3 c' (i==1) i' ε l' λv2 s6 F6 j' S6 N' dm=> ?_
 have i6:l F6 j':=S6.inv;have ζ:St a F6 j' g' ((c1,o1)::e') s6:=S6.ho i6.1;refine JM (X:=a) C1 (by rw[c'];kernel_rfl) l1 q' ζ λs7 o7 Θ S7=> ?_
 obtain⟨S8,o',f8⟩:=S7.freeze C1.inv
 let X2:=a.g5 [S "deck",S "menu"] [G,c1] [.fn (.ref g),ky (i==1)]
 have C2:aG X2:=C1.g5 (λi x h=> by
  match i,h with
  |0,h=> cases h;exact⟨G,rfl,l0⟩
  |1,h=> cases h;exact⟨c1,rfl,l1⟩
  |i+2,h=> simp at h) (by decide+kernel)
 have S9:St X2 (F6.ins c1 o7) j' g' e' s7:=S8.g5 λi c h=> by
  match i,h with
  |0,h=> cases h;exact⟨_,_,_,o' _ _ (N' _ _ (M' _ _ (w' _ _ f1))),k',rfl,.fn _⟩
  |1,h=> cases h;exact⟨_,_,_,f8,Θ,rfl,dm.mono o'⟩
  |i+2,h=> simp at h
 have d':X2.G=P4:=by show({a.G with cs:=[S "deck",S "menu"]}:TG)=_;rw[c'];rfl
 have Ξ:bN X.w g L (b+1) (F6.ins c1 o7) j':=λd m=> let⟨p,e,o⟩:=i6.2 d m;⟨p,e,o.mono o'⟩
 have m':=(l'.mono N').mono o';have C9:aG (X2.sw l):=C2.sw h3;have P9:Pack (X2.sw l) k O₀ 6:=dU 6 l eN (X2.sw l) C9 rfl rfl;have η:St (X2.sw l) (F6.ins c1 o7) j' g' ([]++e') s7:=S9.sw ⟨S9.inv,Ξ⟩;refine Yc rfl (Dq ?_);refine(P9.e (.List [(.Constant (.int 97) 0 ⟨687,13,687,15⟩)] ⟨687,12,687,16⟩)).read C9 (rv:=.own (.list [.int 97])) (by show ev O₀ _ _ (aE 6 X2.G _)=_;rw[d'];kernel_rfl) i' η m' λva s8 F8 am' x' r' ra=> ?_
 have aw':l F8 am':=x'.inv;refine y5 (X:=X2) (t:=S "k") (ls:=g') (a':=e') C2 (by rw[d'];kernel_rfl) rfl kp.hd ?_;refine Kv (X:=X2) (V:=[.J (.bool (i==1))]) (z:=l) h3 C2 P9 (T:="range") rfl (by rw[d'];kernel_rfl) rfl i' x' (m'.mono r') λs9 F9 an' y' s'=> ?_
 have E':l F9 an':=y'.inv;refine pJ (X:=X2) (V:=[.J (.bool (i==1))]) (D:=D) (k:=k) (b:=b+1) (a:=4) C2 h' rfl (by rw[d'];kernel_rfl) (by rw[d'];kernel_rfl) (by lia) I (by decide) kp (y'.ho E'.1) E'.2 ((m'.mono r').mono s') λvn ax' as' H' n W' J' φ n0 n4 ι=> ?_
 refine BZ C2 kp.hd W' (.cons (.J ι) .nil) (rv:=.J (.rng 0 n)) rfl λvr ay' P' aC' z' t' M=> ?_
 obtain⟨rfl,dr⟩:=M.eY;have hn:cb n=ag:=qp ⟨by lia,by lia⟩;refine⟨P',H',[],.rng 0 n,(dO (n - 0).toNat).map λ(k:ae)=> PV.int (0+(k:aj)),λj=> bN X.w g L (b+2+j),λω q=> ∃c∈(bif i==1 then jA.take 15 else jA),q=.int c,λω=> ag,z',dr,?_,?_,.inr ⟨_,rfl⟩,?_,λj=> bN.ok,λX' O' af' ς ρ τ=> ⟨λj x hx=> ?_,λj x hx ω=> ?_⟩,λv az' at' ak' t qs Y' K' ξ C' rv=> ?_⟩
 ·exact ct (c:=cb 0 && cb n) (by rw[hn];rfl)
 ·rw[bx,tf]
  exact bX (by lia)
 ·intro d m
  obtain⟨p,e,o⟩:=φ d m;exact⟨p,e,o.mono t'⟩
 ·intro F Y ls b' a' s Q E S y hj T'
  exact Dz (T' s F Y S (Sub.refl _) hj)
 ·have av':j < (n - 0).toNat:=by have:=(eO.mp hx).1;simpa using this
  have ag':X'.w=X.w:=af';have e:=P6 (X:=X') (w:=X.w) (D:=D) (g:=g) (L:=L) (b:=b+2+j) (k:=k) (M:=Y.map (·.1)) (e:=i==1) (A:=A.deeper X.env) O' ag' (λW N=> by
   rw[ς];have aj':H'.map (·.1)=Y.map (·.1):=((h' _ _).mp z'.inv).2;show X.I W N∧_↔_;rw[h',aj'];exact⟨λh=> h.1,λh=> ⟨h,h.2⟩⟩) (by rw[ρ,d'];rfl) (by rw[τ];show(gA ((eD uK).map λx=> idxOf x X2.G.cs)).map _=_;rw[d'];rfl) (by lia) I kp (x:=x)
  exact e
 ·obtain⟨P,rfl,ac',ad'⟩:=Tu ξ
  have ab':((dO (n - 0).toNat).map λ(k:ae)=> PV.int (0+(k:aj))).length=(n - 0).toNat:=by rw[bx,tf]
  rw[ab']at ac' C';obtain⟨Q',Z',u',ao'⟩:=Y'.read C2 rv;refine Bu (X:=X2) (f:=.Add) (rv:=.own (.list ([.int 97]++(up P).map .int))) Z' ((((((ra.mono s').mono J').mono t').mono K').mono u'):aP X.w Q' e' (.list [.int 97]) va) ao' ?_ λar' aA' aD' α ap'=> ?_
  ·exact ct (c:=(Operator.Add==.Add) && aY ([PV.int 97].length+((up P).map PV.int).length)) (by rw[cP];exact⟨rfl,bX (by simp[up];lia)⟩)
  obtain⟨R',A',L',κ⟩:=α.bR (p:=.list ([.int 97]++(up P).map .int)) C2 ap' rfl
  let f':Fz->MT->Prop:=λF Y=> X.I F Y∧bN X.w g L (b+5) F Y
  have h4:bq f':=λF W Y h H n=> ⟨C.inv F W Y h.1 H n,bN.ok F W Y h.2 H n⟩
  have C4:aG (X2.sw f'):=C2.sw h4;have U':Pack (X2.sw f') k O₀ 6:=dU 6 f' eN (X2.sw f') C4 rfl rfl;have χ:bN X.w g L (b+5) R' ak':=λd m=> let⟨p,e,o⟩:=C' d m;⟨p,by lia,(o.mono u').mono L'⟩
  have ah':=(((((((m'.mono r').mono s').mono J').mono t').mono K').mono u').mono L');refine(U'.e (.Name (S "is_encoded") ⟨687,90,687,100⟩)).bR C4 (rv:=.J (.bool (i==1))) (p:=.bool (i==1)) (by show ev O₀ _ _ (aE 6 X2.G _)=_;rw[d'];kernel_rfl) rfl i' (A'.sw ⟨A'.inv,χ⟩) ah' λu aB' S' al' B' aq' μ=> ?_
  have F':f' S' al':=B'.inv;obtain⟨β,v',ν⟩:=((B'.ho F'.1).push (o:=eB #[ar',u] 0) rfl).freeze C2.inv;refine UQ (X:=X2) (F:=F) (Y:=Y) (s:=s) (t:=[]) (λF N h=> (h' F N).mp h) ae' ο Ψ KK β ⟨rfl,λd m=> let⟨p,e,o⟩:=F'.2 d m;⟨p,e,o.mono v'⟩,⟨97::P,i==1⟩,⟨P,rfl,by lia,ad'⟩,?_⟩;exact .tup ν ⟨0,rfl⟩ (.cons ((κ.mono aq').mono v') (.cons (μ.mono v') .nil))
theorem c5.up{j:ae}(c:c5 w I j f args r)(h:j≤k):c5 w I k f args r:=
 ⟨c.1,λF Y Z A s Q E R=> c.2 F Y Z A s Q E (R.mono h)⟩
set_option tactic.hygienic true in
theorem Gb{a m:ae}{e:Ent}:∀{l:aa Ent},uT a m l=U e->e∈l∧e.a=a∧e.m=m
 |[],h=> nn h
 |q::r,h=> by
  unfold uT at h
  split at h
  ·rename_i c
   cases h;simp only[cP,eT]at c;exact⟨.head _,c.1,c.2⟩
  ·have:=Gb h
   exact⟨.tail _ this.1,this.2⟩
theorem E1(b:bq I)(z:cp w I k O)(h:pO O a args=U r):c5 w I (k+1) (.ref a) args r:=by
 refine aC h λe f g=> ?_
 obtain⟨m,rfl,_⟩:=Gb f;exact Zv e m b z g
theorem UX{j:Type}{C:av->Prop}{d:aq j}{r:j}{l:aa (av×aq j)}(h:vk a d l=U r)(u:d=U r->C a)(I:∀q∈l,q.2=U r->C q.1):C a:=by
 induction l with
 |nil=> exact u h
 |cons q l D=>
  replace h:(bif a==q.1 then q.2 else vk a d l)=U r:=h;cases e:a==q.1 with
  |true=>
   rw[e]at h;exact eq_of_beq e ▸ I q (.head _) h
  |false=>
   rw[e]at h;exact D h λq m=> I q (.tail _ m)
theorem m1{j:Type}{c:au}{A B:aq j}{r:j}(h:(if c=ag then A else B)=U r):(c=ag∧A=U r)∨(c=ak∧B=U r):=by
 cases c
 ·exact .inr ⟨rfl,h⟩
 ·exact .inl ⟨rfl,h⟩
theorem vd{j:Type}{c:au}{A:aq j}{r:j}(h:(if c=ag then A else ah)=U r):c=ag∧A=U r:=by
 cases c
 ·cases h
 ·exact⟨rfl,h⟩
theorem lH{w:aV}{I:Fz->MT->Prop}(b:bq I):∀k,cp w I k (oP k)
 |0=> λL L L h=> nn h
 |k+1=> λf args r h=> by
  have D:=lH (w:=w) b k;cases f with
  |ref a=>
   cases e:a==587 with
   |true=>
    replace h:(bif a==587 then sL 1000 (oP k) args else pO (oP k) a args)=U r:=h;rw[e]at h;obtain rfl:=eq_of_beq e;exact E3 b D h
   |false=>
    replace h:(bif a==587 then sL 1000 (oP k) args else pO (oP k) a args)=U r:=h;rw[e]at h;exact E1 b D h
  |_=> cases h
theorem T1{q:PV}(h:isNone (.J q)=ag):q=.none:=by
 cases q with
 |none=> rfl
 |_=> exact nf h
theorem mk_eq{q:PV×PV}{i:av×aa ao×aa PV}{c:av}(Z:isNone (.J q.1)=ag)(hi:GP q.2=U i)(w:(i.1==c)=ag):q=(.none,.inst c i.2.1 i.2.2):=by
 obtain⟨A,f⟩:=q;obtain rfl:=T1 Z;cases f with
 |inst=> obtain rfl:=bo hi;obtain rfl:=eq_of_beq w;rfl
 |_=> exact nn hi
theorem y6{e:Ent}{c:av}(L:kc e)(n:(c,e.a)∈hG)(b:bq I)(z:cp w I k O)(h:qq 1000 O e c args=U r):c5 w I (k+2) (.ref c) args r:=by
 refine aC h ?_;clear h;intro q g h;refine cg h ?_;clear h;intro Z h;refine aC h ?_;clear h;intro i hi h;refine cg h ?_;clear h;intro d h;rw[mk_eq Z hi d]at g;exact bo h ▸ Pa n b rfl (L (by rfl) b z g).2
theorem Pp:c5 w eb (k+1) (.ref 148) [.list []] (.own (.list [])):=
 ⟨g8 (uX w.params).top (uX w.params).na (uX w.params).data,OL.c (λL L L=> trivial) λ_ _ _ _ ⟨_,_,M,G,j⟩=> by subst M G;exact .own j⟩
theorem XF{q:PV×ao×aj}(h:JD args=U q):args=[q.1,.str q.2.1,.int q.2.2]:=
 aC h λp z h=> aC h λt l h=> aC h λx T h=> bT h λc w h=> by subst h;rw[uG z,kH l,jd T,eZ w]
theorem XG{q:PV×ao}(h:JF args=U q):args=[q.1,.str q.2]:=
 aC h λt l h=> bT h λx T h=> by subst h;rw[kH l,jd T]
theorem JE(h:BA args=U H):args=[.list H]:=
 aC h λt l h=> by rw[sE l,kv h]
theorem SM{o:aq RV}(h:pX o=U r):o=U r∧r=.J .none:=
 aC h λa f h=> cg h λZ h=> by cases h;exact⟨f,GW Z⟩
theorem S9{c:aj}(h:(if x==S "idna" then(oP 3).call (.ref 608) [jc,.int c]else if x==S "dm" then pX ((oP 3).call (.ref 608) [gj,.int c])else U (.J (zf dK dV x)))=U r):
  bG (x=S "idna"->(oP 3).call (.ref 608) [jc,.int c]=U r) (x=S "dm"->(oP 3).call (.ref 608) [gj,.int c]=U r∧r=.J .none) (x≠S "idna"->r=.J ((c1 dK dV x).getD .none)):=by
 have M:x=S "idna"->(oP 3).call (.ref 608) [jc,.int c]=U r:=λe=> by
  rcases m1 h with ⟨_,h⟩ |⟨q,_⟩
  ·exact h
  ·subst e;exact bf (q) (by decide+kernel)
 have G:x=S "dm"->(oP 3).call (.ref 608) [gj,.int c]=U r∧r=.J .none:=λe=> by
  rcases m1 h with ⟨q,_⟩ |⟨_,h⟩
  ·subst e;exact bf (q) (by decide+kernel)
  ·rcases m1 h with ⟨_,h⟩ |⟨q,_⟩
   ·exact SM h
   ·subst e;exact bf (q) (by decide+kernel)
 have j:x≠S "idna"->r=.J ((c1 dK dV x).getD .none):=λe=> by
  rcases m1 h with ⟨q,_⟩ |⟨_,h⟩
  ·exact bf (eq_of_beq q) e
  ·rcases m1 h with ⟨q,_⟩ |⟨_,h⟩
   ·obtain rfl:=eq_of_beq q
    rw[(G rfl).2];rfl
   ·cases h;rfl
 exact⟨M,G,j⟩
theorem S8{I:av}{d:Fz->MT->Prop}(m:bq d){q:PV×ao×aj}(W:4≤k)(h:(if q.2.1==S "idna" then(oP 3).call (.ref 608) [jc,.int q.2.2]else if q.2.1==S "dm" then pX ((oP 3).call (.ref 608) [gj,.int q.2.2])else U (.J (zf dK dV q.2.1)))=U r):
  c5 w (Sep (IM w (Dd I pA wA)) (Sep d eb)) k (.ref 676) [(Dd I pA wA).pv,.str q.2.1,.int q.2.2] r:=by
 obtain⟨p,x,c⟩:=q;obtain⟨M,G,j⟩:=S9 h;exact((Pq (D:=Dd I pA wA) rfl rfl rfl (lH IM.ok 3) M (λe=> (G e).1) j).left (Sep.ok m eb.ok)).up W
theorem Xy{y:av}{d:Fz->MT->Prop}(m:bq d){j:ae}(D:cp w (Sep (IM w (Dd y pA wA)) (Sep d eb)) j O)(h:JA y pA wA O a args=U r):c5 w (Sep (IM w (Dd y pA wA)) (Sep d eb)) (j+4) (.ref a) args r:=by
 have b:bq (Sep (IM w (Dd y pA wA)) (Sep d eb)):=Sep.ok IM.ok (Sep.ok m eb.ok);have b1:j+1≤j+4:=fg (by decide) j;have b2:j+2≤j+4:=fg (by decide) j;have b4:=tj 4 j;have b0:1≤j+4:=bK (by decide) b4;refine UX (C:=λa=> c5 w (Sep (IM w (Dd y pA wA)) (Sep d eb)) (j+4) (.ref a) args r) h (λh=> (E1 b D h).up b1)
  (fc (λh=> aC h λq I h=> ?_) <|fc (λh=> aC h λq I h=> ?_) <|fc (λh=> aC h λH I h=> ?_) <|fc (λh=> aC h λH I h=> ?_) <|
  fc (λh=> (y6 @Qh (by simp[hG]) b D h).up b2) <|fc (λh=> (y6 @Qm (by simp[hG]) b D h).up b2) <|fc (λh=> (y6 @Qk (by simp[hG]) b D h).up b2) <|
  fc (λh=> (Px b D h).up b1) <|fc (λh=> (E3 b D h).up b1) <|fc (λh=> (Pn b D h).up b1) <|fc (λh=> (Pt b D h).up b1) <|λ_ h=> nm h)
 ·obtain⟨z,h⟩:=vd h
  rw[XF I,@gx _ (jP _) z];exact S8 m b4 h
 ·obtain⟨T,h⟩:=vd h
  obtain⟨z,h⟩:=vd h;rw[XG I,@gx _ (jP _) z,eq_of_beq T,← bo h];exact((Pu (k:=0) rfl (by kernel_rfl) rfl).left (Sep.ok m eb.ok)).up (bK (by decide) b4)
 ·obtain⟨T,h⟩:=vd h
  rw[JE I,hr.mp T,← bo h];exact((Pp (k:=0)).right m |>.right IM.ok).up b0
 ·rcases m1 h with ⟨_,h⟩ |⟨T,h⟩
  ·exact nn h
  rw[sW,Bool.not_eq_false']at T;rw[JE I,← bo h];exact(Pr (k:=0) b (by simpa using T.1) (dg T.2)).up b0
theorem Bv{w:aV}{I pA wA:av}{d:Fz->MT->Prop}(m:bq d):∀k,cp w (Sep (IM w (Dd I pA wA)) (Sep d eb)) (4 * k) (aA I pA wA k)
 |0=> λL L L h=> nn h
 |k+1=> λf args r h=> by
  cases f with
  |ref a=> exact Xy m (Bv m k) h
  |_=> cases h
section
variable {k':ae}
theorem JQ{Q:dD->aD->Prop}(C:aG X)(hx:X.G.ns[1]?=U (S "data")){D:Dt}(M:V[1]?=U (.J D.pv)){as:aa aw}{a b:aj}(f':bO O₀ X.cps V (br 12 X.G as)=U B)
  (e':b6 B=U [.str (S "idna"),.int a,.int b,p]) (hn:bb as.length 30=ag) {ps:MT} {l:Fz->MT->Prop} {g:Fz->MT->Prop} {j:Fz->MT->ai->MT->Prop} (hp:∀W,Sub F W->(∀q∈ps,W q.1=ah)->l W ps∧g W ps)
  (c:c0 X.w l k (.ref 669) [D.pv,.str (S "idna"),.int a,.int b,p] g j) (R:aX k A) (Rr:Rl X F Y V (ps++b') s)
  (d':∀v s' W N G t,Rl X W N V (t++(G++b')) s'->Sub F W->l W G->j W G v t->Q .next s') {p1 p2 p3 p4:aQ} (I:(p2.endLine==p3.line)=ag):
  wpAny (ay pw X.w) A (iO (.Expr (.Call (.Attribute (.Name (S "data") p1) (S "put") p2) as [] p3) p4) X.env) Q E s:=by
 obtain⟨ls,a',y,Sx⟩:=Rr;obtain⟨K,f,r0⟩:=y.get M rfl;have T:=r0.eY.2;have P:∀z,bq z->∀es,fo (X.sw z) k O₀ es (br 12 X.G es):=λz h=> (dU 12 z eN (X.sw z) (C.sw h) rfl rfl).s
 refine j2 ?_ (jD C) (fG rfl _ _ _);refine qn P rfl I hn f' (by kernel_rfl:jB 686 (S "put")=U 669) (g8 (pP X.w.params).top (pP X.w.params).na (pP X.w.params).data) R y ?_;refine fV C hx Sx f ?_;obtain⟨x,Dd,dd,rfl,n,d⟩:=zO Sx T (by kernel_rfl);refine⟨X.I,F,Y,ps++b',x,Dd,dd,C.inv,Sx,Sub.refl _,rfl,n,d,λZ i F2 g' ts S2 w rr=> ?_⟩;obtain⟨F3,S3,c',dl⟩:=St.b6 C S2 rr e';rw[bU]at S3;obtain⟨i3,p3⟩:=hp F3 (w.trans c') λq hq=> (S3.al q (bp _ (bk _ hq))).2.1
 refine KJ C c R S3 i3 p3 (.cons (T.mono (w.trans c')) dl) λv m o u e S4 r h4 L O=> ?_
 have H:=(w.trans c').trans r;refine d' v m o g' u e ⟨ls,a',y.mono H,?_⟩ H h4 O;rw[bU,bU];exact S4
end
def lx:aa a9:=(fa 130).2.1
def m6:dZ:=(fa 130).2.2
def qj:aa ao:=[S "script",S "data",S "first",S "last",S "table",S "code",S "is_transitional",S "only_letters",S "flags",S "sorts",S "rows",S "domain",S "label",S "is_encoded",S "found",S "is_bad",S "told",S "one",S "flag",S "due",S "signs",S "seen",S "labels",S "codes"]
def kb:aa (ao×PV):=GS++[(S "_law_joined",.fn (.ref 750)),(S "idna_written",.fn (.ref 561)),(S "idna_length_words",.fn (.ref 568))]
theorem zK(P:aT):∀q∈kb,hz P q:=
 List.forall_mem_append.mpr ⟨iy P,gL.mpr ⟨u6 (by decide+kernel) (.inl (by kernel_rfl)),gL.mpr ⟨u6 (by decide+kernel) (.inl (by kernel_rfl)),gL.mpr ⟨u6 (by decide+kernel) (.inl (by kernel_rfl)),λL h=> nm h⟩⟩⟩⟩
def iC:TG:=⟨m6.names,qj,[],kb,[]⟩
def kx:TG:={iC with cs:=[S "deck"]}
theorem So(P:aT)(e i b:ai):DR P (docDef (S "law") (fa 130).1 lx m6 e i b) lx [S "script"] [0] (qj.drop 1) kb:=
 ⟨rfl,b1 λK=> (by kernel_rfl),rfl,gL.mpr ⟨.inl (by kernel_rfl),λx T=> nm T⟩,b1 λK=> (show jq (λx=> m6.names.lookup x) [(S "script",K)] (λL=> ah)=lk [(S "script",U K)]from by funext x;kernel_rfl).trans (m4 _ _).symm,λH h=> (match H,h with |[_],_=> rfl),(by decide+kernel:∀x∈qj,m6.names.lookup x=U .local),(by decide+kernel:qj.Nodup),(by decide+kernel:∀x∈qj,(x==("__debug__":ao))=ak),zK P,rfl,rfl,by kernel_rfl,by kernel_rfl,by kernel_rfl⟩
def qi:aw:=.List [.Call (.Name (S "list") ⟨713,19,713,23⟩) [.Subscript (.Name (S "script") ⟨713,24,713,30⟩) (.Slice ah (U (.Constant (.int 40) 0 ⟨713,32,713,34⟩)) ah ⟨713,31,713,34⟩) ⟨713,24,713,35⟩] [] ⟨713,19,713,36⟩,.Constant (.int 0) 0 ⟨713,38,713,39⟩] ⟨713,18,713,40⟩
def z3:a9:=.Assign [.Tuple [.Name (S "deck") ⟨713,4,713,8⟩,.Name (S "data") ⟨713,10,713,14⟩] 0 ⟨713,4,713,14⟩] (.Tuple [qi,.Call (.Name (S "Data") ⟨713,42,713,46⟩) [] [] ⟨713,42,713,48⟩] 0 ⟨713,17,713,49⟩) ⟨713,4,713,49⟩
theorem BY{n j:aw}{p1:aQ}(h:du [n,j] D=[(ak,bt n D),(ak,bt j D)])
  (c:aB (ay pw w) A (bt n D) (λv r=> aB (ay pw w) A (bt j D) (λu i=> Q (.ref i.heap.objs.size) {i with heap:=i.heap.push (eB #[v,u] 0)}) E r) E s):
  wpAny (ay pw w) A (bt (.Tuple [n,j] 0 p1) D) Q E s:=by
 refine yq ?_;rw[h];exact xS (fN c (λv r M=> xS (fN M (λu i G=> oB ⟨by show 2≤ej;decide,G⟩) λL L h=> h)) λL L h=> h)
theorem G0{j:Type}{c:Prop}[Decidable c]{a b r:j}(M:a=r)(G:b=r):(if c then a else b)=r:=by
 by_cases h:c
 ·rw[bZ h,M]
 ·rw[bW h,G]
theorem Sy{f:aw->aq ao}{a b:aw}{y:ao}(M:f a=U x)(G:f b=U y):Lh f [a,b]=[x,y]:=(ov M).trans (aZ _ (ov G))
theorem Sx{f:aw->aq ao}{a b:aw}(h:f a=ah):((Lh f [a,b]).length !=[a,b].length)=ag:=by
 rw[xx h];cases hb:f b with
 |none=> rw[xx hb];rfl
 |some x=> rw[ov hb];rfl
section
variable {k':ae}
theorem UG{st:a9}(i':st=z3){Q:dD->aD->Prop}(C:aG X)(O:X.G=iC)(hc:X.cps=[]){G:av}{f:af}(V:X.env.cells.lookup (S "deck")=U G)(ho:f.data=.cell ah){L:aa aj}(hL:L.length < 64){r:aa Slot}
  (R:aX 8 A) (Rr:Rl X F Y (.J (II L)::.un::r) [(G,f)] s)
  (K:∀s' F' j' g od o1 I k pA wA t,o1.data=.cell (U (.ref g))->bB X.w F' (.list [II (L.take 40),.int 0]) od->cH (strKind pw X.w) k []->(I==cO)=ak->Sub F F'->Rl X F' j' (.J (II L)::.J (Dd I pA wA).pv::r) ((G,o1)::(g,od)::(I,k)::t) s'->Q .next s'):
  wpAny (ay pw X.w) A (iO st X.env) Q E s:=by
 subst i';obtain⟨ls,a',y,Z⟩:=Rr;have z:cp X.w X.I 4 (oP 4):=lH C.inv 4;have P:=dU 8 X.I z X C rfl rfl;have hw:kU [.Tuple [.Name (S "deck") ⟨713,4,713,8⟩,.Name (S "data") ⟨713,10,713,14⟩] 0 ⟨713,4,713,14⟩] (.Tuple [qi,.Call (.Name (S "Data") ⟨713,42,713,46⟩) [] [] ⟨713,42,713,48⟩] 0 ⟨713,17,713,49⟩) X.env=pure ah:=by
  have W:X.env.kindOf (S "deck")=U .cell:=(eM C _).trans (by rw[O];kernel_rfl);unfold kU;dsimp only;refine G0 rfl (G0 rfl (bZ ?_));rw[jf];exact .inl (Sx (show(if(X.env.kindOf (S "deck")==U .local && _)=ag then _ else ah)=ah from by rw[W];rfl))
 refine CA (BY rfl ?_) rfl hw;have g':ev (oP 4) X.cps (.J (II L)::.un::r) (aE 8 X.G qi)=U (.own (.list [II (L.take 40),.int 0])):=by
  have D:aE 8 X.G qi=.lst (.cons (.call (.glb (S "list") (.fn (.type "list"))) (.cons (.slc (.var 0) (.lit .none) (.lit (.int 40))) .nil)) (.cons (.lit (.int 0)) .nil)):=by rw[O];kernel_rfl
  have hs:∀n,n≤64->aY n=ag:=λn h=> bX (by lia)
  have e1:ev (oP 4) X.cps (.J (II L)::.un::r) (.slc (.var 0) (.lit .none) (.lit (.int 40)))=U (.own (II (L.take 40))):=by
   refine jr (p:=.J (II L)) (q:=.J .none) (u:=.J (.int 40)) (by kernel_rfl) (by kernel_rfl) (by kernel_rfl) ?_;refine(show hh (II L) .none (.int 40)=gd (aY (L.map PV.int).length) (U (.own (.list (fF (L.map PV.int) ah (U (ar 40))))))from by kernel_rfl).trans ?_;rw[ct (hs _ (by rw[bx];lia)),xe,← th]
  have j:=j7 (g:=S "list") e1 (H:=L.take 40) rfl (by rw[jh];lia);have d':bO (oP 4) X.cps (.J (II L)::.un::r) (.cons (.call (.glb (S "list") (.fn (.type "list"))) (.cons (.slc (.var 0) (.lit .none) (.lit (.int 40))) .nil)) (.cons (.lit (.int 0)) .nil))=U [.own (II (L.take 40)),.J (.int 0)]:=eJ j (c6 (by kernel_rfl));rw[D];exact aU d' rfl
 refine P.e qi _ _ A F Y ls [(G,f)] a' s _ E g' (R.mono (by decide)) Z y λv s1 F1 H t1 S1 B r1=> ?_
 obtain⟨g,od,rfl,rfl,ow⟩:=r1.n5;have P1:Pack X 4 (oP 4) 8:=P;have cl:=y2 (w:=X.w) (I:=X.I) (k:=6) (c:=686) (f:=662) (args:=[]) (by simp[hG]) C.inv (λF q v t h=> by
  obtain⟨h1,a,b,c,k,ob,oc,h2,_⟩:=h;exact⟨h1,_,_,h2⟩) (PS (w:=X.w) (k:=5) (O:=oP 5) (f:=Fe) C.inv (lH C.inv 5) (by kernel_rfl))
 refine EL (X:=X) (b':=[(g,od)]++[(G,f)]) (V:=.J (II L)::.un::r) (as:=[]) (B:=[]) (ps:=[]) C P rfl (by rw[O,hc];kernel_rfl) rfl rfl (y1 (f:=662) (by simp[hG])) cl (R.mono (by decide)) (R.mono (by decide)) (by rw[bU];exact S1) (y.mono B) (λω ω ω=> trivial) λu s2 p m' t m S2 w rr=> ?_
 obtain⟨x,c',d,ns,ps,t2,rfl,T,l',rfl,h1,a,b,c,k,ob,oc,hq,rfl,f',k'⟩:=rr;cases hq;obtain⟨S3,b',i⟩:=St.freeze C.inv S2;have du:Den X.w (p.ins c' d) (Dd a b c).pv (.ref x):=by
  obtain⟨M,q,W,l⟩:=l'.mono b';exact .inst (b' _ _ T) i ⟨rfl,q⟩ W l
 have S4:=St.push (X:=X) (o:=eB #[dQ g,.ref x] 0) S3 rfl;refine Dr R.hd ⟨_,fh _ rfl,rfl,0,rfl⟩ rfl rfl λN W=> ?_
 have S5:=St.drop (t:=[_,_,_]) (St.grow (t:=s2.toks) (N:=N) S4 λb o e=> W b o (e3 (dy e)) e);have pm:((a,k)::(m++((g,od)::(G,f)::a'))).Perm ((G,f)::(g,od)::(a,k)::(m++a')):=
  (((dA (l₁:=(a,k)::m)).trans (Cf _ (dA (l₁:=(a,k)::m)))).trans (jg _ _ _))
 have S6:=St.perm S5 pm;refine tX (j3 (JM (X:=X) C (by rw[O];kernel_rfl) V ho S6 λs6 o1 h' S7=> ?_));refine tX (j3 (hQ (X:=X) (i:=1) (t:=[]) (b':=(G,o1)::(g,od)::(a,k)::m) (sl:=.J (Dd a b c).pv) C (by rw[O];rfl) (by rw[O];simp[iC]) (by simp) S7 (((y.mono B).mono w).mono b') ⟨du,rfl⟩ λs7 R7=> ?_));have e':aB (ay pw X.w) A (pure ()) (λω=> Q .next) E s7:=bA (K s7 _ _ g od o1 a k b c m h' ((ow.mono w).mono b') f' k' ((B.trans w).trans b') R7);exact e'
end
noncomputable def lQ:aa aj:=[65,95,61,40,41,233,223,173,8800,8814,9332,8232,9424]
def Kl:aa PV:=[.tup [.str (S "mapped"),.tup [.int 97]],uS "disallowed_STD3_valid",uS "disallowed_STD3_valid",uS "disallowed_STD3_valid",uS "disallowed_STD3_valid",uS "valid",.tup [.str (S "deviation"),.tup [.int 115,.int 115]],.tup [.str (S "ignored"),.tup []],uS "disallowed_STD3_valid",uS "disallowed_STD3_valid",.tup [.str (S "disallowed_STD3_mapped"),.tup [.int 40,.int 49,.int 41]],uS "disallowed",.tup [.str (S "mapped"),.tup [.int 97]]]
def putL:aa (aj×aj×PV):=[(97,122,uS "valid"),(48,57,uS "valid"),(45,46,uS "valid")]++(lQ.zip Kl).map λq=> (q.1,q.1,q.2)
def putAt(n:ae):aj×aj×PV:=(putL[n]?).getD (0,0,.none)
noncomputable def aad:aq (PV×PV)->aa PV
 |U (_,.inst _ _ us)=> us
 |_=> []
noncomputable def sQ:ae->aa PV
 |0=> [uS "disallowed",.list [.int 0],.list [uS "disallowed"]]
 |n+1=> aad (iH 1000 (oP 3) sH (.inst 630 e9 (sQ n)) [.int (putAt n).1,.int (putAt n).2.1,(putAt n).2.2])
theorem aaf:∀n∈dO 16,iH 1000 (oP 3) sH (.inst 630 e9 (sQ n)) [.int (putAt n).1,.int (putAt n).2.1,(putAt n).2.2]=U (.none,.inst 630 e9 (sQ (n+1))):=dm (by kernel_rfl)
theorem aae:jc=.inst 630 e9 (sQ 16):=by kernel_rfl
def gb(w:aV)(I:av)(n:ae)(F:Fz)(ps:MT):Prop:=(n=0∧∃o,ps=[(I,o)]∧cH (strKind pw w) o [])∨bH λy j=> k2 w I j y (sQ n) F ps
section
variable {k':ae}
theorem Rl.perm{t m:MT}(h:Rl X F Y V t s)(p:t.Perm m):Rl X F Y V m s:=let⟨ls,a',a,b⟩:=h;⟨ls,a',a,b.perm (p.append_right _)⟩
theorem Rl.drop{t:MT}(h:Rl X F Y V (t++b') s):Rl X F Y V b' s:=let⟨ls,a',a,b⟩:=h;⟨ls,a',a,St.drop (by rw[bU]at b;exact b)⟩
theorem X0{Q:dD->aD->Prop}(C:aG X)(T:X.G.ns[1]?=U (S "data")){I:av}(u:(I==cO)=ak)(d:V[1]?=U (.J (Dd I pA wA).pv)){as:aa aw}(Z:n < 16)(b:bO O₀ X.cps V (br 12 X.G as)=U B)
  (a:b6 B=U [.str (S "idna"),.int (putAt n).1,.int (putAt n).2.1,(putAt n).2.2]) (D:bb as.length 30=ag) {ps:MT} (z:gb X.w I n F ps) (R:aX 7 A) (q:Rl X F Y V (ps++b') s)
  (K:∀P W N G,Rl X W N V (G++b') P->Sub F W->gb X.w I (n+1) W G->Q .next P) {p1 p2 p3 p4:aQ} (p:(p2.endLine==p3.line)=ag):
  wpAny (ay pw X.w) A (iO (.Expr (.Call (.Attribute (.Name (S "data") p1) (S "put") p2) as [] p3) p4) X.env) Q E s:=by
 have e:=aaf n (l7.mpr Z);rcases z with ⟨rfl,o,rfl,g⟩ |⟨y,j,x⟩
 ·refine JQ C T d b a D (λW L L=> ⟨⟨o,rfl⟩,⟨o,rfl,g⟩⟩) (PX u rfl (by kernel_rfl) (λf args r h=> (lH (λL L L h L L=> h) 3 f args r h).up (by decide)) e) R q (λv P W N G t l H i M=> ?_) p
  obtain⟨_,y,j,k,m,rfl,x⟩:=M;refine K P W N (G++[(j,k)]) (Rl.drop (t:=m) (l.perm ?_)) H (.inr ⟨y,j,x⟩);have w:=(dA (a:=(j,k)) (l₁:=m++G) (l₂:=b')).symm;rw[bU,bU]at w;rw[bU];exact w
 ·refine JQ (D:=Dd I pA wA) (k:=7) C T d b a D (l:=yF I j) (λW H O=> ?_) (PY (w:=X.w) (D:=Dd I pA wA) (j:=j) (y:=y) (k:=5) (O:=oP 3) u (λf args r h=> (lH (λL L L h L L=> h) 3 f args r h).up (by decide)) e) R q (λv P W N G t l H i M=> ?_) p
  ·have h:=sJ _ _ _ x H O
   obtain⟨o,k,e,_⟩:=id h;exact⟨⟨o,k,e⟩,h⟩
  ·obtain⟨_,rfl,x⟩:=M
   exact K P W N G l H (.inr ⟨y,j,x⟩)
end
def U7:aa aw:=[(.Constant (.str (S "idna")) 0 ⟨715,17,715,23⟩),(.Name (S "first") ⟨715,25,715,30⟩),(.Name (S "last") ⟨715,32,715,36⟩),(.Tuple [(.Constant (.str (S "valid")) 0 ⟨715,39,715,46⟩),(.Tuple [] 0 ⟨715,48,715,50⟩)] 0 ⟨715,38,715,51⟩)]
def Aa:aa aw:=[(.Constant (.str (S "idna")) 0 ⟨718,17,718,23⟩),(.Name (S "code") ⟨718,25,718,29⟩),(.Name (S "code") ⟨718,31,718,35⟩),(.Subscript (.Name (S "table") ⟨718,37,718,42⟩) (.Name (S "code") ⟨718,43,718,47⟩) ⟨718,37,718,48⟩)]
def vo(l:ae)(as:aa aw)(c:ae):a9:=.Expr (.Call (.Attribute (.Name (S "data") ⟨l,8,l,12⟩) (S "put") ⟨l,8,l,16⟩) as [] ⟨l,8,l,c⟩) ⟨l,8,l,c⟩
noncomputable def Ac(a b c d e f:ae)(x y:aj):aw:=.Tuple [(.Constant (.int x) 0 ⟨714,b,714,c⟩),(.Constant (.int y) 0 ⟨714,d,714,e⟩)] 0 ⟨714,a,714,f⟩
def U5:aw:=.Tuple [Ac 24 25 27 29 32 33 97 122,Ac 35 36 38 40 42 43 48 57,Ac 45 46 48 50 52 53 45 46] 0 ⟨714,23,714,54⟩
def U8:aa aw:=[(.Name (S "first") ⟨714,8,714,13⟩),(.Name (S "last") ⟨714,15,714,19⟩)]
def z4:a9:=.For (.Tuple U8 0 ⟨714,8,714,19⟩) U5 [vo 715 U7 52] [] ⟨714,4,715,52⟩
def z5:a9:=.For (.Name (S "code") ⟨717,8,717,12⟩) (.Name (S "table") ⟨717,16,717,21⟩) [vo 718 Aa 49] [] ⟨717,4,718,49⟩
section
variable {k':ae}
theorem Gm{T I:aw}{b:aa a9}{Q:dD->aD->Prop}(C:aG X)(P:Pack X k O n)(f:ev O X.cps V (aE n X.G I)=U (.J p))(c':i2 p=U ps)(hs:isSet I=ak)(h:ae->Fz->aa Slot->MT->Prop)
  (w:∀i F W V t,h i F V t->Sub F W->h i W V t) (R:aX k A) (q:Rl X F Y V b' s) (x:h 0 F V b')
  (S:∀i p v V F Y g b' s Q l u,ps[i]?=U p->h i F V b'->Rl X F Y V (g++b') s->Den X.w F p v->(∀s' W N e' c,Sub F W->h (i+1) W e' c->Rl X W N e' (g++c) s'->Q .next s')->aB (ay pw X.w) A (kR T X.env v) (λL j=> aB (ay pw X.w) A (ei b X.env) Q l j) u s)
  (K:∀s' W N e' c,Rl X W N e' c s'->Sub F W->h ps.length W e' c->Q .next s'):aB (ay pw X.w) A (iO (.For T I b [] d') X.env) Q E s:=by
 obtain⟨ls,a',y,Z⟩:=q;refine tW ((P.e I).bR C f rfl R Z y λv r F1 H S1 B d=> ?_) (pW hs);refine qe (target:=T) R.hd S1 d c' λe s2 g G SR a S2 L L=> ?_
 rw[← bU]at S2;refine Gl (λL=> C.inv) (λi F L V t=> h i F V t) SR (λi p v V F Y g b' s Q l u hi L z q d K=> ?_) (λi F W L V t=> w i F W V t) a (w _ _ _ _ _ x B) (Sub.refl _) ⟨ls,a',y.mono B,S2⟩ λs5 o f' g' m D M R5=> K s5 o f' g' m R5 (B.trans D) M
 exact S i p v V F Y g b' s Q l u hi z q d K
theorem JO{Q:dD->aD->Prop}(C:aG X)(O:X.G=iC){I:av}(m:(I==cO)=ak)(M:V[1]?=U (.J (Dd I pA wA).pv)){as:aa aw}(Z:n < 16)(b:bO O₀ X.cps V (br 12 X.G as)=U B)
  (a:b6 B=U [.str (S "idna"),.int (putAt n).1,.int (putAt n).2.1,(putAt n).2.2]) (D:bb as.length 30=ag) {ps g:MT} (z:gb X.w I n F ps) (R:aX 7 A) (q:Rl X F Y V (g++(ps++b')) s)
  (K:∀P W N G,Rl X W N V (g++(G++b')) P->Sub F W->gb X.w I (n+1) W G->Q .next P) (l c:ae):aB (ay pw X.w) A (ei [vo l as c] X.env) Q E s:=by
 unfold vo;exact cK (X0 C (by rw[O];rfl) m M Z b a D z R (q.perm (f6 g ps b')) (λP W N G v H h=> fi (K P W N G (v.perm (f6 G g b')) H h)) (DA l))
theorem Yd:∀{i:ae} {p:PV},([.tup [.int 97,.int 122],.tup [.int 48,.int 57],.tup [.int 45,.int 46]]:aa PV)[i]?=U p->p=.tup [.int (putAt i).1,.int (putAt i).2.1]∧(putAt i).2.2=uS "valid"∧i < 16
 |0,_,h=> by cases h;exact⟨rfl,rfl,by decide⟩
 |1,_,h=> by cases h;exact⟨rfl,rfl,by decide⟩
 |2,_,h=> by cases h;exact⟨rfl,rfl,by decide⟩
 |n+3,_,h=> nn h
theorem gb.mono{I:av}{W:Fz}{ps:MT}(h:gb w I n F ps)(H:Sub F W):gb w I n W ps:=by
 rcases h with h |⟨y,j,o,k,e,d,E,ow⟩
 ·exact .inl h
 ·exact .inr ⟨y,j,o,k,e,d,H _ _ E,ow.mono H⟩
theorem UH{st:a9}(x:st=z4){Q:dD->aD->Prop}(C:aG X)(O:X.G=iC)(w:X.cps=[]){I:av}(D:(I==cO)=ak){L f q3:Slot}{r:aa Slot}{ps:MT}(z:gb X.w I 0 F ps)(R:aX 7 A)(q:Rl X F Y (L::.J (Dd I pA wA).pv::f::q3::r) (ps++b') s)
  (K:∀P W N G f q3,Rl X W N (L::.J (Dd I pA wA).pv::f::q3::r) (G++b') P->Sub F W->gb X.w I 3 W G->Q .next P):aB (ay pw X.w) A (iO st X.env) Q E s:=by
 subst x;have T:X.G.ns[1]?=U (S "data"):=by rw[O];rfl
 refine Gm (p:=.tup [.tup [.int 97,.int 122],.tup [.int 48,.int 57],.tup [.int 45,.int 46]]) C (dU 12 X.I eN X C rfl rfl) (by rw[O];kernel_rfl) rfl rfl (λi F V t=> ea λf q3 ps=> bG (V=L::.J (Dd I pA wA).pv::f::q3::r) (t=ps++b') (gb X.w I i F ps)) (λi F W V t h H=> let⟨f,q3,ps,n,j,h⟩:=h;⟨f,q3,ps,n,j,h.mono H⟩) R q ⟨f,q3,ps,rfl,rfl,z⟩ (λi p v V F Y g t s Q E1 E2 hi o q d K=> ?_) λP W N e' m l H h=> ?_
 ·obtain⟨f,q3,ps,rfl,rfl,z⟩:=o
  obtain⟨ls,a',y,Z⟩:=q;obtain⟨rfl,B,M⟩:=Yd hi;generalize c:putAt i=u at *;obtain⟨a,b,k⟩:=u;obtain rfl:k=uS "valid":=B;refine xk (X:=X) (is:=[2,3]) (e':=L::.J (Dd I pA wA).pv::.J (.int a)::.J (.int b)::r) C R.hd (by rw[O];kernel_rfl) rfl d y Z λs3 e=> ?_
  refine JO C O D (n:=i) (V:=L::.J (Dd I pA wA).pv::.J (.int a)::.J (.int b)::r) (B:=[.J (.str (S "idna")),.J (.int a),.J (.int b),.J (uS "valid")]) rfl M (by rw[O,w];kernel_rfl) (by rw[c];rfl) rfl z R e (λP W N G l H h=> K P W N _ _ H ⟨_,_,G,rfl,rfl,h⟩ l) 715 52
 ·obtain⟨f,q3,G,rfl,rfl,h⟩:=h
  exact K P W N G f q3 l H h
def hT:PV:=.cV lQ Kl
theorem Zu(i:ae)(p:PV)(h:(lQ.map PV.int)[i]?=U p):∃c,dE (p=.int c) (putAt (3+i)=(c,c,(putAt (3+i)).2.2)) (g7 hT (.int c)=U (putAt (3+i)).2.2) (3+i < 16):=by
 have hi:=l7.mpr (by have:=(eO.mp h).1;simpa[lQ]using this);have n:=dm (f:=λi=> (lQ.map PV.int)[i]?) (g:=λi=> U (PV.int (putAt (3+i)).1)) (l:=dO 13) (by kernel_rfl) i hi;have j:=dm (f:=λi=> putAt (3+i)) (g:=λi=> ((putAt (3+i)).1,(putAt (3+i)).1,(putAt (3+i)).2.2)) (l:=dO 13) (by kernel_rfl) i hi;have y:=dm (f:=λi=> g7 hT (.int (putAt (3+i)).1)) (g:=λi=> U (putAt (3+i)).2.2) (l:=dO 13) (by kernel_rfl) i hi;replace n:(lQ.map PV.int)[i]?=U (PV.int (putAt (3+i)).1):=n;rw[h]at n;have:=l7.mp hi;exact⟨_,bo n,j,y,by lia⟩
theorem UI{st:a9}(x:st=z5){Q:dD->aD->Prop}(C:aG X)(O:X.G=iC)(w:X.cps=[]){I:av}(d':(I==cO)=ak){L f q3 B:Slot}{r:aa Slot}{ps:MT}(z:gb X.w I 3 F ps)(R:aX 7 A)(q:Rl X F Y (L::.J (Dd I pA wA).pv::f::q3::.J hT::B::r) (ps++b') s)
  (K:∀P W N G B,Rl X W N (L::.J (Dd I pA wA).pv::f::q3::.J hT::B::r) (G++b') P->Sub F W->gb X.w I 16 W G->Q .next P):aB (ay pw X.w) A (iO st X.env) Q E s:=by
 subst x;refine Gm (n:=12) (p:=hT) (ps:=lQ.map PV.int) C (dU 12 X.I eN X C rfl rfl) (by rw[O];kernel_rfl) rfl rfl (λi F V t=> bH λB ps=> bG (V=L::.J (Dd I pA wA).pv::f::q3::.J hT::B::r) (t=ps++b') (gb X.w I (3+i) F ps)) (λi F W V t h H=> let⟨B,ps,n,j,h⟩:=h;⟨B,ps,n,j,h.mono H⟩) R q ⟨B,ps,rfl,rfl,z⟩ (λi p v V F Y g t s Q E1 E2 hi o q d K=> ?_) λP W N e' m l H h=> ?_
 ·obtain⟨B,ps,rfl,rfl,z⟩:=o
  obtain⟨ls,a',y,Z⟩:=q;obtain⟨c,rfl,hv,T,M⟩:=Zu i p hi;generalize c':putAt (3+i)=u at hv T;obtain⟨a,b,k⟩:=u;cases hv;refine j3 (hQ (X:=X) (i:=5) (t:=[]) (b':=g++(ps++b')) (sl:=.J (.int c)) C (by rw[O];rfl) (by rw[O];simp[iC]) (by simp) Z y ⟨d,rfl⟩ λs3 e=> ?_);have ex:bO O₀ X.cps (L::.J (Dd I pA wA).pv::f::q3::.J hT::.J (.int c)::r) (br 12 X.G Aa)=U [.J (.str (S "idna")),.J (.int c),.J (.int c),.J k]:=by
   have D:br 12 X.G Aa=.cons (.lit (.str (S "idna"))) (.cons (.var 5) (.cons (.var 5) (.cons (.idx (.var 4) (.var 5)) .nil))):=by rw[O];kernel_rfl
   rw[D];exact eJ (by kernel_rfl) (eJ (by kernel_rfl) (eJ (by kernel_rfl) (c6 (hy (p:=.J hT) (q:=.J (.int c)) (by kernel_rfl) (by kernel_rfl) T))))
  refine JO C O d' (n:=3+i) (V:=L::.J (Dd I pA wA).pv::f::q3::.J hT::.J (.int c)::r) rfl M ex (by rw[c'];rfl) rfl z R e (λP W N G l H h=> K P W N _ _ H ⟨_,G,rfl,rfl,h⟩ l) 718 49
 ·obtain⟨B,G,rfl,rfl,h⟩:=h
  exact K P W N G B l H h
end
theorem KA{l:MT}{x y:af}(V:(l.map (·.1)).Nodup)(M:(a,x)∈l)(G:(a,y)∈l):x=y:=by
 induction l with
 |nil=> cases M
 |cons p l D=>
  replace V:=dN.mp V;rcases bM.mp M with n |M <;> rcases bM.mp G with j |G
  ·exact aZ (·.2) (n.trans j.symm)
  ·exact bf (cY (f:=(·.1)) G) (by rw[show(a,y).1=p.1 from aZ (·.1) n];exact V.1)
  ·exact bf (cY (f:=(·.1)) M) (by rw[show(a,x).1=p.1 from aZ (·.1) j];exact V.1)
  ·exact D V.2 M G
section
variable {k':ae}
theorem St.lend{ps:MT}{l:Fz->MT->Prop}(Z:St X F Y ls (ps++a') s)(h:l F (ps++Y)):St (X.sw l) F (ps++Y) ls a' s:=by
 have e:(Y++(ps++a')).Perm ((ps++Y)++a'):=by
  rw[bU];exact f6 Y ps a'
 refine⟨Z.top,Z.sub,h,Z.ns,Z.nm,Z.ext,Z.J,Z.fL,Z.fr,λp z=> Z.al p (e.mem_iff.mpr z),(e.map (·.1)).nodup_iff.mp Z.nd,λp z=> Z.nw p (bp _ z),λp z=> ?_,λa D=> ?_,Z.ce,Z.pn⟩
 ·rcases dc.mp z with z |z
  ·exact .inr (Z.nw p (bk _ z))
  ·exact Z.mx p z
 ·rw[bj]
  exact bp _ (Z.xm a D)
def e0(X:Cx)(D:Dt)(g G:av)(M:aa av):Cx:=(X.sw λF Y=> IA X.w D g F Y∧Y.map (·.1)=M).g5 [S "deck"] [G] [.fn (.ref g)]
theorem Uz(C:aG X){D:Dt}{g G:av}{M:aa av}(w:X.env.cells.lookup (S "deck")=U G):aG (e0 X D g G M):=
 (C.sw λF W Y h H n=> ⟨IA.ok F W Y h.1 H n,h.2⟩).g5 (λi x h=> by
  cases i with
  |zero=> cases h;exact⟨G,rfl,w⟩
  |succ i=> simp at h) (by decide+kernel)
theorem UB(C:aG X)(b:∀F Y,X.I F Y->eb F Y){G g I:av}{v od:af}{L:aa aj}{ps:MT}(K:(I==cO)=ak)(x:gb X.w I 16 F ps)(R:v.data=.cell (U (.ref g)))(u:bB X.w F (.list [II L,.int 0]) od)
  (r:Rl X F Y V (ps++((G,v)::(g,od)::b')) s):bH λW N=> bG (Rl (e0 X (Dd I pA wA) g G (I::g::Y.map (·.1))) W N V [] s) (bN X.w g L 0 W N) (Sub F W):=by
 rcases x with ⟨h,_⟩ |⟨y,j,o,k,rfl,B,E,ow⟩
 ·cases h
 obtain⟨ls,a',D,Z⟩:=r;have e:(([(I,o)]++[(j,k)])++((G,v)::(g,od)::b')++a').Perm ((j,k)::(G,v)::([(I,o),(g,od)]++(b'++a'))):=
  (jg _ _ _).trans (Cf _ (jg _ _ _))
 obtain⟨S1,P,f1⟩:=(Z.perm e).freeze C.inv;obtain⟨S2,w,O⟩:=S1.freeze C.inv;have H:=P.trans w;have a:Den X.w ((F.ins j k).ins G v) jc (.ref y):=by
  obtain⟨M,q,A,l⟩:=ow.mono H;rw[aae];exact .inst (H _ _ E) (w _ _ f1) ⟨rfl,q⟩ A l
 have f:IM X.w (Dd I pA wA) ((F.ins j k).ins G v) [(I,o)]:=⟨K,o,.ref y,rfl,a,.inl B⟩;have t:IA X.w (Dd I pA wA) g ((F.ins j k).ins G v) ([(I,o),(g,od)]++Y):=⟨[(I,o)],(g,od)::Y,rfl,f,[(g,od)],Y,rfl,⟨od,rfl⟩,eb.ok F _ Y (b F Y Z.inv) H λp z=> (S2.al p (bk _ z)).2.1⟩;have S3:=St.drop (St.lend (l:=λF N=> IA X.w (Dd I pA wA) g F N∧N.map (·.1)=I::g::Y.map (·.1)) S2 ⟨t,rfl⟩);refine⟨_,_,⟨ls,a',D.mono H,St.g5 S3 λi c h=> ?_⟩,λd m=> ?_,H⟩
 ·cases i with
  |zero=> cases h;exact⟨_,_,_,O,R,rfl,.fn _⟩
  |succ i=> simp at h
 ·have n:=S3.nd
  rw[bj]at n;obtain rfl:=KA (c2.mp n).1 m (.tail _ (.head _));exact⟨0,dh _,u.mono H⟩
def k1(w:aV)(g:av)(L:aa aj)(b:ae)(F:Fz)(Y:MT):Prop:=mB g F Y∧bN w g L b F Y
theorem k1.ok{g:av}{L:aa aj}{b:ae}:bq (k1 w g L b):=λF W Y h H n=> ⟨h.1,bN.ok F W Y h.2 H n⟩
theorem PJ{D:Dt}{g:av}{L:aa aj}{b:ae}(h:IA w D g F Y)(u:bN w g L b F Y):Sep (IM w D) (Sep (k1 w g L b) eb) F Y:=by
 obtain⟨m1,j,rfl,o,p,s,rfl,M,q⟩:=h;exact⟨m1,_,rfl,o,p,s,rfl,⟨M,λd m=> u d (bp _ (bk _ m))⟩,q⟩
theorem PK{D:Dt}{g:av}{L:aa aj}{b:ae}(h:Sep (IM w D) (Sep (k1 w g L b) eb) F Y)(V:(Y.map (·.1)).Nodup):IA w D g F Y∧bN w g L b F Y:=by
 obtain⟨m1,j,rfl,o,p,s,rfl,⟨⟨T,rfl⟩,z⟩,q⟩:=h;refine⟨⟨m1,_,rfl,o,_,s,rfl,⟨T,rfl⟩,q⟩,λd m=> ?_⟩;obtain rfl:=KA V m (bp _ (.head _));exact z d (.head _)
theorem w2{Q:dD->aD->Prop}{Z:aa a9}(C:aG X)(z:cp X.w X.I k O)(R:aX k A)(st:aa a9):∀(n:ae) {V e':aa Slot} {F:Fz} {Y:MT} {s:aD},aI W O X.cps (b7 n X.G st) V=U (.nxt e')->Rl X F Y V b' s->
  (∀P j N,Rl X j N e' b' P->Sub F j->aB (ay pw X.w) A (ei Z X.env) Q E P)->aB (ay pw X.w) A (ei (st++Z) X.env) Q E s:=by
 induction st with
 |nil=>
  intro n V e' F Y s h q K;have e:b7 n X.G []=.nil:=by cases n <;> rfl
  rw[e]at h;replace h:U (Out.nxt V)=U (.nxt e'):=h;cases h;exact K s F Y q (Sub.refl _)
 |cons x st D=>
  intro n V e' F Y s h q K;cases n with
  |zero=> exact nn (h)
  |succ n=>
   refine aC (h) λo e h=> ?_
   cases o with
   |nxt τ=>
    refine cK ((sM C (λn=> dU n X.I z X C rfl rfl) n).1 x V _ A F Y b' s _ E e R q λfl r m=> ?_);obtain⟨rfl,F1,H,p,a⟩:=m;exact D n h a λP j N l i=> K P j N l (p.trans i)
   |ret v τ=> exact nomatch h
theorem He{I g G:av}{M:aa av}{L:aa aj}{b:ae}{r:ae}{st d:aa a9}{v:CB}{e':aa Slot}{Q:dD->aD->Prop}(C:aG (e0 X (Dd I pA wA) g G M))(a:b7 n (e0 X (Dd I pA wA) g G M).G st=v)
  (o:aI 1000 (aA I pA wA r) [.fn (.ref g)] v V=U (.nxt e')) (R:aX (4 * r) A) (q:Rl (e0 X (Dd I pA wA) g G M) F Y V [] s) (j:bN X.w g L b F Y)
  (K:∀P W N,Rl (e0 X (Dd I pA wA) g G M) W N e' [] P->Sub F W->bN X.w g L b W N->aB (ay pw X.w) A (ei d X.env) Q E P):aB (ay pw X.w) A (ei (st++d) X.env) Q E s:=by
 let z:Fz->MT->Prop:=λF Y=> Sep (IM X.w (Dd I pA wA)) (Sep (k1 X.w g L b) eb) F Y∧Y.map (·.1)=M
 have i:bq z:=λF W Y h H n=> ⟨Sep.ok IM.ok (Sep.ok k1.ok eb.ok) F W Y h.1 H n,h.2⟩
 have k:=C.sw i;obtain⟨ls,a',y,Z⟩:=q;have T:=Z.inv;have e:cp X.w z (4 * r) (aA I pA wA r):=ja (Bv k1.ok r);refine w2 k e R st n (by rw[show b7 n ((e0 X (Dd I pA wA) g G M).sw z).G st=v from a];exact o) ⟨ls,a',y,Z.sw ⟨PJ T.1 j,T.2⟩⟩ λP W N l H=> ?_
 obtain⟨w,f,c,u⟩:=l;have p:=u.inv;have m:=u.nd;rw[bj]at m;obtain⟨t,O⟩:=PK p.1 (c2.mp m).1;exact K P W N ⟨w,f,c,u.ho ⟨t,p.2⟩⟩ H O
end
section
variable {k':ae}
theorem Fh{D:Dt}{g:av}{L:aa aj}{b:ae}{M:aa av}(C:aG X)(c':∀F Y,X.I F Y↔IA X.w D g F Y∧Y.map (·.1)=M){f:aw}{as:aa aw}{B:aQ}{a:aj}{w:gq}{z:CR}{t:aj->au}(hf:notAttr f=ag)
  (S:ev O₀ X.cps V (aE 6 X.G f)=U (.J (.fn (.ref 698)))) (f':bO O₀ X.cps V (br 6 X.G as)=U [.J (.fn (.ref g)),.J (.int a)]) (p:je 6 X.G [w] [e]=U z) (r:∀i,kp O₀ X.cps V (.int i) z=U (t i)) (O:oX [w] [e]=ak) (hb:b < 900) (I:L.length < 100) (G:0 < a)
  (R:aX (k+1) A) (Z:St X F Y ls (b'++a') s) (u:bN X.w g L b F Y) (y:aR X.w F V (ls.map (·.2)) a') (K:∀P W N c,St X W N ls (b'++a') P->Sub F W->bN X.w g L (b+1) W N->Q (.bool c) P):
  wpAny (ay pw X.w) A (bt (.Compare (.Call f as [] d') [w] [e] B) X.env) Q E s:=by
 refine uA O ?_;refine pJ C c' hf S f' hb I G R Z u y λv s3 T g' i S3 x e' i0 i2 d=> ?_
 let l:Fz->MT->Prop:=λF Y=> X.I F Y∧bN X.w g L (b+1) F Y
 have j:bq l:=λF W Y h H n=> ⟨C.inv F W Y h.1 H n,bN.ok F W Y h.2 H n⟩
 have P3:Pack (X.sw l) k O₀ 6:=dU 6 l eN (X.sw l) (C.sw j) rfl rfl;refine((P3.r [w] [e] z p).2 V (.int i) v (t i) _ T g' ls b' a' s3 _ _ (r i) (R.mono (hX _)) (S3.sw ⟨S3.inv,e'⟩) (y.mono x) (.J d)).1 _ λm o h' S4 i'=> ?_
 have q:=S4.inv;exact K m o h' (t i) (S4.ho q.1) (x.trans i') q.2
end
def Hs:aw:=.Compare (pK 2 719 37 46 47 51 53 54) [.Eq] [.Constant (.int 1) 0 ⟨719,59,719,60⟩] ⟨719,37,719,60⟩
def Ht:aw:=.Compare (pK 3 719 62 71 72 76 78 79) [.Gt] [.Constant (.int 0) 0 ⟨719,83,719,84⟩] ⟨719,62,719,84⟩
def z6:a9:=.Assign [.Tuple [.Name (S "is_transitional") ⟨719,4,719,19⟩,.Name (S "only_letters") ⟨719,21,719,33⟩] 0 ⟨719,4,719,33⟩] (.Tuple [Hs,Ht] 0 ⟨719,36,719,85⟩) ⟨719,4,719,85⟩
section
variable {k':ae}
theorem UJ{st:a9}(x:st=z6){D:Dt}{g:av}{L:aa aj}{M:aa av}{Q:dD->aD->Prop}(C:aG X)(n:∀F Y,X.I F Y↔IA X.w D g F Y∧Y.map (·.1)=M)(O:X.G=kx)(w:X.cps=[.fn (.ref g)])(I:L.length < 100){s0 s1 s2 j m f:Slot}{r:aa Slot}
  (R:aX (k+1) A) (q:Rl X F Y (s0::s1::s2::j::m::f::.un::.un::r) [] s) (u:bN X.w g L 0 F Y)
  (K:∀P W b' t l,Rl X W b' (s0::s1::s2::j::m::f::.J (.bool t)::.J (.bool l)::r) [] P->Sub F W->bN X.w g L 2 W b'->Q .next P):aB (ay pw X.w) A (iO st X.env) Q E s:=by
 subst x;obtain⟨ls,a',y,Z⟩:=q;have d:kU [.Tuple [.Name (S "is_transitional") ⟨719,4,719,19⟩,.Name (S "only_letters") ⟨719,21,719,33⟩] 0 ⟨719,4,719,33⟩] (.Tuple [Hs,Ht] 0 ⟨719,36,719,85⟩) X.env=pure (U [S "is_transitional",S "only_letters"]):=by
  have h1:X.env.kindOf (S "is_transitional")=U .local:=(eM C _).trans (by rw[O];kernel_rfl);have G:X.env.kindOf (S "only_letters")=U .local:=(eM C _).trans (by rw[O];kernel_rfl);have hb:X.env.blockKind=.function:=by unfold Mg;simp[C.fn]
  unfold kU;dsimp only;refine(bW (by rw[hb];decide)).trans ((bW (by decide)).trans ?_);rw[Sy (x:=S "is_transitional") (y:=S "only_letters") (show(if(X.env.kindOf (S "is_transitional")==U .local && _)=ag then _ else ah)=_ from by rw[h1];rfl) (show(if(X.env.kindOf (S "only_letters")==U .local && _)=ag then _ else ah)=_ from by rw[G];rfl)];rfl
 refine L4 (BY rfl ?_) rfl d;refine Fh (a:=2) (t:=λi=> i==1) (z:=.one .Eq (.lit (.int 1))) C n rfl (by rw[O,w];kernel_rfl) (by rw[O,w];kernel_rfl) (by rw[O];kernel_rfl) (λi=> by kernel_rfl) rfl (by decide) I (by decide) R Z u y λi' F1 H t S1 B e'=> ?_
 refine Fh (X:=X) (V:=s0::s1::s2::j::m::f::.un::.un::r) (D:=D) (b:=1) (a:=3) (t:=λi=> decide (0 < i)) (z:=.one .Gt (.lit (.int 0))) C n rfl (by rw[O,w];kernel_rfl) (by rw[O,w];kernel_rfl) (by rw[O];kernel_rfl) (λi=> by kernel_rfl) rfl (by decide) I (by decide) R S1 e' (y.mono B) λf' p h' l S2 c' z=> ?_
 have S3:=St.push (X:=X) (o:=eB #[CU t,.bool l] 0) S2 rfl;rw[show([S "is_transitional",S "only_letters"]:aa ao).length=(#[CU t,CU l]:c8 ai).size from rfl];refine Nj R.hd ⟨_,fh _ rfl,rfl,0,rfl⟩ λN hk=> ?_
 have S4:=St.drop (t:=[_]) (St.grow (t:=f'.toks) (N:=N) S3 λb o e=> hk b o (e3 (dy e)) e);show aB (ay pw X.w) A (C8 [yc X.env (S "only_letters"),yc X.env (S "is_transitional")] [.bool l,.bool t]) _ E _;refine tX (yr (hQ (X:=X) (i:=7) (t:=[]) (b':=[]) (sl:=.J (.bool l)) C (by rw[O];rfl) (by rw[O];simp[kx,iC]) (by simp) S4 ((y.mono B).mono c') ⟨.bool _,rfl⟩ λs7 v=> ?_));obtain⟨g',h,T,a⟩:=v;refine tX (yr (hQ (X:=X) (i:=6) (t:=[]) (b':=[]) (sl:=.J (.bool t)) C (by rw[O];rfl) (by rw[O];simp[kx,iC]) (by simp) a T ⟨.bool _,rfl⟩ λc V=> ?_));have d':aB (ay pw X.w) A (pure ()) (λω=> Q .next) E c:=bA (K c _ _ t l V (B.trans c') z);exact d'
end
section
variable {k':ae}
theorem NZ(C:aG X){elt k target:aw}{t:ao}{b g':aQ}{w:aa aw}{D:dZ}{Q:dD->aD->Prop}(T:X.G.ns[i]?=U x)(j':x∉X.G.ln)(hi:i < V.length)(n':tV (.ListComp elt [⟨target,k,w,0⟩] D d') (U (.Name x b)) g'.line X.env=pure ag)
  (S:jz X.G D t 0=ag) (m':isSet k=ak) (hh:A.handled=ah) (y:aR X.w F V (ls.map (·.2)) a')
  (h':aB (ay pw X.w) A (bt k X.env) (λv P=> gy λF1 H p ps=> ∃Z:ae->Fz->MT->Prop,bH λf c=> DB (St X F1 H ls (b'++a') P) (Sub F F1) (Den X.w F1 p v) (i2 p=U ps) (aY ps.length=ag) ((ps=[]∨∃I,target=.Name t I)) (Z 0 F1 H) (yE Z) (yG X A elt w D t H Z f c ps) ((∀P W c' n,Rl X W c' (V.set i (.own (.list n))) b' P->Sub F1 W->gW f c ps n->Z ps.length W c'->Q .next P))) E s):
  wpAny (ay pw X.w) A (iO (.Assign [.Name x b] (.ListComp elt [⟨target,k,w,0⟩] D d') g') X.env) Q E s:=by
 rw[exec_Assign_Name_used _ _ _ _ n'];refine aM (yv (aM ?_));show aB _ A (do let _ ← MS (.ListComp elt [⟨target,k,w,0⟩] D d') D X.env _ (newList []) ak (bt k X.env) (U (kR (.Name x b) X.env))) _ _ s;refine aM (fN (EZ (ls:=ls) (a':=a') C S m' hh (fN h' (λv r d=> ?_) λL L h=> h)) (λL P hq=> bA (bA hq)) λL L e=> e);obtain⟨F1,H,p,ps,Z,f,c,M,l',G,j,B,h5,Y,h7,q,K⟩:=d;refine⟨F1,H,b',p,ps,Z,f,c,M,G,j,B,h5,Y,h7,q,λv P W c' t n a m O R u sb g hj rv=> ?_⟩;obtain⟨o,l,ep,i',k'⟩:=id O;have S2:=u.adopt i' R.2 R.1 (λmm=> by
  obtain⟨p,z,e⟩:=bz.mp mm;exact R.3 p z e) R.4
 have S3:=S2.perm dA.symm;cases rv with
 |@own p q' o' ow=>
 show aB (ay pw X.w) A (kR (.Name x b) X.env _) _ E P;refine j3 (hQ (b':=(a,o)::b') (sl:=.own (.list n)) C T j' hi S3 (y.mono (l'.trans sb)) ⟨_,_,rfl,rfl,ow⟩ λs4 R4=> ?_);obtain⟨f',e',p',S4⟩:=R4;have al:=S4.al (a,o) (bp _ (.head _));refine⟨m,⟨o,l,ep,al.1,k'⟩,λN hs=> ?_⟩;have S5:St X W c' f' (b'++e') s4:=St.drop (t:=[(a,o)]) S4;have pm:(c'++((a,o)::(b'++e'))).Perm ((a,o)::(c'++(b'++e'))):=dA;have nd:=dN.mp ((pm.map (·.1)).nodup_iff.mp S4.nd);exact K _ W c' n ⟨f',e',p',S5.off ⟨R.1,R.2,λp z e=> nd.1 (bz.mpr ⟨p,z,e⟩),R.4⟩ hs⟩ sb g hj
end
def qk:dZ:=((lx[8]?.bind NW).bind uD).elim m6 (·.2)
def U6:aw:=.BinOp (.Constant (.int 1) 0 ⟨725,44,725,45⟩) .Add (pK 2 725 48 57 58 62 64 65) ⟨725,44,725,66⟩
def z8:aw:=.Call (.Name (S "_law_drawn") ⟨725,12,725,22⟩) [.Name (S "deck") ⟨725,23,725,27⟩] [] ⟨725,12,725,28⟩
def Ab:aw:=.Call (.Name (S "range") ⟨725,38,725,43⟩) [U6] [] ⟨725,38,725,67⟩
def z7:a9:=.Assign [.Name (S "rows") ⟨725,4,725,8⟩] (.ListComp z8 [⟨.Name (S "k") ⟨725,33,725,34⟩,Ab,[],0⟩] qk ⟨725,11,725,68⟩) ⟨725,4,725,68⟩
theorem Ud(w:aV):Kept w (.ref 738):=g8 (uV w.params).top (uV w.params).na (uV w.params).data
theorem Tv{n:aa PV}(h:gW (λL q=> ∃r:Row,r.ok∧q=gG r) (λL=> ag) ps n):∃B:aa Row,bG (n=B.map gG) (B.length=ps.length) (∀r∈B,r.ok):=by
 induction h with
 |nil=> exact⟨[],rfl,rfl,λL h=> nm h⟩
 |skip _ h=> cases h
 |keep _ _ s D=>
  obtain⟨B,rfl,I,g⟩:=D;obtain⟨r,f,rfl⟩:=s;refine⟨B++[r],by simp,by simp[I],λx T=> ?_⟩;rcases dc.mp T with T |T
  ·exact g x T
  ·rw[d5.mp T];exact f
section
variable {k':ae}
theorem Yi{D:Dt}{g:av}{L:aa aj}{b:ae}{M:aa av}(C:aG X)(V:X.w=w)(T:∀F Y,X.I F Y↔IA w D g F Y∧Y.map (·.1)=M)(O:X.G=⟨jy qk.names,[S "k"],eD qk,kb,[]⟩)
  (e:X.cps=[.fn (.ref g)]) (hb:b < 800) (I:L.length < 100) (R:aX (k+2) A) {x:PV}:o7 X A (bN w g L b) (bN w g L (b+5)) z8 x (λq=> ∃r:Row,r.ok∧q=gG r):=by
 subst V;intro F Y ls b' a' s Q E Z y o K
 let z:Fz->MT->Prop:=λF Y=> X.I F Y∧bN X.w g L b F Y
 have G:bq z:=λF W Y h H n=> ⟨C.inv F W Y h.1 H n,bN.ok F W Y h.2 H n⟩
 refine EM (B:=[.J (.fn (.ref g))]) G (λB B h=> h.1) C (dU 6 z eN (X.sw z) (C.sw G) rfl rfl) rfl (by rw[O,e];kernel_rfl) (by rw[O,e];kernel_rfl) rfl (Ud _) (EO T (OG hb I)) R R (Z.sw ⟨Z.inv,o⟩) y (λB B h=> h.2) λv P W N t m u H a=> ?_
 obtain⟨rfl,j,r,f,d⟩:=a;exact K v P W N (gG r) (u.drop (t:=m)) H d ⟨r,f,rfl⟩ j
theorem Yj{D:Dt}{g:av}{L:aa aj}{b:ae}{M:aa av}(C:aG X)(e':∀F Y,X.I F Y↔IA X.w D g F Y∧Y.map (·.1)=M)(O:X.G=kx)(w:X.cps=[.fn (.ref g)])(hb:b < 900)(I:L.length < 100)(R:aX (k+1) A)
  (Z:St X F Y ls (b'++a') s) (u:bN X.w g L b F Y) (y:aR X.w F V (ls.map (·.2)) a') (K:∀v P W N (m:aj),St X W N ls (b'++a') P->Sub F W->bN X.w g L (b+1) W N->1≤m->m≤2->Den X.w W (.rng 0 m) v->Q v P):
  wpAny (ay pw X.w) A (bt Ab X.env) Q E s:=by
 let l:Fz->MT->Prop:=λF Y=> X.I F Y∧bN X.w g L b F Y
 have j:bq l:=λF W Y h sb n=> ⟨C.inv F W Y h.1 sb n,bN.ok F W Y h.2 sb n⟩
 have a:=C.sw j;have P3:Pack (X.sw l) k O₀ 6:=dU 6 l eN (X.sw l) a rfl rfl;have R0:=R.mono (hX _);refine Kv j C P3 (T:="range") rfl (by rw[O];kernel_rfl) rfl R0 (Z.sw ⟨Z.inv,u⟩) y λr F1 H S1 B=> ?_
 refine Dq ((P3.e (.Constant (.int 1) 0 ⟨725,44,725,45⟩)).read a (rv:=.J (.int 1)) (by show ev O₀ _ _ (aE 6 X.G _)=_;rw[O];kernel_rfl) R0 S1 (y.mono B) λva s2 F2 G S2 c' ra=> ?_);have S:l F2 G:=S2.inv;refine pJ (X:=X) (V:=V) (D:=D) (b:=b) (a:=2) C e' rfl (by rw[O,w];kernel_rfl) (by rw[O,w];kernel_rfl) hb I (by decide) R (S2.ho S.1) S.2 ((y.mono B).mono c') λvb s3 T f' i S3 x q i0 S d=> ?_
 refine Bu (X:=X) (f:=.Add) (rv:=.J (.int (1+i))) S3 (ra.mono x) (.J d) rfl λv4 s4 e S4 c=> ?_
 obtain⟨rfl,d4⟩:=c.eY;refine BZ (X:=X) C R.hd S4 (.cons (.J d4) .nil) (rv:=.J (.rng 0 (1+i))) rfl λvr f o t5 t d' rr=> ?_
 obtain⟨rfl,dr⟩:=rr.eY;exact K vr f o f' (1+i) t (((B.trans c').trans x).trans d') (bN.ok _ _ _ q d' λp z=> (t.al p (bk _ z)).2.1) (by lia) (by lia) dr
theorem UK{st:a9}(g':st=z7){D:Dt}{g:av}{L:aa aj}{b:ae}{M:aa av}{Q:dD->aD->Prop}(C:aG X)(n:∀F Y,X.I F Y↔IA X.w D g F Y∧Y.map (·.1)=M)(O:X.G=kx)(w:X.cps=[.fn (.ref g)])(hb:b < 700)(I:L.length < 100)(hi:10 < V.length)(R:aX (k+2) A)
  (Rr:Rl X F Y V [] s) (u:bN X.w g L b F Y) (K:∀P W N B,Rl X W N (V.set 10 (.own (fb B))) [] P->Sub F W->Rs B->bN X.w g L (b+20) W N->Q .next P):aB (ay pw X.w) A (iO st X.env) Q E s:=by
 subst g';obtain⟨ls,a',y,Z⟩:=Rr;have h':tV (.ListComp z8 [⟨.Name (S "k") ⟨725,33,725,34⟩,Ab,[],0⟩] qk ⟨725,11,725,68⟩) (U (.Name (S "rows") ⟨725,4,725,8⟩)) 725 X.env=pure ag:=by
  have h1:X.env.kindOf (S "rows")=U .local:=(eM C _).trans (by rw[O];kernel_rfl);have G:X.env.blockKind=.function:=by unfold Mg;simp[C.fn]
  unfold tV;simp only[h1,G];rfl
 refine NZ (b':=[]) (t:=S "k") C (by rw[O];rfl) (by rw[O];simp[kx,iC]) hi h' (by rw[O];kernel_rfl) rfl R.hd y ?_;refine Yj (b':=[]) C n O w (by lia) I (R.mono (hX _)) Z u y λv s1 F1 H m S1 c' l m1 m2 c=> ?_
 have hm:cb m=ag:=qp ⟨by lia,by lia⟩;have z:((dO (m - 0).toNat).map λ(k:ae)=> PV.int (0+(k:aj))).length=(m - 0).toNat:=by rw[bx,tf]
 refine⟨F1,H,.rng 0 m,(dO (m - 0).toNat).map λ(k:ae)=> PV.int (0+(k:aj)),λj=> bN X.w g L (b+1+5 * j),λω q=> ∃r:Row,r.ok∧q=gG r,λω=> ag,S1,c',c,?_,?_,.inr ⟨_,rfl⟩,l,λj=> bN.ok,λa C' i' d e' f'=> ⟨λj x T=> ?_,λj x T ω=> ?_⟩,λi p k' qs R2 l' d' o=> ?_⟩
 ·exact ct (c:=cb 0 && cb m) (by rw[hm];rfl)
 ·rw[z]
  exact bX (by lia)
 ·intro F Y ls b' a' s Q E S y o K
  exact Dz (K s F Y S (Sub.refl _) o)
 ·have m':j < (m - 0).toNat:=by have:=(eO.mp T).1;simpa using this
  have j':H.map (·.1)=M:=((n _ _).mp S1.inv).2;refine Yi (X:=a) (w:=X.w) (D:=D) (b:=b+1+5 * j) (M:=M) C' i' (λW N=> ?_) (by rw[e',O];rfl) (by rw[f'];show(gA ((eD qk).map λx=> idxOf x X.G.cs)).map _=_;rw[O,w];rfl) (by lia) I R (x:=x);rw[d];show X.I W N∧_↔_;rw[n,j'];exact⟨λh=> h.1,λh=> ⟨h,h.2⟩⟩
 ·obtain⟨B,rfl,t,f⟩:=Tv d'
  rw[z]at t o;exact K i p k' B R2 (c'.trans l') ⟨λe=> by subst e;simp at t;lia,by lia,f⟩ (bN.up o (by lia))
end
def e7(i:ae):a9:=(lx[i]?).getD (.Pass ⟨0,0,0,0⟩)
def Hu:aa a9:=[e7 5,e7 6,e7 7]
def Hv:aa a9:=[e7 9,e7 10,e7 11,e7 12,e7 13,e7 14,e7 15,e7 16,e7 17]
theorem Va:lx=z3::z4::([e7 2]++(z5::z6::(Hu++(z7::(Hv++[e7 18]))))):=by kernel_rfl
section
variable {k':ae}
theorem UN{Q:dD->aD->Prop}(C:aG X)(O:X.G=iC)(w:X.cps=[])(hI:∀F Y,X.I F Y->eb F Y){G:av}{f:af}(b':X.env.cells.lookup (S "deck")=U G)(ho:f.data=.cell ah){L:aa aj}(hL:L.length < 64)
  (R:aX 80 A) (q:Rl X F Y (.J (II L)::de 23 .un) [(G,f)] s)
  (f':∀P W r' I pA wA g M z t l B y,aG (e0 X (Dd I pA wA) g G M)->Rl (e0 X (Dd I pA wA) g G M) W r' (lS (dP I pA wA) z t l (fb B) (.own (II (bF B))) y) [] P->Rs B->
   (bH λy' rv=> dE (bg [20] (lS (dP I pA wA) z t l (fb B) (.own (II (bF B))) y)=lS (dP I pA wA) z t l (fb B) (.own (II (bF B))) y') (bO (aA I pA wA 16) [.fn (.ref g)] (lS (dP I pA wA) z t l (fb B) (.own (II (bF B))) y') (.cons (.call (.glb (S "list") (.fn (.type "list"))) (.cons (.var 11) .nil)) (.cons (.var 1) (.cons (.var 8) .nil)))=U [.own (II (bF B)),.J (dP I pA wA),.J (bY t l)]) (ev (aA I pA wA 16) [.fn (.ref g)] (lS (dP I pA wA) z t l (fb B) (.own (II (bF B))) y') mN=U rv) (rv.read=fE t l B))->aB (ay pw X.w) A (ei [e7 18] X.env) Q E P):aB (ay pw X.w) A (ei lx X.env) Q E s:=by
 rw[Va];obtain⟨x0,Z⟩:∃x,x=z3:=⟨_,rfl⟩;obtain⟨x1,n⟩:∃x,x=z4:=⟨_,rfl⟩;obtain⟨x2,j⟩:∃x,x=[e7 2]:=⟨_,rfl⟩;obtain⟨x3,e3⟩:∃x,x=z5:=⟨_,rfl⟩;obtain⟨x4,e4⟩:∃x,x=z6:=⟨_,rfl⟩;obtain⟨x5,e5⟩:∃x,x=Hu:=⟨_,rfl⟩;obtain⟨x8,u⟩:∃x,x=z7:=⟨_,rfl⟩;obtain⟨x9,h⟩:∃x,x=Hv:=⟨_,rfl⟩;rw[← Z,← n,← j,← e3,← e4,← e5,← u,← h];refine cK (UG Z C O w b' ho hL (R.mono (by decide)) q λs1 F1 H g od o1 I oa pA wA t p' q' o' V I' R1=> ?_);have g':=R1.perm (dA (l₁:=[(G,o1),(g,od)]));have p0:gb X.w I 0 F1 [(I,oa)]:=.inl ⟨rfl,oa,rfl,o'⟩;show aB (ay pw X.w) A (ei (x1::_) X.env) Q E s1;refine cK (UH n C O w V p0 (R.mono (by decide)) g' λi F2 B' G' q2 q3 D x' h2=> ?_);show aB (ay pw X.w) A (ei (x2++_) X.env) Q E i;refine w2 (W:=1000) C (lH C.inv 2) (R.mono (by decide)) x2 50 (e':=.J (II L)::.J (Dd I pA wA).pv::q2::q3::.own hT::de 19 .un) (by rw[O,w,j];kernel_rfl) D λs3 T C' R3 c'=> ?_
 obtain⟨F4,r,R4⟩:=R3.bg C [4];refine cK (UI e3 C O w V ((h2.mono c').mono r) (R.mono (by decide)) R4 λs5 F5 a H' q5 R5 z' N=> ?_);show aB (ay pw X.w) A (ei (x4::_) X.env) Q E s5;have sb:=((x'.trans c').trans r).trans z';obtain⟨F6,D',R6,k',K'⟩:=UB (pA:=pA) (wA:=wA) C hI V N p' (q'.mono sb) R5;have k:aG (e0 X (Dd I pA wA) g G (I::g::a.map (·.1))):=Uz C b';have c:(e0 X (Dd I pA wA) g G (I::g::a.map (·.1))).G=kx:=by show({X.G with cs:=[S "deck"]}:TG)=_;rw[O];rfl
 have a':(L.take 40).length < 100:=by rw[jh];lia
 refine cK (UJ e4 (k:=10) (X:=e0 X (Dd I pA wA) g G (I::g::a.map (·.1))) k (λω ω=> Iff.rfl) c rfl a' (R.mono (by decide)) R6 k' λs7 F7 E' tt l v L' l'=> ?_);show aB (ay pw X.w) A (ei (x5++_) X.env) Q E s7;obtain⟨u',hp⟩:=UD (m:=I) (pA:=pA) (wA:=wA) (k:=0) (c':=[.fn (.ref g)]) ⟨.J (II L),q2,q3,.J hT,q5,.un⟩ tt l .un (de 14 .un);refine He (n:=200) (v:=kl) k (by rw[c,e5];kernel_rfl) hp (R.mono (by decide)) v l' λs8 K F' R8 M' m'=> ?_
 refine cK (UK u (k:=10) (X:=e0 X (Dd I pA wA) g G (I::g::a.map (·.1))) k (λω ω=> Iff.rfl) c rfl (by decide) a' (by simp[fS]) (R.mono (by decide)) R8 m' λs9 F9 t' B R9 N' b n'=> ?_);show aB (ay pw X.w) A (ei (x9++_) X.env) Q E s9;obtain⟨d',w',h'⟩:=R9.bg k [10];obtain⟨y,h1,h2⟩:=UL (m:=I) (pA:=pA) (wA:=wA) (k:=0) (c':=[.fn (.ref g)]) ⟨.J (II L),q2,q3,.J hT,u',.own sR⟩ tt l B b .un ⟨.un,.un,.un,.un,.un,.un,.un,.un,.un,.un,.un,.un⟩;have j':bN X.w g (L.take 40) 22 d' t':=λd m=> let⟨p,e,o⟩:=n' d m;⟨p,e,o.mono w'⟩
 refine He (n:=200) (v:=eo) k (by rw[c,h];kernel_rfl) h1 (R.mono (by decide)) h' j' λv' e' s' i' J' A'=> ?_
 exact f' v' e' s' I pA wA g _ _ tt l B y k i' b h2
end
noncomputable abbrev iY:aa ai:=[.ref 39,.type "Exception",.type "BaseException",.type "object"]
abbrev FX:=PySem.F.excBase_Exception
section
variable {g:c8 GenState}{d:Drawn}{t:ae}{os:d7}
theorem kg:fs=excClassObj (S "BadLabel") (S "BadLabel") 52 51 [.ref 39] iY ag [] [] ak ah ah (U (.ref 43)) ah (U (.str (S "BadLabel") 231)) (U (.str (S "BadLabel") 239)) (U (.bool ag)) "Exception.__new__":=by kernel_rfl
theorem N8{M:me}{H:aa ai}{Q:fO->aD->Prop}(F:h.get? 52=U fs)(I:Q () ⟨h,g,d,t,os⟩):aB M A (ML "Exception.__new__" ⟨.ref 52::H,[]⟩) Q E ⟨h,g,d,t,os⟩:=by
 rw[kg]at F;have w:(dQ 52::iY).contains (.type "Exception")=ag:=by decide+kernel
 have u:=FX.noStar;unfold ML;rw[FX.newKind];dsimp only;rw[FX.newSplit];dsimp only;rw[FX.newRow];dsimp only
 repeat (first |refine my F ?_ |(refine yt F ?_;rw[w]) |refine wpAny_staticBase_exc F ?_ |refine Nf F ?_ |rw[bW (show ¬((!ag)=ag) by decide)] |rw[bZ (show("__new__"=="__new__")=ag by decide)] |rw[bne_self_eq_false,bW (show ¬(ak=ag) by decide)] |wp_step)
 exact I
noncomputable abbrev excOf(C c:av):af:={cls:=.ref C,data:=.fields #[.ref c,.none,.none,.none,.bool ak,.none]}
theorem Oe{prog:mf}{R:iM->aD->Prop}{H:aa ai}(F:h.get? 52=U fs)(f:H.length≤ej)
  (I:R (.ok (.ret (.ref (h.objs.size+1)))) ⟨(h.push {cls:=.type "tuple",data:=.seq H.toArray}).push (excOf 52 h.objs.size),g,d,t,os⟩):gv (ay prog w) A (.builtin "Exception.__new__" ⟨.ref 52::H,[]⟩) R ⟨h,g,d,t,os⟩:=by
 rw[kg]at F;have b:=FX.ends;have a:(dQ 52::iY).contains (.type "Exception")=ag:=by decide+kernel
 have Q:(dQ 52::iY).contains (.type "AttributeError")=ak:=by decide+kernel
 have X:(dQ 52::iY).contains (.type "NameError")=ak:=by decide+kernel
 refine codeAny_builtinAt FX.entry ?_;unfold Builtin.«BaseException.__new__»;refine _root_.PySem.wpAt_bind ?_;show _root_.PySem.wpAt _ _ _ (stack >>=_) _ _ _;refine _root_.PySem.wpAt_bind (_root_.PySem.wpAt_stack λp c=> _root_.PySem.wpAt_of_wpAny ?_)
 wp_walk
 refine _root_.PySem.wpAt_of_wpAny ?_;rw[FX.owner]
 repeat (first |with_reducible refine wpAny_madeHere_exc FX.canon F ?_ |with_reducible refine my F ?_ |(with_reducible refine yt F ?_;first |rw[a] |rw[Q] |rw[X]) |wp_step)
 show R _ _;rw[tA];exact I
theorem Oa{M:me}{m1 D:ao->aq ai}{Q:aq ai->aD->Prop}(F:h.get? 52=U fs)(W:h.get? 39=U i8)(K:h.Ns 51 m1)(y:h.Ns 38 D)(n:m1 "__init__"=ah)(j:D "__init__"=U v)
  (I:Q (U v) ⟨h,g,d,t,os⟩):aB M A (typeLookup (.ref 52) "__init__") Q E ⟨h,g,d,t,os⟩:=by
 rw[kg]at F;rw[typeLookup_eq];refine aM (wpAny_mroOf_exc F ?_);rw[MX];refine aM (wpAny_classOwn_exc F K ?_);rw[n];show aB _ _ (lookupAlong iY _) _ _ _;rw[MX];refine aM ?_;unfold classOwn classData;refine aM (aM (wpAny_load W ?_));show aB _ _ (pure _) _ _ _;refine bA (wpAny_nsGet y ?_);rw[j];exact bA I
theorem Od{prog:mf}{m1 D:ao->aq ai}{H:aa ai}{c:av}{i:af}{Q:Fin->aD->Prop}(F:h.get? 52=U fs)(W:h.get? 39=U i8)(K:h.Ns 51 m1)(y:h.Ns 38 D)(n:m1 "__init__"=ah)(j:D "__init__"=U (.ref c))
  (z:h.get? c=U i) (s:i.cls=.type "function") (f:H.length≤ej)
  (I:aB (ay prog w) A (bQ (.ref c) (.ref (h.objs.size+1)::H)) (λr P=> r=.none∧Q (.done (.ret (.ref (h.objs.size+1)))) P) E ⟨(h.push {cls:=.type "tuple",data:=.seq H.toArray}).push (excOf 52 h.objs.size),g,d,t,os⟩):
  wpAny (ay prog w) A (Builtin.«type.__call__» ⟨.ref 52::H,[]⟩) Q E ⟨h,g,d,t,os⟩:=by
 have k:∀b o,h.get? b=U o->((h.push {cls:=.type "tuple",data:=.seq H.toArray}).push (excOf 52 h.objs.size)).get? b=U o:=λb o e=> ew _ (ew _ e)
 have q:=F;have u:∀{N:av} {m:ao->aq ai},h.Ns N m->((h.push {cls:=.type "tuple",data:=.seq H.toArray}).push (excOf 52 h.objs.size)).Ns N m:=λ⟨o,l,v,e,r⟩=> ⟨o,l,v,k _ _ e,r⟩
 rw[kg]at F
 repeat (first |with_reducible refine my F ?_ |with_reducible refine Nf F ?_ |wp_step)
 refine codeAny_call_builtin_code (Me _ FX.quiet) (N8 q ?_);refine Oe q f ?_;show aB _ _ _ _ _ _;have L:((h.push {cls:=.type "tuple",data:=.seq H.toArray}).push (excOf 52 h.objs.size)).get? (h.objs.size+1)=U (excOf 52 h.objs.size):=by heap_get
 have a:(dQ 52::iY).contains (.ref 52)=ag:=by decide+kernel
 unfold Dk
 repeat (first |with_reducible refine my L ?_ |(with_reducible refine yt (k _ _ F) ?_;rw[a]) |wp_step)
 show aB _ _ (typeLookup (.ref 52) _) _ _ _;refine Oa (k _ _ q) (k _ _ W) (u K) (u y) n j ?_;refine mw (aM ?_);unfold bindSpecial;refine aM (yw ⟨_,k _ _ z,s⟩ ?_);rw[bZ (by decide)];refine bA (aM (fN I (λr P f=> ?_) λB B x=> x));obtain⟨rfl,p⟩:=f
 wp_walk
 exact p
theorem N7{prog:mf}{m1 D:ao->aq ai}{H:aa ai}{c:av}{i:af}(F:h.get? 52=U fs)(W:h.get? 39=U i8)(K:h.Ns 51 m1)(y:h.Ns 38 D)(n:m1 "__init__"=ah)(j:D "__init__"=U (.ref c))
  (l:h.get? c=U i) (s:i.cls=.type "function") (f:H.length≤ej)
  (I:aB (ay prog w) (A.under (.builtin "type.__call__" ⟨.ref 52::H,[]⟩)) (bQ (.ref c) (.ref (h.objs.size+1)::H)) (λr P=> r=.none∧Q (.ref (h.objs.size+1)) P) E ⟨(h.push {cls:=.type "tuple",data:=.seq H.toArray}).push (excOf 52 h.objs.size),g,d,t,os⟩):
  wpAny (ay prog w) A (bQ (.ref 52) H) Q E ⟨h,g,d,t,os⟩:=by
 have f1:=tc_lookup;have O:=tc_bind (.ref 52);have q:=F;rw[kg]at F;have k:(⟨h,g,d,t,os⟩:aD).TypeIs (.ref 52) "type":=⟨_,F,rfl⟩;refine iQ (codeAny_of_tree ?_);show aB _ _ (callAny (.ref 52) _) _ _ _
 repeat (any_goals (first |assumption |with_reducible refine my F ?_ |wp_step))
 refine⟨rfl,?_⟩;exact codeAny_call_builtin_at (Me _ (by decide+kernel)) entry_typeCall (wpAny_check_type_call_sub F (Od q W K y n j l s f I))
end
def KX(P:aT):kQ:=[(52,fs),(51,lG P),(39,i8),(38,lF P),(36,gF)]
theorem Uo(P:aT):jo (KX P) (.ref 52) "__setattr__"=U (U (.builtin "object.__setattr__")):=by kernel_rfl
theorem G6(P:aT):jo (KX P) (.ref 52) (S "told")=U ah:=by kernel_rfl
theorem Un(P:aT):(clsIn (KX P) 52).map (·.mro)=U (.ref 52::iY):=by kernel_rfl
theorem G4(P:aT):(clsIn (KX P) 52).map (·.hasDict)=U ag:=by kernel_rfl
theorem X5(a:ai):refuseLoop a "__setattr__" (.ref 52::iY)=pure ():=by kernel_rfl
abbrev zt(C c D:av):af:={excOf C c with dict:=U D}
theorem ZI{R:iM->aD->Prop}{e c:av}{V:fM}(X:(KX w.params).In s.heap)(f:s.heap.get? e=U (excOf 52 c))
  (K:R (.ok (.ret .none)) {s with heap:=((s.heap.push dR).update e (λo=> {o with dict:=U s.heap.objs.size})).update s.heap.objs.size (gr (S "told") (fK w.params (S "told")) (.str (S "told") s.toks) v),toks:=s.toks+1}):
  gv (ay pw w) A (.call (.builtin "object.__setattr__") ⟨[.ref e,.str (S "told") V,v],[]⟩) R s:=by
 have I:InstAt s.heap e (excOf 52 c) 52 ah:=⟨f,rfl,rfl,trivial⟩;have a:=PySem.F.store_object;obtain⟨i,l,h⟩:=jj.mp (Un w.params);obtain⟨j,P,b⟩:=jj.mp (G4 w.params);rw[l]at P;cases P;have sub:tH (ay pw w) s.heap (Dk (.ref e) (.type "object")) ag:=I.type.andThen (looks_mroIn X (by kernel_rfl));have O:tH (ay pw w) s.heap (mroOf (.ref 52)) i.mro:=(C2 X l).andThen .now;refine MN a.slot.plain a.entry (@check_slot (ay pw w) _ _ _ "object.__setattr__" "object" "__setattr__" (.ref e) [.str (S "told") V,v] [] _ a.kind a.split sub (a.args (.ref e) (.str (S "told") V) v) ?_);rw[osa_eq,refuse_eq];refine aM (aM (I.type.here (aM (O.here ?_))));rw[h,X5];refine bA (aM (I.type.here (aM ((x8 X (G6 _)).here (aM ?_)))));have E:(s.heap.push dR).get? s.heap.objs.size=U dR:=fh _ rfl;have M:=ew dR f;have k:=e3 (dy f);have B:((s.heap.push dR).update e (λo=> {o with dict:=U s.heap.objs.size})).get? s.heap.objs.size=U dR:=(jl _ _ k).trans E;show aB _ _ (pure ah) _ _ _;refine bA ?_;show aB _ _ (aaP (.ref e) (.ref 52) (.str (S "told") V) (S "told") v ak) _ _ _;refine aM (bA (aM (aM (yu f (aM ((C2 X l).here ?_))))));rw[b];show aB _ _ (alloc dR >>=λd=> update e (λo=> {o with dict:=U d}) >>=λL=> pure (U d)) _ _ _;refine aM (wpAny_alloc (aM (wpAny_update M (bA ?_))));show aB _ _ (aaO s.heap.objs.size (.str (S "told") V) (S "told") v) _ _ _;refine aM (bA (aM ?_));unfold nsSet;have g:(((s.heap.push dR).update e (λo=> {o with dict:=U s.heap.objs.size})).update s.heap.objs.size (gr (S "told") (fK w.params (S "told")) (.str (S "told") s.toks) v)).get? s.heap.objs.size=U (gr (S "told") (fK w.params (S "told")) (.str (S "told") s.toks) v dR):=
  jm _ B rfl
 refine aM (aM (M8 (bA (aM (Dw (aM (yu B ?_)))))));show aB _ _ (if aRefKeyMayBeTheName (S "told") #[]=ag then _ else _) _ _ _;rw[bW (by decide+kernel)];refine Nk B (aM (Nd g (by kernel_rfl) (bA K)))
theorem told_set{e c:av}{Q:fO->aD->Prop}(X:(KX w.params).In s.heap)(f:s.heap.get? e=U (excOf 52 c))
  (K:Q () {s with heap:=((s.heap.push dR).update e (λo=> {o with dict:=U s.heap.objs.size})).update s.heap.objs.size (gr (S "told") (fK w.params (S "told")) (.str (S "told") (s.toks+1)) v),toks:=s.toks+2}):
  wpAny (ay pw w) A (setAttr (.ref e) (S "told") v) Q E s:=
 C5 (od:=ah) X ⟨f,rfl,rfl,trivial⟩ (Uo _) (ZI X f K)
theorem Ui(P:aT):(KX P).all (λq=> decide (q.1 < 763) && !(q.1==cu))=ag:=by kernel_rfl
theorem Um(P:aT):(KX P).map (λq=> (ft P).get q.1)=(KX P).map (λq=> U q.2):=by kernel_rfl
theorem Uj(P:aT):(KX P).all (λq=> !q.2.isFreed)=ag:=by kernel_rfl
theorem G5(T:mC w h):(KX w.params).In h:=λa o e=> by
 have m:=Gn e;have M:=eh.mp (Ui w.params) _ m;have G:=Ah (Um w.params) _ m;have j:=eh.mp (Uj w.params) _ m;simp only[cP,fQ,hV,kY]at M;exact T a o M.2 (eA G M.1 (by simpa using j))
theorem Sw(P:aT):fj P 36 gF (fdOf gF) (cw gF) (ep gF) nV (dr gF) (restOf gF) GS 2 [] []:=
 i1 (by kernel_rfl) (by kernel_rfl) (by kernel_rfl) (by kernel_rfl) (by kernel_rfl) (λs T=> b2 λL L=> .of_defaults rfl (T 29 nQ (by decide) (eA (by kernel_rfl) (by decide) (by kernel_rfl))) rfl rfl rfl) (λw F=> .nil) (iy P)
def Kp:a9:=.Assign [(.Attribute (.Name (S "self") ⟨11,8,11,12⟩) (S "told") ⟨11,8,11,17⟩)] (.Name (S "told") ⟨11,20,11,24⟩) ⟨11,8,11,24⟩
theorem ZE:cw gF=[Kp]:=by kernel_rfl
theorem ZH(d:Den w F p v):bB w F (.aW [S "told"] [p]) (gr (S "told") (fK w.params (S "told")) (.str (S "told") t) v dR):=(BB Fx d).1
theorem Oc(T:d1 w.params F)(B:∀a o,F a=U o->s.heap.get? a=U o)(D:Den w F p v)(R:aX 4 A)
  (b':∀P e c dx dd,(∀b o,s.heap.get? b=U o->P.heap.get? b=U o)->P.gens=s.gens->P.os=s.os->s.heap.get? e=ah->s.heap.get? dx=ah->e≠dx->P.heap.get? e=U (zt 52 c dx)->P.heap.get? dx=U dd->bB w F (.aW [S "told"] [p]) dd->Q (.ref e) P):
  wpAny (ay pw w) A (bQ (.ref 52) [v]) Q E s:=by
 obtain⟨h,g,d,t,os⟩:=s;have TI:=T.in B;have hC:=TI 52 fs (by decide) (eA (by kernel_rfl) (by decide) (by kernel_rfl));have W:=TI 39 i8 (by decide) (eA (by kernel_rfl) (by decide) (by kernel_rfl));have e':h.get? 51=U (lG w.params):=TI 51 _ (by decide) (eA (by kernel_rfl) (by decide) (by kernel_rfl));have d':h.get? 38=U (lF w.params):=TI 38 _ (by decide) (eA (by kernel_rfl) (by decide) (by kernel_rfl));have c':=TI 36 gF (by decide) (eA (by kernel_rfl) (by decide) (by kernel_rfl));refine N7 hC W (qu e' (by kernel_rfl)) (qu d' (by kernel_rfl)) (by kernel_rfl) (by kernel_rfl) c' rfl (by show 1≤ej;decide) ?_
 let G:=(h.push {cls:=.type "tuple",data:=.seq [v].toArray}).push (excOf 52 h.objs.size)
 have k2:∀b o,h.get? b=U o->G.get? b=U o:=λb o e=> ew _ (ew _ e)
 have f:G.get? (h.objs.size+1)=U (excOf 52 h.objs.size):=by
  have:=fh (h.push {cls:=.type "tuple",data:=.seq [v].toArray}) (o:=excOf 52 h.objs.size) rfl
  rwa [tA]at this
 have Z:h.get? (h.objs.size+1)=ah:=e2 (hX _);have R2:aX 3 (A.under (.builtin "type.__call__" ⟨.ref 52::[v],[]⟩)):=R.to R.hd (d:=1) (L6 ..) (by decide) (Hy A 52 [v]) (by decide);refine iQ (uy (I:=λL Y=> Y=[]) (k:=2) (F:=F) (Y:=[]) (args:=[.fn (.ref (h.objs.size+1)),p]) (s:=⟨G,g,d,t,os⟩) (Sw w.params) (λL L L h L L=> h) rfl R2 T rfl (.cons (.fn _) (.cons D .nil)) (λb o e=> k2 _ _ (B b o e)) (λp z=> nm z) gm λu r C hw n hG j' V x i' f' R3 RL=> ?_);subst hw;obtain⟨ls,a',y,S0⟩:=RL;have I:u.G.ns=[S "self",S "told"]:=by rw[hG];kernel_rfl
 obtain⟨K,g',j⟩:=y.get (i:=0) rfl rfl;obtain⟨X,h',r1⟩:=y.get (i:=1) rfl rfl;have l:Den u.w F p X:=r1.eY.2;obtain rfl:K=.ref (h.objs.size+1):=j.eY.2.inv;have i:∀b o,G.get? b=U o->r.heap.get? b=U o:=λb o e=> S0.ext.keep b o (by rw[x];exact e) (by rw[f'];exact λm=> nm m)
 have M:=i _ _ f;have O:h.get? r.heap.objs.size=ah:=by
  cases q:h.get? r.heap.objs.size with
  |none=> rfl
  |some o=> exact bf (dy (i _ _ (k2 _ _ q))) (fH _)
 have k:h.objs.size+1≠r.heap.objs.size:=e3 (dy M);rw[ZE];unfold Kp;refine cK (Dm (fV (X:=u) C (by rw[I];rfl) S0 h' (fV (X:=u) C (by rw[I];rfl) S0 g' (told_set (G5 (S0.top.in S0.J)) M ?_))) rfl);have N:(r.heap.push dR).get? (h.objs.size+1)=U (excOf 52 h.objs.size):=ew _ M;have H:((r.heap.push dR).update (h.objs.size+1) (λo=> {o with dict:=U r.heap.objs.size})).get? (h.objs.size+1)=U (zt 52 h.objs.size r.heap.objs.size):=jm _ N rfl;have w1:((r.heap.push dR).update (h.objs.size+1) (λo=> {o with dict:=U r.heap.objs.size})).get? r.heap.objs.size=U dR:=(jl _ _ k).trans (fh _ rfl);refine fi ⟨rfl,b' _ (h.objs.size+1) h.objs.size r.heap.objs.size _ (λb o e=> ?_) (S0.ext.gens.trans (by rw[x])) (S0.ext.os.trans (by rw[x])) Z O k ((jl _ _ k.symm).trans H) (jm _ w1 rfl) (ZH l)⟩;have b1:h.objs.size+1≠b:=λq=> by rw[← q]at e;rw[show h.get? (h.objs.size+1)=U o from e]at Z;cases Z
 have b2:r.heap.objs.size≠b:=λq=> by rw[← q]at e;rw[show h.get? r.heap.objs.size=U o from e]at O;cases O
 exact(jl _ _ b2).trans ((jl _ _ b1).trans (ew _ (i _ _ (k2 _ _ e))))
noncomputable def ef(l:aa fJ):aa av:=l.filterMap (·.frame)
def NI(f' h:cc)(e dx:av)(Z:c8 ai):aq ai->Prop
 |none=> Z[1]?=U .none
 |some fl=> ea λT z c=> yz (Z[1]?=U (.ref T)) (f'.get? T=ah) (T≠e) (T≠dx) (h.get? T=U z) (z.data=.fields c) (c[3]?=U fl)
structure Exc(h₀:cc)(S:aa av)(l:aa fJ)(e dx:av)(dd:af)(fl:aq ai)(h:cc):Prop where
 sub:∀b∈ef l,b∈S
 s0:∀b∈S,∃o,h₀.get? b=some o∧∀vs,o.data≠.fields vs
 keep:∀b o,b∉S->h₀.get? b=some o->h.get? b=some o
 slot:∀b o,h₀.get? b=some o->(∀vs,o.data≠.fields vs)->∃sl,h.get? b=some {o with slots:=sl}
 fun_:h.FunFrames {} l
 en:h₀.get? e=none
 dn:h₀.get? dx=none
 ne:e≠dx
 dxf:dx∉S
 dat:h.get? dx=some dd
 dnf:∀vs,dd.data≠.fields vs
 at_:∃vs,bG (h.get? e=some {cls:=.ref 52,dict:=some dx,data:=.fields vs}) (1 < vs.size) (NI h₀ h e dx vs fl)
theorem VK(b:av):({}:cc).get? b=ah:=by unfold Heap.get?;simp
section
variable {M:me}{f':cc}{S:aa av}{l h':aa fJ}{e dx L:av}{dd:af}{fl:aq ai}{Q:fO->aD->Prop}
theorem SJ{b:av}{Z:c8 ai}(I:h.FunFrames {} l)(hb:h.get? b=U o)(u:o.data=.fields Z):b∉ef l:=λO=> by
 obtain⟨_,o',R,i⟩:=I.mem O;rw[hb]at R;cases R;exact i Z u
theorem FA{Z:c8 ai}{m:ai}{I:au}{K:aq ai}(r:A.frames=U (D::h'))(t:D.frame=U L)(X:Exc f' S (D::h') e dx dd K s.heap)(f:s.heap.get? e=U {cls:=.ref 52,dict:=U dx,data:=.fields Z})(d:1 < Z.size)
  (h:∀N,Exc f' S (D::h') e dx dd (U (gQ L)) N->Q () {s with heap:=N}):
  wpAny M A (do let a ← frameOf D;let R ← entryPlaceOf L I;let b ← Mf m a .none (gQ L) .none R;setField (.ref e) 1 b) Q E s:=by
 have P:=SJ X.fun_ f rfl;refine aM (wpAny_frameOf_fun r X.fun_ t λl c=> ?_);refine aM (wpAny_entryPlaceOf λR z=> ?_);unfold Mf newFields;refine aM (o2 ?_ (z.sizeOk5 _ _ _ _ _));have y:l.get? e=U {cls:=.ref 52,dict:=U dx,data:=.fields Z}:=(c.2.1 e P).trans f
 let w:af:={cls:=.type "traceback",dict:=ah,data:=.fields ([m,.ref L,.none,gQ L,.none]++(if R.isEmpty then de 6 jZ else R)).toArray}
 have C:=ew w y;refine Dy C rfl d (h _ ?_);have p:=tn (dy y);have k:∀b o,b≠e->l.get? b=U o->((l.push w).update e (x1 (·.setIfInBounds 1 (dQ l.objs.size)))).get? b=U o:=λb o F hb=> by
  rw[jl _ _ (gM F)];exact ew _ hb
 have G:∀b o,f'.get? b=U o->b≠e:=λb o hb q=> by rw[q,X.en]at hb;cases hb
 have T:f'.get? l.objs.size=ah:=by
  cases q:f'.get? l.objs.size with
  |none=> rfl
  |some o=>
   by_cases O:l.objs.size∈S
   ·obtain⟨v,V,i⟩:=X.s0 _ O
    obtain⟨sl,B⟩:=X.slot _ _ V i;have:=dy B;rw[← c.1]at this;exact bf this (fH _)
   ·have:=dy (X.keep _ o O q)
    rw[← c.1]at this;exact bf this (fH _)
 have H:=(c.2.1 dx λO=> X.dxf (X.sub _ O)).trans X.dat;refine⟨X.sub,X.s0,λb o hb x=> k b o (G b o x) ((c.2.1 b λO=> hb (X.sub _ O)).trans (X.keep b o hb x)),λb o x i=> ?_,?_,X.en,X.dn,X.ne,X.dxf,k _ _ X.ne.symm H,X.dnf,Z.setIfInBounds 1 (.ref l.objs.size),?_,by simpa using d,?_⟩
 ·obtain⟨sl,n⟩:=X.slot b o x i
  obtain⟨u,j⟩:=c.2.2 b _ n;exact⟨u,k b _ (G b o x) j⟩
 ·refine X.fun_.of_keeps λb o hb i=> ?_
  obtain⟨sl,g⟩:=c.2.2 b o hb;exact⟨_,k b _ (λq=> by rw[q,f]at hb;cases hb;exact i Z rfl) g,rfl⟩
 ·exact jm _ C rfl
 ·refine⟨l.objs.size,w,_,by simp[d],T,p,tn (dy H),?_,rfl,?_⟩
  ·rw[jl _ _ p.symm];exact fh _ rfl
  ·first |(simp;done) |(rcases z with rfl |⟨_,_,_,_,_,_,_,rfl⟩ <;> simp)
theorem zx{c:aq av}(X:Exc f' S l e dx dd (U f) s.heap)(h:∀N,Exc f' S l e dx dd (U (c.elim .none λa=> gQ a)) N->Q () {s with heap:=N}):aB M A (yo (.ref e) c) Q E s:=by
 obtain⟨Z,t,d,T,z,F,r,u,p,v,k,m,j⟩:=X.at_;have w:=(KS.mp j).1;have g:∀b,b≠T->(s.heap.update T (x1 (·.setIfInBounds 3 (c.elim jZ λf=> gQ f)))).get? b=s.heap.get? b:=λb hb=> jl _ _ (gM hb)
 have y:∀b o,f'.get? b=U o->b≠T:=λb o hb q=> by rw[q,u]at hb;cases hb
 unfold yo;refine aM (mv t rfl r ?_);rw[bZ (by simp)];refine Dy k m w (h _ ⟨X.sub,X.s0,λb o hb x=> (g b (y b o x)).trans (X.keep b o hb x),λb o x i=> ?_,?_,X.en,X.dn,X.ne,X.dxf,(g _ v.symm).trans X.dat,X.dnf,Z,(g _ p.symm).trans t,d,T,_,_,r,u,p,v,
  jm _ k (Mz (xZ m _)),xZ m _,by simp[w]⟩)
 ·obtain⟨sl,n⟩:=X.slot b o x i
  exact⟨sl,(g b (y b o x)).trans n⟩
 ·exact X.fun_.of_keeps λb o hb i=> ⟨o,(g b λq=> by rw[q,k]at hb;cases hb;exact i F m).trans hb,rfl⟩
theorem VR(r:A.frames=U (D::h'))(t:D.frame=U L)(X:Exc f' S (D::h') e dx dd ah s.heap)(h:∀N,Exc f' S (D::h') e dx dd (U (gQ L)) N->Q () {s with heap:=N}):aB M A (oY (.ref e) D) Q E s:=by
 obtain⟨Z,f,d,g⟩:=id X.at_;unfold oY;simp only[t];refine aM (mv f rfl g ?_);rw[bW (by decide)];exact FA r t X f d h
theorem VS(r:A.frames=U (D::h'))(t:D.frame=U L)(X:Exc f' S (D::h') e dx dd (U .none) s.heap)(h:∀N,Exc f' S (D::h') e dx dd (U (gQ L)) N->Q () {s with heap:=N}):aB M A (oY (.ref e) D) Q E s:=by
 obtain⟨Z,f,d,T,z,c,l,u,p,v,k,m,j⟩:=id X.at_;have w:=(KS.mp j).1;have g:∀b,b≠T->(s.heap.update T (x1 (·.setIfInBounds 3 jZ))).get? b=s.heap.get? b:=λb hb=> jl _ _ (gM hb)
 have y:∀b o,f'.get? b=U o->b≠T:=λb o hb q=> by rw[q,u]at hb;cases hb
 unfold oY;simp only[t];refine aM (mv f rfl l ?_);rw[bZ (by simp)];refine aM (mv k m j ?_);rw[bW (by simp[gQ])];refine aM (Dy k m w ?_);have a:Exc f' S (D::h') e dx dd (U .none) (s.heap.update T (x1 (·.setIfInBounds 3 jZ))):=by
  refine⟨X.sub,X.s0,λb o hb x=> (g b (y b o x)).trans (X.keep b o hb x),λb o x i=> ?_,?_,X.en,X.dn,X.ne,X.dxf,(g _ v.symm).trans X.dat,X.dnf,Z,(g _ p.symm).trans f,d,T,_,_,l,u,p,v,
   jm _ k (Mz (xZ m _)),xZ m _,by simp[w]⟩
  ·obtain⟨sl,n⟩:=X.slot b o x i
   exact⟨sl,(g b (y b o x)).trans n⟩
  ·exact X.fun_.of_keeps λb o hb i=> ⟨o,(g b λq=> by rw[q,k]at hb;cases hb;exact i c m).trans hb,rfl⟩
 exact FA r t a ((g _ p.symm).trans f) d h
theorem UR(r:A.frames=U (D::h'))(t:D.frame=U L)(X:Exc f' S (D::h') e dx dd ah s.heap)(h:∀N,Exc f' S (D::h') e dx dd (U .none) N->Q () {s with heap:=N}):aB M A (tS D (.ref e)) Q E s:=by
 unfold tS;refine aM (VR r t X λd a=> ?_);exact zx a λG p=> h G p
theorem Exc.out{f:aq ai}(X:Exc f' S (D::h') e dx dd f h):Exc f' S h' e dx dd f h:=
 ⟨λb hb=> X.sub b (by
   unfold ef at hb⊢;rw[lX]
   split
   ·exact hb
   ·exact .tail _ hb),X.s0,X.keep,X.slot,X.fun_.2.2,X.en,X.dn,X.ne,X.dxf,X.dat,X.dnf,X.at_⟩
end
theorem Uk(P:aT):jo (KX P) (.ref 52) "__getattribute__"=U (U (.builtin "BaseException.__getattribute__")):=by kernel_rfl
theorem Ul(P:aT):jo (KX P) (.ref 52) "__getattr__"=U ah:=by kernel_rfl
theorem X1{prog:mf}{x:d8 ai}{Q:dD->aD->Prop}(C:A.handled=ah)
  (h:aB (ay prog w) A x (λv m=> ea λe c dx=> dE (v=.ref e) (m.heap.get? 52=U fs) (m.heap.get? e=U (zt 52 c dx)) (E (.ref e) m)) E s):aB (ay prog w) A (raiseStmt D (U x) ah) Q E s:=by
 have a:(dQ 52::iY).contains (.type "BaseException")=ag:=by decide+kernel
 unfold raiseStmt;refine aM (fN h (λv m l=> ?_) λL L x=> x);obtain⟨e,c,dx,rfl,F,f,u⟩:=l;obtain⟨z,g,d,V,os⟩:=m;rw[kg]at F
 repeat (first |with_reducible refine my f ?_ |with_reducible refine my F ?_ |(with_reducible refine yt F ?_;rw[a]) |wp_step)
 exact wpAny_raiseNew_none C u
theorem ZF{dd:af}(h:bB w F (.aW [S "told"] [p]) dd):∃v,tJ (KX P) 52 (U dd) (S "told")=U (.value v)∧Den w F p v:=by
 obtain⟨M,q,m,l⟩:=h;obtain⟨v,e,d⟩:=(iZ l (S "told")).1 p (by rw[m];kernel_rfl);refine⟨v,?_,d⟩;have I:=i4 q (S "told");obtain⟨i,f,b⟩:=jj.mp (G4 P);unfold tJ;rw[f,G6];show(W.ownOf i (U dd) (S "told")).bind _=_;unfold W.ownOf;rw[bZ b];show(hY (S "told") dd).bind _=_;rw[I,e];rfl
theorem ZG{e:av}{b:af}{dd:af}{f:au}(X:(KX w.params).In s.heap)(I:InstAt s.heap e b 52 (U dd))(n:tJ (KX w.params) 52 (U dd) (S "told")=U (.value v))(a:C1 v=ag)(h:∀k,Q v {s with toks:=k}):
  wpAny (ay pw w) A (oU (.ref e) (S "told") f) Q E s:=by
 obtain⟨C,g,d,t,os⟩:=s;have L0:=I.type (M:=ay pw w);have c:=x8 (M:=ay pw w) X (Uk w.params);have j:=x8 (M:=ay pw w) X (Ul w.params);have l:=looks_find (M:=ay pw w) X I n;have m:tH (ay pw w) C (Dk (.ref e) (.type "BaseException")) ag:=I.type.andThen (looks_mroIn X (by kernel_rfl));have i:=Mo.ga.bind (.ref e);have H:(f && onTheHeap (Value.builtin "BaseException.__getattribute__"))=ak:=by cases f <;> rfl
 unfold oU getAttrBy;refine aM (Dw (mw (aM (L0.at (aM (c.at ?_))))));show aB _ _ (MU (.ref e) (.str (S "told") t) (.ref 52) (.builtin "BaseException.__getattribute__") ag f) _ _ _;unfold MU hookBefore;refine aM (j.at ?_);refine aM (wpAny_attempt (mw ?_));unfold callGetattribute;rw[H];rw[bW (by decide)];unfold boundAndCalled;rw[i];refine aM (bA (iQ (MN Mo.ga.plain PySem.F.entry_bexc_ga (@check_slot (ay pw w) _ _ _ "BaseException.__getattribute__" "BaseException" "__getattribute__" (.ref e) [.str (S "told") t] [] _ (by decide+kernel) (by decide+kernel) m (PySem.F.args_bexc_ga _ _) ?_))));unfold Builtin.«object.__getattribute__»;refine aM (bA (aM (bA (aM (L0.at (aM (l.at ?_)))))));refine bA ?_;show aB _ _ (handedOut v) _ _ _;rw[handedOut_of a];exact bA (h _)
theorem Tz{e:av}{t:aw}{n:ao}{u:a9}{i:aa a9}{H:aa xV}{Q:dD->aD->Prop}
  (h:aB (ay pw w) (A.mark (U (.ref e))) (bt t D) (λc m=> dE (c=.ref 52) (m.heap.get? 52=U fs) ((∃b,m.heap.get? e=U b∧b.cls=.ref 52)) (aB (ay pw w) (A.mark (U (.ref e))) (yo (.ref e) ah) (λL j=>
     wpAny (ay pw w) (A.mark (U (.ref e))) (tU D n (.ref e)) (λL a=>
      wpAny (ay pw w) (A.mark (U (.ref e))) (ei (u::i) D)
       (λf k=> aB (ay pw w) A (do yc D n .none;M5 D n d') (λL o=> Q f o) E k)
       (AsSuiteRaised (ay pw w) (A.mark (U (.ref e))) D n d' (yl (ay pw w) (A.mark (U (.ref e))) D (yg (ay pw w) A D E))) a) (yl (ay pw w) (A.mark (U (.ref e))) D (yg (ay pw w) A D E)) j) (yl (ay pw w) (A.mark (U (.ref e))) D (yg (ay pw w) A D E)) m)) (yl (ay pw w) (A.mark (U (.ref e))) D (yg (ay pw w) A D E)) s):
  wpAny (ay pw w) A (handleBy (.ref e) D (.ExceptHandler (U t) (U n) (u::i) d'::H)) Q E s:=by
 refine wpAny_handleBy_cons (codeAny_handlers_test (fN h (λc m l=> ?_) λL L y=> y)) (by intro q;cases q);obtain⟨rfl,F,⟨b,r,p⟩,W⟩:=l;obtain⟨C,g,d,V,os⟩:=m;rw[kg]at F;exact wpAny_excMatches_sub_self F r p (by decide+kernel) (codeAny_handlers_suite_as W)
structure Hd(h₀:cc)(S:aa av)(L:av)(h:cc):Prop where
 keep:∀b o,b∉S->h₀.get? b=some o->h.get? b=some o
 slot:∀b∈S,b≠L->∀o,h₀.get? b=some o->∃sl,h.get? b=some {o with slots:=sl}
theorem Hd.same{f' N:cc}{S:aa av}{L:av}(c:Hd f' S L h)(A:L∈S)(g:gO L h N):Hd f' S L N:=
 ⟨λb o hb x=> (g.2 b λq=> hb (q ▸ A)).trans (c.keep b o hb x),λb hb Z o x=> let⟨sl,e⟩:=c.slot b hb Z o x;⟨sl,(g.2 b Z).trans e⟩⟩
theorem Hd.more{f' N:cc}{S:aa av}{L:av}(c:Hd f' S L h)(k:∀b o,h.get? b=U o->N.get? b=U o):Hd f' S L N:=
 ⟨λb o hb x=> k _ _ (c.keep b o hb x),λb hb Z o x=> let⟨sl,e⟩:=c.slot b hb Z o x;⟨sl,k _ _ e⟩⟩
theorem Exc.hd{f':cc}{S:aa av}{l:aa fJ}{e dx L:av}{dd:af}{fl:aq ai}(X:Exc f' S l e dx dd fl h):Hd f' S L h:=
 ⟨X.keep,λb hb t o x=> by
  obtain⟨o',M,Z⟩:=X.s0 b hb;rw[x]at M;cases M;exact X.slot b o x Z⟩
def z9:xV:=.ExceptHandler (U (.Name (S "BadLabel") ⟨709,11,709,19⟩)) (U (S "e")) [.Assign [.Name (S "found") ⟨710,8,710,13⟩] (.Tuple [.Constant (.str (S "refused")) 0 ⟨710,17,710,26⟩,.Call (.Name (S "list") ⟨710,28,710,32⟩) [.Attribute (.Name (S "e") ⟨710,33,710,34⟩) (S "told") ⟨710,33,710,39⟩] [] ⟨710,28,710,40⟩] 0 ⟨710,16,710,41⟩) ⟨710,8,710,41⟩] ⟨709,4,710,41⟩
section
variable {f':cc}{S0:aa av}{h':aa fJ}{e dx L:av}{dd:af}{m:ao->aq ai}
theorem OQ{Q:dD->aD->Prop}{g:aa PV}(W:D.scope.kind=.function)(hg:D.globals=3)(hb:D.builtins=0)(i:D.kindOf (S "e")=U .local)(Y:D.kindOf (S "found")=U .local)(k3:D.kindOf (S "list")=U .globalImplicit)(k4:D.kindOf (S "BadLabel")=U .globalImplicit)
  (t':A.frames=U (D::h')) (t:D.frame=U D.locals) (X:Exc f' S0 (D::h') e dx dd (U .none) s.heap) (T:d1 w.params F) (z:∀a o,F a=U o->f'.get? a=U o) (hS:∀a∈S0,F a=ah) (hL:D.locals∈S0) (ns:f'.Ns D.locals m) (ow:bB w F (.aW [S "told"] [.list g]) dd) (hw:g.length < 1000)
  (o':∀P a b us V n m',Hd f' S0 D.locals P.heap->P.gens=s.gens->P.os=s.os->f'.get? a=ah->f'.get? b=ah->a≠b->P.heap.get? a=U (eB #[.str (S "refused") V,.ref b] 0)->P.heap.get? b=U (listOf us n)->aH w F g us.toList->P.heap.Ns D.locals m'->m' (S "found")=U (.ref a)->Q .next P):
  wpAny (ay pw w) A (oY (.ref e) D) (λL D'=> aB (ay pw w) A (yo (.ref e) ah) (λL E'=> aB (ay pw w) A (handleBy (.ref e) D [z9]) Q E E') E D') E s:=by
 refine VS t' t X λM X1=> ?_
 refine zx (c:=ah) (s:={s with heap:=M}) X1 λG p=> ?_
 have z2:∀a o,F a=U o->G.get? a=U o:=λa o e=> p.keep a o (λO=> by rw[hS a O]at e;cases e) (z a o e)
 unfold z9;refine Tz ?_;have b':∀{h:cc} {P:aD},P.heap=h->(∀a o,F a=U o->h.get? a=U o)->P.heap.Ns D.globals (hH w.params)∧P.heap.Ns D.builtins (vq w.params):=λe z=> by rw[hg,hb,e];exact⟨T.mg z,T.mb z⟩
 refine md W k4 (tw (b' rfl z2).1 (v:=.ref 52) (by kernel_rfl) ?_);obtain⟨I',q',_⟩:=id p.at_;refine⟨rfl,z2 _ _ (T 52 fs (by decide) (eA (by kernel_rfl) (by decide) (by kernel_rfl))),⟨_,q',rfl⟩,?_⟩;refine zx (c:=ah) (s:={s with heap:=G}) p λj X3=> ?_
 have z3:∀a o,F a=U o->j.get? a=U o:=λa o e=> X3.keep a o (λO=> by rw[hS a O]at e;cases e) (z a o e)
 have x':j.Ns D.locals m:=by
  obtain⟨o,l,H,R,hd,r⟩:=ns;obtain⟨sl,hs⟩:=X3.slot _ o R λZ q=> by rw[hd]at q;cases q
  exact⟨_,l,H,hs,hd,r⟩
 refine tZ (s:={s with heap:=j}) i x' (λB d' g'=> ?_) (by rw[W];rfl);have d:∀{a:av},f'.get? a=ah->a≠D.locals:=λ{a} e q=> by
  obtain⟨o,M,_⟩:=X3.s0 _ hL;rw[q,M]at e;cases e
 obtain⟨F',r',_⟩:=id X3.at_;have c':∀b,b≠D.locals->B.get? b=j.get? b:=λb hb=> g'.2 b hb
 have z4:∀a o,F a=U o->B.get? a=U o:=λa o e=> (c' a λq=> by rw[q,hS _ hL]at e;cases e).trans (z3 a o e)
 have H4:Hd f' S0 D.locals B:=(Exc.hd X3).same hL g';have K:InstAt B e {cls:=.ref 52,dict:=U dx,data:=.fields F'} 52 (U dd):=⟨(c' e (d X.en)).trans r',rfl,rfl,(c' dx (d X.dn)).trans X3.dat⟩;obtain⟨v,s',dv⟩:=ZF (P:=w.params) ow;refine cK (mr (BY rfl (wpAny_Constant_str ?_)) (fG rfl _ _ _));refine tu (trees:=d9 ⟨710,28,710,40⟩ (du [.Attribute (.Name (S "e") ⟨710,33,710,34⟩) (S "told") ⟨710,33,710,39⟩] D)) rfl (md W k3 (CJ (b' rfl z4).1 (by kernel_rfl) (b' rfl z4).2 (v:=.type "list") (by kernel_rfl) ?_));refine callWith_type1 (xN ?_ rfl);refine CC (o1 (tY W i d' (v:=.ref e) (bZ rfl) ?_) (by decide+kernel)) (yM rfl);have hv:C1 v=ag:=by cases dv;rfl
 refine ZG (s:={s with heap:=B,toks:=_}) (G5 (T.in z4)) K s' hv λH'=> oB ?_
 cases dv with
 |@list _ la lo us u' w' c=>
 obtain⟨n,rfl⟩:=w';have v':=c.length;refine Df (items:=us.toArray) (n:=n) la (.inl rfl) (z4 _ _ u') rfl rfl (λN c5 k5 a'=> ?_) (by rw[hW,← v'];unfold ej;lia);have y':N.Ns D.locals (λx=> if x=S "e" then U (.ref e)else m x):=let⟨o,l,H,R,r⟩:=d';⟨o,l,H,k5 _ _ R,r⟩;have k6:∀b o,N.get? b=U o->(N.push (eB #[.str (S "refused") (s.toks+1),.ref B.objs.size] 0)).get? b=U o:=λb o e=> ew _ e
 have z':(N.push (eB #[.str (S "refused") (s.toks+1),.ref B.objs.size] 0)).Ns D.locals (λx=> if x=S "e" then U (.ref e)else m x):=let⟨o,l,H,R,r⟩:=y';⟨o,l,H,k6 _ _ R,r⟩;have H6:=(H4.more k5).more k6;have G':N.get? B.objs.size≠ah:=by rw[a'];exact λe=> nomatch e
 have e':∀b,b≠D.locals->f'.get? b≠ah->B.get? b≠ah:=λb hb h0=> by
  cases q:f'.get? b with
  |none=> exact bf q h0
  |some o=>
   by_cases O:b∈S0
   ·obtain⟨sl,e⟩:=H4.slot b O hb o q;rw[e];exact λe=> nomatch e
   ·rw[H4.keep b o O q];exact λe=> nomatch e
 have l':B.get? D.locals≠ah:=by obtain⟨o,_,_,R,_⟩:=d';rw[R];exact λe=> nomatch e
 have k:f'.get? B.objs.size=ah:=by
  cases q:f'.get? B.objs.size with
  |none=> rfl
  |some o=>
   by_cases I:B.objs.size=D.locals
   ·exact bf (e2 (h:=B) (dh _)) (I ▸ l')
   ·exact bf (e2 (h:=B) (dh _)) (e' _ I (by rw[q];exact λe=> nomatch e))
 have y:f'.get? N.objs.size=ah:=by
  cases q:f'.get? N.objs.size with
  |none=> rfl
  |some o=>
   exfalso
   have:B.get? N.objs.size≠ah:=by
    by_cases I:N.objs.size=D.locals
    ·exact I ▸ l'
    ·exact e' _ I (by rw[q];exact λe=> nomatch e)
   cases f:B.get? N.objs.size with
   |none=> exact this f
   |some C=> exact bf (dy (k5 _ _ f)) (fH _)
 have p':N.objs.size≠B.objs.size:=λq=> by
  have:=dy a';rw[← q]at this;exact fH _ this
 refine tZ (m:=λx=> if x=S "e" then U (.ref e)else m x) Y z' (λh7 A' i'=> ?_) (by rw[W];rfl);refine fi ?_;refine aM (yr (tZ (m:=λx=> if x=S "found" then U (.ref N.objs.size)else if x=S "e" then U (.ref e)else m x) i A' (λh8 B' j'=> ?_) (by rw[W];rfl)));unfold M5;refine wpAny_onRaise ?_;refine wpAny_unbindName_local i B' (v:=.none) (bZ rfl) (by rw[W];rfl) λh9 u C' k'=> ?_
 have n':∀b,b≠D.locals->h9.get? b=(N.push (eB #[.str (S "refused") (s.toks+1),.ref B.objs.size] 0)).get? b:=λb hb=> (k'.2 b hb).trans ((j'.2 b hb).trans (i'.2 b hb))
 refine o' _ N.objs.size B.objs.size us.toArray (s.toks+1) c5 _ (((H6.same hL i').same hL j').same hL k') rfl rfl y k p' ((n' _ (d y)).trans (fh _ rfl)) ((n' _ (d k)).trans (k6 _ _ a')) (by simpa using c) C' ?_;show(if S "found"=S "e" then u else if S "found"=S "e" then U jZ else if S "found"=S "found" then U (dQ N.objs.size)else _)=_;rw[bW (by decide+kernel),bW (by decide+kernel),bZ rfl]
end
structure iR(F:Fz)(mt:MT)(l:aa fJ)(h:cc):Prop where
 ff:h.FunFrames {} l
 J:∀b∈ef l,F b=none
 mt:∀b∈ef l,b∉mt.map (·.1)
theorem zB{h N:cc}:∀{l:aa fJ},h.FunFrames {} l->(∀b∈ef l,∀o,h.get? b=U o->N.get? b=U o)->N.FunFrames {} l
 |[],_,_=> trivial
 |D::r,I,k=> by
  obtain⟨W,⟨L,o,t,Z,R,u⟩,f⟩:=I;have e:ef (D::r)=L::ef r:=by unfold ef;rw[lX,t]
  rw[e]at k;exact⟨W,⟨L,o,t,Z,k L (.head _) o R,u⟩,zB f λb hb=> k b (.tail _ hb)⟩
theorem iR.on{W:Fz}{N:MT}{l:aa fJ}{P:aD}(c:iR F Y l s.heap)(u:Ext (Y.map (·.1)) s P)(r:∀a o,W a=U o->F a=U o∨s.heap.get? a=ah)(O:N.map (·.1)=Y.map (·.1)):iR W N l P.heap:=by
 refine⟨zB c.ff λb hb o R=> u.keep b o R (c.mt b hb),λb hb=> ?_,λb hb=> O ▸ c.mt b hb⟩;cases q:W b with
 |none=> rfl
 |some o=>
  obtain⟨_,v,M,_⟩:=c.ff.mem hb;rcases r b o q with h |h
  ·rw[c.J b hb]at h;cases h
  ·rw[M]at h;cases h
theorem iR.in{l:aa fJ}(S:St X F Y ls a' s)(C:aG X)(t:X.env.frame=U X.env.locals)(c:iR F Y l s.heap):iR F Y (X.env::l) s.heap:=by
 have e:ef (X.env::l)=X.env.locals::ef l:=by unfold ef;rw[lX,t]
 refine⟨aaW (by rw[C.fn];exact λq=> nomatch q) t S.ns (VK _) c.ff,λb hb=> ?_,λb hb m=> ?_⟩
 ·rw[e]at hb
  rcases bM.mp hb with rfl |hb
  ·exact S.fL
  ·exact c.J b hb
 ·rw[e]at hb
  rcases bM.mp hb with rfl |hb
  ·obtain⟨p,z,q⟩:=bz.mp m
   exact(S.al p (bk _ z)).2.2 q
  ·exact c.mt b hb m
theorem Ub:Kept w (.ref 52):=λM h T=>
 ⟨.machine,.inr (.inl rfl),λA Q E c C I=> by
  obtain⟨x,g,d,t,os⟩:=c;have F:=C _ _ (T 52 fs (by decide) (eA (by kernel_rfl) (by decide) (by kernel_rfl)));rw[kg]at F;exact wpAny_keeperOf_exc F I⟩
theorem pS(P:aT):fj P 575 gi (fdOf gi) (cw gi) (ep gi) IZ (dr gi) (restOf gi) kb 3 [] []:=
 i1 (by kernel_rfl) (by kernel_rfl) (by kernel_rfl) (by kernel_rfl) (by kernel_rfl) (λs T=> b3 λL L L=> .of_eq (by kernel_rfl)) (λw F=> .nil) (zK P)
theorem pR(P:aT):fj P 757 hO (fdOf hO) (cw hO) (ep hO) Jx (dr hO) (restOf hO) kb 3 [] []:=
 i1 (by kernel_rfl) (by kernel_rfl) (by kernel_rfl) (by kernel_rfl) (by kernel_rfl) (λs T=> b3 λL L L=> .of_eq (by kernel_rfl)) (λw F=> .nil) (zK P)
def xf:aa a9:=(cw gi).take 4
def xg:aw:=.Compare (.Name (S "words") ⟨556,7,556,12⟩) [.NotEq] [.List [] ⟨556,16,556,18⟩] ⟨556,7,556,18⟩
def Km:aw:=.Call (.Name (S "idna_settled") ⟨557,23,557,35⟩) [.Name (S "words") ⟨557,36,557,41⟩] [] ⟨557,23,557,42⟩
def Kn:a9:=.Raise (U (.Call (.Name (S "BadLabel") ⟨557,14,557,22⟩) [Km] [] ⟨557,14,557,43⟩)) ah ⟨557,8,557,43⟩
def Zy:a9:=.If xg [Kn] [] ⟨556,4,557,43⟩
def Ko:aa a9:=(cw gi).drop 5
theorem Zz:cw gi=xf++(Zy::Ko):=by kernel_rfl
def BX:TG:=⟨(fdOf gi).scope.names,dr gi++restOf gi,[],kb,[]⟩
def DU(w:aV)(I:Fz->MT->Prop)(k:ae)(f:ai)(args:aa PV)(g:aa PV):Prop:=
 ∀(F:Fz) (Y:MT) (Z:aa ai) (A:dC) (s:aD) (Q:ai->aD->Prop) (E:ai->aD->Prop) (l:aa fJ),aX k A->d1 w.params F->I F Y->aH w F args Z->
  (∀a o,F a=U o->s.heap.get? a=U o)->(∀p∈Y,s.heap.get? p.1=U p.2∧F p.1=ah)->(Y.map (·.1)).Nodup->A.frames=U l->iR F Y l s.heap->
  (∀e P i W N L dx dd,Ext (Y.map (·.1)) s i->Sub F W->I W N->(∀a o,W a=U o->i.heap.get? a=U o)->(∀a o,W a=U o->F a=U o∨s.heap.get? a=ah)->
   N.map (·.1)=Y.map (·.1)->(∀p∈N,i.heap.get? p.1=U p.2∧W p.1=ah)->s.heap.get? L=ah->W L=ah->Exc i.heap (L::ef l) l e dx dd (U .none) P.heap->bB w W (.aW [S "told"] [.list g]) dd->P.gens=i.gens->P.os=i.os->E (.ref e) P)->
  wpAny (ay pw w) A (bQ f Z) Q E s
theorem ZD{g:aa PV}{K N W:PV}{q3 B q6 c q8:Slot}(hI:bq I)(HO:cp w I k O)(hk:4≤k)(hm:args.length=3)
  (n':aI 1000 O [] (b7 50 BX xf) ((args++[]).map .J++(restOf gi).map λL=> .un)=U (.nxt [.J K,.J N,.J W,q3,.own (.list g),B,q6,c,q8])) (p':eW O [] (aE 12 BX xg) [.J K,.J N,.J W,q3,.own (.list g),B,q6,c,q8]=U (ag,[.J K,.J N,.J W,q3,.own (.list g),B,q6,c,q8]))
  (j':O.call (.ref 540) [.list g]=U (.own (.list g))):DU w I (k+1) (.ref 575) args g:=by
 intro F Y Z A s Q E l R T Im D hz i nd l' HF KK;refine iQ (uy (pS w.params) hI hm R T Im D hz i nd λX s1 C hw h' hG m V c' g' k' R' RL=> ?_);subst hw;have d':cp X.w X.I k O:=by rw[h'];exact ja HO
 have P:=dU 12 X.I d' X C rfl rfl;have m':(A.deeper X.env).frames=U (X.env::l):=CG l';have b':X.env.frame=U X.env.locals:=by rw[V];rfl
 rw[Zz];obtain⟨x1,e1⟩:∃x,x=xf:=⟨_,rfl⟩;obtain⟨xZ,eZ⟩:∃x,x=Ko:=⟨_,rfl⟩;rw[← e1,← eZ];refine w2 C d' R' x1 50 (by rw[m,e1];exact(aZ (λG=> aI 1000 O [] (b7 50 G xf) _) hG).trans n') RL λs2 F2 s' R2 t'=> ?_
 have o':eW O X.cps (aE 12 X.G xg) [.J K,.J N,.J W,q3,.own (.list g),B,q6,c,q8]=U (ag,[.J K,.J N,.J W,q3,.own (.list g),B,q6,c,q8]):=by
  rw[hG,m];exact p'
 refine cK (mu (uF C P xg o' R' R2 λj F3 q' u' R3=> ?_));rw[bZ rfl];obtain⟨F4,v',R4⟩:=R3.bg C [4];replace R4:Rl X F4 q' [.J K,.J N,.J W,q3,.J (.list g),B,q6,c,q8] [] j:=R4;refine cK ?_;unfold Kn;rw[arm_exec_Raise];refine aM (yv (X1 R'.hd ?_));refine aM ?_;obtain⟨ls,a',y,S4⟩:=R4;refine tu rfl (md C.fn ((eM C _).trans (by rw[hG];kernel_rfl)) (tw (by rw[C.gl];exact S4.top.mg S4.J) (v:=.ref 52) (by kernel_rfl) ?_));have i':bO O X.cps [.J K,.J N,.J W,q3,.J (.list g),B,q6,c,q8] (br 12 X.G [Km])=U [.own (.list g)]:=by
  rw[hG,m];exact(show _=bO O [] [.J K,.J N,.J W,q3,.J (.list g),B,q6,c,q8] (.cons (.call (.glb (S "idna_settled") (.fn (.ref 540))) (.cons (.var 4) .nil)) .nil)from aZ (bO O [] _) (by kernel_rfl)).trans (c6 (ek (c6 (p:=.J (.list g)) (by kernel_rfl)) (ps:=[.list g]) rfl j'))
 refine f9 (P:=mC X.w) (by rw[gK,hF i'];rfl) (λh T=> Ub _ h T) ?_;refine gc P.s (b':=[]) i' R' S4 y λZ f F5 r' ts t w' r=> ⟨t.top.in t.J,?_⟩
 obtain⟨F6,H,x',dd⟩:=t.b6 C r (ps:=[.list g]) rfl;obtain⟨v,rfl,dv⟩:∃v,Z=[v]∧Den X.w F6 (.list g) v:=by cases dd with |cons d n=> cases n;exact⟨_,rfl,d⟩
 show aB _ _ (bQ (.ref 52) [v]) _ _ _;refine Oc H.top H.J dv (R'.mono hk) λs7 e t0 dx e' k7 g7 o7 en dn ne he u ow=> ?_
 refine aM (yv (bA ?_));refine⟨e,t0,dx,rfl,k7 _ _ (H.J _ _ (H.top 52 fs (by decide) (eA (by kernel_rfl) (by decide) (by kernel_rfl)))),he,?_⟩;have SI:=H.inv;rw[h']at SI;have E6:Ext (Y.map (·.1)) s f:=by rw[← k',← c'];exact H.ext
 have f':∀a o,F6 a=U o->F a=U o∨s.heap.get? a=ah:=by rw[← g',← c'];exact H.fr
 have H6:=(HF.on E6 f' SI.2).in H C b';have eS:ef (X.env::l)=X.env.locals::ef l:=by unfold ef;rw[lX,b']
 have X7:Exc f.heap (ef (X.env::l)) (X.env::l) e dx e' ah s7.heap:=
  ⟨λL h=> h,λb hb=> (H6.ff.mem hb).2,λb o L h0=> k7 b o h0,λb o h0 L=> ⟨o.slots,k7 b o h0⟩,zB H6.ff λb L o h=> k7 b o h,en,dn,ne,λhb=> (by
   obtain⟨_,o,h,_⟩:=H6.ff.mem hb;rw[dn]at h;cases h),u,λZ q=> (by obtain⟨M,⟨_,es,ep,h,_⟩,_⟩:=ow;rw[h]at q;cases q),_,he,Nat.lt_of_sub_eq_succ rfl,rfl⟩
 refine UR m' b' X7 λh8 X8=> ?_
 have X9:=X8.out;rw[eS]at X9;exact KK e _ f F6 r' X.env.locals dx e' E6 (by rw[← g'];exact H.sub) SI.1 H.J f' SI.2 (λp z=> ⟨(H.al p (bk _ z)).1,(H.al p (bk _ z)).2.1⟩) (by rw[← c'];exact C.hL) H.fL X9 ow g7 o7
structure DQ(ex S:aa av)(s s':aD):Prop where
 keep:∀a o,s.heap.get? a=some o->a∉ex->a∉S->s'.heap.get? a=some o
 slot:∀a∈S,∀o,s.heap.get? a=some o->∃sl,s'.heap.get? a=some {o with slots:=sl}
 gens:s'.gens=s.gens
 os:s'.os=s.os
def t5(w:aV)(I:Fz->MT->Prop)(k:ae)(f:ai)(args:aa PV)(r:PV):Prop:=
 ∀(F:Fz) (Y:MT) (Z:aa ai) (A:dC) (s:aD) (Q:ai->aD->Prop) (E:ai->aD->Prop) (l:aa fJ),aX k A->d1 w.params F->I F Y->aH w F args Z->
  (∀a o,F a=U o->s.heap.get? a=U o)->(∀p∈Y,s.heap.get? p.1=U p.2∧F p.1=ah)->(Y.map (·.1)).Nodup->A.frames=U l->iR F Y l s.heap->
  (∀v P W N,DQ (Y.map (·.1)) (ef l) s P->Sub F W->I W N->(∀a o,W a=U o->P.heap.get? a=U o)->(∀a o,W a=U o->F a=U o∨s.heap.get? a=ah)->
   N.map (·.1)=Y.map (·.1)->(∀p∈N,P.heap.get? p.1=U p.2∧W p.1=ah)->Den w W r v->Q v P)->
  wpAny (ay pw w) A (bQ f Z) Q E s
def vp:a9:=.Assign [.Name (S "found") ⟨706,4,706,9⟩] (.Constant .none 0 ⟨706,12,706,16⟩) ⟨706,4,706,16⟩
def Hw:aw:=.Call (.Name (S "to_ascii") ⟨708,21,708,29⟩) [.Name (S "domain") ⟨708,30,708,36⟩,.Name (S "data") ⟨708,38,708,42⟩,.Name (S "flags") ⟨708,44,708,49⟩] [] ⟨708,21,708,50⟩
def Hx:aw:=.Call (.Name (S "list") ⟨708,16,708,20⟩) [Hw] [] ⟨708,16,708,51⟩
def Af:a9:=.Try [.Assign [.Name (S "found") ⟨708,8,708,13⟩] Hx ⟨708,8,708,51⟩] [z9] [] [] ⟨707,4,710,41⟩
def Ae:a9:=.Return (U (.Name (S "found") ⟨711,11,711,16⟩)) ⟨711,4,711,16⟩
theorem Ve:cw hO=[vp,Af,Ae]:=by kernel_rfl
theorem Vg{a0 N W:PV}{g:aa PV}(hI:bq I)(d:g.length < 1000)(u':DU w I k (.ref 575) [a0,N,W] g):t5 w I (k+1) (.ref 757) [a0,N,W] (.tup [.str (S "refused"),.list g]):=by
 intro F Y Z A s Q E l R T Im D B C' nd B' HF KK;refine iQ (uy (pR w.params) hI rfl R T Im D B C' nd λX s1 C d l' O m' z' e' f n' R' RL=> ?_);subst d;have P:Pack X k O₀ 12:=dU 12 X.I eN X C rfl rfl;have o':(A.deeper X.env).frames=U (X.env::l):=CG B';have f':X.env.frame=U X.env.locals:=by rw[z'];rfl
 rw[Ve];obtain⟨x0,e0⟩:∃x,x=[vp]:=⟨_,rfl⟩;show aB _ _ (ei ([vp]++[Af,Ae]) X.env) _ _ _;rw[← e0];replace RL:Rl X F Y [.J a0,.J N,.J W,.un,.un] [] s1:=RL;refine w2 C eN R' x0 50 (e':=[.J a0,.J N,.J W,.J .none,.un]) (by rw[m',e0];exact(aZ (λG=> aI 1000 O₀ [] (b7 50 G [vp]) _) O).trans (by kernel_rfl)) RL λs2 F2 J' R2 K'=> ?_
 refine cK ?_;unfold Af;obtain⟨ls,a',D',S2⟩:=R2;refine M7 (cK (mr ?_ (fG rfl _ _ _)));unfold Hx;refine tu rfl (md C.fn ((eM C _).trans (by rw[O];kernel_rfl)) (CJ (by rw[C.gl];exact S2.top.mg S2.J) (by kernel_rfl) (by rw[C.bl];exact S2.top.mb S2.J) (v:=.type "list") (by kernel_rfl) ?_));refine callWith_type1 (xN ?_ rfl);unfold Hw;refine tu (trees:=d9 ⟨708,21,708,50⟩ (du [.Name (S "domain") ⟨708,30,708,36⟩,.Name (S "data") ⟨708,38,708,42⟩,.Name (S "flags") ⟨708,44,708,49⟩] X.env)) rfl (md C.fn ((eM C _).trans (by rw[O];kernel_rfl)) (tw (by rw[C.gl];exact S2.top.mg S2.J) (v:=.ref 575) (by kernel_rfl) ?_));have p':bO O₀ X.cps [.J a0,.J N,.J W,.J .none,.un] (br 12 X.G [.Name (S "domain") ⟨708,30,708,36⟩,.Name (S "data") ⟨708,38,708,42⟩,.Name (S "flags") ⟨708,44,708,49⟩])=U [.J a0,.J N,.J W]:=by
  rw[O,m'];kernel_rfl
 refine f9 (P:=mC X.w) (by rw[gK,hF p'];rfl) (λh T=> g8 (pS X.w.params).top (pS X.w.params).na (pS X.w.params).data _ h T) ?_;refine gc P.s (b':=[]) p' R' S2 D' λZ s5 F5 q' ts t L' r=> ⟨t.top.in t.J,?_⟩
 obtain⟨F6,H,M',dd⟩:=t.b6 C r (ps:=[a0,N,W]) rfl;have SI:=H.inv;rw[l']at SI;have E6:Ext (Y.map (·.1)) s s5:=by rw[← n',← e'];exact H.ext
 have v':∀a o,F6 a=U o->F a=U o∨s.heap.get? a=ah:=by rw[← f,← e'];exact H.fr
 have H6:=HF.on E6 v' SI.2;have r':=H.nd;rw[bj]at r';refine u' F6 q' Z _ s5 _ _ _ R' H.top SI.1 dd H.J (λp z=> ⟨(H.al p (bk _ z)).1,(H.al p (bk _ z)).2.1⟩) (c2.mp r').1 o' (H6.in H C f') λe s7 s8 K i L dx H' E8 G' i8 z8 j' b' d' nL fL X8 ow x' o8=> ?_
 have u:=H.call E8 G' (by rw[l'];exact⟨i8,b'.trans SI.2⟩) z8 j' b' d';have H8:=(H6.on E8 j' b').in u C f';have eS:ef (X.env::l)=X.env.locals::ef l:=by unfold ef;rw[lX,f']
 have fS:∀a∈L::ef (X.env::l),K a=ah:=λa ha=> by
  rcases bM.mp ha with rfl |ha
  ·exact fL
  ·exact H8.J a ha
 refine OQ C.fn C.gl C.bl ((eM C _).trans (by rw[O];kernel_rfl)) ((eM C _).trans (by rw[O];kernel_rfl)) ((eM C _).trans (by rw[O];kernel_rfl)) ((eM C _).trans (by rw[O];kernel_rfl)) o' f' X8 u.top u.J fS (by rw[eS];exact .tail _ (.head _)) u.ns ow d λs9 a b us V n I' hd g9 o9 y nb y' ha hb dl F' A'=> ?_
 unfold Ae;refine cK (iP (o1 (tY C.fn ((eM C _).trans (by rw[O];kernel_rfl)) F' A' ?_) (by decide+kernel)));have c':Ext (Y.map (·.1)) s s8:=by rw[← n',← e'];exact u.ext
 have w':∀a o,K a=U o->F a=U o∨s.heap.get? a=ah:=by rw[← f,← e'];exact u.fr
 have Fa:K a=ah:=by
  cases q:K a with
  |none=> rfl
  |some o=> have:=z8 _ _ q;rw[y]at this;cases this
 have Fb:K b=ah:=by
  cases q:K b with
  |none=> rfl
  |some o=> have:=z8 _ _ q;rw[nb]at this;cases this
 have g':∀p∈i,p.1∉L::ef (X.env::l)∧p.1≠a∧p.1≠b:=λp z=> by
  have M:=d' p z;refine⟨λm=> ?_,λq=> (by rw[q,y]at M;cases M.1),λq=> (by rw[q,nb]at M;cases M.1)⟩;rcases bM.mp m with q |m
  ·have m5:L∈q'.map (·.1):=by rw[← q,← b'];exact cY z
   obtain⟨r,hr,e⟩:=bz.mp m5;have:=(H.al r (bk _ hr)).1;rw[e,nL]at this;cases this
  ·exact H8.mt _ m (cY z)
 have k':s.heap.get? X.env.locals=ah:=by rw[← e'];exact C.hL
 have E':∀c o,s.heap.get? c=U o->c∉Y.map (·.1)->c≠L:=λc o h m q=> by
  have:=E6.keep c o h m;rw[q,nL]at this;cases this
 have s':∀c,s8.heap.get? c=ah->s.heap.get? c=ah:=λc h=> by
  cases q:s.heap.get? c with
  |none=> rfl
  |some o=>
   by_cases m:c∈Y.map (·.1)
   ·have m8:c∈i.map (·.1):=by rw[b',SI.2];exact m
    obtain⟨r,hr,e⟩:=bz.mp m8;have:=(d' r hr).1;rw[e,h]at this;cases this
   ·have:=c'.keep _ _ q m;rw[h]at this;cases this
 let F9:Fz:=(K.ins b (listOf us n)).ins a (eB #[.str (S "refused") V,.ref b] 0)
 have i':(K.ins b (listOf us n)) a=ah:=by unfold Fz.ins;rw[bW y'];exact Fa
 have h':Sub K F9:=(Sub.ins Fb).trans (Sub.ins i');have e9:∀c o,F9 c=U o->(c=a∧o=eB #[.str (S "refused") V,.ref b] 0)∨(c=b∧o=listOf us n)∨K c=U o:=λc o h=> by
  replace h:(if c=a then U (eB #[.str (S "refused") V,.ref b] 0)else if c=b then U (listOf us n)else K c)=U o:=h;by_cases ca:c=a
  ·rw[bZ ca]at h;cases h;exact .inl ⟨ca,rfl⟩
  ·rw[bW ca]at h
   by_cases v:c=b
   ·rw[bZ v]at h;cases h;exact .inr (.inl ⟨v,rfl⟩)
   ·rw[bW v]at h;exact .inr (.inr h)
 have n9:∀p∈i,F9 p.1=ah:=λp z=> by
  cases q:F9 p.1 with
  |none=> rfl
  |some o=>
   rcases e9 _ _ q with ⟨h,_⟩ |⟨h,_⟩ |h
   ·exact bf h (g' p z).2.1
   ·exact bf h (g' p z).2.2
   ·rw[(d' p z).2]at h;cases h
 have t':F9 b=U (listOf us n):=Sub.ins i' _ _ (Fz.lq K b (listOf us n));refine KK (.ref a) s9 F9 i ⟨λc o M h2 j=> ?_,λc hc o M=> ?_,g9.trans (x'.trans c'.gens),o9.trans (o8.trans c'.os)⟩ ((by rw[← f];exact u.sub:Sub F K).trans h') (hI K F9 i i8 h' n9) (λc o h=> ?_) (λc o h=> ?_) (b'.trans SI.2) (λp z=> ⟨hd.keep _ _ (g' p z).1 (d' p z).1,n9 p z⟩) (.tup (F:=F9) (Fz.lq _ _ _) ⟨0,rfl⟩ (.cons (.str _ _) (.cons (.list t' ⟨n,rfl⟩ (dl.mono h')) .nil)))
 ·refine hd.keep c o (λm=> ?_) (c'.keep c o M h2)
  rcases bM.mp m with q |m
  ·exact E' c o M h2 q
  ·rw[eS]at m
   rcases bM.mp m with q |m
   ·rw[q,k']at M;cases M
   ·exact j m
 ·exact hd.slot c (by rw[eS];exact .tail _ (.tail _ hc)) (λq=> by rw[q,k']at M;cases M) o (c'.keep c o M (HF.mt c hc))
 ·rcases e9 _ _ h with ⟨rfl,rfl⟩ |⟨rfl,rfl⟩ |h
  ·exact ha
  ·exact hb
  ·exact hd.keep c o (λm=> by rw[fS c m]at h;cases h) (z8 c o h)
 ·rcases e9 _ _ h with ⟨rfl,_⟩ |⟨rfl,_⟩ |h
  ·exact .inr (s' _ y)
  ·exact .inr (s' _ nb)
  ·exact w' c o h
noncomputable def yY:CB->CB->CB
 | .nil,b=> b
 | .cons s r,b=> .cons s (yY r b)
theorem FI{W:ae}{O:bI}{c':aa PV}(b:CB):∀(a:CB) {V τ:aa Slot},aI W O c' a V=U (.nxt τ)->aI W O c' (yY a b) V=aI W O c' b τ
 | .nil,V,τ,h=> by
  replace h:U (Out.nxt V)=U (.nxt τ):=h;cases h;rfl
 | .cons s r,V,τ,h=> by
  refine aC (h) λo e h=> ?_
  cases o with
  |nxt e'=> exact aU e (FI b r h)
  |ret v e'=> exact nomatch h
def pB:CB:=b7 200 BX (cw gi)
theorem ZA:pB=yY kh (cW pB 4):=by kernel_rfl
theorem Rp:bw ⟨575,3,[],6,pB⟩:=fT pS rfl (by kernel_rfl)
def Vc:TG:=⟨(fdOf hO).scope.names,dr hO++restOf hO,[],kb,[]⟩
def kn:CB:=b7 200 Vc (cw hO)
theorem Q3:bw ⟨757,3,[],2,kn⟩:=fT pR rfl (by kernel_rfl)
section
theorem XB(t l:au)(B:aa Row)(h:Rs B):((outI t l B).map λy=> y.length+1).sum < 5000:=by
 have n:=h.2.1;rw[outI,dM];refine bc (bK (l9 (by rw[dY,dM])) (oe _ 1010 B λr f=> ?_)) (show 1010 * B.length < 5000 by lia);obtain⟨g1,R⟩:=lO (t:=t) (l:=l) (h.2.2 r f);show(wr (r.sh t l)).length+1≤1010;unfold wr;cases asc (r.sh t l)with
 |true=> rw[hx];lia
 |false=> have:=(uL (m:=0) (pA:=0) (wA:=0) (k:=0) (r.sh t l) g1 R).2;rw[fP,da,dJ];simp only[cA,dz,lZ];lia
theorem ZC(t l:au)(B:aa Row)(h:Rs B)(u:ed t l B=ak)(D:ec B=ak):w5 1000 (aA m pA wA (k+15)) ⟨575,3,[],6,pB⟩ [II (bF B),dP m pA wA,bY t l]=U (.J (II (bP (outI t l B)))):=by
 obtain⟨⟨x,M⟩,G,_⟩:=FZ t l B h;rw[u,D]at M;show ez 1000 _ [] pB [.J (II (bF B)),.J (dP m pA wA),.J (bY t l),.un,.un,.un,.un,.un,.un]=_;refine fX ?_;rw[ZA,FI _ _ M]
 let V:aa Slot:=[.J (II (bF B)),.J (dP m pA wA),.J (bY t l),.J (hg t l B),.own (.list []),.own (.list ((outI t l B).map II)),x.1,x.2.1,x.2.2]
 let τ:aa Slot:=[.J (II (bF B)),.J (dP m pA wA),.J (bY t l),.J (hg t l B),.own (.list []),.J (.list ((outI t l B).map II)),x.1,x.2.1,x.2.2]
 exact aZ cj (st (τ:=V) 0 (by kernel_rfl) (cL 1 (hA (e':=τ) (by kernel_rfl) (ek (c6 (p:=.J (.list ((outI t l B).map II))) (by kernel_rfl)) rfl G) rfl)))
set_option tactic.hygienic true in
theorem Vf{K N W:PV}{Z:aa aj}(b:bq I)(Q:Z.length < 5000)(c:c5 w I k (.ref 575) [K,N,W] (.J (II Z))):c5 w I (k+1) (.ref 757) [K,N,W] (.own (II Z)):=by
 classical
 let O:bI:=⟨λf as=> if f=.ref 575∧as=[K,N,W]then U (.J (II Z))else ah⟩
 have z:cp w I k O:=λf as r h=> by
  replace h:(if f=.ref 575∧as=[K,N,W]then U (RV.J (II Z))else ah)=U r:=h
  split at h
  ·rename_i q
   cases h;rw[q.1,q.2];exact c
  ·cases h
 refine Q3 b z (W:=1000) ?_;show ez 1000 O [] kn [.J K,.J N,.J W,.un,.un]=_
 let V:Slot->aa Slot:=λx=> [.J K,.J N,.J W,x,.un]
 have l:az kn 1=.tryN (.cons (.asg 3 (.call (.glb (S "list") (.fn (.type "list"))) (.cons (.call (.glb (S "to_ascii") (.fn (.ref 575))) (.cons (.var 0) (.cons (.var 1) (.cons (.var 2) .nil)))) .nil))) .nil):=by kernel_rfl
 have G:=ek (O:=O) (c':=[]) (V:=V (.J .none)) (g:=S "to_ascii") (eJ (a:=.var 0) (p:=.J K) (by kernel_rfl) (dT (a:=.var 1) (b:=.var 2) (p:=.J N) (q:=.J W) (by kernel_rfl) (by kernel_rfl))) (ps:=[K,N,W]) rfl (bZ ⟨rfl,rfl⟩);have o:=jt (O:=O) (c':=[]) (V:=V (.J .none)) (g:=S "list") (f:="list") (r:=.own (II Z)) (c6 G) ((show hn "list" [II Z]=gd (aY (Z.map PV.int).length) (U (RV.own (II Z)))from by kernel_rfl).trans (ct (bX (by rw[bx];lia))));have p:aJ 1000 O [] (az kn 1) (V (.J .none))=U (.nxt (V (.own (II Z)))):=by
  rw[l];exact aU (c7 (e':=V (.J .none)) (τ:=V (.own (II Z))) (by kernel_rfl) o rfl (by kernel_rfl) rfl) rfl
 have i:aJ 1000 O [] (az kn 2) (V (.own (II Z)))=U (.ret (.own (II Z)) (V .un)):=by kernel_rfl
 refine fX ?_;exact aZ cj (st (c:=kn) (τ:=V (.J .none)) 0 (by kernel_rfl) (st (c:=kn) (τ:=V (.own (II Z))) 1 p (cL (c:=kn) 2 i)))
theorem Po(b:bq I)(d':c5 w I k f args (.own (.list H))):t5 w I k f args (.list H):=by
 intro F Y Z A s Q E l R T Im D B b' V _ C KK;refine d'.2 F Y Z A s Q E R T Im D B b' V λv P W N t u sb i K fr O c' d ht=> ?_
 obtain⟨a,o,rfl,rfl,x⟩:=d.n5;clear d;obtain⟨M,G,j⟩:=ht (a,o) (.head _);have a':Sub W (W.ins a o):=Sub.ins G;have y:∀p∈N,p.1≠a:=λp z q=> by
  have m:=O ▸ cY z;obtain⟨r,hr,e⟩:=bz.mp m;have:=(b' r hr).1;rw[e,q,j]at this;cases this
 have S:∀p∈N,W.ins a o p.1=ah:=λp z=> (bW (y p z)).trans (c' p z).2
 have X:∀c g,W.ins a o c=U g->(c=a∧g=o)∨W c=U g:=λc g h=> by
  replace h:(if c=a then U o else W c)=U g:=h;by_cases q:c=a
  ·rw[bZ q]at h;cases h;exact .inl ⟨q,rfl⟩
  ·rw[bW q]at h;exact .inr h
 refine KK (.ref a) P (W.ins a o) N ⟨λa o M G L=> u.keep a o M G,λa ha o M=> ⟨o.slots,u.keep a o M (C.mt a ha)⟩,u.gens,u.os⟩ (sb.trans a') (b _ _ _ i a' S) (λc g h=> ?_) (λc g h=> ?_) O (λp z=> ⟨(c' p z).1,S p z⟩) ?_
 ·rcases X c g h with ⟨rfl,rfl⟩ |h
  ·exact M
  ·exact K c g h
 ·rcases X c g h with ⟨rfl,rfl⟩ |h
  ·exact .inr j
  ·exact fr c g h
 ·obtain⟨Z,n,rfl,d⟩:=x
  exact .list (Fz.lq _ _ _) ⟨n,rfl⟩ (d.mono a')
theorem Vd(b:bq I)(W:4≤k)(z:cp w I k (aA m pA wA 15))(t l:au)(B:aa Row)(h:Rs B):t5 w I (k+2) (.ref 757) [II (bF B),dP m pA wA,bY t l] (fE t l B):=by
 have g:=XB t l B h;have a:∀dd P,ed t l B=dd->ec B=P->(dd ||P)=ag->t5 w I (k+2) (.ref 757) [II (bF B),dP m pA wA,bY t l] (.tup [.str (S "refused"),.list (d2 dd P)]):=λdd P u D T=> by
  obtain⟨⟨x,M⟩,_,j⟩:=FZ t l B h;rw[u,D]at M j;refine Vg b (by cases dd <;> cases P <;> decide) (ZD b z W rfl M ?_ j);cases dd <;> cases P
  ·cases T
  all_goals kernel_rfl
 unfold fE ee;cases u:ed t l B <;> cases D:ec B
 ·exact Po b (Vf b (bc (pT _) g) (Rp b z (ZC t l B h u D)))
 ·exact a _ _ u D rfl
 ·exact a _ _ u D rfl
 ·exact a _ _ u D rfl
end
theorem St.OF{W:Fz}{N:MT}{P:aD}(C:aG X)(S:St X F Y ls a' s)(u:DQ (Y.map (·.1)) [X.env.locals] s P)(E:Sub F W)(b:X.I W N)(B:∀a o,W a=U o->P.heap.get? a=U o)
  (r:∀a o,W a=U o->F a=U o∨s.heap.get? a=ah) (O:N.map (·.1)=Y.map (·.1)) (G:∀p∈N,P.heap.get? p.1=U p.2∧W p.1=ah):St X W N ls a' P:=by
 have t:∀a,s.heap.get? a≠ah->F a=ah->W a=ah:=λa e f=> by
  cases q:W a with
  |none=> rfl
  |some o=>
        rcases r a o q with h |h
        ·rw[f]at h;cases h
        ·exact bf h e
 obtain⟨M,l,K,T,L⟩:=id S.ns;have d:X.env.locals∉Y.map (·.1):=λm=> by
  obtain⟨p,z,e⟩:=bz.mp m;exact(S.al p (bk _ z)).2.2 e
 have k:∀p∈a',p.1∉Y.map (·.1):=λp z m=> by
  have V:=S.nd;rw[bj]at V;exact(c2.mp V).2.2 _ m _ (cY z) rfl
 obtain⟨sl,Q⟩:=u.slot _ (.head _) _ T;refine⟨S.top.mono E,S.sub.trans E,b,⟨_,l,K,Q,L⟩,S.nm,⟨λa o e n=> ?_,u.gens.trans S.ext.gens,u.os.trans S.ext.os⟩,B,t _ (by rw[T];exact λe=> nomatch e) S.fL,λa o e=> ?_,λp z=> ?_,?_,S.nw,λp z=> ?_,λa D=> by rw[O];exact S.xm a D,λi c w=> ?_,S.pn⟩
 ·by_cases m:a∈Y.map (·.1)
  ·exfalso
   obtain⟨p,z,q⟩:=bz.mp m;rcases S.mx p z with h |h
   ·exact n (q ▸ h)
   ·rw[q,e]at h;cases h
  ·exact u.keep _ _ (S.ext.keep a o e n) m λh=> by
    rw[d5.mp h,C.hL]at e;cases e
 ·rcases r a o e with h |h
  ·exact S.fr a o h
  ·exact .inr (S.hP h)
 ·rcases dc.mp z with h |h
  ·exact⟨(G p h).1,(G p h).2,λe=> d (by rw[← O,← e];exact cY h)⟩
  ·have A:=S.al p (bp _ h)
   exact⟨u.keep _ _ A.1 (k p h) λh=> A.2.2 (d5.mp h),t _ (by rw[A.1];exact λe=> nomatch e) A.2.1,A.2.2⟩
 ·rw[bj,O,← bj];exact S.nd
 ·have:p.1∈Y.map (·.1):=by rw[← O];exact cY z
  obtain⟨q,I,e⟩:=bz.mp this;rw[← e];exact S.mx q I
 ·obtain⟨v,g,p,x,j,y,H⟩:=S.ce i c w
  exact⟨v,g,p,E _ _ x,j,y,H.mono E⟩
def Hr:aa aw:=[.Call (.Name (S "list") ⟨749,24,749,28⟩) [.Name (S "domain") ⟨749,29,749,35⟩] [] ⟨749,24,749,36⟩,.Name (S "data") ⟨749,38,749,42⟩,.Name (S "flags") ⟨749,44,749,49⟩]
def Ad:aw:=(((BE (e7 18)).bind Pb).bind λl=> l[0]?).elim (.Name (S "") ⟨0,0,0,0⟩) id
def U4:a9:=.Return (U (.Compare (.Call (.Name (S "_law_written") ⟨749,11,749,23⟩) Hr [] ⟨749,11,749,50⟩) [.Eq] [Ad] ⟨749,11,749,109⟩)) ⟨749,4,749,109⟩
theorem U9:e7 18=U4:=by kernel_rfl
theorem SU(t l:au)(B:aa Row):Gd 64 (fE t l B):=by
 unfold fE;cases ed t l B ||ec B
 ·exact u2 63 _
 ·exact u3 (qa 63 _ (by decide+kernel)) (zF 62 _ _)
theorem UC{I g G:av}{M:aa av}{Q:dD->aD->Prop}{e':aa Slot}{t l:au}{B:aa Row}(C:aG (e0 X (Dd I pA wA) g G M))(O:(e0 X (Dd I pA wA) g G M).G=kx)(d':A.frames=U [X.env])(m:X.env.frame=U X.env.locals)(R:aX 66 A)
  (q:Rl (e0 X (Dd I pA wA) g G M) F Y V [] s) (n':Rs B) (c:bg [20] V=e') (h1:bO (aA I pA wA 16) [.fn (.ref g)] e' (.cons (.call (.glb (S "list") (.fn (.type "list"))) (.cons (.var 11) .nil)) (.cons (.var 1) (.cons (.var 8) .nil)))=U [.own (II (bF B)),.J (dP I pA wA),.J (bY t l)])
  (h2:ev (aA I pA wA 16) [.fn (.ref g)] e' mN=U rv) (j:rv.read=fE t l B)
  (K:∀s' W N ls a',St (e0 X (Dd I pA wA) g G M) W N ls a' s'->Q (.ret (.bool ag)) s'):aB (ay pw X.w) A (ei [e7 18] X.env) Q E s:=by
 obtain⟨XL,a⟩:∃x,x=e0 X (Dd I pA wA) g G M:=⟨_,rfl⟩;have n:∀F Y,XL.I F Y=(IA X.w (Dd I pA wA) g F Y∧Y.map (·.1)=M):=λF Y=> by rw[a];rfl
 have c':XL.cps=[.fn (.ref g)]:=by rw[a];rfl
 have eW:XL.w=X.w:=by rw[a];rfl
 have i':XL.env=X.env:=by rw[a];rfl
 have p':bq (mB g):=Hg;have eI:XL.I=λF Y=> IA X.w (Dd I pA wA) g F Y∧Y.map (·.1)=M:=by rw[a];rfl
 have z:∀k,cp XL.w XL.I (4 * k) (aA I pA wA k):=λk=> by rw[eI,eW];exact ja (Bv p' k)
 rw[← a]at C O q K;rw[← i']at d' m⊢;rw[← eW];rw[U9];have P:=dU 12 XL.I (z 16) XL C rfl rfl;obtain⟨F1,t',ls,a',y,S1⟩:=q.bg C [20];rw[c]at y;have b':aX 64 A:=R.mono (by decide);have o':je 12 XL.G [.Eq] [Ad]=U (.one .Eq mN):=by rw[O];kernel_rfl
 have PR:=P.r [.Eq] [Ad] _ o';refine cK (iP (uA PR.1 ?_));refine tu rfl (md C.fn ((eM C _).trans (by rw[O];kernel_rfl)) (tw (by rw[C.gl];exact S1.top.mg S1.J) (v:=.ref 757) (by kernel_rfl) ?_));have f':bO (aA I pA wA 16) XL.cps e' (br 12 XL.G Hr)=U [.own (II (bF B)),.J (dP I pA wA),.J (bY t l)]:=by
  rw[c',O];exact(aZ (bO (aA I pA wA 16) [.fn (.ref g)] e') (by kernel_rfl)).trans h1
 refine f9 (by rw[gK,hF f'];rfl) (λh T=> g8 (pR XL.w.params).top (pR XL.w.params).na (pR XL.w.params).data _ h T) ?_;refine gc P.s f' b' S1 y λZ f o g' ts S5 D r=> ⟨S5.top.in S5.J,?_⟩
 obtain⟨e,H,r',dd⟩:=S5.b6 C r rfl;have H6:iR e g' [XL.env] f.heap:=iR.in H C m ⟨trivial,λb h=> (nm h),λb h=> (nm h)⟩;have h':=H.nd;rw[bj]at h';have fL:ef [XL.env]=[XL.env.locals]:=by unfold ef;rw[lX,m];rfl
 refine Vd (k:=60) C.inv (by decide) (z 15) t l B n' e g' Z A f _ _ [XL.env] (R.mono (by decide)) H.top H.inv dd H.J (λp hp=> ⟨(H.al p (bk _ hp)).1,(H.al p (bk _ hp)).2.1⟩) (c2.mp h').1 d' H6 λv d F7 q' E7 w i7 z7 j' l' m' d7=> ?_
 have S7:=H.OF C (by rw[fL]at E7;exact E7) w i7 z7 j' l' m';have k':kp (aA I pA wA 16) XL.cps e' (fE t l B) (.one .Eq mN)=U ag:=by
  rw[c',kp,h2];show eE .Eq (fE t l B) rv.read=_;rw[j];exact(show eE .Eq (fE t l B) (fE t l B)=ey (fE t l B) (fE t l B)from by rfl).trans (JJ (SU t l B))
 exact(PR.2 e' (fE t l B) v ag A F7 q' ls [] a' d _ _ k' b' S7 (((y.mono D).mono r').mono w) (.J d7)).1 _ λs8 F8 i u L=> K s8 F8 i ls a' u
theorem Kk(P:aT):(H1 P).get? cu=U (hZ #[]):=eA (by kernel_rfl) (by decide) (by kernel_rfl)
def Nz(P:aT)(a:av)(o:af):Fz:=λb=> if b=cu then ah else match (H1 P).get? b with
 |some x=> U x
 |none=> if b=a then U o else ah
theorem Tc{m P:aD}{a:ao->aq av}{d:ExcName->aq ai}{args:aa WData}(D:m.gens=#[])(x:m.heap.get? cu=U (hZ #[]))(u:Ext [cu] m P)(c:isCodeTable m.heap cu){ps:c8 ai}(M:P.heap.get? cu=U (hZ ps)):
  GoodWG iG.claim a d args m (.ok (.ret (.bool ag))) P:=by
 refine⟨.inl ⟨.bool ag,.bool ag,[],rfl,raisesW_false allW_false_nil,.bool ag,?_,λL=> ⟨gm,λL h=> nm h⟩⟩,⟨λb o e=> ?_,λb o e=> ?_⟩,u.os,.of_eq (u.gens.trans D)⟩
 ·exact postW_of rfl (by kernel_rfl) rfl
 ·by_cases hb:b=cu
  ·subst hb
   rw[x]at e;cases e;exact .inr (.inl ⟨c,rfl,#[],ps,rfl,by simpa using M⟩)
  ·exact .inl (u.keep b o e (by simpa using hb))
 ·by_cases hb:b=cu
  ·exact⟨_,hb ▸ M⟩
  ·exact⟨o,u.keep b o e (by simpa using hb)⟩
theorem Xu{t:MT}{b c:av}(h:t.map (·.1)=[b])(x:t[0]?=U (c,o)):t=[(c,o)]:=by
 cases t with
 |nil=> exact bf h (by simp)
 |cons p r=>
  cases r with
  |nil=> rw[Cj]at x;rw[bo x]
  |cons q r=> exact bf (aZ te h) (by simp)
theorem UA{m:aD}{s:av}{pm i a':ai}{L:aa aj}(y:ug w m.heap)(R:m.heap.get? a=U o)(o':o.data=.func (docDef (S "law") (fa 130).1 lx m6 pm i a'))
  (h':m.heap.CodeRec i (S "law")) (A:m.heap.get? s=U (listOf Z.toArray n)) (hI:tv Z L) (n':L.length < 64) (e':∀P ps,Ext [cu] m P->P.heap.get? cu=U (hZ ps)->Q (.bool ag) P):aB (ay pw w) callerA (bQ (.ref a) [.ref s]) Q E m:=by
 have b':=y _ _ (Kk w.params);have s':s≠cu:=λq=> by
  rw[q,b']at A;have h:(hZ #[]).cls=.type "list":=aZ Obj.cls (bo A);exact bf h (by decide)
 let F:Fz:=Nz w.params s (listOf Z.toArray n)
 have hF:∀b x,F b=U x->b≠cu∧((H1 w.params).get? b=U x∨(b=s∧x=listOf Z.toArray n)):=λb x h=> by
  replace h:(if b=cu then ah else match (H1 w.params).get? b with |some x=> U x |none=> if b=s then U (listOf Z.toArray n)else ah)=U x:=h;by_cases q:b=cu
  ·rw[bZ q]at h;cases h
  ·rw[bW q]at h
   refine⟨q,?_⟩;cases e:(H1 w.params).get? b with
   |some z=> rw[e]at h;cases h;exact .inl rfl
   |none=>
    rw[e]at h;by_cases q2:b=s
    ·replace h:(if b=s then U (listOf Z.toArray n)else ah)=U x:=h
     rw[bZ q2]at h;cases h;exact .inr ⟨q2,rfl⟩
    ·replace h:(if b=s then U (listOf Z.toArray n)else ah)=U x:=h
     rw[bW q2]at h;cases h
 have d':F s=U (listOf Z.toArray n):=by
  show(if s=cu then ah else match (H1 w.params).get? s with |some x=> U x |none=> if s=s then U (listOf Z.toArray n)else ah)=_;rw[bW s'];cases e:(H1 w.params).get? s with
  |some z=> have:=y _ _ e;rw[A]at this;exact this.symm
  |none=> exact bZ rfl
 have T:d1 w.params F:=λb x nb e=> by
  show(if b=cu then ah else match (H1 w.params).get? b with |some x=> U x |none=> if b=s then U (listOf Z.toArray n)else ah)=_;rw[bW nb,e]
 have hz:∀b x,F b=U x->m.heap.get? b=U x:=λb x e=> by
  rcases (hF b x e).2 with h |⟨rfl,rfl⟩
  ·exact y _ _ h
  ·exact A
 have D:aH w F [II L] [.ref s]:=.cons (.list d' ⟨n,rfl⟩ (GQ hI)) .nil;refine iQ (EI (d:=[S "deck"]) (k:=90) (So w.params pm i a') eb.ok rfl (λL=> by kernel_rfl) R o' h' ⟨rfl,by decide,by decide⟩ T ⟨#[],rfl,trivial⟩ D hz (λp hp=> ?_) (dN.mpr ⟨ox,gm⟩) λX s1 f' ls C d g' O k' V q' t' m' R' r' S0 j' i'=> ?_)
 ·obtain rfl:=d5.mp hp
  exact⟨b',bZ rfl⟩
 subst d;have r:(callerA.deeper X.env).frames=U [X.env]:=CG rfl;have l':X.env.frame=U X.env.locals:=by rw[V];rfl
 obtain⟨f,h0,v⟩:=i' 0 (S "deck") rfl;have G:f'=[(m.heap.objs.size+1,f)]:=Xu (b:=m.heap.objs.size+1) j' h0;subst G;have Rr:Rl X F [(cu,hZ #[])] (.J (II L)::de 23 .un) [(m.heap.objs.size+1,f)] s1:=⟨ls,[],r',S0⟩;refine UN C (by rw[O];kernel_rfl) k' (λF Y h=> by rw[g']at h;exact h.1) (G:=m.heap.objs.size+1) (f:=f) (by rw[V];kernel_rfl) (v.trans (by kernel_rfl)) n' (R'.mono (by decide)) Rr λP W N I pA wA g M z t l B yy k R2 p' h=> ?_
 obtain⟨y',rv,e1,j,e3,H⟩:=h;refine UC k (by show({X.G with cs:=[S "deck"]}:TG)=_;rw[O];kernel_rfl) r l' (R'.mono (by decide)) R2 p' e1 j e3 H λc K c' u' v' u=> ?_
 have i8:IA X.w (Dd I pA wA) g K c'∧c'.map (·.1)=M:=u.inv;obtain⟨m1,m2,rfl,_,m3,m4,rfl,_,ps,rfl,_⟩:=i8.1;exact e' c ps (by have e:=u.ext;rw[show(e0 X (Dd I pA wA) g (m.heap.objs.size+1) M).ex=X.ex from rfl,m',show(e0 X (Dd I pA wA) g (m.heap.objs.size+1) M).s₀=X.s₀ from rfl,q']at e;exact e) (u.al (cu,hZ ps) (bk _ (bp _ (bp _ (.head _))))).1
set_option tactic.hygienic true in
theorem UM:WalkO fZ ku (XL fZ []) ug iG.toRowW ko [] λf Z=> bQ f Z:=by
 intro w c m F H G y a o e i b dV x R h g O d D args k as q z A C p;obtain rfl:dV=.none:=Dflts.none O (by kernel_rfl);obtain rfl:x=.none:=O.kw.elim (·.2) λy=> bf rfl y.1
 clear O G d
 wrow_args q z A C p
 rename_i L _ _ _ _ _ _ _ s Z _ E _ wl _ l _ K _
 obtain⟨n,r⟩:∃n,m.heap.get? s=U (listOf Z.toArray n):=by
  replace wl:Well w.params m.heap (.ref s) (WData.list (ofPys (L.map PyData.int))):=wl;obtain⟨v,M,I,n,j⟩:=E;cases wl with
  |@list _ t _ B _=>
   rw[M]at B;cases B;cases j;exact⟨_,M⟩
 refine UA y R h g r l (by lia) λP ps u M=> ?_
 exact Tc D (y _ _ (Kk w.params)) u ⟨147,jE,_,y _ _ (eA (by kernel_rfl) (by decide) (by kernel_rfl)),rfl,rfl,rfl⟩ M
theorem row_holds:xU.Holds:=TC UM
end
end Mine
theorem PySem.Challenge.cw_pq1308_01_holds : PySem.Challenge.rw_pq1308_01.Holds :=
  Mine.row_holds
