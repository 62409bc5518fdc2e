import PyProof.Rows.All
import KE.KDictLaws
import KE.KDictOf
import KE.KDictSum
import KE.KSetDisp
import KE.KSortTup
import Lean
import OpenK.AllK
import PySem.Machine
import Wide.All
import Wide.FinOn
import PySem.Challenge.RW_sx_r018_2
set_option Elab.async false
set_option maxRecDepth 100000
set_option maxHeartbeats 8000000
set_option linter.all false
set_option genInjectivity false
set_option genSizeOf false
namespace Mine
open PySem PySem.W PySem.Calls PyProof.Rows PySem.SeqAt PySem.MeetsSeq PySem.Challenge
noncomputable section
open _root_.PySem renaming Value->aA,wpAny_bind->aF,Expr->aU,wpAny_pure->bx,Heap->cC,wpAny_holding->e9,Scope->ia,Builtin->kF,intKind_is->jd,wpAny_standAt->jC,CmpOp->kT,wpAny_mono->mP,wpAny_askSetting->qH,sizeLine_eq->qI,wpAny_of_eq->sy,Flow->sA,codeAny_builtin->tW,plainId_quiet->tX,DictEntry->tY,wpAny_call_entry->vo,Result->vq,SetTable->yQ,wpAny_rule->yR,wpAny_call->yS,ReadsAll->yT,Comprehension->yU,assign->yV,wpAny_setState_of->Bt,wpAny_typeOf->Bu,Reads->Bv,IsPart->Bw,wpAny_tryCatch->Bx,call_meetsIn->By,wpAny_alloc->DZ,wpAny_pyIter_list->D3,wpAny_truthy_bool->D4,wpAny_assign_Name->D5,NameKind->D6,wpAny_newList->D7,wpAny_execs_cons->D8,call_meets->D9,wpAny_ite_split->Jp,wpAny_callSpecial?_slot->Jq,wpAny_Tuple_spliced->Jr,wpAny_pyNext_list_item->Js,pushCells_keeps->Jt,wpAny_seqItems->Ju,wpAny_letGo->Jv,codeAny_of_tree->OA,codeAny_mono->OB,isSubtype_type->OC,wpAny_setEntries_of->OD,wpAny_setField->OE,wpAny_List_spliced->OF,wpAny_BinOp->OG,wpAny_isTrue_Compare1->OH,richCompare_meets_room->OI,wpAny_field->OJ,wpAny_pyNext_list_end->OL,wpAny_assign_Tuple->OM,Fin->ON,wpAny_Assign_Name->OO,PlainAttrs->OP,wpAny_release->OQ,wpAny_dictSet_pairs->OR,wpAny_Dict_walk->OS,fits_of_scanBound->VQ,codeAny_call_builtin->VS,typeLookup_type->VT,builtinLookup_eq_fast->VU,entryFor_of_tree->VV,entryFor_alias->VW,wpAny_pyIter_slot->VX,wpAny_fieldsOf->VY,wpAny_isInstance->VZ,wpAny_specialOf->V0,noFill_tuple_add->V1,wpAny_loadPart'->V2,wpAny_getItem_list->V3,wpAny_getItem_list_neg->V4,slicePick_plain->V5,wpAny_sequenceKey->V6,wpAny_list_append_plain->V7,wpAny_execs_nil->V8,wpAny_Return_some->V9,wpAny_Call_method_late->Wa,slot_list_setitem->Wb,assign_Subscript->Wc,wpAny_loadPart->Wd,exec_Assign_Name_used->We,wpAny_notIn_of->Wf,meets_dict_values->Wg,evalPairs_cons->Wh,merged_nil_of_nodup->Wi,meets_dict_get_default->Wj
open _root_.Nat renaming le_trans->aG,le_of_ble_eq_true->bz,le_refl->bW,zero_le->b8,le_of_lt->ee,add_le_add_left->ff,le_of_eq->fF,lt_of_le_of_lt->f6,succ_le_succ->gw,ne_of_lt->ie,add_le_add->ig,le_add_right->iE,le_add_left->iQ,not_lt->jb,le_succ->jr,mul_le_mul_left->jI,lt_of_lt_of_le->jD,add_le_add_right->kU,min_le_left->lW,le_of_lt_succ->mQ,min_eq_left->n8,le_antisymm->pI,add_comm->pJ,zero_add->qJ,lt_succ_self->qK,min_le_right->sC,lt_or_eq_of_le->tZ,sub_le->vt,not_le->vz,le_succ_of_le->vA,le_sub_one_of_lt->yW,add_assoc->BA,le_sub_of_add_le->Ea,lt_of_le_of_ne->Eb,ne_of_gt->Ec,lt_trans->Ed,lt_or_ge->Ef,succ_pos->Eg,min_eq_right->Eh,mul_succ->Ei,le_mul_of_pos_left->Ej,lt_irrefl->Jw,add_right_comm->Jx,add_sub_of_le->Jy,two_pos->Jz,sub_zero->JA,lt_succ_of_lt->JB,rec->JC,le_max_left->JD,mul_le_mul->JE,lt_succ_of_le->JF,one_pos->OT,sub_le_sub_left->OU,add_sub_cancel_left->OV,succ_add->OW,mul_le_mul_right->OX,succ_ne_zero->OY,ble->OZ,le_max_right->O0,sub_lt->Wk,add_sub_add_right->Wl,two_mul->Wm,le_zero->Wn,sub_le_of_le_add->Wo,max_eq_left->Wq,pos_of_ne_zero->Wr,sub_eq_zero_of_le->Ws,sub_succ_lt_self->Wt,succ_lt_succ->Wu,sub_lt_sub_left->Wv,le_of_succ_le->Ww,le_of_sub_eq_zero->Wx,eq_zero_of_not_pos->Wy,max_eq_right->Wz
open _root_.Classical renaming byContradiction->aM
open _root_.List renaming length_map->aR,length_append->bU,mem_cons->bZ,mem_map->cg,map_map->cV,getElem?_map->dh,mem_append->dY,map_append->eB,mem_singleton->eO,map_cons->gx,nodup_cons->ir,getElem?_eq_getElem->iF,getElem?_eq_some_iff->iR,append_nil->iW,append_assoc->jJ,mem_of_getElem?->jK,length_cons->jL,lookup_cons->lu,mem_flatMap->je,mem_map_of_mem->jQ,getD->kW,nodup_append->kX,range->lX,pairwise_cons->mR,filterMap_append->mS,cons_ne_nil->n9,filter_append->oh,not_mem_nil->pK,take_of_length_le->pL,length_range->pM,mem_append_left->pN,length_take->pO,getElem?_eq_none->qL,nodup_nil->qM,map->qN,take_length->qO,length_filter_le->sD,mem_filter->sE,getElem?_mapIdx->sF,contains_iff_mem->t8,foldl_append->t9,length->ua,mem_cons_self->vB,take_add_one->vC,flatten_append->vD,map_congr_left->vE,filter_cons_of_neg->vF,forall_mem_append->vG,flatMap_cons->vH,filter_eq_self->vI,toArray->yX,mem_cons_of_mem->yY,length_eq_zero_iff->yZ,filter_cons->y9,find?_cons->za,foldl_cons->zb,ext_getElem?->zc,pairwise_map->zd,filter_cons_of_pos->ze,perm_middle->zf,getElem_mem->BC,getElem?_range->BD,all_cons->BE,flatten_cons->BF,reverse_cons->BG,any_eq_true->BH,range_succ->BI,length_pos_iff->BJ,length_drop->BK,flatten->BL,forIn_cons->Ek,zip_cons_cons->El,take_append_drop->Em,all_eq_true->En,mem_flatten->Eo,mem_append_right->Ep,sum_cons->Er,getElem?_set->Es,getElem?_replicate->Et,map_take->Eu,length_nil->Ew,forall_mem_cons->Ey,getElem?_nil->JG,lookup->JH,any_eq_false->JI,any_cons->JJ,pairwise_singleton->JK,map_nil->JL,filter_eq_nil_iff->JM,getLast?_concat->JN,length_mapIdx->JO,replicate->JP,map_set->JQ,map_drop->JR,eraseIdx_eq_take_drop_succ->O1,mem_of_find?_eq_some->O2,find?_some->O3,size_toArray->O4,find?_cons_of_neg->O5,map_flatten->O6,map_id->O7,foldl_nil->O8,mem_range->O9,getLastD_eq_getLast?->Pa,filter->Pb,getElem_of_mem->Pc,filter_map->Pd,drop_of_length_le->Pe,take_nil->Pf,getElem?_append_right->Pg,findIdx?->WA,getElem?_of_mem->WB,take_sublist->WC,drop_zero->WD,findIdx?_cons->WE,cons_append->WG,length_eraseIdx_le->WH,of_mem_zip->WI,any_toArray->WJ,drop_eq_getElem_cons->WK,contains_cons->WM,mem_erase_of_ne->WN,length_erase_of_mem->WO,length_pos_of_mem->WQ,perm_ext_iff_of_nodup->WR,foldl->WT,forall_mem_nil->WU,append_ne_nil_of_right_ne_nil->WV,mem_of_getLast?->WX,nil_append->WY,getElem?_set_self->WZ,getElem?_set_ne->W0,length_set->W2,filter_filter->W3,eq_nil_iff_forall_not_mem->W4,exists_cons_of_length_eq_add_one->W5,getElem_cons_drop->W6,any_map->W7,flatMap_append->W8,mem_of_ne_of_mem->W9,take->Xa,getLast?_eq_some_getLast->Xb,take_append->Xc,length_zip->Xd
open _root_.Int renaming le_trans->cN,le_refl->eS,ofNat_le->gE,natCast_nonneg->iS,ofNat_lt->kG,not_lt->lz,toNat_natCast->iX,le_of_lt->jR,lt_irrefl->lY,not_le->qQ,lt_trans->sG,le_antisymm->uc,lt_of_le_of_lt->vJ,le_of_eq->vK,ofNat->vL,le_max_right->vM,lt_add_one_of_le->vN,max_eq_right->zg,lt_of_lt_of_le->BN,toNat_lt->BO,toNat_of_nonneg->BP,le_add_one->BQ,eq_ofNat_of_zero_le->Ez,le_max_left->EA,neg_le_neg->JS,sub_nonneg_of_le->JT,le_add_of_nonneg_left->JU,max_eq_left->JV,fmod_nonneg_of_pos->JW,sub_add_cancel->Ph,lt_succ->Pj,fmod_lt_of_pos->Pk,min_eq_left->Xe,add_le_add_right->Xf,zero_add->Xg,ediv_one->Xh,add_sub_cancel->Xi,add_comm->Xj,toNat_le->Xk,sub_zero->Xl,lt_toNat->Xm,sub_lt_self->Xn,one_pos->Xo,max_le->Xp,ne_of_lt->Xq
open _root_.Ne renaming symm->dJ
open _root_.PySem.Heap renaming get?_push_of_some->dS,get?_push_size->fh,lt_size->gP,SameBut->kY,get?_update_other->zh,size_push->BR,get?_update_self->EB,get?_update_ne->Xr,get?_none_of_le->Xs
open _root_.Option.some renaming inj->eF,injEq->zj
open _root_.Bool renaming and_eq_true->iT,false_eq_true->sH,not_eq_true'->ud,eq_false_iff->zk,and_true->zl,not_eq_true->JX,or_eq_true->Pn,noConfusion->Pr,eq_iff_iff->Pu,and_false->Xu,false_ne_true->Xv,or_eq_false_iff->Xw
open _root_.PySem.W renaming kas_desc->lB,kas_rev->lZ,kas_place->qR,KasT->sI,kas_asc->sJ,kas_descPart->vO,kas_count->zo,kas_tail3->BS,kas_sort->JY,plainGet_of->Pw,kdu_collect->Px
open _root_.Array renaming getElem?_toList->lC,length_toList->l6,getElem?_eq_none->zq,getD->EC,getElem?_eq_getElem->ED,toList_append->EE,toList_push->JZ,getElem?_append_left->Xx,getElem?_push->Xy,getElem?_extract->Xz,isEmpty_iff->XA,toList_inj->XC
open _root_.PySem.PyData renaming eqv->lE,strOk->kZ,canLayAll0->ue,keyHash->uf,eqvAll->EF,canLay0->Py,depth->XD,depthAll->XE
open _root_.PySem.SetTable renaming below->jE,insertAt->BU,has->J0,bits->XF,fill->XG
open _root_.PySem.Obj renaming mapSeq->jS,mapFields->Pz
open _root_.Option renaming none->k6,map->qS,map_some->zu,elim->BV,isSome_iff_exists->EG,ne_none_iff_exists'->EH,isSome_some->XH,isSome_iff_ne_none->XI,mem_toList->XJ
open _root_.PySem.Value renaming int->l7,none->sL,ref->ug,bool->EI,type->J1,str->XK
open _root_.PySem.Heap.SameBut renaming update->qT,refl->acX
open _root_.Exists renaming imp->qU
open _root_.PySem.NameKind renaming cell->qV,free->vP
open _root_.Prod renaming ext->qW
open _root_.PySem.Calls renaming spliced_cons->sM,spliced_nil->vQ,Name_function_global->XM
open _root_.Function renaming comp_def->uh,comp->EJ
open _root_.PySem.Around renaming under_plainId->vR,under_of_weight->XO
open _root_.PySem.F renaming called_set->vS,plain_max_loop->vU,plainAttrs_dict->BW,slot_dict_get->BX,slot_dict_values->J2,plainAttrs_list->PC,slot_list_getattribute->PD,entry_max_loop->PF,type_dict_get->PG,entry_dict_get->PJ,slot_set_add->XQ,plain_set_new->XR,slot_set_iter->XS,slot_tuple_add->XT,entry_tuple_add->XU,args_tuple_add_2->XW,slot_list_append->XY,slot_list_extend->XZ,slot_list_pop->X0,slot_list_iadd->X3,slot_dict_setdefault->X4,type_dict_values->X5,entry_dict_values->X6,args_dict_values_1->X7,plain_max->X8,entry_max->Yb,kind_max->Yc,args_dict_get_3->Yd
open _root_.PySem.Builtin.Range renaming rangeFitsLong->vV,rangeSize->J3,small->acY
open _root_.PyProof.Rows renaming step_dedup->vW,tail_any->zv,SetOf_congr->BY,size_push'->BZ,IntsAre->EK,get?_update_seq->J4,mirror_size->PK,Subscript_->PM,Assign_Tuple->PN,slicePart_none->Ye,slot_tuple_getitem->Yg,callWith_builtin1->Yh,callWith_method1->Yi,callWith_method0->Yj,getItem_tuple->acZ,callWith_type1->ac0
open _root_.ForInStep renaming yield->B0
open _root_.PySem.Heap.DictOf renaming new->EM
open _root_.List.cons renaming inj->EN
open _root_.Nat.succ renaming inj->EO
open _root_.PySem.W.KasT renaming ret->J5
open _root_.PySem.Str renaming ofString->J6
open _root_.PySem.Builtin.Slice renaming slicePlaces->J7,sliceAdjust->PO,sliceApplied->Yk,slicePartIndex->ac1,sliceFields->ac2
open _root_.PySem.Code renaming builtin->J8
open _root_.List.Pairwise renaming nil->J9,imp->Yl
open _root_.PySem.Builtin.Builtins renaming bindParams->Ka
open _root_.List.Mem renaming tail->Kc
open _root_.Nonempty renaming elim->PR
open _root_.PyProof.Rows.F renaming plain_set_update_loop->PU,entry_set_update_loop->Ym
open _root_.List.Sublist renaming length_le->PV
open _root_.Int.ofNat renaming inj->PW
open _root_.PySem.Builtin.Tuple renaming tupleExact->PX,tupleCompareSizes->ac3,tupleItemsOf->ac4,tupleIsExact->ac5
open _root_.PyProof.Rows.SortSt renaming mk'->PY
open _root_.List.Perm renaming cons->PZ
open _root_.PySem.Challenge renaming rw_sx_r018_2->P0
open _root_.Array.Perm renaming refl->Yn
open _root_.PySem.Builtin.Frozenset renaming addrOf->Yo,oneOther->ac6,newClass->ac7,updateFrom->ac8,slot0->ac9,sizeOf->ada
open _root_.PySem.Walks renaming list->Yp
open _root_.PySem.Shared renaming TypeIs->Yq
open _root_.PySem.Builtin.List renaming listLengthHint->Yr,listTooLong->Ys,listSubscript?->adb,listUpdate->ade
open _root_.PySem.Heap.IsSliceOf renaming new->Yt
open _root_.PySem.Builtin.Dict renaming updateFrom->Yu,pairItems->adf,addKeywords->adg,selfAndRest->adh
open _root_.PySem.Pairs renaming nil->Yv
open _root_.Prod.mk renaming injEq->Yw
open _root_.PySem.Value.ref renaming inj->Yx
open _root_.PySem.W.RowW renaming records->Yy
open _root_.PySem.W.OpenRow renaming toRowW->Yz
open _root_.PySem.W.OpenLaw renaming row->YA
open _root_.PySem.SetTable.probe renaming go->adi
open _root_.PySem.AutoListH renaming list_append_list_val_0->adj
open _root_.PySem.AutoSeq1 renaming list_extend_list_list_0->adk,list___iadd___list_list_0->adl
section
variable {a:Type}[Nonempty a]{b:Type}[Nonempty b]{c:Type}[Nonempty c]{d:Type}[Nonempty d]{e:Type}[Nonempty e]{f:Type}[Nonempty f]{g:Type}[Nonempty g]{i:Type}[Nonempty i]{j:Type}[Nonempty j]{l:Type}[Nonempty l]{m:Type}[Nonempty m]{n:Type}[Nonempty n]
noncomputable def ep1(P:a->Prop):a:=Classical.epsilon λx=>¬P x
def all1{P:a->Prop}(h:P (ep1 P))(x:a):P x:=Classical.byContradiction λk=>Classical.epsilon_spec (p:=λx=>¬P x) ⟨x,k⟩ h
noncomputable def ep2(P:a->b->Prop):a×b:=ep1 λp=>P p.1 p.2
def all2{P:a->b->Prop}(h:P (ep2 P).1 (ep2 P).2)(x0:a)(x1:b):P x0 x1:=all1 (P:=λp:a×b=>P p.1 p.2) h (x0,x1)
noncomputable def ep3(P:a->b->c->Prop):a×b×c:=ep1 λp=>P p.1 p.2.1 p.2.2
def all3{P:a->b->c->Prop}(h:P (ep3 P).1 (ep3 P).2.1 (ep3 P).2.2)(x0:a)(x1:b)(x2:c):P x0 x1 x2:=all1 (P:=λp:a×b×c=>P p.1 p.2.1 p.2.2) h (x0,x1,x2)
noncomputable def ep4(P:a->b->c->d->Prop):a×b×c×d:=ep1 λp=>P p.1 p.2.1 p.2.2.1 p.2.2.2
def all4{P:a->b->c->d->Prop}(h:P (ep4 P).1 (ep4 P).2.1 (ep4 P).2.2.1 (ep4 P).2.2.2)(x0:a)(x1:b)(x2:c)(x3:d):P x0 x1 x2 x3:=all1 (P:=λp:a×b×c×d=>P p.1 p.2.1 p.2.2.1 p.2.2.2) h (x0,x1,x2,x3)
noncomputable def ep5(P:a->b->c->d->e->Prop):a×b×c×d×e:=ep1 λp=>P p.1 p.2.1 p.2.2.1 p.2.2.2.1 p.2.2.2.2
def all5{P:a->b->c->d->e->Prop}(h:P (ep5 P).1 (ep5 P).2.1 (ep5 P).2.2.1 (ep5 P).2.2.2.1 (ep5 P).2.2.2.2)(x0:a)(x1:b)(x2:c)(x3:d)(x4:e):P x0 x1 x2 x3 x4:=all1 (P:=λp:a×b×c×d×e=>P p.1 p.2.1 p.2.2.1 p.2.2.2.1 p.2.2.2.2) h (x0,x1,x2,x3,x4)
noncomputable def ep6(P:a->b->c->d->e->f->Prop):a×b×c×d×e×f:=ep1 λp=>P p.1 p.2.1 p.2.2.1 p.2.2.2.1 p.2.2.2.2.1 p.2.2.2.2.2
def all6{P:a->b->c->d->e->f->Prop}(h:P (ep6 P).1 (ep6 P).2.1 (ep6 P).2.2.1 (ep6 P).2.2.2.1 (ep6 P).2.2.2.2.1 (ep6 P).2.2.2.2.2)(x0:a)(x1:b)(x2:c)(x3:d)(x4:e)(x5:f):P x0 x1 x2 x3 x4 x5:=all1 (P:=λp:a×b×c×d×e×f=>P p.1 p.2.1 p.2.2.1 p.2.2.2.1 p.2.2.2.2.1 p.2.2.2.2.2) h (x0,x1,x2,x3,x4,x5)
noncomputable def ep7(P:a->b->c->d->e->f->g->Prop):a×b×c×d×e×f×g:=ep1 λp=>P p.1 p.2.1 p.2.2.1 p.2.2.2.1 p.2.2.2.2.1 p.2.2.2.2.2.1 p.2.2.2.2.2.2
def all7{P:a->b->c->d->e->f->g->Prop}(h:P (ep7 P).1 (ep7 P).2.1 (ep7 P).2.2.1 (ep7 P).2.2.2.1 (ep7 P).2.2.2.2.1 (ep7 P).2.2.2.2.2.1 (ep7 P).2.2.2.2.2.2)(x0:a)(x1:b)(x2:c)(x3:d)(x4:e)(x5:f)(x6:g):P x0 x1 x2 x3 x4 x5 x6:=all1 (P:=λp:a×b×c×d×e×f×g=>P p.1 p.2.1 p.2.2.1 p.2.2.2.1 p.2.2.2.2.1 p.2.2.2.2.2.1 p.2.2.2.2.2.2) h (x0,x1,x2,x3,x4,x5,x6)
noncomputable def ep8(P:a->b->c->d->e->f->g->i->Prop):a×b×c×d×e×f×g×i:=ep1 λp=>P p.1 p.2.1 p.2.2.1 p.2.2.2.1 p.2.2.2.2.1 p.2.2.2.2.2.1 p.2.2.2.2.2.2.1 p.2.2.2.2.2.2.2
def all8{P:a->b->c->d->e->f->g->i->Prop}(h:P (ep8 P).1 (ep8 P).2.1 (ep8 P).2.2.1 (ep8 P).2.2.2.1 (ep8 P).2.2.2.2.1 (ep8 P).2.2.2.2.2.1 (ep8 P).2.2.2.2.2.2.1 (ep8 P).2.2.2.2.2.2.2)(x0:a)(x1:b)(x2:c)(x3:d)(x4:e)(x5:f)(x6:g)(x7:i):P x0 x1 x2 x3 x4 x5 x6 x7:=all1 (P:=λp:a×b×c×d×e×f×g×i=>P p.1 p.2.1 p.2.2.1 p.2.2.2.1 p.2.2.2.2.1 p.2.2.2.2.2.1 p.2.2.2.2.2.2.1 p.2.2.2.2.2.2.2) h (x0,x1,x2,x3,x4,x5,x6,x7)
noncomputable def ep9(P:a->b->c->d->e->f->g->i->j->Prop):a×b×c×d×e×f×g×i×j:=ep1 λp=>P p.1 p.2.1 p.2.2.1 p.2.2.2.1 p.2.2.2.2.1 p.2.2.2.2.2.1 p.2.2.2.2.2.2.1 p.2.2.2.2.2.2.2.1 p.2.2.2.2.2.2.2.2
def all9{P:a->b->c->d->e->f->g->i->j->Prop}(h:P (ep9 P).1 (ep9 P).2.1 (ep9 P).2.2.1 (ep9 P).2.2.2.1 (ep9 P).2.2.2.2.1 (ep9 P).2.2.2.2.2.1 (ep9 P).2.2.2.2.2.2.1 (ep9 P).2.2.2.2.2.2.2.1 (ep9 P).2.2.2.2.2.2.2.2)(x0:a)(x1:b)(x2:c)(x3:d)(x4:e)(x5:f)(x6:g)(x7:i)(x8:j):P x0 x1 x2 x3 x4 x5 x6 x7 x8:=all1 (P:=λp:a×b×c×d×e×f×g×i×j=>P p.1 p.2.1 p.2.2.1 p.2.2.2.1 p.2.2.2.2.1 p.2.2.2.2.2.1 p.2.2.2.2.2.2.1 p.2.2.2.2.2.2.2.1 p.2.2.2.2.2.2.2.2) h (x0,x1,x2,x3,x4,x5,x6,x7,x8)
noncomputable def ep10(P:a->b->c->d->e->f->g->i->j->l->Prop):a×b×c×d×e×f×g×i×j×l:=ep1 λp=>P p.1 p.2.1 p.2.2.1 p.2.2.2.1 p.2.2.2.2.1 p.2.2.2.2.2.1 p.2.2.2.2.2.2.1 p.2.2.2.2.2.2.2.1 p.2.2.2.2.2.2.2.2.1 p.2.2.2.2.2.2.2.2.2
def all10{P:a->b->c->d->e->f->g->i->j->l->Prop}(h:P (ep10 P).1 (ep10 P).2.1 (ep10 P).2.2.1 (ep10 P).2.2.2.1 (ep10 P).2.2.2.2.1 (ep10 P).2.2.2.2.2.1 (ep10 P).2.2.2.2.2.2.1 (ep10 P).2.2.2.2.2.2.2.1 (ep10 P).2.2.2.2.2.2.2.2.1 (ep10 P).2.2.2.2.2.2.2.2.2)(x0:a)(x1:b)(x2:c)(x3:d)(x4:e)(x5:f)(x6:g)(x7:i)(x8:j)(x9:l):P x0 x1 x2 x3 x4 x5 x6 x7 x8 x9:=all1 (P:=λp:a×b×c×d×e×f×g×i×j×l=>P p.1 p.2.1 p.2.2.1 p.2.2.2.1 p.2.2.2.2.1 p.2.2.2.2.2.1 p.2.2.2.2.2.2.1 p.2.2.2.2.2.2.2.1 p.2.2.2.2.2.2.2.2.1 p.2.2.2.2.2.2.2.2.2) h (x0,x1,x2,x3,x4,x5,x6,x7,x8,x9)
noncomputable def ep11(P:a->b->c->d->e->f->g->i->j->l->m->Prop):a×b×c×d×e×f×g×i×j×l×m:=ep1 λp=>P p.1 p.2.1 p.2.2.1 p.2.2.2.1 p.2.2.2.2.1 p.2.2.2.2.2.1 p.2.2.2.2.2.2.1 p.2.2.2.2.2.2.2.1 p.2.2.2.2.2.2.2.2.1 p.2.2.2.2.2.2.2.2.2.1 p.2.2.2.2.2.2.2.2.2.2
def all11{P:a->b->c->d->e->f->g->i->j->l->m->Prop}(h:P (ep11 P).1 (ep11 P).2.1 (ep11 P).2.2.1 (ep11 P).2.2.2.1 (ep11 P).2.2.2.2.1 (ep11 P).2.2.2.2.2.1 (ep11 P).2.2.2.2.2.2.1 (ep11 P).2.2.2.2.2.2.2.1 (ep11 P).2.2.2.2.2.2.2.2.1 (ep11 P).2.2.2.2.2.2.2.2.2.1 (ep11 P).2.2.2.2.2.2.2.2.2.2)(x0:a)(x1:b)(x2:c)(x3:d)(x4:e)(x5:f)(x6:g)(x7:i)(x8:j)(x9:l)(YB:m):P x0 x1 x2 x3 x4 x5 x6 x7 x8 x9 YB:=all1 (P:=λp:a×b×c×d×e×f×g×i×j×l×m=>P p.1 p.2.1 p.2.2.1 p.2.2.2.1 p.2.2.2.2.1 p.2.2.2.2.2.1 p.2.2.2.2.2.2.1 p.2.2.2.2.2.2.2.1 p.2.2.2.2.2.2.2.2.1 p.2.2.2.2.2.2.2.2.2.1 p.2.2.2.2.2.2.2.2.2.2) h (x0,x1,x2,x3,x4,x5,x6,x7,x8,x9,YB)
noncomputable def ep12(P:a->b->c->d->e->f->g->i->j->l->m->n->Prop):a×b×c×d×e×f×g×i×j×l×m×n:=ep1 λp=>P p.1 p.2.1 p.2.2.1 p.2.2.2.1 p.2.2.2.2.1 p.2.2.2.2.2.1 p.2.2.2.2.2.2.1 p.2.2.2.2.2.2.2.1 p.2.2.2.2.2.2.2.2.1 p.2.2.2.2.2.2.2.2.2.1 p.2.2.2.2.2.2.2.2.2.2.1 p.2.2.2.2.2.2.2.2.2.2.2
def all12{P:a->b->c->d->e->f->g->i->j->l->m->n->Prop}(h:P (ep12 P).1 (ep12 P).2.1 (ep12 P).2.2.1 (ep12 P).2.2.2.1 (ep12 P).2.2.2.2.1 (ep12 P).2.2.2.2.2.1 (ep12 P).2.2.2.2.2.2.1 (ep12 P).2.2.2.2.2.2.2.1 (ep12 P).2.2.2.2.2.2.2.2.1 (ep12 P).2.2.2.2.2.2.2.2.2.1 (ep12 P).2.2.2.2.2.2.2.2.2.2.1 (ep12 P).2.2.2.2.2.2.2.2.2.2.2)(x0:a)(x1:b)(x2:c)(x3:d)(x4:e)(x5:f)(x6:g)(x7:i)(x8:j)(x9:l)(YB:m)(x11:n):P x0 x1 x2 x3 x4 x5 x6 x7 x8 x9 YB x11:=all1 (P:=λp:a×b×c×d×e×f×g×i×j×l×m×n=>P p.1 p.2.1 p.2.2.1 p.2.2.2.1 p.2.2.2.2.1 p.2.2.2.2.2.1 p.2.2.2.2.2.2.1 p.2.2.2.2.2.2.2.1 p.2.2.2.2.2.2.2.2.1 p.2.2.2.2.2.2.2.2.2.1 p.2.2.2.2.2.2.2.2.2.2.1 p.2.2.2.2.2.2.2.2.2.2.2) h (x0,x1,x2,x3,x4,x5,x6,x7,x8,x9,YB,x11)
end
section
universe u v w x
variable {Z:Prop}{p:Sort u}{q:Sort v}{r:Sort w}{s:Sort x}
section
variable {A B C D E F G H I:Prop}
def e0a2(h:A/\B)(f:A->B->Z):Z:=f h.1 h.2
def e0a3(h:A/\B/\C)(f:A->B->C->Z):Z:=f h.1 h.2.1 h.2.2
def e0a4(h:A/\B/\C/\D)(f:A->B->C->D->Z):Z:=f h.1 h.2.1 h.2.2.1 h.2.2.2
def e0a5(h:A/\B/\C/\D/\E)(f:A->B->C->D->E->Z):Z:=f h.1 h.2.1 h.2.2.1 h.2.2.2.1 h.2.2.2.2
def e0a6(h:A/\B/\C/\D/\E/\F)(f:A->B->C->D->E->F->Z):Z:=f h.1 h.2.1 h.2.2.1 h.2.2.2.1 h.2.2.2.2.1 h.2.2.2.2.2
def e0a7(h:A/\B/\C/\D/\E/\F/\G)(f:A->B->C->D->E->F->G->Z):Z:=f h.1 h.2.1 h.2.2.1 h.2.2.2.1 h.2.2.2.2.1 h.2.2.2.2.2.1 h.2.2.2.2.2.2
def e0a8(h:A/\B/\C/\D/\E/\F/\G/\H)(f:A->B->C->D->E->F->G->H->Z):Z:=f h.1 h.2.1 h.2.2.1 h.2.2.2.1 h.2.2.2.2.1 h.2.2.2.2.2.1 h.2.2.2.2.2.2.1 h.2.2.2.2.2.2.2
def e0a9(h:A/\B/\C/\D/\E/\F/\G/\H/\I)(f:A->B->C->D->E->F->G->H->I->Z):Z:=f h.1 h.2.1 h.2.2.1 h.2.2.2.1 h.2.2.2.2.1 h.2.2.2.2.2.1 h.2.2.2.2.2.2.1 h.2.2.2.2.2.2.2.1 h.2.2.2.2.2.2.2.2
end
section
variable {A B C D E F G H I:p->Prop}
def e1a1(h:∃x,A x)(f:∀x,A x->Z):Z:=h.elim f
def e1a2(h:∃x,A x/\B x)(f:∀x,A x->B x->Z):Z:=h.elim λx h=>e0a2 h (f x)
def e1a3(h:∃x,A x/\B x/\C x)(f:∀x,A x->B x->C x->Z):Z:=h.elim λx h=>e0a3 h (f x)
def e1a4(h:∃x,A x/\B x/\C x/\D x)(f:∀x,A x->B x->C x->D x->Z):Z:=h.elim λx h=>e0a4 h (f x)
def e1a5(h:∃x,A x/\B x/\C x/\D x/\E x)(f:∀x,A x->B x->C x->D x->E x->Z):Z:=h.elim λx h=>e0a5 h (f x)
def e1a6(h:∃x,A x/\B x/\C x/\D x/\E x/\F x)(f:∀x,A x->B x->C x->D x->E x->F x->Z):Z:=h.elim λx h=>e0a6 h (f x)
def e1a7(h:∃x,A x/\B x/\C x/\D x/\E x/\F x/\G x)(f:∀x,A x->B x->C x->D x->E x->F x->G x->Z):Z:=h.elim λx h=>e0a7 h (f x)
def e1a8(h:∃x,A x/\B x/\C x/\D x/\E x/\F x/\G x/\H x)(f:∀x,A x->B x->C x->D x->E x->F x->G x->H x->Z):Z:=h.elim λx h=>e0a8 h (f x)
def e1a9(h:∃x,A x/\B x/\C x/\D x/\E x/\F x/\G x/\H x/\I x)(f:∀x,A x->B x->C x->D x->E x->F x->G x->H x->I x->Z):Z:=h.elim λx h=>e0a9 h (f x)
end
section
variable {A B C D E F G H I:p->q->Prop}
def e2a1(h:∃x y,A x y)(f:∀x y,A x y->Z):Z:=h.elim λx h=>e1a1 h (f x)
def e2a2(h:∃x y,A x y/\B x y)(f:∀x y,A x y->B x y->Z):Z:=h.elim λx h=>e1a2 h (f x)
def e2a3(h:∃x y,A x y/\B x y/\C x y)(f:∀x y,A x y->B x y->C x y->Z):Z:=h.elim λx h=>e1a3 h (f x)
def e2a4(h:∃x y,A x y/\B x y/\C x y/\D x y)(f:∀x y,A x y->B x y->C x y->D x y->Z):Z:=h.elim λx h=>e1a4 h (f x)
def e2a5(h:∃x y,A x y/\B x y/\C x y/\D x y/\E x y)(f:∀x y,A x y->B x y->C x y->D x y->E x y->Z):Z:=h.elim λx h=>e1a5 h (f x)
def e2a6(h:∃x y,A x y/\B x y/\C x y/\D x y/\E x y/\F x y)(f:∀x y,A x y->B x y->C x y->D x y->E x y->F x y->Z):Z:=h.elim λx h=>e1a6 h (f x)
def e2a7(h:∃x y,A x y/\B x y/\C x y/\D x y/\E x y/\F x y/\G x y)(f:∀x y,A x y->B x y->C x y->D x y->E x y->F x y->G x y->Z):Z:=h.elim λx h=>e1a7 h (f x)
def e2a8(h:∃x y,A x y/\B x y/\C x y/\D x y/\E x y/\F x y/\G x y/\H x y)(f:∀x y,A x y->B x y->C x y->D x y->E x y->F x y->G x y->H x y->Z):Z:=h.elim λx h=>e1a8 h (f x)
def e2a9(h:∃x y,A x y/\B x y/\C x y/\D x y/\E x y/\F x y/\G x y/\H x y/\I x y)(f:∀x y,A x y->B x y->C x y->D x y->E x y->F x y->G x y->H x y->I x y->Z):Z:=h.elim λx h=>e1a9 h (f x)
end
section
variable {A B C D E F G H I:p->q->r->Prop}
def e3a1(h:∃x y z,A x y z)(f:∀x y z,A x y z->Z):Z:=h.elim λx h=>e2a1 h (f x)
def e3a2(h:∃x y z,A x y z/\B x y z)(f:∀x y z,A x y z->B x y z->Z):Z:=h.elim λx h=>e2a2 h (f x)
def e3a3(h:∃x y z,A x y z/\B x y z/\C x y z)(f:∀x y z,A x y z->B x y z->C x y z->Z):Z:=h.elim λx h=>e2a3 h (f x)
def e3a4(h:∃x y z,A x y z/\B x y z/\C x y z/\D x y z)(f:∀x y z,A x y z->B x y z->C x y z->D x y z->Z):Z:=h.elim λx h=>e2a4 h (f x)
def e3a5(h:∃x y z,A x y z/\B x y z/\C x y z/\D x y z/\E x y z)(f:∀x y z,A x y z->B x y z->C x y z->D x y z->E x y z->Z):Z:=h.elim λx h=>e2a5 h (f x)
def e3a7(h:∃x y z,A x y z/\B x y z/\C x y z/\D x y z/\E x y z/\F x y z/\G x y z)(f:∀x y z,A x y z->B x y z->C x y z->D x y z->E x y z->F x y z->G x y z->Z):Z:=h.elim λx h=>e2a7 h (f x)
def e3a8(h:∃x y z,A x y z/\B x y z/\C x y z/\D x y z/\E x y z/\F x y z/\G x y z/\H x y z)(f:∀x y z,A x y z->B x y z->C x y z->D x y z->E x y z->F x y z->G x y z->H x y z->Z):Z:=h.elim λx h=>e2a8 h (f x)
def e3a9(h:∃x y z,A x y z/\B x y z/\C x y z/\D x y z/\E x y z/\F x y z/\G x y z/\H x y z/\I x y z)(f:∀x y z,A x y z->B x y z->C x y z->D x y z->E x y z->F x y z->G x y z->H x y z->I x y z->Z):Z:=h.elim λx h=>e2a9 h (f x)
end
section
variable {A B C D E F G H:p->q->r->s->Prop}
def e4a1(h:∃x y z t,A x y z t)(f:∀x y z t,A x y z t->Z):Z:=h.elim λx h=>e3a1 h (f x)
def e4a2(h:∃x y z t,A x y z t/\B x y z t)(f:∀x y z t,A x y z t->B x y z t->Z):Z:=h.elim λx h=>e3a2 h (f x)
def e4a3(h:∃x y z t,A x y z t/\B x y z t/\C x y z t)(f:∀x y z t,A x y z t->B x y z t->C x y z t->Z):Z:=h.elim λx h=>e3a3 h (f x)
def e4a4(h:∃x y z t,A x y z t/\B x y z t/\C x y z t/\D x y z t)(f:∀x y z t,A x y z t->B x y z t->C x y z t->D x y z t->Z):Z:=h.elim λx h=>e3a4 h (f x)
def e4a8(h:∃x y z t,A x y z t/\B x y z t/\C x y z t/\D x y z t/\E x y z t/\F x y z t/\G x y z t/\H x y z t)(f:∀x y z t,A x y z t->B x y z t->C x y z t->D x y z t->E x y z t->F x y z t->G x y z t->H x y z t->Z):Z:=h.elim λx h=>e3a8 h (f x)
end
end
def minZ{a b:Nat}:min a 0<=b:=Nat.le_trans (Nat.min_le_right _ _) (Nat.zero_le _)
def lK{n m k:Nat}(h:n<=m)(q:Nat.ble m k=true):n<=k:=Nat.le_trans h (Nat.le_of_ble_eq_true q)
def lA{n m k j:Nat}(h:n<=m)(q:Nat.ble (m+j) k=true):n+j<=k:=Nat.le_trans (Nat.add_le_add_right h j) (Nat.le_of_ble_eq_true q)
def xM{n i k:Nat}(h:n-i=k+1):n-(i+1)=k:=congrArg Nat.pred h
def zw{n i k:Nat}(h:n-i=k+1):i<n:=Nat.lt_of_sub_eq_succ h
def Ae{n i:Nat}(h:n-i=0)(hi:i<=n):i=n:=Nat.le_antisymm hi (Nat.le_of_sub_eq_zero h)
def TZ{n i:Nat}(h:i<n):n-(i+1)+1=n-i:=Nat.succ_pred (Nat.sub_ne_zero_of_lt h)
def Ii{i:Nat}(h:¬i=0):i-1+1=i:=Nat.succ_pred h
def Ij{a b c l a':Nat}(h:a'<=a+1)(e:b+1=c)(q:a+c<=l):a'+b<=l:=Nat.le_trans (Nat.add_le_add_right h b) (Nat.le_trans (Nat.le_of_eq ((Nat.add_assoc a 1 b).trans (congrArg (a+·) ((Nat.add_comm 1 b).trans e)))) q)
def xN{u n l d k:Nat}(hd:d<=400)(q:u+50*n+500<l)(hk:Nat.ble k 100=true):u+k+d<l:=Nat.lt_of_le_of_lt (Nat.le_trans (Nat.le_of_eq (Nat.add_assoc u k d)) (Nat.add_le_add (Nat.le_add_right u (50*n)) (Nat.add_le_add (Nat.le_of_ble_eq_true hk) hd))) q
def Sm{u n l k:Nat}(h:1<=n)(q:u+50*n+500<l)(hk:Nat.ble k 50=true):u+k+50*(n-1)+500<l:=
 Nat.lt_of_le_of_lt (Nat.add_le_add_right (Nat.le_trans (Nat.le_of_eq (Nat.add_assoc u k _)) (Nat.add_le_add_left (Nat.le_trans (Nat.add_le_add_right (Nat.le_of_ble_eq_true hk) _) (Nat.le_of_eq ((Nat.add_comm 50 _).trans ((Nat.mul_succ 50 (n-1)).symm.trans (congrArg (50*·) (Nat.sub_add_cancel h)))))) u)) 500) q
def Sn{u n l:Nat}(h:1<=n)(q:u+n<l):u+1+(n-1)<l:=Nat.lt_of_le_of_lt (Nat.le_of_eq ((Nat.add_assoc u 1 _).trans (congrArg (u+·) (Nat.add_sub_of_le h)))) q
def aex{n:Nat}(h:n<4):n=0\/n=1\/n=2\/n=3:=(show ∀n,n<4->n=0\/n=1\/n=2\/n=3 by decide) n h
def aey{x:Int}(h:0<=x/\x<4):x=0\/x=1\/x=2\/x=3:=(Int.eq_ofNat_of_zero_le h.1).elim λn e=>e▸(aex (Int.ofNat_lt.mp (show(n:Int)<(4:Nat) from e▸h.2))).imp (congrArg Int.ofNat) (Or.imp (congrArg Int.ofNat) (Or.imp (congrArg Int.ofNat) (congrArg Int.ofNat)))
def ack{x:Int}(h:0<=x/\x<4):x∈[(0:Int),1,2,3]:=(aey h).elim (λe=>e▸.head _) λh=>h.elim (λe=>e▸.tail _ (.head _)) λh=>h.elim (λe=>e▸.tail _ (.tail _ (.head _))) λe=>e▸.tail _ (.tail _ (.tail _ (.head _)))
def Kd{n m:Nat}(h:n<=m)(q:Nat.ble m 1000000=true):-1000000<=(n:Int)/\(n:Int)<=1000000:=⟨Int.le_trans (by decide) (Int.natCast_nonneg n),Int.ofNat_le.mpr (Nat.le_trans h (Nat.le_of_ble_eq_true q))⟩
def bdx{a c L x k i n:Nat}(h:a+c<=L)(q:x<=a+k*i)(r:i<n)(e:Nat.ble (k*n) c=true):x+k<=L:=Nat.le_trans (Nat.add_le_add_right q k) (Nat.le_trans (Nat.le_of_eq (Nat.add_assoc a (k*i) k)) (Nat.le_trans (Nat.add_le_add_left (Nat.le_trans (Nat.mul_le_mul_left k r) (Nat.le_of_ble_eq_true e)) a) h))
def bd1{a c L x i n:Nat}(h:a+c<=L)(q:x<=a+i)(r:i<n)(e:Nat.ble n c=true):x+1<=L:=Nat.le_trans (Nat.succ_le_succ q) (Nat.le_trans (Nat.add_le_add_left (Nat.le_trans r (Nat.le_of_ble_eq_true e)) a) h)
def T3{K:Int}{i n:Nat}(h:K<=n)(r:i<K.toNat):i<n:=Nat.lt_of_lt_of_le r (Int.toNat_le.mpr h)
def tnK{K:Int}{n:Nat}(h:K<=n)(e:Nat.ble n 1000000=true):(K+1-1).toNat<=1000000:=(Int.add_sub_cancel K 1).symm▸Nat.le_trans (Int.toNat_le.mpr h) (Nat.le_of_ble_eq_true e)
def acm{K l m:Int}(h1:K<=m)(h2:l<=K)(a:decide (-1000000<=l+1)=true)(b:decide (m+1<=1000000)=true):-1000000<=K+1/\K+1<=1000000:=⟨Int.le_trans (of_decide_eq_true a) (Int.add_le_add_right h2 1),Int.le_trans (Int.add_le_add_right h1 1) (of_decide_eq_true b)⟩
def YC{n k:Nat}(h:12+k<=n):min 12 (n-k)=12:=Nat.min_eq_left (Nat.le_sub_of_add_le h)
def adm{a b c t:Nat}(h:a<=c+500*t)(g:b<=500):a+b<=c+500*(t+1):=Nat.le_trans (Nat.add_le_add h g) (Nat.le_of_eq (Nat.add_assoc c (500*t) 500))
def aez{a b c d:Nat}(h:a+c=b+(c+d)):a=b+d:=Nat.add_right_cancel (h.trans ((congrArg (b+·) (Nat.add_comm c d)).trans (Nat.add_assoc b d c).symm))
def no3{a b x y n:Nat}(q1:4<2*a)(h2:b=2)(q2:a<=x+1)(q3:b<=y+1)(q4:x+y<=n):3<=n:=Nat.le_trans (Nat.add_le_add (show 2<=x from Nat.le_of_succ_le_succ (Nat.le_trans (Nat.lt_of_mul_lt_mul_left (a:=2) q1) q2)) (show 1<=y from Nat.le_of_succ_le_succ (Nat.le_trans (Nat.le_of_eq h2.symm) q3))) q4
def lt4{f:Int}{s:Nat}(h:f<s)(q:s<=4):f<4:=Int.lt_of_lt_of_le h (Int.ofNat_le.mpr q)
def So{i s:Nat}(h:i<s)(q:s<=4):(i:Int)<4:=Int.ofNat_lt.mpr (Nat.lt_of_lt_of_le h q)
def B4{n s:Nat}(h:2*n<=s)(q:s<=4):n<=2:=Nat.le_of_mul_le_mul_left (Nat.le_trans h q) (by decide)
def aeA{n s:Nat}(h:2*n<=s)(q:s<=4):n<64:=Nat.lt_of_le_of_lt (B4 h q) (by decide)
def HD{a b k:Nat}(h:a<=k)(q:b<=k):max a b<=k:=Nat.max_le.2 ⟨h,q⟩
def mz{a k:Nat}(h:a<=k):max 0 a<=k:=HD (Nat.zero_le _) h
def zm{a k:Nat}(h:a<=k):max a 0<=k:=HD h (Nat.zero_le _)
def nz{n:Nat}(h:0<n):¬(n:Int)=0:=λe=>Nat.ne_of_gt h (Int.ofNat.inj e)
def z0{x n m k:Nat}(h:x<=0+n)(q:n<=m)(e:Nat.ble m k=true):x<=k:=Nat.le_trans h (Nat.le_trans (Nat.le_of_eq (Nat.zero_add n)) (lK q e))
@[elab_as_elim] theorem rwm {α:Sort u} {a b:α} {p:α->Prop} (h:a=b) (x:p b):p a:=h▸x
@[elab_as_elim] theorem rwl {α:Sort u} {a b:α} {p:α->Prop} (h:b=a) (x:p b):p a:=h▸x
def nsn{α:Type u}{a:α}(h:some a=none):False:=nomatch h
def aa:=@rfl
theorem aeB(h:True:=by rfl):True:=h
def bu:Lean.Syntax:=aeB._auto_1
theorem aeC(h:True:=by intro _;rfl):True:=h
def HE:Lean.Syntax:=aeC._auto_1
def fG:=@of_decide_eq_true
def aq:=@if_pos
def ay:=@if_neg
def aK:=@absurd
def cj:=@congrArg
section Sx
set_option compiler.extract_closed false
set_option compiler.reuse false
local macro_rules
  | `(tactic| let ⟨$ps,*⟩ := $e) => do
    let ps : Array Lean.Term := ps
    let f ← `(fun $ps* => ?_)
    let as := (Array.range ps.size).map fun k => Lean.Syntax.mkApp (Lean.mkIdent (.mkSimple s!"e{k}a{ps.size-k}")) #[e, f]
    `(tactic| ((first $[| refine $as:term]*); (try clear $e:term); repeat subst $(Lean.mkIdent `zy):ident))
  | `(tactic| intros $xs*) => do
    let xs : Array Lean.Ident := xs.map (⟨·.raw⟩)
    let k := xs.findIdx (!·.raw.isIdent)
    let ds := xs.take k
    let hs := xs.drop (k + 1)
    let c s := Lean.mkIdent (.mkSimple s!"{s}{k}")
    let w ← `(@$(c "ep") ..)
    let gs : Array (Lean.TSyntax `tactic) := ds.mapIdx fun i d =>
      let e := i.fold (fun _ _ e => Lean.Syntax.mkApp (Lean.mkIdent `Prod.snd) #[e]) w
      ⟨Lean.mkNode `Lean.Parser.Tactic.generalize #[Lean.mkAtom "generalize", Lean.mkNullNode #[Lean.mkNode `Lean.Parser.Tactic.generalizeArg #[Lean.mkNullNode, if i+1 < k then Lean.Syntax.mkApp (Lean.mkIdent `Prod.fst) #[e] else e, Lean.mkAtom "=", d]], Lean.mkNullNode]⟩
    let r ← `(tactic| (revert $ds*; refine no_implicit_lambda% ($(c "all") ?_); $[$gs:tactic];*))
    if hs.isEmpty then return r
    `(tactic| (revert $hs*; $r; intro $[$hs:ident]*))
  | `(tactic| rw [$rs,*]) => do
    let ts ← rs.getElems.mapM fun r => do
      let t : Lean.Term := ⟨r.raw[1]⟩
      `(tactic| first | refine $(Lean.mkIdent (if r.raw[0].isNone then `rwm else `rwl)) ($t ..) ?_ | rewrite [$r])
    `(tactic| ($[$ts];*; try (with_reducible rfl)))
  | `(tactic| show $t:term) => `(tactic| refine (?_ : $t))
  | `(tactic| cases $h:ident) => `(tactic| first | exact Bool.noConfusion $h | exact (nsn $h).elim | exact (nsn (Eq.symm $h)).elim | (have zy := Option.some.inj $h; clear $h; subst zy) | cases ($h))
instance:Nonempty PySem.Drawn:=⟨{}⟩
noncomputable def f7{α:Type}(lt:Nat->Nat->Bool):sI α->α
 |.ret a=>a
 |.ask i j k=>f7 lt (k (lt i j))
theorem qD{α β:Type}(lt:Nat->Nat->Bool)(f:α->sI β):∀t:sI α,f7 lt (t.bind f)=f7 lt (f (f7 lt t))
 |.ret a=>rfl
 |.ask i j k=>qD lt f (k (lt i j))
def kIn{α:Type}(n:Nat):sI α->Prop
 |.ret _=>True
 |.ask i j k=>i<n/\j<n/\∀b,kIn n (k b)
theorem Sp{α:Type}{n:Nat}{lt:Nat->Nat->Bool}{cmp:Nat->Nat->(Bool->Shared->Prop)->Shared->Prop}{s:Shared}(hc:∀i j (C:Bool->Shared->Prop),i<n->j<n->C (lt i j) s->cmp i j C s){Q:α->Shared->Prop}:∀t:sI α,kIn n t->Q (f7 lt t) s->t.kasWp cmp Q s
 |.ret a,_,h=>h
 |.ask i j k,hi,h=>hc i j _ hi.1 hi.2.1 (Sp hc (k (lt i j)) (hi.2.2 _) h)
def sO{α:Type}(n:Nat)(G:α->Prop):sI α->Prop
 |.ret a=>G a
 |.ask i j k=>i<n/\j<n/\∀b,sO n G (k b)
theorem sO.sP{α:Type}{n:Nat}{G:α->Prop}:∀{t:sI α},sO n G t->kIn n t
 |.ret a,_=>trivial
 |.ask i j k,h=>⟨h.1,h.2.1,λb=>(h.2.2 b).sP⟩
theorem sO.bind{α β:Type}{n:Nat}{G:α->Prop}{H:β->Prop}{f:α->sI β}(hf:∀a,G a->sO n H (f a)):∀{t:sI α},sO n G t->sO n H (t.bind f)
 |.ret a,h=>hf a h
 |.ask i j k,h=>⟨h.1,h.2.1,λb=>(h.2.2 b).bind hf⟩
def Rg(n:Nat)(p:Array Nat):Prop:=p.Perm (yX (lX n))
theorem Rg.size(h:Rg n p):p.size=n:=by have:=h.size_eq;simpa using this
def Rg.lt{n:Nat}{p:Array Nat}(h:Rg n p)(hn:0<n)(i:Nat):p.getD i 0<n:=by
 by_cases hi:i<p.size
 .have e:p.getD i 0=p[i]:=by simp[EC,hi]
  rw[e];have:p[i]∈yX (lX n):=h.mem_iff.mp (Array.getElem_mem hi)
  simpa using this
 simp[EC,hi];exact hn
def Rg.rev(h:Rg n p)(i j:Nat):Rg n (lZ p i j):=(mirror_perm _ _ _ _).trans h
theorem Rg.bubble(h:Rg n p)(i j:Nat):Rg n (bubble p i j):=(bubble_perm _ _ _).trans h
section
variable {n:Nat}(hn:0<n)
include hn
theorem Ke(h:Rg n p):∀(f m:Nat),sO n (λz=>True) (sJ p f m)
 |0,m=>trivial
 |f+1,m=>⟨h.lt hn _,h.lt hn _,λb=>by
  cases b
  .exact Ke h f (m+1)
  trivial⟩
theorem Af:∀(f:Nat) (p:Array Nat) (m q:Nat),Rg n p->sO n (λr:Array Nat×Nat×Nat=>Rg n r.1) (lB f p m q)
 |0,p,m,q,h=>h
 |f+1,p,m,q,h=>⟨h.lt hn _,h.lt hn _,λb=>by
  cases b with
  |true=>
   show sO n _ (if q>0 then _ else _);split
   .exact Af f _ _ _ (h.rev _ _)
   exact Af f _ _ _ h
  |false=>exact⟨h.lt hn _,h.lt hn _,λb=>by
   cases b
   .exact Af f _ _ _ h
   exact h⟩⟩
theorem Ik{p:Array Nat}(h:Rg n p)(m e8:Nat):sO n (λr:Nat×Array Nat=>Rg n r.2) (BS m e8 p):=
 (Ke hn (h.rev 0 m) _ _).bind (H:=λr:Nat×Array Nat=>Rg n r.2) (f:=λm'=>.ret (m',lZ p 0 m)) λz z=>h.rev 0 m
theorem Ag{p:Array Nat}(h:Rg n p)(m e8:Nat):sO n (λr:Nat×Array Nat=>Rg n r.2) (vO m e8 p):=
 (Af hn _ p _ _ h).bind λr hr=>by
  show sO n _ (if r.2.2>0 then _ else _);split
  .exact Ik hn (hr.rev _ _) _ _
  exact Ik hn hr _ _
theorem Il{p:Array Nat}(h:Rg n p)(e8:Nat):sO n (λr:Nat×Array Nat=>Rg n r.2) (zo e8 p):=
 (Ke hn h _ _).bind λm z=>by
  show sO n _ (if(m==e8)=true then _ else if m>1 then _ else _);split
  .exact h
  split
  .exact⟨h.lt hn _,h.lt hn _,λb=>by
    cases b
    .exact Ag hn (h.rev _ _) _ _
    exact h⟩
  exact Ag hn h _ _
theorem B5(h:Rg n p)(k:Nat):∀(f l r:Nat),sO n (λz=>True) (qR p k f l r)
 |0,l,r=>trivial
 |f+1,l,r=>by
  unfold qR;split
  .trivial
  exact⟨h.lt hn _,h.lt hn _,λb=>by
   cases b
   .exact B5 h k f _ _
   exact B5 h k f _ _⟩
theorem Ss:∀(f:Nat) (p:Array Nat) (k:Nat),Rg n p->sO n (Rg n) (kas_bin f p k)
 |0,p,k,h=>h
 |f+1,p,k,h=>(B5 hn h k _ _ _).bind λl z=>Ss f _ _ (h.bubble _ _)
theorem Mp:sO n (Rg n) (JY n):=
 (Il hn (p:=yX (lX n)) (Yn _) n).bind λr hr=>by
  show sO n _ (if r.1<n then _ else _);split
  .exact Ss hn _ _ _ hr
  exact hr
end
theorem sO.ev{α:Type}{n:Nat}{G:α->Prop}(lt:Nat->Nat->Bool):∀{t:sI α},sO n G t->G (f7 lt t)
 |.ret a,h=>h
 |.ask i j k,h=>(h.2.2 (lt i j)).ev lt
section
variable (key:Nat->Int)
noncomputable def kv(p:Array Nat)(i:Nat):Int:=key (p.getD i 0)
noncomputable def eX(i j:Nat):Bool:=decide (key i<key j)
theorem tE(h:p[i]?=q[j]?):kv key p i=kv key q j:=by
 unfold kv;simp only[Array.getD_eq_getD_getElem?];rw[h]
theorem Su(hj:j<=p.size)(k:Nat):kv key (lZ p i j) k=if i<=k/\k<j then kv key p (i+j-1-k) else kv key p k:=by
 have e:=getElem?_mirror_all (i:=i) hj k;unfold lZ
 by_cases h:i<=k/\k<j
 .rw[aq h] at e⊢;exact tE key e
 rw[ay h] at e⊢;exact tE key e
theorem Mq(hm:m<=p.size)(hk:k<m):kv key (lZ p 0 m) k=kv key p (m-1-k):=(Su key hm k).trans ((aq ⟨b8 _,hk⟩).trans (cj (λx=>kv key p (x-1-k)) (qJ m)))
theorem tF(h:i<j):j-1<j:=Wk (f6 (b8 _) h) OT
theorem zz(hj:j<=p.size)(he:∀k,i<=k->k<j->kv key p k=kv key p (j-1))(k:Nat):kv key (lZ p i j) k=kv key p k:=by
 rw[Su key hj];split
 .rename_i h;exact(he _ (Ea (Ea (ff h.2 i))) (f6 (aG (OU h.1 _) (fF ((Nat.sub_right_comm (i+j) 1 i).trans (cj (·-1) (OV ..))))) (tF h.2))).trans (he k h.1 h.2).symm
 rfl
theorem EP(hs:Kf<p.size)(hd:d<=Kf)(k:Nat):kv key (bubble p Kf d) k=if k=Kf-d then kv key p Kf else if Kf-d<k/\k<=Kf then kv key p (k-1) else kv key p k:=by
 have e:=getElem?_bubble hs d hd k
 by_cases h1:k=Kf-d
 .rw[aq h1] at e⊢;exact tE key e
 rw[ay h1] at e⊢
 by_cases h2:Kf-d<k/\k<=Kf
 .rw[aq h2] at e⊢;exact tE key e
 rw[ay h2] at e⊢;exact tE key e
def Up(p:Array Nat)(m:Nat):Prop:=∀i j,i<=j->j<m->kv key p i<=kv key p j
def Dn(p:Array Nat)(m:Nat):Prop:=∀i j,i<=j->j<m->kv key p j<=kv key p i
theorem Up.more(h:Up key p m)(h1:1<=m)(hx:kv key p (m-1)<=kv key p m):Up key p (m+1):=λi j l8 hj=>
 (tZ (mQ hj)).elim (h i j l8) λe=>e▸(tZ (e▸l8:i<=m)).elim (λq=>cN (h i (m-1) (yW q) (tF h1)) hx) λq=>q▸eS _
theorem Dn.more(h:Dn key p m)(h1:1<=m)(hx:kv key p m<=kv key p (m-1)):Dn key p (m+1):=λi j l8 hj=>
 (tZ (mQ hj)).elim (h i j l8) λe=>e▸(tZ (e▸l8:i<=m)).elim (λq=>cN hx (h i (m-1) (yW q) (tF h1))) λq=>q▸eS _
theorem Dn.eqv(h:Dn key p m)(hp:∀k,kv key p' k=kv key p k):Dn key p' m:=λi j l8 hj=>(hp j).symm▸(hp i).symm▸h i j l8 hj
theorem Kg(p:Array Nat):∀(f m:Nat),1<=m->Up key p m->m<=f7 (eX key) (sJ p f m)/\f7 (eX key) (sJ p f m)<=m+f/\Up key p (f7 (eX key) (sJ p f m))/\
 (f7 (eX key) (sJ p f m)<m+f->kv key p (f7 (eX key) (sJ p f m))<kv key p (f7 (eX key) (sJ p f m)-1))
 |0,m,h1,hu=>⟨bW _,bW _,hu,λh=>aK h (Jw _)⟩
 |f+1,m,h1,hu=>by
  have e:f7 (eX key) (sJ p (f+1) m)=f7 (eX key) (if eX key (p.getD m 0) (p.getD (m-1) 0)=true then .ret m else sJ p f (m+1)):=rfl;rw[e]
  by_cases hc:eX key (p.getD m 0) (p.getD (m-1) 0)=true
  .rw[aq hc];exact⟨bW _,iE _ _,hu,λz=>fG hc⟩
  rw[ay hc]
  have zA:kv key p (m-1)<=kv key p m:=by
   have:¬key (p.getD m 0)<key (p.getD (m-1) 0):=λh=>hc (decide_eq_true h)
   exact lz.mp this
  let ⟨a,b,c,d⟩:=Kg p f (m+1) (iQ 1 m) (hu.more key h1 zA);have e:m+1+f=m+(f+1):=Jx m 1 f;exact⟨aG (jr m) a,e▸b,c,λh=>d (e▸h)⟩
theorem Ah:∀(f:Nat) (p:Array Nat) (m q:Nat),q+1<=m->m+f<=p.size->Dn key p m->(∀j,m-(q+1)<=j->j<m->kv key p j=kv key p (m-1))->
 (f7 (eX key) (lB f p m q)).1.size=p.size/\m<=(f7 (eX key) (lB f p m q)).2.1/\(f7 (eX key) (lB f p m q)).2.1<=m+f/\Dn key (f7 (eX key) (lB f p m q)).1 (f7 (eX key) (lB f p m q)).2.1/\
 (f7 (eX key) (lB f p m q)).2.2+1<=(f7 (eX key) (lB f p m q)).2.1/\∀j,(f7 (eX key) (lB f p m q)).2.1-((f7 (eX key) (lB f p m q)).2.2+1)<=j->j<(f7 (eX key) (lB f p m q)).2.1->kv key (f7 (eX key) (lB f p m q)).1 j=kv key (f7 (eX key) (lB f p m q)).1 ((f7 (eX key) (lB f p m q)).2.1-1)
 |0,p,m,q,hq,hz,hd,he=>⟨rfl,bW _,bW _,hd,hq,he⟩
 |f+1,p,m,q,hq,hz,hd,he=>by
  have e:f7 (eX key) (lB (f+1) p m q)=f7 (eX key) (if eX key (p.getD m 0) (p.getD (m-1) 0)=true then(if q>0 then lB f (lZ p (m-(q+1)) m) (m+1) 0 else lB f p (m+1) 0)
   else .ask (p.getD (m-1) 0) (p.getD m 0) λd=>if d=true then .ret (p,m,q) else lB f p (m+1) (q+1)):=rfl
  rw[e];have YD:1<=m:=aG (iQ 1 q) hq;have hz1:m+1+f<=p.size:=(Jx m 1 f).symm▸hz;have up:∀{x:Nat},m+1<=x->m<=x:=λh=>aG (jr m) h
  have to:∀{x:Nat},x<=m+1+f->x<=m+(f+1):=λh=>(Jx m 1 f)▸h
  have one:∀p':Array Nat,∀j,m+1-(0+1)<=j->j<m+1->kv key p' j=kv key p' (m+1-1):=λp' j h1 h2=>cj (kv key p') (pI (mQ h2) h1)
  by_cases hc:eX key (p.getD m 0) (p.getD (m-1) 0)=true
  .rw[aq hc];have hx:kv key p m<=kv key p (m-1):=jR (fG hc)
   by_cases hq0:q>0
   .rw[aq hq0];have jt:(lZ p (m-(q+1)) m).size=p.size:=PK _ _ _ _;let ⟨a,b,c,d,g,i⟩:=Ah f (lZ p (m-(q+1)) m) (m+1) 0 (iQ 1 m) (by rw[jt];exact hz1) ((hd.more key YD hx).eqv key (zz key (aG (aG (iE m 1) (iE _ f)) hz1) he)) (one _);exact⟨a.trans jt,up b,to c,d,g,i⟩
   rw[ay hq0];let ⟨a,b,c,d,g,i⟩:=Ah f p (m+1) 0 (iQ 1 m) hz1 (hd.more key YD hx) (one _);exact⟨a,up b,to c,d,g,i⟩
  rw[ay hc];have e2:f7 (eX key) (.ask (p.getD (m-1) 0) (p.getD m 0) λd=>if d=true then J5 (p,m,q) else lB f p (m+1) (q+1))=f7 (eX key) (if eX key (p.getD (m-1) 0) (p.getD m 0)=true then J5 (p,m,q) else lB f p (m+1) (q+1)):=rfl;rw[e2];have h1:kv key p (m-1)<=kv key p m:=lz.mp λh=>hc (decide_eq_true h)
  by_cases oi:eX key (p.getD (m-1) 0) (p.getD m 0)=true
  .rw[aq oi];exact⟨rfl,bW _,iE _ _,hd,hq,he⟩
  rw[ay oi];have h2:kv key p m<=kv key p (m-1):=lz.mp λh=>oi (decide_eq_true h)
  let ⟨a,b,c,d,g,i⟩:=Ah f p (m+1) (q+1) (gw hq) hz1 (hd.more key YD h2) (λj h3 h4=>(tZ (mQ h4)).elim (λq'=>(he j (Wl m 1 (q+1)▸h3) q').trans (uc h1 h2)) λq'=>cj (kv key p) q');exact⟨a,up b,to c,d,g,i⟩
theorem Im(h1:1<=m)(hm:m<=e8)(hz:e8<=p.size)(hd:Dn key p m):1<=(f7 (eX key) (BS m e8 p)).1/\(f7 (eX key) (BS m e8 p)).1<=e8/\Up key (f7 (eX key) (BS m e8 p)).2 (f7 (eX key) (BS m e8 p)).1:=by
 unfold BS;rw[qD];have hmz:=aG hm hz
 have hu:Up key (lZ p 0 m) m:=λi j l8 hj=>by
  rw[Mq key hmz (f6 l8 hj),Mq key hmz hj];exact hd _ _ (OU l8 _) (f6 (vt _ _) (tF h1))
 let ⟨a,b,c,z2⟩:=Kg key (lZ p 0 m) (e8-m) m h1 hu;clear z2;exact⟨aG h1 a,aG b (fF (Jy hm)),c⟩
theorem Ai{p:Array Nat}{m e8:Nat}(h1:1<=m)(hm:m+1<=e8)(hz:e8<=p.size)(hd:Dn key p (m+1)):1<=(f7 (eX key) (vO m e8 p)).1/\(f7 (eX key) (vO m e8 p)).1<=e8/\Up key (f7 (eX key) (vO m e8 p)).2 (f7 (eX key) (vO m e8 p)).1:=by
 intros key p m e8 _ h1 hm hz hd;unfold vO;rw[qD];have en:m+1+(e8-(m+1))=e8:=Jy hm;let ⟨a,b,c,d,g,i⟩:=Ah key (e8-(m+1)) p (m+1) 0 (iQ 1 m) (en.symm▸hz) hd (λj h1 h2=>cj (kv key p) (pI (mQ h2) h1));rw[en] at c;generalize f7 (eX key) (lB (e8-(m+1)) p (m+1) 0)=r at a b c d g i;have cz:r.2.1<=r.1.size:=a.symm▸aG c hz;have b1:=aG (iQ 1 m) b
 by_cases hq:r.2.2>0
 .rw[aq hq];exact Im key b1 c (by rw[show(lZ r.1 (r.2.1-(r.2.2+1)) r.2.1).size=r.1.size from PK _ _ _ _,a];exact hz) (d.eqv key (zz key cz i))
 rw[ay hq];exact Im key b1 c (a.symm▸hz) d
theorem T4{p:Array Nat}{e8:Nat}(h1:1<=e8)(hz:e8<=p.size):1<=(f7 (eX key) (zo e8 p)).1/\(f7 (eX key) (zo e8 p)).1<=e8/\Up key (f7 (eX key) (zo e8 p)).2 (f7 (eX key) (zo e8 p)).1:=by
 intros key p e8 _ h1 hz;unfold zo;rw[qD]
 have hu1:Up key p 1:=λi j l8 hj=>by
  have:i=j:=pI l8 (aG (mQ hj) (b8 i));subst this;exact eS _
 let ⟨a,b,c,d⟩:=Kg key p (e8-1) 1 (bW _) hu1;rw[Jy h1] at b d;generalize f7 (eX key) (sJ p (e8-1) 1)=m at a b c d
 by_cases e1:(m==e8)=true
 .rw[aq e1];exact⟨a,b,c⟩
 rw[ay e1];have lt:m<e8:=Eb b λh=>e1 (beq_iff_eq.mpr h)
 have eG:=d lt;have mz:m<=p.size:=aG b hz
 by_cases e2:m>1
 .rw[aq e2];have e:f7 (eX key) (.ask (p.getD 0 0) (p.getD (m-1) 0) λc=>if c=true then J5 (m,p) else vO m e8 (lZ p 0 m))=f7 (eX key) (if eX key (p.getD 0 0) (p.getD (m-1) 0)=true then J5 (m,p) else vO m e8 (lZ p 0 m)):=rfl;rw[e]
  by_cases hc:eX key (p.getD 0 0) (p.getD (m-1) 0)=true
  .rw[aq hc];exact⟨a,b,c⟩
  rw[ay hc];have h0:kv key p (m-1)<=kv key p 0:=lz.mp λh=>hc (decide_eq_true h)
  have tG:∀k,0<=k->k<m->kv key p k=kv key p (m-1):=λk z hk=>uc (c k (m-1) (yW hk) (tF hk)) (cN h0 (c 0 k (b8 _) hk))
  have dn:Dn key p m:=λi j l8 hj=>(tG j (b8 _) hj).trans (tG i (b8 _) (f6 l8 hj)).symm▸eS _
  exact Ai key a lt (by rw[show(lZ p 0 m).size=p.size from PK _ _ _ _];exact hz) ((dn.more key a (jR eG)).eqv key (zz key mz tG))
 rw[ay e2];have YD:m=1:=pI (jb.mp e2) a;subst YD;exact Ai key a lt hz (Dn.more key (λi j l8 hj=>by
  have:i=j:=pI l8 (aG (mQ hj) (b8 i));subst this;exact eS _) a (jR eG))
theorem aeD(h:l<r):l<=(l+r)/2:=(Nat.le_div_iff_mul_le Jz).mpr ((Nat.mul_two l).symm▸ff (ee h) l)
theorem aeE(h:l<r):(l+r)/2<r:=Nat.div_lt_of_lt_mul ((Wm r).symm▸Nat.add_lt_add_right h r)
theorem B6(hu:Up key p k):∀(f l r:Nat),l<=r->r<=k->r-l<=f->(∀i,i<l->kv key p i<=kv key p k)->(∀i,r<=i->i<k->kv key p k<kv key p i)->
 f7 (eX key) (qR p k f l r)<=k/\(∀i,i<f7 (eX key) (qR p k f l r)->kv key p i<=kv key p k)/\(∀i,f7 (eX key) (qR p k f l r)<=i->i<k->kv key p k<kv key p i)
 |0,l,r,hl,hr,hf,h1,h2=>by
  have:l=r:=pI hl (Nat.sub_eq_zero_iff_le.mp (Wn.mp hf));subst this;exact⟨hr,h1,h2⟩
 |f+1,l,r,hl,hr,hf,h1,h2=>by
  unfold qR
  by_cases hge:l>=r
  .rw[aq hge];have:l=r:=pI hl hge;subst this;exact⟨hr,h1,h2⟩
  rw[ay hge];have hlr:=Nat.lt_of_not_ge hge;have m0:=aeD hlr;have m1:=aeE hlr;have e:f7 (eX key) (.ask (p.getD k 0) (p.getD ((l+r)/2) 0) λc=>if c=true then qR p k f l ((l+r)/2) else qR p k f ((l+r)/2+1) r)=f7 (eX key) (if eX key (p.getD k 0) (p.getD ((l+r)/2) 0)=true then qR p k f l ((l+r)/2) else qR p k f ((l+r)/2+1) r):=rfl;rw[e];generalize(l+r)/2=d at m0 m1
  by_cases hc:eX key (p.getD k 0) (p.getD d 0)=true
  .rw[aq hc];exact B6 hu f l d m0 (aG (ee m1) hr) (mQ (jD (Nat.sub_lt_sub_right m0 m1) hf)) h1 λi hi hk=>BN (fG hc) (hu _ _ hi hk)
  rw[ay hc];exact B6 hu f (d+1) r m1 hr (aG (OU (gw m0) r) (show r-l-1<=f from Wo hf)) (λi hi=>cN (hu i d (mQ hi) (jD m1 hr)) (lz.mp λh=>hc (decide_eq_true h))) h2
theorem abl{p:Array Nat}{k l:Nat}(hk:k<p.size)(hu:Up key p k)(h1:l<=k)(h2:∀i,i<l->kv key p i<=kv key p k)(h3:∀i,l<=i->i<k->kv key p k<kv key p i):Up key (bubble p k (k-l)) (k+1):=by
 intros key p k l _ hk hu h1 h2 h3;exact λi j l8 hj=>by
  have YE:=mQ hj;have pj:l<j->j-1<k:=λq=>jD (tF q) YE
  rw[EP key hk (vt _ _),EP key hk (vt _ _),Nat.sub_sub_self h1]
  by_cases hi:i=l
  .rw[aq hi]
   by_cases P4:j=l
   .rw[aq P4];exact eS _
   have lj:l<j:=Eb (hi▸l8) (dJ P4);rw[ay P4,aq ⟨lj,YE⟩];exact jR (h3 (j-1) (yW lj) (pj lj))
  rw[ay hi]
  by_cases ER:l<i/\i<=k
  .have lj:=jD ER.1 l8;rw[aq ER,ay (Ec lj),aq ⟨lj,YE⟩];exact hu _ _ (Nat.sub_le_sub_right l8 1) (pj lj)
  have il:i<l:=Eb (jb.mp λx=>ER ⟨x,aG l8 YE⟩) hi;rw[ay ER]
  by_cases P4:j=l
  .rw[aq P4];exact h2 i il
  rw[ay P4]
  by_cases Kh:l<j/\j<=k
  .rw[aq Kh];exact hu _ _ (yW (Ed il Kh.1)) (pj Kh.1)
  rw[ay Kh];exact hu _ _ l8 (jD (Eb (jb.mp λx=>Kh ⟨x,YE⟩) P4) h1)
theorem Sv:∀(f:Nat) (p:Array Nat) (k:Nat),k+f<=p.size->Up key p k->Up key (f7 (eX key) (kas_bin f p k)) (k+f)
 |0,p,k,_,hu=>hu
 |f+1,p,k,hz,hu=>by
  unfold kas_bin;rw[qD];let ⟨h1,h2,h3⟩:=B6 key hu k 0 k (b8 _) (bW _) (vt _ _) (λi hi=>aK hi (Nat.not_lt_zero _)) (λi h1 h2=>aK h2 (jb.mpr h1));generalize f7 (eX key) (qR p k k 0 k)=l at h1 h2 h3;have e:k+1+f=k+(f+1):=Jx k 1 f;rw[<-e] at hz⊢;exact Sv f (bubble p k (k-l)) (k+1) (by rw[bubble_size];exact hz) (abl key (jD (qK k) (aG (iE _ f) hz)) hu h1 h2 h3)
theorem YF{n:Nat}(hn:1<=n):Up key (f7 (eX key) (JY n)) n:=by
 intros key n _ hn;unfold JY;rw[qD];let ⟨a,b,c⟩:=T4 key (p:=yX (lX n)) hn (by simp);have hr:=(Il (n:=n) hn (p:=yX (lX n)) (Yn _) n).ev (eX key);generalize f7 (eX key) (zo n (yX (lX n)))=r at a b c hr;have jt:=Rg.size hr
 by_cases h:r.1<n
 .rw[aq h];have en:r.1+(n-r.1)=n:=Jy b;rw[Wq a];have:=Sv key (n-r.1) r.2 r.1 (fF (en.trans jt.symm)) c;rw[en] at this;exact this
 rw[ay h];have:r.1=n:=pI b (jb.mp h);show Up key r.2 n;rw[<-this];exact c
end
def bk{α:Type}{M:Model}{A:Around}{t:Sem α}{Q Q':α->Shared->Prop}{E:aA->Shared->Prop}{s:Shared}(h:wpAny M A t Q E s)(q:∀a s,Q a s->Q' a s):wpAny M A t Q' E s:=mP h q λz z h=>h
instance:Nonempty Shared:=⟨{}⟩
instance:Nonempty Around:=⟨{}⟩
instance:Nonempty World:=⟨⟨λz z=>0,{strHash:=λz=>0,shareClass:=λz=>0,mergeTok:=id,idOf:=λz=>0,idOfShared:=λz z=>0,followText:=λz=>false,idOfImm:=λz=>0}⟩⟩
instance:Nonempty PySem.Params:=PR (inferInstance:Nonempty World) λw=>⟨w.params⟩
noncomputable def gF(m:Nat):Array Nat:=((lX 4).filter λi=>m.testBit i).toArray
def Dj(b:Bool)(es:Array (Int×aA))(t:yQ):Prop:=
 t.mask=7/\t.dummies=#[]/\t.plain=true/\t.led=!b/\(∃m,m<16/\t.place=gF m)/\es.size=t.place.size/\∀(j:Nat) (e:Int×aA),es[j]?=some e->∃(k:Nat) (tok:Tok),t.place[j]?=some k/\e.2=l7 (k:Int) tok
def rZ(b:Bool)(h:cC)(a:Addr):Prop:=∃o es ep t,h.get? a=some o/\o.data=.set es ep t/\Dj b es t
def Aj(x:rZ b h a)(k:∀o,h.get? a=some o->h'.get? a=some o):rZ b h' a:=by let ⟨o,es,ep,t,ho,r⟩:=x;exact⟨o,es,ep,t,k o ho,r⟩
def T5:∀m<16,∀i<4,m.testBit i=false->(gF m)[jE (gF m) i]?≠some i/\jE (gF m) i<=(gF m).size/\BU (gF m) (jE (gF m) i) i=gF (m|||2^i)/\m|||2^i<16/\(gF m).size<=3:=by decide+kernel
def Mr:∀m<16,(gF m).size<=4:=by decide+kernel
def abm:∀m<16,∀i<4,m.testBit i=true->∃j<4,(gF m)[j]?=some i:=by decide+kernel
def yq{α:Type}(xs:Array α)(p:Nat)(x:α)(hp:p<=xs.size)(j:Nat):(BU xs p x)[j]?=if j<p then xs[j]? else if j=p then some x else xs[j-1]?:=by
 unfold BU;have he:(xs.extract 0 p).size=p:=by rw[Array.size_extract,n8 hp,JA]
 have hs:((xs.extract 0 p).push x).size=p+1:=by rw[Array.size_push,he]
 by_cases h1:j<p
 .rw[aq h1,Xx (hs▸JB h1),Xy,ay (he.symm▸ie h1),Xz,JA,n8 hp,aq h1,qJ]
 rw[ay h1]
 by_cases h2:j=p
 .subst h2;rw[aq aa,Xx (hs▸qK _),Xy,aq he.symm]
 let ⟨d,zy⟩:=Nat.exists_eq_add_of_le (Eb (jb.mp h1) (dJ h2))
 rewrite [ay h2,Array.getElem?_append_right (hs▸iE _ _),hs,Xz,OV,Nat.min_self,OW,Nat.succ_sub_one]
 by_cases h3:p+d<xs.size
 .rewrite [aq (Nat.lt_sub_of_add_lt (pJ p d▸h3))];rfl
 rw[ay λx=>h3 (Nat.add_lt_of_lt_sub' x),zq (jb.mp h3)]
def Dj.lay(h:Dj b es t)(h0:0<=i)(h4:i<4)(qX:∀e∈es.toList,∀t',e.2≠.int i t'):∃P5 t',layNew t es (hashInt i) (.int i tok)=(P5,t',false,false)/\Dj b P5 t'/\t'.tooFull=false:=by
 intros b es t i tok _ h h0 h4 qX;let ⟨h1,h2,h3,h5,z2,h7,h8⟩:=h;let ⟨m,hm,h6⟩:=z2;intros m _ h1 h2 h3 h5 h7 h8 hm h6;let ⟨i',zy⟩:=Ez h0;intros i' _ h0 h4 qX;have Dk:i'<4:=kG.mp h4
 have aeF:m.testBit i'=false:=by
  cases hb:m.testBit i' with
  |false=>rfl
  |true=>
   let ⟨j,hj4,hj⟩:=abm m hm i' Dk hb;intros j _ hj4 hj
   have hjs:j<es.size:=by
    rw[h7,h6];rcases Ef j (gF m).size with h|h
    .exact h
    rw[zq h] at hj;cases hj
   let ⟨k,tk,e1,e2⟩:=h8 j es[j] (ED hjs);intros k tk _ e1 e2;rw[h6,hj] at e1;cases e1;exact aK e2 (qX es[j] (by simp) tk)
 let ⟨f1,f2,f3,f4,f5⟩:=T5 m hm i' Dk aeF;have hh:hashInt (i':Int)=(i':Int):=(show ∀j,j<4->hashInt ((j:Nat):Int)=(j:Int) by decide+kernel) i' Dk
 have adn:t.slot i'=.empty:=by
  unfold SetTable.slot;rw[h6,h2];have:((gF m)[jE (gF m) i']?==some i')=false:=by simpa using f1
  simp only[this,sH,if_false];have:J0 #[] i'=false:=by unfold J0;simp
  rw[this];rfl
 have um:t.freeSlot (i':Int)=some (i',false):=by
  unfold SetTable.freeSlot SetTable.probe;have hb:XF (i':Int)=i':=(show ∀j,j<4->XF ((j:Nat):Int)=j by decide+kernel) i' Dk
  have Ak:(t.probeStart (i':Int)).j=i'/\(t.probeStart (i':Int)).dummy=none:=by
   unfold SetTable.probeStart;rw[hb,h1];exact⟨Nat.mod_eq_of_lt (Ed Dk (by decide)),rfl⟩
  have ht:10*SetTable.turns t.mask=219+1:=by rw[h1];rfl
  rw[ht];unfold adi;rw[Ak.1,adn];dsimp only;rw[Ak.2];rfl
 have aeG:t.put i'=({t with place:=gF (m|||2^i')},jE (gF m) i'):=by
  unfold SetTable.put;dsimp only;rw[h6,f3,h2];have:J0 #[] i'=false:=by unfold J0;simp
  rw[this];simp only[sH,if_false]
 have hes:(BU es (jE (gF m) i') ((i':Int),.int (i':Int) tok)).size=(gF (m|||2^i')).size:=by
  rw[<-f3];unfold BU;rw[h6] at h7;simp[h7]
 have ES:({t with place:=gF (m|||2^i')}:yQ).fits (BU es (jE (gF m) i') ((i':Int),.int (i':Int) tok)).size=true:=by
  unfold SetTable.fits XG;rw[hes,h2];have:=Mr (m|||2^i') f4;simp[h1];exact lK ‹_› rfl
 refine⟨_,{t with place:=gF (m|||2^i')},?_,⟨h1,h2,h3,h5,⟨_,f4,rfl⟩,hes,?_⟩,?_⟩
 .unfold layNew;rw[hh,um];dsimp only;rw[aeG];dsimp only;unfold SetTable.orStandIn;rw[ES];rfl
 .intro j e he;intros j e _ he;dsimp only;have hp:jE (gF m) i'<=es.size:=by rw[h7,h6];exact f2
  rw[yq es _ _ hp] at he;rw[<-f3,yq (gF m) _ _ f2];split at he
  .rename_i hj;rw[aq hj];rw[h6] at h8;exact h8 j e he
  rename_i hj;rw[ay hj];split at he
  .rename_i Kh;rw[aq Kh];cases he;exact⟨i',tok,rfl,rfl⟩
  rename_i Kh;rw[ay Kh];rw[h6] at h8;exact h8 _ e he
 unfold SetTable.tooFull XG;dsimp only;rw[h2,h1];have:=Mr (m|||2^i') f4;simp;exact f6 (OX 5 this) (by decide)
section
variable {prog:Program}{w:World}{A:Around}{E:aA->Shared->Prop}{s:Shared}{b:Bool}
def ET{a:Addr}{S:Int->Bool}{n:Nat}{i:Int}{tok:Tok}{Q:Bool->Shared->Prop}(h0:0<=i)(h4:i<4)(hS:s.heap.SetOf (intKind prog w) a S n)(hT:rZ b s.heap a)(B7:n+1<scanBound)
 (h:∀h',kY a s.heap h'->h'.SetOf (intKind prog w) a (λk'=>S k'||decide (k'=i)) (if S i then n else n+1)->rZ b h' a->Q (!S i) {s with heap:=h'}):
 wpAny (model prog w) A (setAddHashed a (.int i tok) ((intKind prog w).hash i)) Q E s:=by
 intros prog w A E s b a S n i tok Q _ h0 h4 hS hT B7 h;have YG:=jd prog w i tok;let ⟨o,es,ep,t,ho,hex,hd,T6,kH,hb,hf,hn⟩:=hS;intros o es ep t _ ho hex hd T6 kH hb hf hn;let ⟨o',P5,ep',t',tH,rU,z2⟩:=hT;revert z2;intro hT;intros o' P5 ep' t' _ tH rU hT;rw[ho] at tH;cases tH;rw[hd] at rU;cases rU;have gM:es.size+1<scanBound:=by rw[hn];exact B7
 unfold setAddHashed setAddHashedIn;refine e9 (aF (Bt ho hd hf ?_));dsimp only;rw[byScan_of (knd:=intKind prog w) aa hb T6];simp only[↓reduceIte];unfold setAddByScan;refine aF ?_;refine aF (yR ?_);refine aF (wpAny_setScan_of (knd:=intKind prog w) YG ho hd hf T6 ?_);cases hr:WA (λe=>(intKind prog w).is i e.2) es.toList with
 |some j=>
  dsimp only;let ⟨hj,hpj,_⟩:=List.findIdx?_eq_some_iff_getElem.mp hr;have T7:S i=true:=(kH i).mpr ⟨es.toList[j],BC hj,hpj⟩;refine bx (bx ?_);have e:s={s with heap:=s.heap}:=by cases s;rfl
  have:=h s.heap (acX a s.heap) ⟨o,es,ep,t,ho,hex,hd,T6,λk'=>by
   rw[Pn,decide_eq_true_eq,<-kH k'];exact⟨λhk=>hk.elim id (λe=>e▸T7),.inl⟩,hb,hf,by rw[T7];exact hn⟩ ⟨o,es,ep,t,ho,hd,hT⟩
  rw[T7] at this;rw[e];exact this
 |none=>
  dsimp only;have acn:=List.findIdx?_eq_none_iff.mp hr
  have T7:S i=false:=by
   cases hk:S i with
   |false=>rfl
   |true=>let ⟨e,he,hp⟩:=(kH i).mp hk;intros e _ he hp;have:=acn e he;rw[hp] at this;cases this
  have qX:∀e∈es.toList,∀t',e.2≠.int i t':=λe he t' e2=>by
   have:=acn e he;rw[e2,jd] at this;cases this
  let ⟨P6,t1,hL,HF,YH⟩:=hT.lay (tok:=tok) h0 h4 qX;intros P6 t1 _ hL HF YH;have zB:=layNew_perm t es (hashInt i) (.int i tok);have ES:=layNew_fits t es (hashInt i) (.int i tok);have ado:(intKind prog w).hash i=hashInt i:=rfl;rw[ado,hL];rw[hL] at zB ES;dsimp only at zB ES⊢;rw[JZ] at zB;have aeH:ElemsOf (intKind prog w) P6.toList:=(T6.push YG aa).perm zB;have adp:∀k',(S k'||decide (k'=i))=true↔∃e∈P6.toList,(intKind prog w).is k' e.2=true:=mem_push_iff YG kH zB;have aco:P6.size<scanBound:=by rw[<-l6,zB.length_eq,bU,l6];simpa using gM
  have aeI:P6.size=n+1:=by rw[<-l6,zB.length_eq,bU,l6,hn];rfl
  refine aF (bx ?_);rw[HF.2.2.1];simp only[↓reduceIte];refine aF ?_;rw[hashByValue_scannable 8 (x:=.int i tok) aa];refine bx ?_;have hpk:plainKind (.int i tok)=true:=rfl;rw[hpk];simp only[↓reduceIte];refine aF (wpAny_storeSet_of ho hd ?_ (VQ aco));rw[YH];simp only[Xu,sH,if_false];let ⟨P7,hS1⟩:=SetOf_store (knd:=intKind prog w) ho hex hd aeH adp aco ES;have aeJ:=qT s.heap a (Obj.putSet P6 t1);rw[aeI] at hS1;have:=h _ aeJ (by rw[T7];exact hS1) ⟨_,P6,_,t1,P7,rfl,HF⟩;rw[T7] at this;exact bx (bx this)
end
noncomputable def ju(w:World):Bool:=w.params.followText "set-order"
noncomputable def qg(b:Bool):Obj:={cls:=.type "set",dict:=none,data:=.set #[] 0 (.fresh 0 0 (!b))}
def B8(b:Bool)(e:h.get? a=some (qg b)):rZ b h a:=
 ⟨_,#[],0,_,e,rfl,rfl,rfl,rfl,rfl,⟨0,by decide,rfl⟩,rfl,λj e h=>by simp at h⟩
def B9{prog:Program}{w:World}(b:Bool){h:cC}{a:Addr}(e:h.get? a=some (qg b)):h.SetOf (intKind prog w) a (λz=>false) 0:=(setObjOf_fresh (knd:=intKind prog w) (!b)).setOf e (by decide)
section
variable {prog:Program}{w:World}{A:Around}{E:aA->Shared->Prop}{s:Shared}
def CQ(h:Q (.ref s.heap.objs.size) {s with heap:=s.heap.push (qg (ju w))}):wpAny (model prog w) A (newSet (.type "set")) Q E s:=by
 unfold newSet setsByText;refine aF (aF (qH (bx ?_)));dsimp only;simp only[newObj];exact aF (DZ (bx h))
def yr(h0:0<=i)(h4:i<4)(hS:s.heap.SetOf (intKind prog w) a S n)(hT:rZ b s.heap a)(B7:n+1<scanBound)
 (h:∀h',kY a s.heap h'->h'.SetOf (intKind prog w) a (λk'=>S k'||decide (k'=i)) (if S i then n else n+1)->rZ b h' a->Q .none {s with heap:=h',toks:=s.toks+1}):
 wpAny (model prog w) A (call (.builtin "set.add") [.ref a,.int i tok]) Q E s:=by
 refine vo XQ hS.typeIs PySem.F.entry_set_add ?_ (PySem.F.args_set_add_2 _ _);unfold kF.«set.add» ac6;simp only[List.isEmpty_nil,bind_assoc];unfold Yo setAdd;refine aF (bx ?_)
 try dsimp only
 refine aF (bx ?_)
 try dsimp only
 refine aF ?_;refine e9 ?_;refine aF ((intKind prog w).pyHash (jd _ _ i tok) ?_);refine ET (s:={s with toks:=s.toks+1}) h0 h4 hS hT B7 λh' hsb uo P8=>?_
 exact bx ⟨_,rfl,h h' hsb uo P8⟩
def Kl(Km:(acp==.constants)=false)(DF:(acp==.unsure)=false)
 (h:wpAny (model prog w) A (evalAll [t]) (λvs s'=>∃v,vs=[v]/\wpAny (model prog w) A (setAdd s.heap.objs.size v) (λz s''=>Q (.ref s.heap.objs.size) s'') E s') E {s with heap:=s.heap.push (qg (ju w))}):
 wpAny (model prog w) A (setDisplay acp b [(false,t)]) Q E s:=by
 unfold setDisplay
 try dsimp only
 rw[ay (by rw[Km];exact Xv)];refine aF (CQ ?_);dsimp only;refine aF (e9 ?_);refine aF (mP h (λvs s' ⟨v,ev,h'⟩=>?_) λz z x=>x);subst ev;refine aF (e9 ?_);rw[Ek];refine aF (aF (aF (mP h' (λz s2 h2=>?_) λz z x=>x)));refine bx ?_;rw[DF];simp only[sH,if_false];rw[List.forIn_nil];refine bx ?_;refine bx ?_;exact bx (bx h2)
end
section
variable {prog:Program}{w:World}{A:Around}{R:vq->Shared->Prop}{I:Addr}{fp wr:List Addr}{G:Array GenState->Array GenState->Prop}{n:Nat}{P:Nat->aA->Prop}{St:Nat->Shared->Prop}
def Ms(W:WalksS prog w A.in1 I fp wr G n P St)(S:Addr)(vX:S∉fp)(val:Nat->Int)(Io:∀i v,P i v->∃t,v=.int (val i) t)(oj:∀i,i<n->0<=val i/\val i<4)(hb:n+1<scanBound):
 ∀(k i:Nat) (s:Shared),n-i=k->i<=n->St i s->s.heap.SetOf (intKind prog w) S (λk'=>(firstMet val i).any (·==k')) (firstMet val i).length->rZ b s.heap S->
  (∀s',Moved (S::wr) G s s'->s'.heap.SetOf (intKind prog w) S (λk'=>(firstMet val n).any (·==k')) (firstMet val n).length->rZ b s'.heap S->R (.ok (.ret .none)) s')->
  codeAny (model prog w) A (.builtin "set.update.loop" ⟨[.ref S,.ref I],[]⟩) R s:=by
 intros prog w A R I fp wr _ G n P St b W S vX val Io oj hb;intros G n P St b S val _ W vX Io oj hb;have Kn:S∉wr:=λh=>vX (W.sub _ h)
 have fW:∀b∈wr,b∈S::wr:=λb hb=>yY _ hb
 intro k
 induction k with
 |zero=>
  intro i s hk hi cW hS hT hR;have oj:i=n:=Ae hk hi;subst oj;refine tW Ym ?_;rw[vR PU _];show wpAny _ A.in1 (pyNext (.ref I)>>=_) _ _ s;refine aF (W.done s _ _ cW λs' hm=>?_);show wpAny _ A.in1 (ret sL) _ _ s';exact bx (hR s' (hm.mono fW) (by
   let ⟨o,es,ep,t,ho,rest⟩:=hS;exact⟨o,es,ep,t,hm.heap S _ Kn ho,rest⟩) (Aj hT λo e=>hm.heap S _ Kn e))
 |succ k ih=>
  intro i s hk hi cW hS hT hR;have eG:i<n:=zw hk;refine tW Ym ?_;rw[vR PU _];show wpAny _ A.in1 (pyNext (.ref I)>>=_) _ _ s;refine aF (W.item i s _ _ eG cW λv s' hP EU hm=>?_);let ⟨t,zy⟩:=Io i v hP
  have uo:s'.heap.SetOf (intKind prog w) S (λk'=>(firstMet val i).any (·==k')) (firstMet val i).length:=by
   let ⟨o,es,ep,tb,ho,rest⟩:=hS;exact⟨o,es,ep,tb,hm.heap S _ Kn ho,rest⟩
  have P8:rZ b s'.heap S:=Aj hT λo e=>hm.heap S _ Kn e
  show wpAny _ A.in1 (holding [l7 (val i) t] (setAdd S (.int (val i) t))>>=_) _ _ s';refine aF (e9 ?_);unfold setAdd;refine e9 ?_;refine aF ((intKind prog w).pyHash (k:=val i) (jd _ _ _ _) ?_);have B7:(firstMet val i).length+1<scanBound:=f6 (kU (aG (firstMet_length_le val i) hi) 1) hb;refine ET (s:={s' with toks:=s'.toks+1}) (oj i eG).1 (oj i eG).2 uo P8 B7 λh' hsb Mt hT2=>?_
  have hSi:h'.SetOf (intKind prog w) S (λk'=>(firstMet val (i+1)).any (·==k')) (firstMet val (i+1)).length:=
   BY Mt (λk'=>by rw[firstMet_succ,step_any]) (by rw[firstMet_succ,step_length])
  refine bx ⟨tX PU _,ih (i+1) _ (xM hk) eG (W.frame _ s' _ _ EU (jr _) λb hb o e=>?_) hSi hT2 λs'' aeK aeL aeM=>?_⟩
  .rw[hsb.2 b (λh:b=S=>vX (by rw[<-h];exact hb))];exact e
  .refine hR s'' (Moved.trans W.gtrans ((hm.mono fW).then_heap (jr _) λb o hb e=>?_) aeK) aeL aeM;rw[hsb.2 b (λh:b=S=>hb (by rw[h];exact vB))];exact e
end
section
variable {prog:Program}{w:World}{A:Around}{E:aA->Shared->Prop}{s:Shared}
def Ko(a:aA){Q₁:aA->Shared->Prop}(h:Q₁ (.ref s.heap.objs.size) {s with heap:=s.heap.push (qg (ju w))}):
 codeAny (model prog w) A (.call (.builtin "set.__new__") ⟨[.type "set",a],[]⟩) (wants Q₁ E) s:=by
 intros prog w A E s a Q₁ _ h;refine OA ?_;show wpAny _ A.in1 (do checkBuiltinCall "set.__new__" ⟨[.type "set",a],[]⟩;again (.builtin "set.__new__" ⟨[.type "set",a],[]⟩)) _ _ s;refine aF (sy (PySem.F.newCall_set_1 a) (bx ⟨tX XR _,tW PySem.F.entry_set_new ?_⟩));rw[vR XR _];unfold kF.«set.__new__» ac7;have fW:=sub_set_self;refine aM λhN=>?_;obtain⟨hp,g,d,tk,os⟩:_:=s;refine hN ?_
 dsimp only
 wp_walk
 refine qH (bx ?_);dsimp only;simp only[newObj];refine aF (DZ (bx ?_));exact bx h
def T8(h:codeAny (model prog w) A c (wants (λv s=>R (.ok (.ret v)) s) λe s=>R (.error e) s) s):codeAny (model prog w) A c R s:=
 OB h λr s hr=>by
  cases r with
  |error e=>exact hr
  |ok fl=>cases fl with
   |ret v=>exact hr
   |_=>exact hr.elim
def HG{l S:Addr}{items:Array aA}{ns:List Int}{Q:Fin->Shared->Prop}(hh:A.handled=none)(hS:s.heap.get? S=some (qg (ju w)))(hl:s.heap.IsList l items)(hlS:l≠S)(hi:EK items.toList ns)(oj:∀k∈ns,0<=k/\k<4)(hb:items.size+1<scanBound)
 (h:∀(h':cC) (tk:Nat),h'.SetOf (intKind prog w) S (λk'=>(firstMet (λi=>ns.getD i 0) items.size).any (·==k')) (firstMet (λi=>ns.getD i 0) items.size).length->rZ (ju w) h' S->
  (∀b o,b≠S->s.heap.get? b=some o->h'.get? b=some o)->Q (.done (.ret .none)) {s with heap:=h',toks:=tk}):
 wpAny (model prog w) A (kF.«set.__init__» ⟨[.ref S,.ref l],[]⟩) Q E s:=by
 intros prog w A E s l S items ns Q _ hh hS hl hlS hi oj hb h;refine aM λhN=>?_;obtain⟨ol,jT,Ca,nl,zC⟩:_:=hl;refine hN ?_
 refine aM λhN=>?_;obtain⟨afW,afQ,afR,afO⟩:_:=ol;refine hN ?_
 simp only at Ca zC;subst Ca;subst zC;have afX:=PySem.F.sub_list_set;have afY:=PySem.F.sub_list_frozenset;have dg:(J1 "list"==J1 "dict")=false:=by decide
 have yf:s.heap.IsList l items:=⟨_,jT,rfl,nl,rfl⟩;have lI:l≠s.heap.objs.size:=ie (gP jT);have SI:S≠s.heap.objs.size:=ie (gP hS);have hS0:=hS;unfold kF.«set.__init__» noKeywords ac8;generalize hPI:pyIter=PI;unfold qg at hS
 wp_walk
 subst hPI;refine D3 yf ?_;refine aF (wpAny_runValue ?_);have vY:items.size=ns.length:=by have:=IntsAre.length hi;simpa using this
 have acq:(s.heap.push {cls:=.type "list_iterator",data:=.fields #[.ref l,.int 0 0]}).get? S=some (qg (ju w)):=dS _ hS0;refine Ms (b:=ju w) ((Yp (by simp[hh]) _ l lI items).toS) S
  (by simp only[bZ,eO,pK,or_false,not_or];exact⟨SI,hlS.symm⟩) (λi=>ns.getD i 0) (λi v hv=>IntsAre.int_at hi i v (by rw[lC];exact hv))
  (λi hi'=>oj _ (by
   have:ns.getD i 0=ns[i]'(vY▸hi'):=by simp[kW,show i<ns.length from vY▸hi']
   rw[this];exact BC _)) hb (items.size-0) 0 _ aa (b8 _)
  ⟨⟨_,fh _ aa,rfl,rfl⟩,(yf.push _)⟩ (BY (B9 (ju w) acq) (λz=>rfl) aa) (B8 (ju w) acq) ?_
 intro s' hm uo P8;refine aM λhN=>?_;obtain⟨h',g',d',YI,os'⟩:_:=s';refine hN ?_
 have eg:g'=s.gens:=hm.gens;have ed:d'=s.drawn:=hm.drawn;have eo:os'=s.os:=hm.os;subst eg;subst ed;subst eo;show wpAny _ _ _ _ _ _;refine bx ?_;show wpAny _ _ (ret sL) _ _ _;refine bx (h h' YI uo P8 λb o hb e=>hm.heap b o ?_ (dS _ e));simp only[bZ,eO,pK,or_false,not_or];exact⟨hb,ie (gP e)⟩
def Al{ns:List Int}(hh:A.handled=none)(hl:s.heap.IsList l items)(hi:EK items.toList ns)(oj:∀k∈ns,0<=k/\k<4)(hb:items.size+1<scanBound)
 (h:∀(h':cC) (tk:Nat),h'.SetOf (intKind prog w) s.heap.objs.size (λk'=>(firstMet (λi=>ns.getD i 0) items.size).any (·==k')) (firstMet (λi=>ns.getD i 0) items.size).length->rZ (ju w) h' s.heap.objs.size->
  (∀b o,b<s.heap.objs.size->s.heap.get? b=some o->h'.get? b=some o)->Q (.ref s.heap.objs.size) {s with heap:=h',toks:=tk}):
 wpAny (model prog w) A (call (.type "set") [.ref l]) Q E s:=by
 intros prog w A E s l items ns Q _ hh hl hi oj hb h;let ⟨c,tl,afZ⟩:=vS.mro;have afS:=vS.made;have fW:=vS.sub;refine yS (OA ?_);show wpAny _ _ (callAny (.type "set") _) _ _ _;refine bx ⟨Code.quiet_builtin _ (by decide+kernel),tW PySem.F.entry_type_call ?_⟩;rw[Around.under_plain (weight_type_call_type "set" [.ref l] []) aa];have h1:=vS.notType;have h2:=vS.canCreate;have hct:=PySem.F.typeCall_set_1 (.ref l)
 repeat (any_goals (first|assumption|wp_step))
 refine T8 (Ko (.ref l) ?_);have hS:(s.heap.push (qg (ju w))).get? s.heap.objs.size=some (qg (ju w)):=fh _ aa;have hT:Yq {s with heap:=s.heap.push (qg (ju w))} (.ref s.heap.objs.size) "set":=⟨_,hS,rfl⟩;have hli:=vS.init.lookup;have hbi:=vS.init.bind (.ref s.heap.objs.size);have hS0:=hS;have yf:(s.heap.push (qg (ju w))).IsList l items:=hl.push _;have hlS:l<s.heap.objs.size:=by let ⟨ol,jT,_⟩:=hl;exact gP jT
 generalize iY:qg (ju w)=ob at hS hT
 repeat (any_goals (first|assumption|wp_step))
 subst iY;refine VS vS.init.plain PySem.F.entry_set_init (check_set_init_1 hT (HG (by simp[hh]) hS0 yf (ie hlS) hi oj hb λh' tk uo P8 hk=>?_))
 repeat (any_goals (first|assumption|wp_step))
 exact h _ _ uo P8 λb o hb e=>hk b o (ie hb) (dS _ e)
end
def jA:Slot "set_iterator" "__next__" "set_iterator.__next__":=
 .of (owner:="set_iterator") (n:="__next__") (by rw[VT,VU];kernel_rfl) (by decide+kernel) (by decide+kernel) (by decide+kernel)
  (by first|exact .inl (by decide+kernel)|exact .inr (by decide+kernel)) (by rw[OC];kernel_rfl)
def yt:Slot "set_iterator" "__iter__" "set_iterator.__iter__":=
 .of (owner:="set_iterator") (n:="__iter__") (by rw[VT,VU];kernel_rfl) (by decide+kernel) (by decide+kernel) (by decide+kernel)
  (by first|exact .inl (by decide+kernel)|exact .inr (by decide+kernel)) (by rw[OC];kernel_rfl)
def vZ:entryFor table "set_iterator.__next__"=some kF.«set_iterator.__next__»:=VV (by kernel_rfl)
def EV:entryFor table "set_iterator.__iter__"=some kF.«dict_keyiterator.__iter__»:=VW (id':="dict_keyiterator.__iter__") (by kernel_rfl) aa (by decide+kernel) (by kernel_rfl)
def Dm:entryFor table "set.__iter__"=some kF.«frozenset.__iter__»:=VW (id':="frozenset.__iter__") (by kernel_rfl) aa (by decide+kernel) (by kernel_rfl)
def Ip:Manifest.owners.lookup (String.ofList ['r','o','t','a','r','e','t','i','_','t','e','s'].reverse)=some Manifest.sig_set_iterator:=by kernel_rfl
def yu(a:aA):argsOk "set_iterator.__next__" ⟨[a],[]⟩:=by
 unfold argsOk;rw[signature?_of (id:="set_iterator.__next__") (n:=['_','_','t','x','e','n','_','_']) (o:=['r','o','t','a','r','e','t','i','_','t','e','s']) (by kernel_rfl) Ip];kernel_rfl
def HH(a:aA):argsOk "set_iterator.__iter__" ⟨[a],[]⟩:=by
 unfold argsOk;rw[signature?_of (id:="set_iterator.__iter__") (n:=['_','_','r','e','t','i','_','_']) (o:=['r','o','t','a','r','e','t','i','_','t','e','s']) (by kernel_rfl) Ip];kernel_rfl
def EW:∀m<16,jE (gF m) 0=0:=by decide+kernel
def Iq:∀m<16,∀i<(gF m).size,jE (gF m) ((gF m).getD i 0+1)=i+1:=by decide+kernel
theorem v7{α:Type}:∀(l:List α) (i:Nat) (h:i<l.length),([l[i]]++l.eraseIdx i).Perm l
 |[],i,h=>by simp at h
 |a::l,0,h=>.refl _
 |a::l,i+1,h=>by
  have:=v7 l i (by simpa using h);simp only[List.getElem_cons_succ,List.eraseIdx_cons_succ,List.singleton_append] at this⊢;exact(List.Perm.swap a _ _).trans (this.cons a)
theorem Mu{α:Type}(next:Nat->Nat):∀(fuel k:Nat) (left:List α) (out:Array α),fuel=left.length->(pickOrder.go next fuel k left out).toList.Perm (out.toList++left)
 |0,k,left,out,h=>by
  have:left=[]:=yZ.mp h.symm;subst this;show out.toList.Perm _;simp
 |fuel+1,k,left,out,h=>by
  have eG:next k%left.length<left.length:=Nat.mod_lt _ (h▸Eg fuel)
  unfold pickOrder.go;rw[iF eG];dsimp only;refine(Mu next fuel (k+1) _ _ ((cj (·-1) h).trans (List.length_eraseIdx_of_lt eG).symm)).trans ?_;rw[JZ,jJ];refine List.Perm.append_left _ ?_;exact v7 left _ eG
def EX{α:Type}(next:Nat->Nat)(xs:Array α):(pickOrder next xs).toList.Perm xs.toList:=by
 have:=Mu next xs.size 0 xs.toList #[] (by simp)
 simpa [pickOrder] using this
def lP(w:World)(a:Addr)(ep:Nat)(es:Array (Int×aA)):Array (Int×aA):=if ju w then pickOrder (w.params.setOrder a ep) es else es
def Am(w:World)(a:Addr)(ep:Nat)(es:Array (Int×aA)):(lP w a ep es).toList.Perm es.toList:=by
 unfold lP;split
 .exact EX _ _
 exact .refl _
def An(w:World)(a:Addr)(ep:Nat)(es:Array (Int×aA)):(lP w a ep es).size=es.size:=by
 have:=(Am w a ep es).length_eq;simpa using this
def eY(w:World)(t:yQ)(i:Nat):Nat:=if ju w then 0 else if i=0 then 0 else t.place.getD (i-1) 0+1
def Mw(w:World)(a:Addr)(ep:Nat)(es:Array (Int×aA))(t:yQ)(i:Nat):Obj:={cls:=.type "set_iterator",data:=.fields #[.int (eY w t i) 0,.int i 0,.ref a,.int es.size 0,.int ep 0]}
section
variable {prog:Program}{w:World}{A:Around}{E:aA->Shared->Prop}{s:Shared}{a I:Addr}{o:Obj}{es:Array (Int×aA)}{ep:Nat}{t:yQ}
def T9(ho:s.heap.get? a=some o)(hex:o.ExactSet)(hd:o.data=.set es ep t)(hf:t.fits es.size=true)(hT:Dj (ju w) es t)
 (hQ:Q (.ref s.heap.objs.size) {s with heap:=s.heap.push (Mw w a ep es t 0)}):wpAny (model prog w) A (pyIter (.ref a)) Q E s:=by
 intros prog w A E s a o es ep t Q _ ho hex hd hf hT hQ;have qY:s.TypeIs (.ref a) "set":=⟨o,ho,hex.1⟩;refine VX qY XS (vo XS qY Dm ?_ (PySem.F.args_set_iter_1 _));unfold kF.«frozenset.__iter__» ac9 ada Yo;refine aF (aF (bx (bx ?_)));refine aF (aF (OD ho hd hf (bx ?_)));let ⟨t1,t2,t3,t4,z2,t6,t7⟩:=hT;let ⟨m,hm,t5⟩:=z2;have sQ:eY w t 0=0:=by unfold eY;split<;>rfl
 unfold Mw at hQ;rw[sQ] at hQ;refine aM λhN=>?_;obtain⟨mask,place,dummies,oV,led,sR,plain⟩:_:=t;refine hN ?_
 dsimp only at t1 t2 t3 t4 t5 t6 t7;subst t3;unfold setDrawn setsByText;refine aF (aF (Bt ho hd hf ?_));dsimp only;refine aF (aF (qH (bx ?_)));refine bx ?_;rw[ay (λhx=>by
  have hx':=((iT _ _).mp hx).2;exact Pr (show false=true from hx'))]
 refine aF (bx ?_);refine aF (wpAny_setEpoch_of ho hd hf ?_);unfold newFields;refine aF (wpAny_newObj_type (bx ⟨_,rfl,"set_iterator",_,⟨_,fh _ aa,rfl⟩,jA.lookup,?_⟩));exact hQ
def Ua(hT:Dj (ju w) es t)(hf:t.fits es.size=true){i:Nat}{e:Int×aA}{Q:Option (aA×Nat)->Shared->Prop}(ho:s.heap.get? a=some o)(hd:o.data=.set es ep t)(he:(lP w a ep es)[i]?=some e)(h:Q (some (e.2,eY w t (i+1))) s):
 wpAny (model prog w) A (setNext a (eY w t i) i ep) Q E s:=by
 intros prog w A E s a o _ es ep t hT hf i e Q ho hd he h;intros es ep t i e Q _ hT hf ho hd he h;let ⟨t1,t2,t3,t4,z2,t6,t7⟩:=hT;let ⟨m,hm,t5⟩:=z2;unfold setNext setsByText;refine aF (Bt ho hd hf ?_);dsimp only;refine aF (aF (qH (bx ?_)));have YJ:w.params.followText "set-order"=ju w:=rfl;show wpAny _ _ (if(w.params.followText "set-order")=true then _ else _) _ _ _;rw[YJ];cases hb:ju w with
 |true=>
  rw[aq aa];rw[ay (by simp)];unfold setWalk setsByText;refine aF (aF (Bt ho hd hf ?_));dsimp only;refine aF (aF (qH (bx ?_)));show wpAny _ _ (if(w.params.followText "set-order")=true then _ else _) _ _ _;rw[YJ,hb,aq aa];refine aF (qH (bx ?_));refine bx ?_;have e1:(pickOrder (w.params.setOrder a ep) es)[i]?=some e:=by rw[lP,hb,aq aa] at he;exact he
  show Q (qS _ (pickOrder (w.params.setOrder a ep) es)[i]?) s;rw[e1];unfold eY at h⊢;rw[hb,aq aa] at h;rw[hb,aq aa];exact h
 |false=>
  rw[ay (by decide)];refine aM λhN=>?_;obtain⟨mask,place,dummies,oV,led,sR,plain⟩:_:=t;refine hN ?_
  dsimp only at t1 t2 t3 t4 t5 t6 t7;rw[hb] at t4;subst t3;subst t4;refine Jp (λhab=>Pr (show false=true from hab)) (λz=>?_);refine aF (sy (a:=()) aa ?_);have e1:es[i]?=some e:=by rw[lP,hb,ay (by decide)] at he;exact he
  have hi:i<es.size:=by
   rcases Ef i es.size with h|h
   .exact h
   rw[zq h] at e1;cases e1
  rw[t5] at t6
  have YK:jE place (eY w ⟨mask,place,dummies,oV,true,sR,true⟩ i)=i:=by
   unfold eY;rw[hb,ay (by decide),t5]
   by_cases h0:i=0
   .rw[aq h0,h0];exact EW m hm
   rw[ay h0];show jE (gF m) ((gF m).getD (i-1) 0+1)=i;rw[Iq m hm (i-1) (f6 (vt _ _) (t6▸hi))];exact Ii h0
  show wpAny _ _ (pure (match es[jE place (eY w ⟨mask,place,dummies,oV,true,sR,true⟩ i)]?,place[jE place (eY w ⟨mask,place,dummies,oV,true,sR,true⟩ i)]? with
   |some (_,x),some j=>some (x,j+1)
   |_,_=>none)) _ _ _
  rw[YK,e1];have hp:place[i]?=some (place.getD i 0):=by rw[t5];simp[EC,show i<(gF m).size from t6▸hi]
  rw[hp];refine bx ?_
  have hs:eY w ⟨mask,place,dummies,oV,true,sR,true⟩ (i+1)=place.getD i 0+1:=by
   unfold eY;rw[hb,ay (by decide),ay (OY i)];rfl
  have h':Q (some (e.2,eY w ⟨mask,place,dummies,oV,true,sR,true⟩ (i+1))) s:=h;rw[hs] at h';exact h'
def P9(hT:Dj (ju w) es t)(hf:t.fits es.size=true)(ho:s.heap.get? a=some o)(hd:o.data=.set es ep t)(h:Q none s):
 wpAny (model prog w) A (setNext a (eY w t es.size) es.size ep) Q E s:=by
 intros prog w A E s a o es ep t Q _ hT hf ho hd h;let ⟨t1,t2,t3,t4,z2,t6,t7⟩:=hT;let ⟨m,hm,t5⟩:=z2;unfold setNext setsByText;refine aF (Bt ho hd hf ?_);dsimp only;refine aF (aF (qH (bx ?_)));have YJ:w.params.followText "set-order"=ju w:=rfl;show wpAny _ _ (if(w.params.followText "set-order")=true then _ else _) _ _ _;rw[YJ];cases hb:ju w with
 |true=>
  rw[aq aa];rw[ay (by simp)];unfold setWalk setsByText;refine aF (aF (Bt ho hd hf ?_));dsimp only;refine aF (aF (qH (bx ?_)));show wpAny _ _ (if(w.params.followText "set-order")=true then _ else _) _ _ _;rw[YJ,hb,aq aa];refine aF (qH (bx ?_));refine bx ?_;have jt:(pickOrder (w.params.setOrder a ep) es).size=es.size:=by have:=(EX (w.params.setOrder a ep) es).length_eq;simpa using this
  have e1:(pickOrder (w.params.setOrder a ep) es)[es.size]?=none:=zq (by exact fF ‹_›);show Q (qS _ (pickOrder (w.params.setOrder a ep) es)[es.size]?) s;rw[e1];exact h
 |false=>
  rw[ay (by decide)];refine aM λhN=>?_;obtain⟨mask,place,dummies,oV,led,sR,plain⟩:_:=t;refine hN ?_
  dsimp only at t1 t2 t3 t4 t5 t6 t7;rw[hb] at t4;subst t3;subst t4;refine Jp (λhab=>Pr (show false=true from hab)) (λz=>?_);refine aF (sy (a:=()) aa ?_);rw[t5] at t6
  have YK:jE place (eY w ⟨mask,place,dummies,oV,true,sR,true⟩ es.size)=es.size:=by
   unfold eY;rw[hb,ay (by decide),t5]
   by_cases h0:es.size=0
   .rw[aq h0,h0];exact EW m hm
   rw[ay h0];show jE (gF m) ((gF m).getD (es.size-1) 0+1)=es.size;rw[Iq m hm (es.size-1) (jD (Wk (Wr h0) OT) (fF t6))];exact Ii h0
  show wpAny _ _ (pure (match es[jE place (eY w ⟨mask,place,dummies,oV,true,sR,true⟩ es.size)]?,place[jE place (eY w ⟨mask,place,dummies,oV,true,sR,true⟩ es.size)]? with
   |some (_,x),some j=>some (x,j+1)
   |_,_=>none)) _ _ _
  rw[YK,zq (bW _)];exact bx h
end
section
variable {prog:Program}{w:World}{A:Around}{E:aA->Shared->Prop}{s:Shared}{a I:Addr}{o:Obj}{es:Array (Int×aA)}{ep:Nat}{t:yQ}
def YL(hT:Dj (ju w) es t)(hf:t.fits es.size=true){i:Nat}{e:Int×aA}{Q:Option aA->Shared->Prop}(ho:s.heap.get? a=some o)(hd:o.data=.set es ep t)(hI:s.heap.get? I=some (Mw w a ep es t i))(he:(lP w a ep es)[i]?=some e)
 (hQ:∀h',kY I s.heap h'->h'.get? I=some (Mw w a ep es t (i+1))->Q (some e.2) {s with heap:=h'}):wpAny (model prog w) A (pyNext (.ref I)) Q E s:=by
 intros prog w A E s a I _ o es ep t hT hf i e Q ho hd hI he hQ;intros o es ep t i e Q _ hT hf ho hd hI he hQ;have qY:s.TypeIs (.ref I) "set_iterator":=⟨_,hI,rfl⟩;unfold pyNext;refine aF (wpAny_attempt (Jq (name:=J6 "__next__") qY jA (vo jA qY vZ ?_ (yu _))));unfold kF.«set_iterator.__next__»;refine aF (bx ?_);refine aF (VY hI aa ?_);dsimp only;refine aF (OD ho hd hf ?_);rw[ay (by simp)];refine aF ?_;have e1:((eY w t i:Nat):Int).toNat=eY w t i:=iX _;have e2:((i:Nat):Int).toNat=i:=iX _;have e3:((ep:Nat):Int).toNat=ep:=iX _;rw[e1,e2,e3];refine Ua hT hf ho hd he ?_;dsimp only;refine aF (OE hI aa (by simp) ?_)
 have g1:(s.heap.update I (Pz (·.setIfInBounds 0 (rawInt (eY w t (i+1)))))).get? I=some {cls:=.type "set_iterator",data:=.fields #[.int (eY w t (i+1)) 0,.int i 0,.ref a,.int es.size 0,.int ep 0]}:=by
  rw[EB _ hI (by rfl)];rfl
 refine aF (OE g1 aa (by simp) ?_)
 have g2:((s.heap.update I (Pz (·.setIfInBounds 0 (rawInt (eY w t (i+1)))))).update I (Pz (·.setIfInBounds 1 (rawInt ((i:Int)+1))))).get? I=some (Mw w a ep es t (i+1)):=by
  rw[EB _ g1 (by rfl)];rfl
 exact bx ⟨_,rfl,bx (hQ _ ((qT ..).trans (qT ..)) g2)⟩
def abn(hh:A.handled=none)(hT:Dj (ju w) es t)(hf:t.fits es.size=true)(ho:s.heap.get? a=some o)(hd:o.data=.set es ep t)(hI:s.heap.get? I=some (Mw w a ep es t es.size))
 (hQ:∀h',Heap.ExtBut I s.heap h'->Q none {s with heap:=h'}):wpAny (model prog w) A (pyNext (.ref I)) Q E s:=by
 intros prog w A E s a I o es ep t Q _ hh hT hf ho hd hI hQ;have qY:s.TypeIs (.ref I) "set_iterator":=⟨_,hI,rfl⟩;unfold pyNext;refine aF (wpAny_attempt (Jq (name:=J6 "__next__") qY jA (vo jA qY vZ ?_ (yu _))));unfold kF.«set_iterator.__next__»;refine aF (bx ?_);refine aF (VY hI aa ?_);dsimp only;refine aF (OD ho hd hf ?_);rw[ay (by simp)];refine aF ?_;have e1:((eY w t es.size:Nat):Int).toNat=eY w t es.size:=iX _;have e2:((es.size:Nat):Int).toNat=es.size:=iX _;have e3:((ep:Nat):Int).toNat=ep:=iX _;rw[e1,e2,e3];refine P9 hT hf ho hd ?_;dsimp only;refine aF (OE hI aa (by simp) ?_);show wpAny _ _ (newExc (.type "StopIteration") []>>=_) _ _ _;refine aF ?_;simp only[newExc,newTuple];refine aF (wpAny_newObj_type ?_ (by size_fits));refine aF (m:=firstArgMember _ _) (sy (a:=sL) (by first|rfl|(simp only[firstArgMember];rfl)) ?_);refine wpAny_newObj_type ?_ (by size_fits);simp only[raiseNew];refine aF (wpAny_handled ?_);rw[show A.in1.handled=none from hh];refine aF (bx (wpAny_throw ?_));refine aF (VZ (T:="StopIteration") (b:=true) ⟨_,fh _ aa,rfl⟩ isSubtype_stop ?_);exact bx (hQ _ (((qT ..).extBut.push _).push _))
def Ub(hh:A.handled=none)(dg:a≠I)(hT:Dj (ju w) es t)(hf:t.fits es.size=true)(hd:o.data=.set es ep t):
 Walks prog w A I [I,a] [I] es.size (λi v=>∃e,(lP w a ep es)[i]?=some e/\v=e.2) (λi h=>h.get? I=some (Mw w a ep es t i)/\h.get? a=some o) where
 sub:=λb hb=>by simp at hb;simp[hb]
 frame:=λz z z st hk=>⟨hk I (by simp) _ st.1,hk a (by simp) _ st.2⟩
 item:=λi s Q E hi st hQ=>by
  obtain⟨e,he⟩:∃e,(lP w a ep es)[i]?=some e:=⟨_,ED (by rw[An];exact hi)⟩;refine YL hT hf st.2 hd st.1 he λh' kh YM=>?_
  exact hQ e.2 h' s.toks ⟨e,he,rfl⟩ ⟨YM,(kh.2 a dg).trans st.2⟩ λb o hb e=>kh.extBut b o (λh=>hb (by simp[h])) e
 done:=λs Q E st hQ=>abn hh hT hf st.2 hd st.1 λh' Qa=>hQ h' s.toks λb o hb e=>Qa b o (λh=>hb (by simp[h])) e
 self:=λi s Q E st hQ=>by
  have qY:s.TypeIs (.ref I) "set_iterator":=⟨_,st.1,rfl⟩;refine VX qY yt (vo yt qY EV ?_ (HH _));show wpAny _ _ (ret (.ref I)) _ _ s;exact bx ⟨_,rfl,"set_iterator",_,qY,jA.lookup,hQ⟩
def Uc(hTy:s.TypeIs (.ref a) "set")(h:Q false s):wpAny (model prog w) A (Yr (.ref a)) Q E s:=by
 intros prog w A E s a Q _ hTy h;unfold Yr;refine aF (V0 hTy PySem.F.slot_set_len.lookup ?_);generalize hid:("set.__len__":String)=id0
 wp_delta
 rw[show splitId id0=some ("set","__len__") from by subst hid;decide+kernel];subst hid;refine aF (VZ (T:="set") (b:=true) hTy (by rw[OC];kernel_rfl) ?_);refine Jp (λhab=>aK hab (by decide)) (λz=>?_);refine Jp (λz=>?_) (λhab=>aK (by decide+kernel) hab);refine aF (Bu hTy ?_);exact bx h
def YN(hex:o.ExactSet)(hT:Dj (ju w) es t)(hf:t.fits es.size=true)(hd:o.data=.set es ep t):KdlSrc prog w "set" a a es.size (λi v=>∃e,(lP w a ep es)[i]?=some e/\v=e.2) (λh=>h.get? a=some o) where
 type:=λz hm=>⟨o,hm,hex.1⟩
 there:=λz hm=>⟨gP hm,gP hm⟩
 keep:=λz z hm hk=>hk a (.inl aa) o hm
 notList:=by decide
 notTuple:=by decide
 hint:=λz z z z hm hq=>Uc ⟨o,hm,hex.1⟩ hq
 iter:=λz s hh hm=>⟨Mw w a ep es t 0,_,(λz z hq=>T9 hm hex hd hf hT hq),Ub hh (ie (gP hm)) hT hf hd,⟨fh _ aa,dS _ hm⟩⟩
end
def ns{α:Type}{o:Option α}{y:α}{P:Prop}(x:o=none)(e:o=some y):P:=nomatch x.symm.trans e
set_option genInjectivity true in
inductive D where
 |none
 |bool (b:Bool)
 |int (i:Int)
 |str (x:Str)
 |tup (ds:List D)
 |lst (ds:List D)
noncomputable def ck:Nat:=1000000
def lim{n m:Nat}(h:n<=m)(q:OZ m 1000000=true):n<=ck:=aG h (bz q)
def oZ(h:n<=m)(q:OZ (m+k) 1000000=true):n+k<=ck:=aG (kU h k) (bz q)
def g8{a b n:Nat}(h:b<=n)(q:OZ (a+1) b=true):a<=n-1:=Ea (aG (bz q) h)
def eH(h:n<=ck):n<=sizeLine:=by rw[qI];unfold ck at h;exact lK ‹_› rfl
def qq(h:n<=ck):(n:Int)<2^63:=vJ (gE.2 h) (by decide)
def PL(h:cC)(a:Addr)(vs:Array aA):Prop:=∃n,IsL h a vs n
def PT(h:cC)(a:Addr)(vs:Array aA):Prop:=∃n,IsT h a vs n
theorem PL.isList(x:PL h a vs):h.IsList a vs:=let ⟨_,e⟩:=x;e.isList
def PT.Mx(x:PT h a vs):h.IsTuple a vs:=let ⟨n,e⟩:=x;⟨_,e,rfl,n,rfl⟩
def PT.isTup(x:PT h a vs):IsTup h a vs:=let ⟨n,e⟩:=x;⟨_,e,rfl,n,rfl⟩
def PL.at{h h':cC}{a:Addr}{vs:Array aA}(x:PL h a vs)(k:∀o,h.get? a=some o->h'.get? a=some o):PL h' a vs:=let ⟨n,e⟩:=x;⟨n,k _ e⟩
def PT.at{h h':cC}{a:Addr}{vs:Array aA}(x:PT h a vs)(k:∀o,h.get? a=some o->h'.get? a=some o):PT h' a vs:=let ⟨n,e⟩:=x;⟨n,k _ e⟩
mutual
inductive Rep(h:cC)(M:Addr->Prop):aA->D->Prop
 |none:Rep h M sL D.none
 |bool (b:Bool):Rep h M (EI b) (D.bool b)
 |int (i:Int) (t:Tok):Rep h M (l7 i t) (D.int i)
 |str (x:Str) (t:Tok):kZ x=true->Rep h M (XK x t) (D.str x)
 |tup {a:Addr} {vs:Array aA} {ds:List D}:PT h a vs->¬M a->ds.length<=ck->aC h M vs.toList ds->Rep h M (ug a) (D.tup ds)
 |lst {a:Addr} {vs:Array aA} {ds:List D}:PL h a vs->¬M a->ds.length<=ck->aC h M vs.toList ds->Rep h M (ug a) (D.lst ds)
inductive aC(h:cC)(M:Addr->Prop):List aA->List D->Prop
 |nil:aC h M [] []
 |cons {v:aA} {vs:List aA} {d:D} {ds:List D}:Rep h M v d->aC h M vs ds->aC h M (v::vs) (d::ds)
end
def o6(o:Obj):Prop:=∃vs n,o.data=.seq vs n
section
variable {h h':cC}{M M':Addr->Prop}(hk:∀a o,¬M a->o6 o->h.get? a=some o->h'.get? a=some o/\¬M' a){a:Addr}{us:Array aA}{es:List D}
include hk
theorem Ir(i:PT h a us)(n:¬M a)(z:es.length<=ck)(r:aC h' M' us.toList es):Rep h' M' (.ref a) (.tup es):=i.elim λm e=>have q:=hk _ _ n ⟨_,m,rfl⟩ e;.tup ⟨m,q.1⟩ q.2 z r
theorem Iu(i:PL h a us)(n:¬M a)(z:es.length<=ck)(r:aC h' M' us.toList es):Rep h' M' (.ref a) (.lst es):=i.elim λm e=>have q:=hk _ _ n ⟨_,m,rfl⟩ e;.lst ⟨m,q.1⟩ q.2 z r
theorem Rep.mono{v:aA}{d:D}(r:Rep h M v d):Rep h' M' v d:=
 Rep.rec (motive_1:=λv d y=>Rep h' M' v d) (motive_2:=λvs ds y=>aC h' M' vs ds) .none .bool .int .str (λi n z y=>Ir hk i n z) (λi n z y=>Iu hk i n z) .nil (λy y=>.cons) r
theorem aC.mono{vs:List aA}{ds:List D}(r:aC h M vs ds):aC h' M' vs ds:=
 aC.rec (motive_1:=λv d y=>Rep h' M' v d) (motive_2:=λvs ds y=>aC h' M' vs ds) .none .bool .int .str (λi n z y=>Ir hk i n z) (λi n z y=>Iu hk i n z) .nil (λy y=>.cons) r
end
section
variable {h h':cC}{M M':Addr->Prop}{v:aA}{d:D}{vs ws:List aA}{ds es:List D}
def Rep.keep(r:Rep h M v d)(hk:∀b o,h.get? b=some o->h'.get? b=some o):Rep h' M v d:=r.mono λa o n z e=>⟨hk a o e,n⟩
def aC.keep(r:aC h M vs ds)(hk:∀b o,h.get? b=some o->h'.get? b=some o):aC h' M vs ds:=r.mono λa o n z e=>⟨hk a o e,n⟩
def Rep.qh(r:Rep h M v d)(hm:∀a,M' a->M a):Rep h M' v d:=r.mono λa z n z e=>⟨e,λx=>n (hm a x)⟩
def aC.qh(r:aC h M vs ds)(hm:∀a,M' a->M a):aC h M' vs ds:=r.mono λa z n z e=>⟨e,λx=>n (hm a x)⟩
def aC.fresh{a:Addr}(r:aC h M vs ds)(n:h.get? a=none)(hk:∀b o,h.get? b=some o->h'.get? b=some o):aC h' (λb=>M b\/b=a) vs ds:=r.mono λb o m z e=>⟨hk b o e,λq=>q.elim m λq=>ns (q▸n) e⟩
def aC.ind{m:List aA->List D->Prop}(r:aC h M vs ds)(n:m [] [])(c:∀{v:aA} {vs:List aA} {d:D} {ds:List D},Rep h M v d->aC h M vs ds->m vs ds->m (v::vs) (d::ds)):m vs ds:=
 aC.rec (motive_1:=λz z z=>True) (motive_2:=λvs ds z=>m vs ds) trivial (λz=>trivial) (λz z=>trivial) (λz z z=>trivial) (λz z z z z=>trivial) (λz z z z z=>trivial) n (λa r z ih=>c a r ih) r
theorem aC.length(r:aC h M vs ds):vs.length=ds.length:=r.ind (m:=λvs ds=>vs.length=ds.length) aa λz z ih=>cj Nat.succ ih
def aC.append(r:aC h M vs ds)(q:aC h M ws es):aC h M (vs++ws) (ds++es):=r.ind (m:=λvs ds=>aC h M (vs++ws) (ds++es)) q λa z ih=>.cons a ih
def aC.get(r:aC h M vs ds):∀{k:Nat} {d:D},ds[k]?=some d->∃v,vs[k]?=some v/\Rep h M v d:=
 r.ind (m:=λvs ds=>∀(k:Nat) (d:D),ds[k]?=some d->∃v,vs[k]?=some v/\Rep h M v d) (λz z e=>nomatch JG.symm.trans e) (λa z ih k d=>JC (λe=>⟨_,rfl,eF e▸a⟩) (λk z=>ih k d) k) _ _
def aC.get'(r:aC h M vs ds):∀{k:Nat} {v:aA},vs[k]?=some v->∃d,ds[k]?=some d/\Rep h M v d:=
 r.ind (m:=λvs ds=>∀(k:Nat) (v:aA),vs[k]?=some v->∃d,ds[k]?=some d/\Rep h M v d) (λz z e=>nomatch JG.symm.trans e) (λa z ih k d=>JC (λe=>⟨_,rfl,eF e▸a⟩) (λk z=>ih k d) k) _ _
theorem aC.drop(r:aC h M vs ds):∀k:Nat,aC h M (vs.drop k) (ds.drop k):=
 r.ind (m:=λvs ds=>∀k:Nat,aC h M (vs.drop k) (ds.drop k)) (fun|0=>.nil|_+1=>.nil) λa r ih=>fun|0=>.cons a r|k+1=>ih k
theorem aC.take(r:aC h M vs ds):∀k:Nat,aC h M (vs.take k) (ds.take k):=
 r.ind (m:=λvs ds=>∀k:Nat,aC h M (vs.take k) (ds.take k)) (fun|0=>.nil|_+1=>.nil) λa z ih=>fun|0=>.nil|k+1=>.cons a (ih k)
def aC.one(r:Rep h M v d):aC h M [v] [d]:=.cons r .nil
def aC.mem(r:aC h M vs ds)(hv:v∈vs):∃d∈ds,Rep h M v d:=by
 let ⟨k,hk⟩:=WB hv;let ⟨d,e,q⟩:=r.get' hk;exact⟨d,jK e,q⟩
end
theorem aC.size{h:cC}{M:Addr->Prop}{vs:Array aA}{ds:List D}(r:aC h M vs.toList ds):vs.size=ds.length:=r.length
def aC.DG(r:aC h M vs (d::ds)):∃v HJ,vs=v::HJ/\Rep h M v d/\aC h M HJ ds:=by
 cases r with|cons a b=>exact⟨_,_,rfl,a,b⟩
def aC.Qc(r:aC h M vs []):vs=[]:=by cases r;rfl
def Rep.mT(r:Rep h M x (.tup ds)):∃a vs,x=.ref a/\PT h a vs/\¬M a/\ds.length<=ck/\aC h M vs.toList ds:=by
 intros h M x ds _ r;cases r with|tup a b c d=>exact⟨_,_,rfl,a,b,c,d⟩
def Rep.cX(r:Rep h M x (.int i)):∃t,x=.int i t:=by
 intros h M x i _ r;cases r with|int _ t=>exact⟨t,rfl⟩
def Rep.abo(r:Rep h M x (.lst ds)):∃a vs,x=.ref a/\PL h a vs/\¬M a/\ds.length<=ck/\aC h M vs.toList ds:=by
 intros h M x ds _ r;cases r with|lst a b c d=>exact⟨_,_,rfl,a,b,c,d⟩
structure Kp(s s':Shared):Prop where
 gens:s'.gens=s.gens
 os:s'.os=s.os
 keep:∀b o,s.heap.get? b=some o->s'.heap.get? b=some o
def Kp.refl(s:Shared):Kp s s:=⟨rfl,rfl,λz z e=>e⟩
theorem Kp.trans(x:Kp s s')(y:Kp s' s''):Kp s s'':=⟨y.gens.trans x.gens,y.os.trans x.os,λb o e=>y.keep b o (x.keep b o e)⟩
theorem Kp.toks(s:Shared)(t:Nat):Kp s {s with toks:=t}:=⟨rfl,rfl,λz z e=>e⟩
theorem Kp.push(s:Shared)(o:Obj):Kp s {s with heap:=s.heap.push o}:=⟨rfl,rfl,λz z e=>dS o e⟩
noncomputable def jU:List Str:=["len","range","sorted","max","min","list","dict","set","enumerate","zip","type","int","tuple"]
structure aeN(h:cC)(K:Frag)(mg mb:Str->Option aA):Prop where
 sP:K.In h
 g:h.Ns mainGlobals mg
 b:h.Ns builtinsNs mb
 lim:h.NoLimit
 bi:∀x:Str,x≠"__name__"->mb x=bootBuiltins x
 bn:∀x∈jU,mg x=none
 sm:∃o,h.get? sysModules=some o
structure acr(n:Nat)(A:Around):Prop where
 hh:A.handled=none
 u:A.units+50*n+500<cLine
 d:A.depth+n<recursionLimit
inductive DR{K α:Type}(R:aA->α->Prop):List (K×aA)->List (K×α)->Prop
 |nil:DR R [] []
 |cons {k:K} {u:aA} {x:α} {us:List (K×aA)} {kvs:List (K×α)}:R u x->DR R us kvs->DR R ((k,u)::us) ((k,x)::kvs)
def DR.mono{K α:Type}{R R':aA->α->Prop}{us:List (K×aA)}{kvs:List (K×α)}(r:DR R us kvs)(hr:∀v x,R v x->R' v x):DR R' us kvs:=by
 induction r with
 |nil=>exact .nil
 |cons c _ ih=>exact .cons (hr _ _ c) ih
theorem DR.length{K α:Type}{R:aA->α->Prop}{us:List (K×aA)}{kvs:List (K×α)}(r:DR R us kvs):us.length=kvs.length:=by
 induction r with
 |nil=>rfl
 |cons c _ ih=>rw[jL,jL,ih]
def DR.keys{K α:Type}{R:aA->α->Prop}{us:List (K×aA)}{kvs:List (K×α)}(r:DR R us kvs):us.map (·.1)=kvs.map (·.1):=by
 induction r with
 |nil=>rfl
 |cons c _ ih=>rw[gx,gx,ih]
def dN{prog:Program}{w:World}{K:Type}[DecidableEq K]{knd:KeyKind prog w K}{h h':cC}{a:Addr}{us:List (K×aA)}(x:h.DictOf knd a us)(k:∀o,h.get? a=some o->h'.get? a=some o):h'.DictOf knd a us:=
 qU (λo=>qU λes=>qU λep h=>⟨k o h.1,h.2⟩) x
def Ao(prog:Program)(w:World)(h:cC)(a:Addr)(ks:List Int):Prop:=h.SetOf (intKind prog w) a (λk=>ks.contains k) ks.length/\ks.Nodup/\rZ (ju w) h a
def v8{prog:Program}{w:World}{h h':cC}{a:Addr}{ks:List Int}(x:Ao prog w h a ks)(k:∀o,h.get? a=some o->h'.get? a=some o):Ao prog w h' a ks:=
 ⟨qU (λo=>qU λes=>qU λep=>qU λt h=>⟨k o h.1,h.2⟩) x.1,x.2.1,Aj x.2.2 k⟩
inductive V where
 |d (x:D)
 |r (a:Addr)
inductive Cn where
 |l (ds:List D)
 |v (vs:List V)
 |i (kvs:List (Int×V))
 |s (ks:List Int)
 |k (kvs:List (Str×D))
 |o (d:Addr)
 |t (bX:List (Str×V))
structure G0 where
 prog:Program
 w:World
 h₀:cC
 cls:Addr
 K:Frag
 mg:Str->Option aA
 mb:Str->Option aA
structure C extends G0 where
 A:Around
 env:Env
 M:Addr->Prop
 X:Addr->Prop
 own:List Str
 n:Nat
 σ:Addr->Option Cn
 wr:Addr->Prop
 B:Addr->Prop
instance:Nonempty D:=⟨.none⟩
instance:Nonempty V:=⟨.r 0⟩
instance:Nonempty Cn:=⟨.l []⟩
instance:Nonempty G0:=PR (inferInstance:Nonempty World) λw=>⟨⟨default,w,{},0,[],λz=>none,λz=>none⟩⟩
instance:Nonempty C:=PR (inferInstance:Nonempty G0) λg=>⟨⟨g,{},default,λz=>True,λz=>True,[],0,λz=>none,λz=>True,λz=>True⟩⟩
def VR(M:Addr->Prop)(h:cC):V->aA->Prop
 |.d x,v=>Rep h M v x
 |.r a,v=>v=.ref a
abbrev gf(c:C)(h:cC)(v:aA)(x:V):Prop:=VR c.M h x v
inductive iG(M:Addr->Prop)(h:cC):List aA->List V->Prop
 |nil:iG M h [] []
 |cons {x:aA} {xs:List aA} {v:V} {vs:List V}:VR M h v x->iG M h xs vs->iG M h (x::xs) (v::vs)
abbrev r4(c:C)(h:cC)(xs:List aA)(vs:List V):Prop:=iG c.M h xs vs
def CR(g:G0)(M:Addr->Prop)(h:cC)(a:Addr):Cn->Prop
 |.l ds=>∃vs,PL h a vs/\ds.length<=ck/\aC h M vs.toList ds
 |.v ws=>∃vs,PL h a vs/\ws.length<=ck/\iG M h vs.toList ws
 |.i kvs=>∃us,h.DictOf (intKind g.prog g.w) a us/\kvs.length<=ck/\DR (λu x=>VR M h x u) us kvs
 |.s ks=>Ao g.prog g.w h a ks
 |.k kvs=>∃us,h.DictOf (strKind g.prog g.w) a us/\kvs.length<=ck/\DR (Rep h M) us kvs
 |.o d=>h.get? a=some ⟨.ref g.cls,some d,.plain,#[]⟩
 |.t bX=>∃es n,h.get? a=some (dictOf es n)/\es.length=bX.length/\(∀e∈es,∃x t,e.key=.str x t)/\(∀x v,bX.lookup x=some v->∃u,getL x es=some (some u)/\handedIn u=true/\VR M h v u)/\∀x,bX.lookup x=none->getL x es=some none
section
variable {M M':Addr->Prop}{h h':cC}
def VR.mono(hr:∀{u:aA} {d:D},Rep h M u d->Rep h' M' u d){x:V}{u:aA}(r:VR M h x u):VR M' h' x u:=by
 cases x with
 |d y=>exact hr r
 |r a=>exact r
theorem iG.mono(hr:∀{u:aA} {d:D},Rep h M u d->Rep h' M' u d){xs:List aA}{vs:List V}(r:iG M h xs vs):iG M' h' xs vs:=by
 induction r with
 |nil=>exact .nil
 |cons a _ ih=>exact .cons (a.mono hr) ih
theorem iG.length(r:iG M h xs vs):xs.length=vs.length:=by
 induction r with
 |nil=>rfl
 |cons a _ ih=>simp[ih]
theorem iG.size{vs:Array aA}{ws:List V}(r:iG M h vs.toList ws):vs.size=ws.length:=r.length
def iG.nl{xs:List aA}{G:List aA->Prop}(r:iG M h xs [])(f:G []):G xs:=by cases r;exact f
def iG.un{xs:List aA}{v:V}{vs:List V}{G:List aA->Prop}(r:iG M h xs (v::vs))(f:∀x xs,VR M h v x->iG M h xs vs->G (x::xs)):G xs:=by cases r with|cons a b=>exact f _ _ a b
def iG.e1{xs:List aA}{v:V}{G:List aA->Prop}(r:iG M h xs [v])(f:∀x,VR M h v x->G [x]):G xs:=r.un λx z a b=>b.nl (G:=λxs=>G (x::xs)) (f x a)
def iG.e2{xs:List aA}{v w:V}{G:List aA->Prop}(r:iG M h xs [v,w])(f:∀x y,VR M h v x->VR M h w y->G [x,y]):G xs:=r.un λx z a b=>b.e1 (G:=λxs=>G (x::xs)) λy q=>f x y a q
def aC.YO(hr:∀{u:aA} {d:D},Rep h M u d->Rep h' M' u d){xs:List aA}{vs:List D}(r:aC h M xs vs):aC h' M' xs vs:=by
 induction xs generalizing vs with
 |nil=>cases r;exact .nil
 |cons x xs ih=>cases r with|cons a r=>exact .cons (hr a) (ih r)
theorem CR.mono{g:G0}(hr:∀{u:aA} {d:D},Rep h M u d->Rep h' M' u d){a:Addr}(ha:∀o,h.get? a=some o->h'.get? a=some o){cn:Cn}(r:CR g M h a cn):CR g M' h' a cn:=by
 cases cn with
 |l ds=>let ⟨vs,i,z,z2⟩:=r;revert z2;intro r;exact⟨vs,i.at ha,z,r.YO hr⟩
 |v ws=>let ⟨vs,i,z,z2⟩:=r;revert z2;intro r;exact⟨vs,i.at ha,z,r.mono hr⟩
 |i kvs=>let ⟨us,i,n,z2⟩:=r;revert z2;intro r;exact⟨us,dN i ha,n,r.mono λy y q=>q.mono hr⟩
 |s ks=>exact v8 r ha
 |k kvs=>let ⟨us,i,n,z2⟩:=r;revert z2;intro r;exact⟨us,dN i ha,n,r.mono λy y q=>hr q⟩
 |o d=>exact ha _ r
 |t bX=>let ⟨es,n,i,z,q,z2,r'⟩:=r;revert z2;intro r;exact⟨es,n,ha _ i,z,q,λx v e=>let ⟨u,e1,e2,e3⟩:=r x v e;⟨u,e1,e2,e3.mono hr⟩,r'⟩
end
theorem VR.keep(r:gf c h v x)(hk:∀b o,h.get? b=some o->h'.get? b=some o):gf c h' v x:=r.mono λq=>q.keep hk
theorem iG.keep(r:iG M h xs vs)(hk:∀b o,h.get? b=some o->h'.get? b=some o):iG M h' xs vs:=r.mono λq=>q.keep hk
structure Bs(c:C)(s:Shared):Prop where
 keep:∀b o,c.h₀.get? b=some o->s.heap.get? b=some o
 base:aeN c.h₀ c.K c.mg c.mb
 room:acr c.n c.A
 gG:∀a,c.M a->∃o,s.heap.get? a=some o
 xm:∀a,c.X a->c.M a
 kI:∀a,c.M a->c.h₀.get? a=none
 gg:∀a cn,c.σ a=some cn->c.M a/\¬c.X a/\CR c.toG0 c.M s.heap a cn
 oq:∀a,c.wr a->c.M a/\¬c.X a/\∃cn,c.σ a=some cn
 bm:∀a,c.B a->c.M a
def Bs.chg(x:Bs c s)(hh:∀b o,c.h₀.get? b=some o->s'.heap.get? b=some o)(hm:∀a,c.M a->∃o,s'.heap.get? a=some o)(hr:∀{u:aA} {d:D},Rep s.heap c.M u d->Rep s'.heap c.M u d)
 (hp:∀a cn,c.σ a=some cn->∀o,s.heap.get? a=some o->s'.heap.get? a=some o):Bs c s':=
 ⟨hh,x.base,x.room,hm,x.xm,x.kI,λa cn e=>let ⟨h1,h2,h3⟩:=x.gg a cn e;⟨h1,h2,h3.mono hr (hp a cn e)⟩,x.oq,x.bm⟩
def Bs.kp(x:Bs c s)(k:Kp s s'):Bs c s':=
 x.chg (λb o e=>k.keep b o (x.keep b o e)) (λa m=>let ⟨o,e⟩:=x.gG a m;⟨o,k.keep a o e⟩) (λr=>r.keep k.keep) λa z z o e=>k.keep a o e
def Bs.EY(x:Bs c s)(a:Addr)(h:c.X a):c.h₀.get? a=none:=x.kI a (x.xm a h)
def Bs.new{c:C}{s:Shared}(x:Bs c s){a:Addr}(h:s.heap.get? a=none):¬c.M a:=λm=>by
 let ⟨o,e⟩:=x.gG a m;exact ns h e
def Bs.u7{c:C}{s:Shared}(x:Bs c s){a:Addr}(h:s.heap.get? a=none):c.h₀.get? a=none:=by
 cases e:c.h₀.get? a with
 |none=>rfl
 |some o=>exact ns h (x.keep a o e)
def bC(h:cC):h.get? h.objs.size=none:=by
 cases e:h.get? h.objs.size with
 |none=>rfl
 |some o=>exact aK (gP e) (Jw _)
def Bs.uq(x:Bs c s)(h:c.h₀.get? a=none):(a==sysModules)=false:=beq_eq_false_iff_ne.mpr λe=>by
 let ⟨o,e'⟩:=x.base.sm;rw[<-e,h] at e';cases e'
theorem Bs.size(x:Bs c s):¬c.M s.heap.objs.size:=x.new (bC _)
def Holds(s:Shared)(env:Env)(x:Str)(v:aA):Prop:=
 (env.kindOf x=some .local/\∃m,s.heap.Ns env.locals m/\m x=some v)\/
 ((env.kindOf x=some .cell\/env.kindOf x=some .free)/\∃a,env.cells.lookup x=some a/\s.heap.IsCell a (some v))
def Holds.keep(r:Holds s env x v)(hk:∀b o,s.heap.get? b=some o->s'.heap.get? b=some o):Holds s' env x v:=by
 rcases r with⟨a,m,n,e⟩|⟨a,b,l,q⟩
 .exact .inl ⟨a,m,n.keeps hk,e⟩
 exact .inr ⟨a,b,l,q.keeps hk⟩
structure St(c:C)(ρ:List (Str×V))(s:Shared):Prop where
 bs:Bs c s
 kind:c.env.scope.kind=.function
 globals:c.env.globals=mainGlobals
 builtins:c.env.builtins=builtinsNs
 inj:∀x y a,c.env.cells.lookup x=some a->c.env.cells.lookup y=some a->x=y
 o7:∀x a,c.env.cells.lookup x=some a->∃v,s.heap.IsCell a v
 vars:∀x v,ρ.lookup x=some v->(x==("__debug__":Str))=false/\(x==("__classdict__":Str))=false/\∃u,Holds s c.env x u/\gf c s.heap u v
theorem St.kp(x:St c ρ s)(k:Kp s s'):St c ρ s':=
 ⟨x.bs.kp k,x.kind,x.globals,x.builtins,x.inj,λn a l=>(x.o7 n a l).elim λv i=>⟨v,i.keeps k.keep⟩,λn v e=>by let ⟨a,b,u,h,r⟩:=x.vars n v e;exact⟨a,b,u,h.keep k.keep,r.keep k.keep⟩⟩
abbrev no:aA->Shared->Prop:=λz z=>False
abbrev C.m(c:C):Model:=model c.prog c.w
structure EvO(c:C)(s:Shared)(v:V)(x:aA)(s':Shared):Prop where
 k:Kp s s'
 r:gf c s'.heap x v
inductive aeO(c:C)(s:Shared)(ds:List D)(x:aA)(s':Shared):Prop
 |mk (k:Kp s s') (a:Addr) (vs:Array aA) (e:x=.ref a) (n:s.heap.get? a=none) (i:PL s'.heap a vs) (z:ds.length<=ck) (r:aC s'.heap (λb=>c.M b\/b=a) vs.toList ds)
structure Ud{α:Type}(s:Shared)(b:α)(x:α)(s':Shared):Prop where
 k:Kp s s'
 r:x=b
structure acs(M:Addr->Prop)(s:Shared)(ds:List D)(xs:List aA)(s':Shared):Prop where
 k:Kp s s'
 r:aC s'.heap M xs ds
def Ev(c:C)(ρ:List (Str×V))(e:aU)(v:V):Prop:=
 ∀s,St c ρ s->wpAny c.m c.A (eval e c.env) (EvO c s v) no s
def jf(c:C)(ρ:List (Str×V))(e:aU)(ds:List D):Prop:=
 ∀s,St c ρ s->wpAny c.m c.A (eval e c.env) (aeO c s ds) no s
def iH(c:C)(ρ:List (Str×V))(e:aU)(b:Bool):Prop:=
 ∀s,St c ρ s->wpAny c.m c.A (isTrue e c.env (eval e c.env)) (Ud s b) no s
section
variable {c:C}{ρ:List (Str×V)}{e e₁ e₂:aU}{v v₁ v₂:V}
def Ev.ofF(h:jf c ρ e ds):Ev c ρ e (.d (.lst ds)):=λs S=>
 bk (h s S) (λy s' q1=>by refine aM λhN=>?_;obtain⟨k,a,vs,e,n,i,z,r⟩:_:=q1;refine hN ?_;exact⟨k,e▸.lst i (S.bs.new n) z (r.qh λy h=>.inl h)⟩)
theorem Ev.int{k pos}:Ev c ρ (.Constant (.int i) k pos) (.d (.int i)):=λs z=>wpAny_Constant_int ⟨Kp.toks s _,.int i _⟩
theorem Ev.str{k pos}(h:kZ x=true):Ev c ρ (.Constant (.str x) k pos) (.d (.str x)):=λs z=>Constant_str ⟨Kp.toks s _,.str x _ h⟩
theorem Ev.none{k pos}:Ev c ρ (.Constant .none k pos) (.d .none):=λs z=>by
 rw[eval_Constant];exact bx ⟨Kp.refl s,.none⟩
theorem Ev.bool{k pos}:Ev c ρ (.Constant (.bool b) k pos) (.d (.bool b)):=λs z=>by
 rw[eval_Constant];exact bx ⟨Kp.refl s,.bool b⟩
def Holds.load{M:Model}{A:Around}{E:aA->Shared->Prop}{s:Shared}{env:Env}{x:Str}{v:aA}{Q:aA->Shared->Prop}(h:Holds s env x v)(hk:env.scope.kind=.function)(hc:(x==("__classdict__":Str))=false)(q:Q v s):
 wpAny M A (loadName env x) Q E s:=by
 rcases h with⟨a,m,n,e⟩|⟨a|a,b,l,i⟩
 .exact wpAny_loadName_local hk a n e q
 .exact wpAny_loadName_cell hk a l i q
 exact wpAny_loadName_free hk a l i q hc
def Ev.name{pos}(h:ρ.lookup x=some v):Ev c ρ (.Name x pos) v:=λs S=>by
 refine aM λhN=>?_;obtain⟨h1,h2,u,hh,r⟩:_:=S.vars x v h;refine hN ?_
 exact wpAny_Name (hh.load S.kind h2 ⟨Kp.refl s,r⟩) h1
def EvAll(c:C)(ρ:List (Str×V))(es:List aU)(ds:List D):Prop:=
 ∀s pos,St c ρ s->wpAny c.m c.A (spliced (backTo pos (starEach es c.env))) (acs c.M s ds) no s
noncomputable def bJ:aU->Bool
 |.Starred ..=>true
 |_=>false
def bO(env:Env)(h:bJ e=false)(es:List aU):starEach (e::es) env=(false,eval e env)::starEach es env:=by
 cases e<;>first|rfl|cases h
theorem EvAll.nil:EvAll c ρ [] []:=λs pos z=>vQ ⟨Kp.refl s,.nil⟩
theorem EvAll.cons{x:D}{es:List aU}{ds:List D}(h:Ev c ρ e (.d x))(r:EvAll c ρ es ds)(hs:autoParam (bJ e=false) bu):EvAll c ρ (e::es) (x::ds):=λs pos S=>by
 rw[bO _ hs];refine sM (bk (h s S) (λu ah o1=>?_));exact bk (r ah pos (S.kp o1.k)) (λus aB o2=>⟨o1.k.trans o2.k,.cons (Rep.keep o1.r o2.k.keep) o2.r⟩)
theorem Ev.tup{es:List aU}{ds:List D}{k pos}(h:EvAll c ρ es ds)(hz:ds.length<=ck:=by exact bz aa):Ev c ρ (.Tuple es k pos) (.d (.tup ds)):=λs S=>by
 refine Jr (bk (h s pos S) (λus ah ⟨k,q⟩=>⟨by rw[q.length];exact eH hz,k.trans (Kp.push ah _),?_⟩));exact .tup ⟨0,fh _ aa⟩ (S.bs.kp k).size hz (q.keep λz z e=>dS _ e)
def jf.list{es:List aU}{ds:List D}{pos}(h:EvAll c ρ es ds)(hz:ds.length<=ck:=by exact bz aa):jf c ρ (.List es pos) ds:=λs S=>by
 refine OF (bk (h s pos S) (λus ah o1=>⟨by rw[o1.r.length];exact eH hz,o1.k.trans (Kp.push ah _),_,_,rfl,?_,⟨0,fh _ aa⟩,hz,o1.r.fresh (bC _) λz z e=>dS _ e⟩));cases e:s.heap.get? ah.heap.objs.size with
 |none=>rfl
 |some o=>exact ns (bC _) (o1.k.keep _ _ e)
end
open Mine.Ev renaming name->aj,int->aN,ofF->cH,tup->cI,str->dZ
open Mine.EvAll renaming cons->aP,nil->bq
open Mine.jf renaming list->fH
open Mine.V renaming r->gn,d->lF
open Mine.Kp renaming toks->jv,push->jw,refl->jM
open Mine.D renaming lst->kJ,none->jg,int->jF,tup->ou
open Mine.Cn renaming i->mU
open Mine.iG renaming e1->qZ,e2->EZ
open Mine.Rep renaming int->sS,keep->zD,abo->Qd,tup->Qe
mutual
noncomputable def D.py:D->PyData
 |.none=>.none
 |.bool b=>.bool b
 |.int i=>.int i
 |.str x=>.str x
 |.tup ds=>.tuple (D.lG ds)
 |.lst ds=>.list (D.lG ds)
noncomputable def D.lG:List D->List PyData
 |[]=>[]
 |d::ds=>D.py d::D.lG ds
end
mutual
noncomputable def D.dep:D->Nat
 |.tup ds=>D.dK ds+1
 |.lst ds=>D.dK ds+1
 |_=>0
noncomputable def D.dK:List D->Nat
 |[]=>0
 |d::ds=>max (D.dep d) (D.dK ds)
end
mutual
theorem D.r5:∀d:D,d.py.depth=d.dep
 |.none=>rfl
 |.bool _=>rfl
 |.int _=>rfl
 |.str _=>rfl
 |.tup ds=>by rw[D.py,XD,D.dep,D.v9 ds]
 |.lst ds=>by rw[D.py,XD,D.dep,D.v9 ds]
theorem D.v9:∀ds:List D,XE (D.lG ds)=D.dK ds
 |[]=>rfl
 |d::ds=>by rw[D.lG,XE,D.dK,D.r5 d,D.v9 ds]
end
section
variable {h:cC}{M:Addr->Prop}{a:Addr}{us:Array aA}{es:List D}
def Qf(i:PT h a us)(q:(∃as,yT h us.toList (D.lG es) as)/\ue (D.lG es)=true):(∃as,Bv h (.ref a) (ou es).py as)/\(ou es).py.canLay0=true:=by
 rw[D.py,Py];exact⟨i.elim λm e=>q.1.elim λas r=>⟨_,.tuple e aa aa r⟩,q.2⟩
def Qg(i:PL h a us)(q:(∃as,yT h us.toList (D.lG es) as)/\ue (D.lG es)=true):(∃as,Bv h (.ref a) (kJ es).py as)/\(kJ es).py.canLay0=true:=by
 rw[D.py,Py];exact⟨i.elim λm e=>q.1.elim λas r=>⟨_,.list e aa aa r⟩,q.2⟩
def CS(a:(∃as,Bv h v d.py as)/\d.py.canLay0=true)(b:(∃as,yT h vs (D.lG es) as)/\ue (D.lG es)=true):(∃as,yT h (v::vs) (D.lG (d::es)) as)/\ue (D.lG (d::es))=true:=by
 rw[D.lG,ue,a.2,b.2];exact⟨a.1.elim λas q=>b.1.elim λbs p=>⟨_,.cons q p⟩,rfl⟩
def Rep.reads(r:Rep h M v d):(∃as,Bv h v d.py as)/\d.py.canLay0=true:=
 Rep.rec (motive_1:=λv d z=>(∃as,Bv h v d.py as)/\d.py.canLay0=true) (motive_2:=λvs ds z=>(∃as,yT h vs (D.lG ds) as)/\ue (D.lG ds)=true)
  ⟨⟨_,.none⟩,rfl⟩ (λb=>⟨⟨_,.bool b⟩,rfl⟩) (λi t=>⟨⟨_,.int i t⟩,rfl⟩) (λx t e=>⟨⟨_,.str x t⟩,e⟩) (λi z z z=>Qf i) (λi z z z=>Qg i) ⟨⟨_,.nil⟩,rfl⟩ (λz z=>CS) r
theorem aC.reads(r:aC h M vs ds):(∃as,yT h vs (D.lG ds) as)/\ue (D.lG ds)=true:=
 r.ind (m:=λvs ds=>(∃as,yT h vs (D.lG ds) as)/\ue (D.lG ds)=true) ⟨⟨_,.nil⟩,rfl⟩ λa z ih=>CS a.reads ih
end
def D.beq(a b:D):Bool:=lE a.py b.py
def D.has(ds:List D)(x:D):Bool:=(D.lG ds).any λy=>lE y x.py
def vm(c:C):V->List D->Prop
 |.d (.lst ds),es=>ds=es
 |.r a,es=>c.σ a=some (.l es)
 |_,_=>False
def VR.My{c:C}{s:Shared}{x:aA}{v:V}{ds:List D}(r:gf c s.heap x v)(B:Bs c s)(e:vm c v ds):∃a vs,x=.ref a/\PL s.heap a vs/\ds.length<=ck/\aC s.heap c.M vs.toList ds:=by
 intros c s x v ds _ r B e;cases v with
 |d x=>
  cases x with
  |lst es=>cases e;let ⟨a,vs,e,i,_,z,r⟩:=Qd r;exact⟨a,vs,e,i,z,r⟩
  |_=>cases e
 |r a=>refine aM λhN=>?_;obtain⟨_,_,vs,q⟩:_:=B.gg a _ e;refine hN ?_;exact⟨a,vs,r,q⟩
theorem VR.mT(r:gf c h x (.d (.tup ds))):∃a vs,x=.ref a/\PT h a vs/\¬c.M a/\ds.length<=ck/\aC h c.M vs.toList ds:=by
 exact Rep.mT r
theorem VR.cX(r:gf c h x (.d (.int i))):∃t,x=.int i t:=by
 exact Rep.cX r
def VR.abp(r:gf c h x (.d (.str i))):∃t,x=.str i t:=by
 intros c h x i _ r;cases r with|str i t=>exact⟨t,rfl⟩
def VR.is_bool(r:gf c h x (.d (.bool i))):x=.bool i:=by
 intros c h x i _ r;cases r with|bool i=>rfl
def Bin(c:C)(op:Operator)(v₁ v₂ v:V):Prop:=∀s x y,Bs c s->gf c s.heap x v₁->gf c s.heap y v₂->wpAny c.m c.A (binaryOp op x y) (EvO c s v) no s
def Cmp(c:C)(op:kT)(v₁ v₂:V)(b:Bool):Prop:=∀s x y,Bs c s->gf c s.heap x v₁->gf c s.heap y v₂->wpAny c.m c.A (compareOp op x y) (Ud s (EI b)) no s
section
variable {c:C}{ρ:List (Str×V)}{e e₁ e₂ Mz:aU}{v v₁ v₂:V}{pos:Pos}
def Ev.bin(bF:Ev c ρ e₁ v₁)(bN:Ev c ρ e₂ v₂)(ho:Bin c op v₁ v₂ v):Ev c ρ (.BinOp e₁ op e₂ pos) v:=λs S=>
 OG (bk (bF s S) (λx ah o1=>bk (bN ah (S.kp o1.k)) (λy aB o2=>
  bk (ho aB x y (S.bs.kp (o1.k.trans o2.k)) (o1.r.keep o2.k.keep) o2.r) (λz z o3=>⟨(o1.k.trans o2.k).trans o3.k,o3.r⟩))))
def iH.cmp(bF:Ev c ρ e₁ v₁)(bN:Ev c ρ e₂ v₂)(ho:Cmp c op v₁ v₂ b)(hm:behindInMarks op e₂=false:=by with_unfolding_all rfl):iH c ρ (.Compare e₁ [op] [e₂] pos) b:=λs S=>
 OH (bk (bF s S) (λx ah ⟨aE,cT⟩=>bk (bN ah (S.kp aE)) (λy aB ⟨aV,mV⟩=>
  bk (ho aB x y (S.bs.kp (aE.trans aV)) (cT.keep aV.keep) mV) (λ_ _ ⟨dP,r⟩=>by subst r;exact D4 ⟨(aE.trans aV).trans dP,rfl⟩)))) hm
def Bin.add:Bin c .Add (.d (.int a)) (.d (.int b)) (.d (.int (a+b))):=λs x y B r q=>by
 let ⟨t,zy⟩:=r.cX;let ⟨u,zy⟩:=q.cX;exact add_int ⟨jv s _,sS _ _⟩
def Bin.sub:Bin c .Sub (.d (.int a)) (.d (.int b)) (.d (.int (a-b))):=λs x y B r q=>by
 let ⟨t,zy⟩:=r.cX;let ⟨u,zy⟩:=q.cX;exact sub_int ⟨jv s _,sS _ _⟩
def Bin.mul(hm:IntMulOk a b):Bin c .Mult (.d (.int a)) (.d (.int b)) (.d (.int (a*b))):=λs x y B r q=>by
 let ⟨t,zy⟩:=r.cX;let ⟨u,zy⟩:=q.cX;exact mul_int ⟨jv s _,sS _ _⟩ hm
def Bin.mod(hb:b≠0):Bin c .Mod (.d (.int a)) (.d (.int b)) (.d (.int (a.fmod b))):=λs x y B r q=>by
 let ⟨t,zy⟩:=r.cX;let ⟨u,zy⟩:=q.cX;exact mod_int' hb ⟨jv s _,sS _ _⟩
def Bin.div(hb:b≠0)(hz:b.natAbs<1073741824):Bin c .FloorDiv (.d (.int a)) (.d (.int b)) (.d (.int (a.fdiv b))):=λs x y B r q=>by
 let ⟨t,zy⟩:=r.cX;let ⟨u,zy⟩:=q.cX;exact floordiv_int hb ⟨jv s _,sS _ _⟩ (.inl (PyProof.noPylong_small hz))
def Ev.neg(h:Ev c ρ e (.d (.int a))):Ev c ρ (.UnaryOp .USub e pos) (.d (.int (-a))):=λs S=>by
 have q:eval (.UnaryOp .USub e pos) c.env=(do let v<-eval e c.env;standAt pos;holding [v] (unaryOp .USub v)):=rfl;rw[q];refine aF (bk (h s S) (λx ah o1=>aF (jC (e9 ?_))));let ⟨t,zy⟩:=o1.r.cX;exact neg_int ⟨o1.k.trans (jv ah _),sS _ _⟩
def Bin.aeP(hz:(ds++es).length<=ck):Bin c .Add (.d (.tup ds)) (.d (.tup es)) (.d (.tup (ds++es))):=by
 intros c ds es _ hz;exact λs x y B r q=>by
  let ⟨a,vs,zy,z2,_,z,r'⟩:=r.mT;let ⟨n,i⟩:=z2;let ⟨b,ws,zy,z2,_,z',q'⟩:=q.mT;let ⟨m,j⟩:=z2
  have jt:vs.size+ws.size<=sizeLine:=by
   have h1:=r'.size;have h2:=q'.size;rw[h1,h2,<-bU];exact eH hz
  by_cases h1:vs.isEmpty=true
  .have e1:ds=[]:=by
    have:=r'.length;simp only[XA] at h1;subst h1;simpa using this.symm
   subst e1;exact concat_meets ⟨_,i,rfl⟩ ⟨_,j,rfl⟩ V1 seq_tuple_add XT XU (XW _ _)
    (tuple_addW0 a b vs ws n m none none #[] #[] h1) ⟨i,j,jM s,q⟩
  by_cases h2:ws.isEmpty=true
  .have e2:es=[]:=by
    have:=q'.length;simp only[XA] at h2;subst h2;simpa using this.symm
   subst e2;rw[iW];exact concat_meets ⟨_,i,rfl⟩ ⟨_,j,rfl⟩ V1 seq_tuple_add XT XU (XW _ _)
    (tuple_addW1 a b vs ws n m none none #[] #[] h1 h2) ⟨i,j,jM s,r⟩
  refine P.add_tuple i j h1 h2 ⟨jw s _,Qe ⟨0,fh _ aa⟩ B.size hz ?_⟩ jt;rw[EE];exact(r'.append q').keep λw w e=>dS _ e
def dQ(k:Kp s s')(h:s'.heap.get? a=none):s.heap.get? a=none:=by
 cases e:s.heap.get? a with
 |none=>rfl
 |some o=>exact ns h (k.keep _ _ e)
theorem jf.add(bF:Ev c ρ e₁ v₁)(bN:Ev c ρ e₂ v₂)(a₁:vm c v₁ ds)(aeQ:vm c v₂ es)(hz:(ds++es).length<=ck):jf c ρ (.BinOp e₁ .Add e₂ pos) (ds++es):=λs S=>
 OG (bk (bF s S) (λx ah o1=>bk (bN ah (S.kp o1.k)) (λy aB o2=>by
  let ⟨a,vs,zy,z2,z,r'⟩:=(o1.r.keep o2.k.keep).My (S.bs.kp (o1.k.trans o2.k)) a₁;let ⟨n,i⟩:=z2;let ⟨b,ws,zy,z2,z',q'⟩:=o2.r.My (S.bs.kp (o1.k.trans o2.k)) aeQ;let ⟨m,j⟩:=z2
  have jt:vs.size+ws.size<=sizeLine:=by
   have h1:=r'.size;have h2:=q'.size;rw[h1,h2,<-bU];exact eH hz
  refine P.add_list i j ⟨(o1.k.trans o2.k).trans (jw aB _),_,_,rfl,dQ (o1.k.trans o2.k) (bC _),⟨0,fh _ aa⟩,hz,?_⟩ jt;rw[EE];exact(r'.append q').fresh (bC _) λy y e=>dS _ e)))
def Cmp.eq(hd:min x.dep y.dep<=400):Cmp c .Eq (.d x) (.d y) (D.beq x y):=λs u v B r q=>by
 let ⟨z2,la⟩:=Rep.reads r;let ⟨as,ra⟩:=z2;let ⟨z2,lb⟩:=Rep.reads q;let ⟨bs,rb⟩:=z2;exact SeqAt.compareEq_reads ra rb la lb (by rw[D.r5,D.r5];exact xN (k:=0) hd B.room.u aa) ⟨jM s,rfl⟩
def Cmp.ne(hd:min x.dep y.dep<=400):Cmp c .NotEq (.d x) (.d y) (!D.beq x y):=λs u v B r q=>by
 let ⟨z2,la⟩:=Rep.reads r;let ⟨as,ra⟩:=z2;let ⟨z2,lb⟩:=Rep.reads q;let ⟨bs,rb⟩:=z2;exact SeqAt.compareNe_reads ra rb la lb (by rw[D.r5,D.r5];exact xN (k:=0) hd B.room.u aa) ⟨jM s,rfl⟩
def VR.abq(r:gf c s.heap x v)(B:Bs c s)(e:vm c v ds):(∃as,Bv s.heap x (.list (D.lG ds)) as)/\ue (D.lG ds)=true:=by
 let ⟨a,vs,zy,z2,z,r'⟩:=r.My B e;let ⟨n,i⟩:=z2;let ⟨z2,l⟩:=r'.reads;let ⟨as,q⟩:=z2;exact⟨⟨_,.list i aa aa q⟩,l⟩
def Cmp.abr(a:vm c v ds)(hd:min (D.dK ds) x.dep<=400):Cmp c .NotIn (.d x) v (!D.has ds x):=λs u w B r q=>by
 let ⟨z2,la⟩:=Rep.reads r;let ⟨as,ra⟩:=z2;let ⟨z2,lb⟩:=q.abq B a;let ⟨bs,rb⟩:=z2;exact SeqAt.notIn_list_reads rb ra lb la (by rw[D.r5,D.v9];exact xN (k:=1) hd B.room.u aa) ⟨jM s,rfl⟩
def Cmp.inT(hd:min (D.dK ds) x.dep<=400):Cmp c .In (.d x) (.d (.tup ds)) (D.has ds x):=λs u w B r q=>by
 let ⟨z2,la⟩:=Rep.reads r;let ⟨as,ra⟩:=z2;let ⟨z2,lb⟩:=Rep.reads q;let ⟨bs,rb⟩:=z2;rw[D.py] at rb lb;exact SeqAt.in_tuple_reads rb ra (by rw[Py] at lb;exact lb) la (by rw[D.r5,D.v9];exact xN (k:=1) hd B.room.u aa) ⟨jM s,rfl⟩
def Cmp.lt{a b:Int}:Cmp c .Lt (.d (.int a)) (.d (.int b)) (decide (a<b)):=λs x y B r q=>by
 let ⟨t,zy⟩:=r.cX;let ⟨u,zy⟩:=q.cX;exact lt_int ⟨jM s,rfl⟩
def Cmp.le:Cmp c .LtE (.d (.int a)) (.d (.int b)) (decide (a<=b)):=λs x y B r q=>by
 let ⟨t,zy⟩:=r.cX;let ⟨u,zy⟩:=q.cX;exact le_int ⟨jM s,rfl⟩
def Cmp.gt:Cmp c .Gt (.d (.int a)) (.d (.int b)) (decide (a>b)):=λs x y B r q=>by
 let ⟨t,zy⟩:=r.cX;let ⟨u,zy⟩:=q.cX;exact gt_int ⟨jM s,rfl⟩
end
open Mine.iH renaming cmp->bR
open Mine.Ev renaming bin->dU,neg->Kq
open Mine.D renaming beq->eT,r5->Kr
open Mine.Cmp renaming eq->fX,ne->ur,inT->Ks
open Mine.VR renaming cX->jV,My->uv,abp->Ku
open Mine.Bin renaming mod->jW,add->pP,aeP->uw,div->Qh
open Mine.jf renaming add->Cb
open Mine.Rep renaming reads->Kv
def qi(op:kT)(A:Around)(s:Shared)(y x:aA)(b:Bool):Prop:=
 ∀(prog:Program) (w:World) (E:aA->Shared->Prop) (Q:aA->Shared->Prop),Q (.bool b) s->wpAny (model prog w) A (richCompare op y x) Q E s
inductive ux(op:kT)(A:Around)(s:Shared)(fin:Bool):List (aA×aA)->Bool->Prop
 |nil:ux op A s fin [] fin
 |skip {y x:aA} {zs:List (aA×aA)} {r:Bool}:EqAt A s y x true->ux op A s fin zs r->ux op A s fin ((y,x)::zs) r
 |stop {y x:aA} {zs:List (aA×aA)} {r:Bool}:EqAt A s y x false->qi op A s y x r->ux op A s fin ((y,x)::zs) r
noncomputable def Qi:kT->Int->Int->Bool
 |.Lt,a,b=>decide (a<b)
 |.LtE,a,b=>decide (a<=b)
 |.Gt,a,b=>decide (a>b)
 |_,a,b=>decide (a>=b)
noncomputable def ow:kT->Nat->Nat->Bool
 |.Lt,a,b=>decide (a<b)
 |.LtE,a,b=>decide (a<=b)
 |.Gt,a,b=>decide (a>b)
 |_,a,b=>decide (a>=b)
noncomputable def E0:kT->Bool
 |.Lt|.LtE|.Gt=>true
 |_=>false
def Kw:∃f:String->kT->kF,(kF.«tuple.__lt__»=f "__lt__" .Lt/\kF.«tuple.__le__»=f "__le__" .LtE/\kF.«tuple.__gt__»=f "__gt__" .Gt)/\
 ∀(name:String) (op:kT) (l b:Addr) (items uy:Array aA) (n n2:Nat) (r:Bool),E0 op=true->Meets (f name op ⟨[.ref l,.ref b],[]⟩)
  (λA R s=>IsT s.heap l items n/\IsT s.heap b uy n2/\ux op A.in1 s (ow op items.size uy.size) (items.toList.zip uy.toList) r/\R (.ok (.ret (.bool r))) s):=
 ⟨_,⟨rfl,rfl,rfl⟩,λname op l b items uy n n2 r ho=>.of_wp λprog w A R s h=>by
  refine aM λhN=>?_;obtain⟨hp,g,d,tk,os⟩:_:=s;refine hN ?_;let ⟨hl,hb,he,z2⟩:=h;revert z2;intro h
  have f2:=AutoSeq1.sub_tuple_tuple;have hz:ac3 op items.size uy.size=.bool (ow op items.size uy.size):=by cases op<;>first|rfl|cases ho
  wp_walk using V2 hl,V2 hb,wpAny_forIn_list _ (λrest b s'=>b.1=none/\s'=⟨hp,g,d,tk,os⟩/\ux op A.in1 ⟨hp,g,d,tk,os⟩ (ow op items.size uy.size) rest r) _
  .intro z2 rest b s' z3;refine aM λhN=>?_;obtain⟨y,x⟩:_:=z2;refine hN ?_;refine aM λhN=>?_;obtain⟨hb',rfl,hR⟩:_:=z3;refine hN ?_
   cases hR with
   |skip h1 h2=>
    refine aF (h1 prog w _ _ ?_)
    wp_walk
    exact⟨rfl,rfl,h2⟩
   |stop h1 h2=>
    refine aF (h1 prog w _ _ ?_);clear he hz;cases op<;>first
     |(refine aF (yR (aF (h2 prog w _ _ (bx ?_))));exact bx ⟨_,rfl,h⟩)
     |cases ho
  .intro z2 s' z3;refine aM λhN=>?_;obtain⟨b1,b2⟩:_:=z2;refine hN ?_;refine aM λhN=>?_;obtain⟨hb',rfl,hR⟩:_:=z3;refine hN ?_
   simp only at hb';subst hb';cases hR
   wp_walk
   exact⟨_,rfl,hz▸h⟩
  exact⟨rfl,rfl,he⟩⟩
mutual
noncomputable def D.ord(op:kT):D->D->Option Bool
 |.int a,.int b=>some (Qi op a b)
 |.tup xs,.tup ys=>D.yv op (ow op xs.length ys.length) xs ys
 |_,_=>k6
noncomputable def D.yv(op:kT)(fin:Bool):List D->List D->Option Bool
 |x::xs,y::ys=>if eT x y then D.yv op fin xs ys else D.ord op x y
 |_,_=>some fin
end
def xO(op:kT)(fin:Bool)(x y:D)(xs ys:List D):D.yv op fin (x::xs) (y::ys)=if eT x y then D.yv op fin xs ys else D.ord op x y:=rfl
def Qj(op:kT)(xs ys:List D):D.ord op (.tup xs) (.tup ys)=D.yv op (ow op xs.length ys.length) xs ys:=rfl
theorem qi.int(ho:E0 op=true):qi op A s (.int a t) (.int b u) (Qi op a b):=λprog w E Q h=>by
 cases op
 case Lt=>exact lt_int h
 case LtE=>exact le_int h
 case Gt=>exact gt_int h
 all_goals cases ho
def qi.tup{op:kT}(ho:E0 op=true){A:Around}{s:Shared}{l b:Addr}{xs ys:Array aA}{n m:Nat}{r:Bool}(i:IsT s.heap l xs n)(j:IsT s.heap b ys m)(hu:A.units<cLine)
 (h:ux op A.in1 s (ow op xs.size ys.size) (xs.toList.zip ys.toList) r):qi op A s (.ref l) (.ref b) r:=λprog w E Q hq=>by
 have nn:EI r≠Value.notImplemented:=λe=>nomatch e
 let ⟨f,z2,T⟩:=Kw;let ⟨e1,e2,e3⟩:=z2;cases op
 case Lt=>exact OI (op:=.Lt) ⟨_,i,rfl⟩ ⟨_,j,rfl⟩ F.slot_tuple_lt F.entry_tuple_lt (F.args_tuple_lt_2 _ _) (e1▸T _ _ l b xs ys n m r aa) ⟨i,j,h,⟨nn,hq⟩⟩ hu
 case LtE=>exact OI (op:=.LtE) ⟨_,i,rfl⟩ ⟨_,j,rfl⟩ F.slot_tuple_le F.entry_tuple_le (F.args_tuple_le_2 _ _) (e2▸T _ _ l b xs ys n m r aa) ⟨i,j,h,⟨nn,hq⟩⟩ hu
 case Gt=>exact OI (op:=.Gt) ⟨_,i,rfl⟩ ⟨_,j,rfl⟩ F.slot_tuple_gt F.entry_tuple_gt (F.args_tuple_gt_2 _ _) (e3▸T _ _ l b xs ys n m r aa) ⟨i,j,h,⟨nn,hq⟩⟩ hu
 all_goals cases ho
def D.E1(h:x∈ds):x.dep<=D.dK ds:=by
 induction ds with
 |nil=>cases h
 |cons d ds ih=>
  rw[D.dK];exact(bZ.mp h).elim (λe=>e▸JD _ _) λh=>aG (ih h) (O0 _ _)
def MA(h:D.ord op x y=some b):(∃i j,x=.int i/\y=.int j/\b=Qi op i j)\/∃ds es,x=.tup ds/\y=.tup es/\D.yv op (ow op ds.length es.length) ds es=some b:=by
 intros op x y b _ h;cases x with
 |int i=>
  cases y with
  |int j=>exact .inl ⟨_,_,rfl,rfl,(eF h).symm⟩
  |_=>cases h
 |tup ds=>
  cases y with
  |tup es=>exact .inr ⟨_,_,rfl,rfl,h⟩
  |_=>cases h
 |_=>cases h
def ux.rep{op:kT}{A:Around}{s:Shared}{M:Addr->Prop}{fin b:Bool}{ds:List D}:∀{es:List D} {us ws:List aA},(∀d∈ds,(A.units+1+d.dep<cLine)/\∀d' u w b,Rep s.heap M u d->Rep s.heap M w d'->D.ord op d d'=some b->qi op A.in1 s u w b)->
 aC s.heap M us ds->aC s.heap M ws es->D.yv op fin ds es=some b->ux op A.in1 s fin (us.zip ws) b:=by
 intros op A s M fin b ds
 induction ds with
 |nil=>
  intro es us ws _ r _ e;rw[r.Qc];obtain rfl:=eF (show some fin=some b from e);exact .nil
 |cons d ds ihd=>
  intro es us ws hd r q e;refine aM λhN=>?_;obtain⟨u,us,rfl,hr,r⟩:_:=r.DG;refine hN ?_
  cases es with
  |nil=>
   rw[q.Qc,List.zip_nil_right];obtain rfl:=eF (show some fin=some b from e);exact .nil
  |cons d' es=>
   refine aM λhN=>?_;obtain⟨w,ws,rfl,hq,q⟩:_:=q.DG;refine hN ?_
   rw[xO] at e;have rU:=hd d (.head _);let ⟨z2,la⟩:=Kv hr;let ⟨as,ra⟩:=z2;let ⟨z2,lb⟩:=Kv hq;let ⟨bs,rb⟩:=z2;have heq:EqAt A.in1 s u w (eT d d'):=eqAt_reads d.py d'.py A.in1 s u w as bs ra rb la lb (by rw[Kr,Kr];exact f6 (ff (lW _ _) _) rU.1);rw[El];cases hb:eT d d' with
   |true=>rw[hb] at heq e;exact .skip heq (ihd (λd h=>hd d (.tail _ h)) r q e)
   |false=>rw[hb] at heq e;exact .stop heq (rU.2 d' u w b hr hq e)
theorem qi.rep(ho:E0 op=true):∀(n:Nat) (x y:D) (A:Around) (u v:aA) (b:Bool),x.dep<=n->Rep s.heap M u x->Rep s.heap M v y->D.ord op x y=some b->A.units+x.dep<cLine->qi op A s u v b:=by
 intros op s M _ ho;intro n
 induction n with
 |zero=>
  intro x y A u v b hn r q e hu;rcases MA e with⟨i,j,rfl,rfl,rfl⟩|⟨ds,es,rfl,rfl,e⟩
  .let ⟨t,zy⟩:=r.cX;let ⟨t',zy⟩:=q.cX;exact qi.int ho
  rw[D.dep] at hn;exact aK hn (Nat.not_succ_le_zero _)
 |succ n ih=>
  intro x y A u v b hn r q e hu;rcases MA e with⟨i,j,rfl,rfl,rfl⟩|⟨ds,es,rfl,rfl,e⟩
  .let ⟨t,zy⟩:=r.cX;let ⟨t',zy⟩:=q.cX;exact qi.int ho
  replace e:D.yv op (ow op ds.length es.length) ds es=some b:=e;refine aM λhN=>?_;obtain⟨a,vs,rfl,⟨ni,i⟩,_,_,r⟩:_:=r.mT;refine hN ?_
  refine aM λhN=>?_;obtain⟨a',HJ,rfl,⟨nj,j⟩,_,_,q⟩:_:=q.mT;refine hN ?_
  rw[D.dep] at hn hu;have h1:=r.length;have h2:=q.length;rw[l6] at h1 h2;have hd:∀d∈ds,d.dep<=n/\A.units+1+d.dep<cLine:=λd hd=>⟨aG (D.E1 hd) (Nat.le_of_succ_le_succ hn),f6 (aG (fF (BA _ 1 _)) (ff (aG (fF (pJ 1 _)) (gw (D.E1 hd))) _)) hu⟩
  rw[<-h1,<-h2] at e;exact qi.tup ho i j (f6 (iE _ _) hu) (.rep (λd hm=>⟨(hd d hm).2,λd' u w b hr hq e=>ih d d' A.in1 u w b (hd d hm).1 hr hq e (hd d hm).2⟩) r q e)
theorem Cmp.ord(e:D.ord op x y=some b)(hd:x.dep<=400)(ho:autoParam (E0 op=true) bu):Cmp c op (.d x) (.d y) b:=λs u v B r q=>by
 have h:=qi.rep ho x.dep x y c.A u v b (bW _) r q e (f6 (ig (iE _ (50*c.n)) (aG hd (by decide))) B.room.u) c.prog c.w no (Ud s (EI b)) ⟨jM s,rfl⟩;cases op
 case Lt=>exact h
 case LtE=>exact h
 case Gt=>exact h
 all_goals cases ho
open Mine.Cmp renaming ord->Cc
open Mine.D renaming E1->Ky
noncomputable def CT:aU->Bool
 |.Slice ..=>true
 |_=>false
def gX(h:CT e=false)(o i:aA):subscripted e false o i=operate [o,i] (getItem o i):=by
 cases e<;>first|rfl|cases h
def Qk{i:Int}{n j:Nat}(h:(if(decide (0<=i)&&decide (i<(n:Int)))=true then some i.toNat else none)=some j):0<=i/\i<n/\j=i.toNat:=
 dite ((decide (0<=i)&&decide (i<(n:Int)))=true) (λhc=>have q:=(iT _ _).mp hc;⟨fG q.1,fG q.2,(eF ((aq hc).symm.trans h)).symm⟩) λhc=>nomatch (ay hc).symm.trans h
def ko(h:seqIndex? k n=some j):-(n:Int)<=k/\k<n/\j<n/\(0<=k->j=k.toNat)/\(k<0->j=(k+n).toNat):=by
 have q:=Qk (i:=if k<0 then k+n else k) h
 by_cases h0:k<0
 .rw[aq h0] at q;exact⟨Int.le_of_add_le_add_right (cN (vK (Int.add_left_neg _)) q.1),BN h0 (iS n),q.2.2▸(BO q.1).mpr q.2.1,λx=>aK h0 (lz.mpr x),λz=>q.2.2⟩
 rw[ay h0] at q;exact⟨cN (Int.neg_nonpos_of_nonneg (iS n)) q.1,q.2.1,q.2.2▸(BO q.1).mpr q.2.1,λz=>q.2.2,λx=>aK x h0⟩
section
variable {c:C}{ρ:List (Str×V)}{e e₁ e₂ Mz:aU}{v v₁ v₂:V}{pos:Pos}
def Ev.sub(bF:Ev c ρ e₁ v₁)(bN:Ev c ρ e₂ v₂)
 (ho:∀s x y,Bs c s->gf c s.heap x v₁->gf c s.heap y v₂->wpAny c.m c.A (subscriptTail e₁ e₂ x y) (EvO c s v) no s):Ev c ρ (.Subscript e₁ e₂ pos) v:=λs S=>
 PM (bk (bF s S) (λx ah o1=>bk (bN ah (S.kp o1.k)) (λy aB o2=>
  bk (ho aB x y (S.bs.kp (o1.k.trans o2.k)) (o1.r.keep o2.k.keep) o2.r) (λz z o3=>⟨(o1.k.trans o2.k).trans o3.k,o3.r⟩))))
def Ev.Kz(bF:Ev c ρ e₁ v₁)(a:vm c v₁ ds)(bN:Ev c ρ e₂ (.d (.int k)))(hk:seqIndex? k ds.length=some j)(hx:ds[j]?=some x)(hs:autoParam (CT e₂=false) bu):
 Ev c ρ (.Subscript e₁ e₂ pos) (.d x):=bF.sub bN λs u w B r q=>by
 let ⟨l,vs,zy,i,z,r'⟩:=r.My B a;let ⟨t,zy⟩:=q.cX;let ⟨y,hy,ry⟩:=r'.get hx;have hl:vs.size=ds.length:=r'.length;have b:=ko hk;have hz:=qq z;refine zv i.isList.typeIs slot_list_getitem.lookup ?_ (gX hs _ _)
 by_cases h0:0<=k
 .exact V3 i.isList h0 (sG b.2.1 hz) (by rw[<-b.2.2.2.1 h0,<-lC];exact hy) ⟨jM s,ry⟩
 exact V4 i.isList (qQ.mp h0) (hl.symm▸b.1) (cN (JS (jR hz)) b.1) (by rw[hl,<-b.2.2.2.2 (qQ.mp h0),<-lC];exact hy) ⟨jM s,ry⟩
def Ev.adq(bF:Ev c ρ e₁ (.d (.tup ds)))(bN:Ev c ρ e₂ (.d (.int k)))(hk:seqIndex? k ds.length=some j)(hx:ds[j]?=some x)(hs:autoParam (CT e₂=false) bu):
 Ev c ρ (.Subscript e₁ e₂ pos) (.d x):=bF.sub bN λs u w B r q=>by
 let ⟨l,vs,zy,i,_,z,r'⟩:=r.mT;let ⟨t,zy⟩:=q.cX;let ⟨y,hy,ry⟩:=r'.get hx;have hl:vs.size=ds.length:=r'.length;have b:=ko hk;have hz:=qq z;exact zv i.isTup.typeIs slot_tuple_getitem.lookup (acZ i.isTup (cN (JS (jR hz)) b.1) (sG b.2.1 hz) (by rw[hl];exact hk) (by rw[<-lC];exact hy) ⟨jM s,ry⟩) (gX hs _ _)
inductive Dp(c:C)(ρ:List (Str×V)):Option aU->Option Int->Prop
 |none:Dp c ρ none none
 |int {e:aU} {k:Int}:Ev c ρ e (.d (.int k))->Dp c ρ (some e) (some k)
def Dp.run(h:Dp c ρ o p)(s:Shared)(S:St c ρ s):wpAny c.m c.A (evalPart o c.env) (λx s'=>Kp s s'/\Bw x p) no s:=by
 cases h with
 |none=>exact bx ⟨jM s,.none⟩
 |int h=>exact bk (h s S) (λx s' q1=>by refine aM λhN=>?_;obtain⟨k,r⟩:_:=q1;refine hN ?_;exact⟨k,by let ⟨t,zy⟩:=r.cX;exact .int _ _⟩)
noncomputable def iy(ds:List D)(lo hi:Option Int):List D:=(ds.drop (lo.elim 0 (clipAt ds.length))).take (hi.elim ds.length (clipAt ds.length)-lo.elim 0 (clipAt ds.length))
def E2(r:aC h M vs.toList ds)(lo hi:Option Int):aC h M (slicePick vs lo hi none).toList (iy ds lo hi):=by
 have hl:=r.size;rw[V5,hl];exact(r.drop _).take _
def yw(ds:List D)(lo hi:Option Int):(iy ds lo hi).length<=ds.length:=aG (PV (WC ..)) (PV (List.drop_sublist ..))
def q8{lo hi:Option aU}{p:Pos}(o i:aA):subscripted (.Slice lo hi none p) false o i=operate [i,o] (getItem o i):=rfl
theorem jf.slice{ds:List D}{lo hi:Option aU}{l u:Option Int}{p:Pos}(bF:Ev c ρ e₁ v₁)(a:vm c v₁ ds)(hl:Dp c ρ lo l)(hu:Dp c ρ hi u):jf c ρ (.Subscript e₁ (.Slice lo hi none p) pos) (iy ds l u):=by
 intros c ρ e₁ v₁ pos ds lo hi l u p _ bF a hl hu;exact λs S=>by
  refine PM (bk (bF s S) (λx ah o1=>wpAny_Slice (bk (hl.run ah (S.kp o1.k)) (λvl aB ⟨aV,YQ⟩=>bk (hu.run aB (S.kp (o1.k.trans aV))) (λvu c8 ⟨dP,YR⟩=>?_)))));rw[evalPart_none];refine bx ?_;have k:=(o1.k.trans aV).trans dP;let ⟨b,vs,zy,i,z,r'⟩:=(o1.r.keep (aV.trans dP).keep).My (S.bs.kp ((o1.k.trans aV).trans dP)) a;have kp:=jw c8 {cls:=.type "slice",data:=.fields #[vl,vu,.none]};have i':=i.at (kp.keep b);have hz:vs.size<=sizeLine:=by rw[r'.size];exact eH z
  refine zv i'.isList.typeIs slot_list_getitem.lookup (wpAny_getItem_list_slice i'.isList (Yt ..) YQ YR .none (by simp) ?_ hz) (q8 _ _);refine⟨(k.trans kp).trans (jw _ _),_,_,rfl,dQ (k.trans kp) (bC _),⟨0,fh _ aa⟩,aG (yw _ _ _) z,?_⟩;exact((E2 r' l u).keep kp.keep).fresh (bC _) λy y e=>dS _ e
def Ue(n:Nat)(v:Int):(if v<0 then max (v+n) 0 else min v n)=((clipAt n v:Nat):Int):=by
 rw[clipAt_cast]
 by_cases h:v<0
 .rw[aq h,aq h,Xe (cN (Xf (jR h) _) (vK (Xg _))),Int.max_comm]
 rw[ay h,ay h,zg (Int.le_min.mpr ⟨lz.mp h,iS n⟩)]
def oz(n a:Nat):clipAt n (a:Int)=min a n:=by
 unfold clipAt;rw[ay (lz.mpr (iS a))]
 by_cases h:a<=n
 .rw[Xe (gE.mpr h),zg (iS a),n8 h];rfl
 have h:=ee (vz.mp h);rw[Int.min_eq_right (gE.mpr h),zg (iS n),Eh h];rfl
def aZ{j n:Nat}(h:j<n):seqIndex? (j:Int) n=some j:=by
 have e:(if(j:Int)<0 then(j:Int)+n else(j:Int))=j:=ay (lz.mpr (iS j));show(if(decide (0<=(if(j:Int)<0 then(j:Int)+n else(j:Int)))&&decide ((if(j:Int)<0 then(j:Int)+n else(j:Int))<(n:Int)))=true then some ((if(j:Int)<0 then(j:Int)+n else(j:Int)).toNat) else none)=some j;rw[e,aq ((iT _ _).mpr ⟨decide_eq_true (iS j),decide_eq_true (kG.mpr h)⟩)];rfl
def HK(lo hi:Option Int)(n:Nat):PO lo hi 1 (n:Int)=(((lo.elim 0 (clipAt n):Nat):Int),((hi.elim n (clipAt n):Nat):Int)):=by
 intros lo hi n;unfold PO;have h1:¬((1:Int)<0):=by decide
 simp only[h1,if_false];cases lo<;>cases hi<;>simp[Ue]
def HL(a b:Nat):J7 (a:Int) (b:Int) 1=b-a:=by
 unfold J7;rw[aq (by decide),Xh,Ph];split
 .exact Int.toNat_sub b a
 rename_i h;exact(Ws (gE.mp (lz.mp h))).symm
def we{prog:Program}{w:World}{A:Around}{E:aA->Shared->Prop}{s:Shared}{v:aA}{p:Option Int}{Q:Option Int->Shared->Prop}(hv:Bw v p)(h:Q p s):wpAny (model prog w) A (ac1 v) Q E s:=by
 cases hv with
 |none=>exact Ye h
 |int i t=>exact slicePart_int h
def yg{prog:Program}{w:World}{A:Around}{E:aA->Shared->Prop}{s:Shared}{sl:Addr}{vl vu:aA}{lo hi:Option Int}{n:Nat}{Q:Int×Int×Nat->Shared->Prop}(hs:s.heap.IsSliceOf sl vl vu .none)(pl:Bw vl lo)(pu:Bw vu hi)
 (h:Q (((lo.elim 0 (clipAt n):Nat):Int),1,hi.elim n (clipAt n)-lo.elim 0 (clipAt n)) s):wpAny (model prog w) A (Yk (.ref sl) (pure (n:Int))) Q E s:=by
 let ⟨os,YS,Ql,KA⟩:=id hs;unfold Yk ac2;refine aF (aF (OJ YS KA (x:=vl) aa (aF (OJ YS KA (x:=vu) aa (aF (OJ YS KA (x:=.none) aa (bx ?_)))))));refine aF (Ye ?_);show wpAny _ _ (if((1:Int)==0)=true then _ else _) _ _ s;rw[ay (by decide)];refine aF (we pl (aF (we pu (aF (bx ?_)))));show wpAny _ _ (match PO lo hi 1 (n:Int) with|(lo,hi)=>pure (lo,(1:Int),J7 lo hi 1)) _ _ s;rw[HK];show wpAny _ _ (pure (((lo.elim 0 (clipAt n):Nat):Int),(1:Int),J7 ((lo.elim 0 (clipAt n):Nat):Int) ((hi.elim n (clipAt n):Nat):Int) 1)) _ _ s;rw[HL];exact bx h
def MB(xs:Array aA)(a k:Nat):((lX k).filterMap λ(i:Nat)=>xs[((a:Int)+(i:Int)*1).toNat]?).toArray=((xs.toList.drop a).take k).toArray:=by
 have e:(λ(i:Nat)=>xs[((a:Int)+(i:Int)*1).toNat]?)=λi=>xs[a+i]?:=by
  funext i;have:((a:Int)+(i:Int)*1).toNat=a+i:=by rw[Int.mul_one];rfl
  rw[this]
 rw[e];have:=pick_run xs a k;rw[List.filterMap_map] at this;have e2:((λx=>xs[x]?)∘λx=>a+x)=λi=>xs[a+i]?:=rfl
 rw[e2] at this;rw[this]
def wg{prog:Program}{w:World}{A:Around}{E:aA->Shared->Prop}{s:Shared}{t sl:Addr}{items:Array aA}{vl vu:aA}{lo hi:Option Int}{Q:aA->Shared->Prop}(ht:PT s.heap t items)(hs:s.heap.IsSliceOf sl vl vu .none)(pl:Bw vl lo)(pu:Bw vu hi)
 (h1:(slicePick items lo hi none).toList=items.toList->Q (.ref t) s)
 (h2:Q (.ref s.heap.objs.size) {s with heap:=s.heap.push {cls:=.type "tuple",data:=.seq (slicePick items lo hi none)}})
 (jt:items.size<=sizeLine):wpAny (model prog w) A (getItem (.ref t) (.ref sl)) Q E s:=by
 intros prog w A E s t sl _ items vl vu lo hi Q ht hs pl pu h1 h2 jt;intros items vl vu lo hi Q _ ht hs pl pu h1 h2 jt;have YT:slicePick items lo hi none=((items.toList.drop (lo.elim 0 (clipAt items.size))).take (hi.elim items.size (clipAt items.size)-lo.elim 0 (clipAt items.size))).toArray:=V5 items lo hi;have k7:sizeOk (.seq (slicePick items lo hi none)):=aG (slicePick_size_le items lo hi none) jt;let ⟨nt,it⟩:=id ht;have hT:=ht.isTup;let ⟨os,YS,Ql,KA⟩:=id hs;have hTs:s.TypeIs (.ref sl) "slice":=⟨os,YS,Ql⟩;unfold getItem
 try with_reducible refine e9 ?_
 first|refine aF (bx ?_)|skip
 refine aF (V6 hT.typeIs (by decide) ?_);refine aF (Jq (name:=J6 "__getitem__") hT.typeIs Yg
  (vo Yg hT.typeIs entry_tuple_getitem ?_ (args_tuple_getitem _ _)))
 show wpAny _ _ (ac4 (.ref t)>>=_) _ _ s;refine aF (tupleItemsOf_ hT ?_);refine aF (Bu hTs ?_);rw[aq (by decide)];refine aF (yg hs pl pu ?_);show wpAny _ _ (if(((lo.elim 0 (clipAt items.size):Nat):Int)==0&&(1:Int)==1&&(hi.elim items.size (clipAt items.size)-lo.elim 0 (clipAt items.size))==items.size)=true then _ else _) _ _ s;have fin:wpAny (model prog w) A.in1 (ret (.ref s.heap.objs.size)) (λfin s'=>∃r,fin=Fin.done (Flow.ret r)/\wpAny (model prog w) A (pure r) Q E s') (λe s'=>E e s') {s with heap:=s.heap.push {cls:=.type "tuple",data:=.seq (slicePick items lo hi none)}}:=bx ⟨_,rfl,bx h2⟩;split
 .rename_i hw;simp only[iT,beq_iff_eq] at hw;have e1:lo.elim 0 (clipAt items.size)=0:=PW hw.1.1
  have e2:(slicePick items lo hi none).toList=items.toList:=by
   rw[YT,hw.2,e1];simp only[WD];exact pL (by simp)
  have ex:ac5 (.ref t)=(do return (<-typeOf (.ref t))==.type "tuple"):=rfl;rw[ex];refine aF (aF (Bu hT.typeIs (bx ?_)));exact aF (yR (aF (bx (bx ⟨_,rfl,bx (h1 e2)⟩))))
 rw[MB,<-YT]
 first
  |exact aF (m:=PX _) (wpAny_newObj_type (bx ⟨_,rfl,bx h2⟩) k7)
  |exact aF (m:=PX _) (wpAny_newObj_type (aF (bx (bx ⟨_,rfl,bx h2⟩))) k7)
  |exact aF (aF (m:=PX _) (wpAny_newObj_type (bx (bx ⟨_,rfl,bx h2⟩)) k7))
def Ev.abt{ds:List D}{lo hi:Option aU}{l u:Option Int}{p:Pos}(bF:Ev c ρ e₁ (.d (.tup ds)))(hl:Dp c ρ lo l)(hu:Dp c ρ hi u):Ev c ρ (.Subscript e₁ (.Slice lo hi k6 p) pos) (.d (.tup (iy ds l u))):=by
 intros c ρ e₁ pos ds lo hi l u p _ bF hl hu;exact λs S=>by
  refine PM (bk (bF s S) (λx ah o1=>wpAny_Slice (bk (hl.run ah (S.kp o1.k)) (λvl aB ⟨aV,YQ⟩=>bk (hu.run aB (S.kp (o1.k.trans aV))) (λvu c8 ⟨dP,YR⟩=>?_)))));rw[evalPart_none];refine bx ?_;have k:=(o1.k.trans aV).trans dP;let ⟨b,vs,zy,i,nm,z,r'⟩:=(o1.r.keep (aV.trans dP).keep).mT;have kp:=jw c8 {cls:=.type "slice",data:=.fields #[vl,vu,.none]};have i':=i.at (kp.keep b);have hz:vs.size<=sizeLine:=by rw[r'.size];exact eH z
  have q:=(E2 r' l u).keep kp.keep;have z':(iy ds l u).length<=ck:=aG (yw _ _ _) z;refine zv i'.isTup.typeIs slot_tuple_getitem.lookup (wg i' (Yt ..) YQ YR (λe=>⟨k.trans kp,Qe i' nm z' (e▸q)⟩) ?_ hz) (q8 _ _);refine⟨(k.trans kp).trans (jw _ _),Qe ⟨0,fh _ aa⟩ ?_ z' ?_⟩
  .exact(S.bs.kp (k.trans kp)).size
  exact q.keep λy y e=>dS _ e
noncomputable def DH(c:C):V->Option Bool
 |.d (.bool b)=>some b
 |.d (.int i)=>some (i !=0)
 |.d .none=>some false
 |.d (.lst ds)=>some (!ds.isEmpty)
 |.r a=>match c.σ a with
  |some (.l ds)=>some (!ds.isEmpty)
  |_=>k6
 |_=>k6
def iH.val(h:Ev c ρ e v)(hb:DH c v=some b)(he:autoParam (∀YU,isTrue e c.env YU=(do let v<-YU;standAt e.pos;holding [v] (truthy v))) HE):iH c ρ e b:=by
 intros c ρ e v b _ h hb he;exact λs S=>by
  refine isTrue_plain (bk (h s S) (λx ah q1=>?_)) (he _);refine aM λhN=>?_;obtain⟨k,r⟩:_:=q1;refine hN ?_
  have lst:∀ds,vm c v ds->b=!ds.isEmpty->wpAny c.m c.A (truthy x) (Ud s b) no ah:=λds a e=>by
   let ⟨l,vs,zy,i,z,r'⟩:=r.My (S.bs.kp k) a;have hl:=r'.size
   have he:vs.isEmpty=ds.isEmpty:=by
    unfold Array.isEmpty;rw[hl];cases ds<;>rfl
   refine wpAny_truthy_list i.isList (by rw[hl];exact qq z) ⟨k.trans (jv ah _),?_⟩;rw[e,he]
  cases v with
  |d y=>
   cases y with
   |bool y=>cases hb;obtain rfl:=r.is_bool;exact D4 ⟨k,rfl⟩
   |int y=>cases hb;let ⟨t,zy⟩:=r.cX;exact truthy_int ⟨k,rfl⟩
   |none=>cases hb;cases r;exact truthy_none ⟨k,rfl⟩
   |lst ds=>cases hb;exact lst ds aa aa
   |_=>cases hb
  |r a=>
   unfold DH at hb;dsimp only at hb;cases e:c.σ a with
   |none=>rw[e] at hb;cases hb
   |some cn=>
    rw[e] at hb;cases cn with
    |l ds=>cases hb;exact lst ds e aa
    |_=>cases hb
def iH.not(h:iH c ρ e b):iH c ρ (.UnaryOp .Not e pos) (!b):=λs S=>
 isTrue_not (bk (h s S) (λx ah o1=>⟨o1.k,by rw[o1.r]⟩))
def o8(c:C)(ρ:List (Str×V))(op:BoolOp)(es:List aU)(b:Bool):Prop:=∀s,St c ρ s->wpAny c.m c.A (allTrue op es c.env) (Ud s b) no s
def iH.bool(h:o8 c ρ op es b):iH c ρ (.BoolOp op es pos) b:=λs S=>h s S
def o8.abu:o8 c ρ .And [] true:=λs z=>bx ⟨jM s,rfl⟩
def o8.ads:o8 c ρ .Or [] false:=λs z=>bx ⟨jM s,rfl⟩
def o8.and(h:iH c ρ e a)(r:a=true->o8 c ρ .And es b):o8 c ρ .And (e::es) (a&&b):=λs S=>by
 show wpAny c.m c.A (do
  match BoolOp.And,<-isTrue e c.env (eval e c.env) with
  |.And,false=>pure false
  |.Or,true=>pure true
  |_,_=>allTrue .And es c.env) _ _ s
 refine aF (bk (h s S) (λx ah q1=>?_));refine aM λhN=>?_;obtain⟨k,q⟩:_:=q1;refine hN ?_
 subst q;cases x with
 |false=>exact bx ⟨k,rfl⟩
 |true=>exact bk (r aa ah (S.kp k)) (λy aB o2=>⟨k.trans o2.k,by rw[o2.r];rfl⟩)
def o8.or(h:iH c ρ e a)(r:a=false->o8 c ρ .Or es b):o8 c ρ .Or (e::es) (a||b):=λs S=>by
 show wpAny c.m c.A (do
  match BoolOp.Or,<-isTrue e c.env (eval e c.env) with
  |.And,false=>pure false
  |.Or,true=>pure true
  |_,_=>allTrue .Or es c.env) _ _ s
 refine aF (bk (h s S) (λx ah ⟨k,q⟩=>?_));subst q;cases x with
 |true=>exact bx ⟨k,rfl⟩
 |false=>exact bk (r aa ah (S.kp k)) (λy aB o2=>⟨k.trans o2.k,by rw[o2.r];rfl⟩)
def Ev.ite(ht:iH c ρ e b)(bF:b=true->Ev c ρ e₁ v₁)(bN:b=false->Ev c ρ e₂ v₂):Ev c ρ (.IfExp e e₁ e₂ pos) (if b then v₁ else v₂):=λs S=>by
 show wpAny c.m c.A (do if<-isTrue e c.env (eval e c.env) then eval e₁ c.env else eval e₂ c.env) _ _ s;refine aF (bk (ht s S) (λx ah ⟨k,q⟩=>?_));subst q;cases x with
 |true=>exact bk (bF aa ah (S.kp k)) (λy aB o2=>⟨k.trans o2.k,o2.r⟩)
 |false=>exact bk (bN aa ah (S.kp k)) (λy aB o2=>⟨k.trans o2.k,o2.r⟩)
end
open Mine.Ev renaming adq->bE,Kz->pQ,ite->E3
open Mine.o8 renaming and->gQ,abu->pR,or->sU,ads->KC
open Mine.iH renaming bool->iZ
open Mine.jf renaming slice->zE
structure Kx(X:Addr->Prop)(s s':Shared):Prop where
 gens:s'.gens=s.gens
 os:s'.os=s.os
 keep:∀b o,¬X b->s.heap.get? b=some o->s'.heap.get? b=some o
def Kx.refl(s:Shared):Kx X s s:=⟨rfl,rfl,λz z z e=>e⟩
theorem Kx.trans(x:Kx X s s')(y:Kx X s' s''):Kx X s s'':=⟨y.gens.trans x.gens,y.os.trans x.os,λb o n e=>y.keep b o n (x.keep b o n e)⟩
def Kp.kx(x:Kp s s'):Kx X s s':=⟨x.gens,x.os,λb o z e=>x.keep b o e⟩
def Kx.mono(x:Kx X s s')(h:∀b,X b->X' b):Kx X' s s':=⟨x.gens,x.os,λb o n e=>x.keep b o (λq=>n (h b q)) e⟩
def Kx.kp(x:Kx X s s')(h:∀b,X b->s.heap.get? b=none):Kp s s':=⟨x.gens,x.os,λb o e=>x.keep b o (λq=>by exact ns (h b q) e) e⟩
def gp(o:Obj):Prop:=∃vs,o.data=.fields vs
def gR(h:o6 o)(h':gp o):False:=by
 let ⟨vs,n,e⟩:=h;let ⟨us,e'⟩:=h';rw[e] at e';cases e'
structure Dq(prog:Program)(w:World)(A:Around)(I:Addr)(fp wr:List Addr)(ds:List D)(T:(Addr->Prop)->Nat->cC->Prop):Prop where
 sub:∀b∈wr,b∈fp
 has:∀M i h,T M i h->∀b∈fp,∃o,h.get? b=some o
 frame:∀M i h h',T M i h->(∀b o,(b∈fp\/(¬M b/\o6 o))->h.get? b=some o->h'.get? b=some o)->T M i h'
 up:∀M M' i h,T M i h->(∀a o,h.get? a=some o->M' a->M a)->T M' i h
 off:∀M i h,T M i h->∀b∈wr,∀o,h.get? b=some o->gp o
 item:∀M i d tg (s:Shared) (Q:aA->Shared->Prop),ds[i]?=some d->T M i s.heap->(∀a,M a->∃o,s.heap.get? a=some o)->
  (∀v s',Rep s'.heap M v d->T M (i+1) s'.heap->Kx (·∈wr) s s'->Q v s')->
  wpAny (model prog w) A (pyNext (.ref I)) (λr ah=>∃v,r=some v/\wpAny (model prog w) A (letOwnedTupleGo tg (.ref I) v) (λz aB=>Q v aB) no ah) no s
 done:∀M (s:Shared) (Q:Shared->Prop),T M ds.length s.heap->(∀s',Kx (·∈wr) s s'->Q s')->wpAny (model prog w) A (pyNext (.ref I)) (λr ah=>r=none/\Q ah) no s
 self:∀M i (s:Shared) (Q:aA->Shared->Prop),T M i s.heap->Q (.ref I) s->wpAny (model prog w) A (pyIter (.ref I)) Q no s
def uz(ho:s.heap.get? I=some o)(hc:o.cls=.type T)
 (hn:(["enumerate","zip","dict_itemiterator","dict_reverseitemiterator","odict_iterator","itertools.zip_longest","itertools.pairwise"]:List String).contains T=false) (q:Q () s):wpAny M A (letOwnedTupleGo tg (.ref I) v) Q E s:=by
 have acu:wpAny M A (do
  let (.ref r,.ref a):=(ug I,v)|return
  let o<-load r
  match o.cls,o.data with
  |.type n,.fields vs=>
   if["enumerate","zip","dict_itemiterator","dict_reverseitemiterator","odict_iterator","itertools.zip_longest","itertools.pairwise"].contains n&&vs[0]?==some (rawInt a) then
    rule "for.unpacks-the-owned-tuple"
    updateField r 0 .none
  |_,_=>pure ():Sem Unit) Q E s:=by
  cases v with
  |ref a=>
   refine aF (wpAny_load ho ?_);rw[hc];cases hd:o.data with
   |fields vs=>
    dsimp only;rw[hn];exact bx q
   |_=>exact bx q
  |_=>exact bx q
 cases tg with
 |Tuple=>exact acu
 |List=>exact acu
 |_=>exact bx q
def aC.off{h h':cC}{M:Addr->Prop}{vs:List aA}{ds:List D}{wr:List Addr}(r:aC h M vs ds)(hk:∀b o,b∉wr->h.get? b=some o->h'.get? b=some o)(ho:∀b∈wr,∀o,h.get? b=some o->gp o):aC h' M vs ds:=
 r.mono λa o n q e=>⟨hk a o (λm=>gR q (ho a m o e)) e,n⟩
def Rep.off{h h':cC}{M:Addr->Prop}{v:aA}{d:D}{wr:List Addr}(r:Rep h M v d)(hk:∀b o,b∉wr->h.get? b=some o->h'.get? b=some o)(ho:∀b∈wr,∀o,h.get? b=some o->gp o):Rep h' M v d:=
 r.mono λa o n q e=>⟨hk a o (λm=>gR q (ho a m o e)) e,n⟩
def Dq.list{prog:Program}{w:World}{A:Around}(hh:A.handled=none)(I ax:Addr)(dg:ax≠I)(vs:Array aA)(ds:List D)(hl:vs.size=ds.length):
 Dq prog w A I [I,ax] [I] ds (λM i h=>h.IsListIter I ax i/\PL h ax vs/\aC h M vs.toList ds) where
 sub:=λb hb=>by simp at hb;simp[hb]
 has:=λM i h qP y hy=>by
  let ⟨a,b,r⟩:=qP;simp at hy;rcases hy with rfl|rfl
  .let ⟨o,e,_⟩:=a;exact⟨o,e⟩
  let ⟨n,e⟩:=b;exact⟨_,e⟩
 frame:=λM i h h' q1 hk=>by let ⟨a,b,r⟩:=q1;exact⟨a.at λo e=>hk I o (.inl (by simp)) e,b.at λo e=>hk ax o (.inl (by simp)) e,r.mono λa o n q e=>⟨hk a o (.inr ⟨n,q⟩) e,n⟩⟩
 up:=λM M' i h q2 hk=>by let ⟨a,b,r⟩:=q2;exact⟨a,b,r.mono λa o n q e=>⟨e,λm=>n (hk a o e m)⟩⟩
 off:=λM i h qP b hb o' e'=>by
  let ⟨z2,_,_⟩:=qP;let ⟨o,e,_,d⟩:=z2;simp at hb;subst hb;rw[e] at e';cases e';exact⟨_,d⟩
 item:=λM i d tg s Q hd qP md hQ=>by
  let ⟨a,b,r⟩:=qP;let ⟨v,hv,rv⟩:=r.get hd
  have wj:∀b∈[I],∀o,s.heap.get? b=some o->gp o:=λb hb o' e'=>by
   let ⟨o,e,_,d⟩:=a;simp at hb;subst hb;rw[e] at e';cases e';exact⟨_,d⟩
  refine Js a b.isList (x:=v) (by rw[<-lC];exact hv) λh' CU kh=>⟨v,rfl,?_⟩
  let ⟨o,e,c,dd⟩:=id CU;have hk:∀b o,b∉[I]->s.heap.get? b=some o->h'.get? b=some o:=λb o hb e=>kh.extBut b o (by simpa using hb) e
  exact uz (s:={s with heap:=h'}) e c (by decide) (hQ v _ (rv.off hk wj) ⟨CU,b.at λo e=>hk ax o (by simpa using dg) e,r.off hk wj⟩ ⟨rfl,rfl,λb o n e=>hk b o n e⟩)
 done:=λM s Q q3 hQ=>by let ⟨a,b,r⟩:=q3;exact OL hh a b.isList (by simp[hl]) λh' Qa=>⟨rfl,hQ _ ⟨rfl,rfl,λb o n e=>Qa b o (by simpa using n) e⟩⟩
 self:=λM i s Q q4 q=>by let ⟨a,_⟩:=q4;exact wpAny_pyIter_listiter a q
noncomputable def dW(a:Int)(n:Nat):List D:=(lX n).map λ(i:Nat)=>jF (a+(i:Int))
def acv{K:Int}{i:Nat}{d:D}(hd:(dW 1 (K+1-1).toNat)[i]?=some d):d=.int ((i:Int)+1)/\i<K.toNat:=by
 rw[Xi] at hd;unfold dW at hd;rw[dh] at hd
 by_cases hi:i<K.toNat
 .rw[BD hi] at hd;cases hd;exact⟨cj jF (Xj ..),hi⟩
 rw[qL (by rw[pM];exact jb.mp hi)] at hd;cases hd
def Dq.range(hh:A.handled=none)(I:Addr)(a:Int)(n:Nat):
 Dq prog w A I [I] [I] (dW a n) (λM i h=>IsRangeIter h I (a+(i:Nat)) ((n:Int)-(i:Nat)) 1) where
 sub:=λz hb=>hb
 has:=λM i h st b hb=>by simp at hb;subst hb;exact⟨_,st⟩
 frame:=λM i h h' st hk=>hk I _ (.inl (by simp)) st
 up:=λM M' i h st z=>st
 off:=λM i h st b hb o' e'=>by
  simp at hb;subst hb;rw[show h.get? b=some _ from st] at e';cases e';exact⟨_,rfl⟩
 item:=λM i d tg s Q hd st md hQ=>by
  have hi:i<n:=by
   have:=(iR.mp hd).1
   simpa [dW] using this
  have rU:d=jF (a+i):=by
   simp[dW,hi] at hd;exact hd.symm
  subst rU;refine wpAny_pyNext_range_item st (Int.sub_pos_of_lt (kG.2 ‹_›)) λh' CU kh=>⟨_,rfl,?_⟩
  have hk:∀b o,b∉[I]->s.heap.get? b=some o->h'.get? b=some o:=λb o hb e=>kh.extBut b o (by simpa using hb) e
  refine uz (T:="range_iterator") (s:={s with heap:=h',toks:=s.toks+1}) CU aa (by decide) (hQ _ _ (.int _ _) ?_ ⟨rfl,rfl,λb o n e=>hk b o n e⟩);have e1:a+((i+1:Nat):Int)=a+(i:Int)+1:=(Int.add_assoc a (i:Int) 1).symm;have e2:(n:Int)-((i+1:Nat):Int)=(n:Int)-(i:Int)-1:=(Int.sub_sub (n:Int) (i:Int) 1).symm;rw[e1,e2];exact CU
 done:=λM s Q st hQ=>by
  have e:(dW a n).length=n:=by simp[dW]
  rw[e] at st;exact wpAny_pyNext_range_end hh st (vK (Int.sub_self _)) λh' Qa=>⟨rfl,hQ _ ⟨rfl,rfl,λb o n e=>Qa b o (by simpa using n) e⟩⟩
 self:=λM i s Q st q=>wpAny_pyIter_rangeiter st q
open Mine.Kx renaming refl->Qm
structure VsO(c:C)(s:Shared)(vs:List V)(xs:List aA)(s':Shared):Prop where
 k:Kp s s'
 r:r4 c s'.heap xs vs
def EvVs(c:C)(ρ:List (Str×V))(es:List aU)(vs:List V):Prop:=
 ∀s pos,St c ρ s->wpAny c.m c.A (spliced (backTo pos (starEach es c.env))) (VsO c s vs) no s
section
variable {c:C}{ρ:List (Str×V)}{e e₁ e₂ Mz:aU}{v v₁ v₂:V}{pos p:Pos}
theorem EvVs.nil:EvVs c ρ [] []:=λs pos z=>vQ ⟨jM s,.nil⟩
theorem EvVs.cons{es:List aU}{vs:List V}(h:Ev c ρ e v)(r:EvVs c ρ es vs)(hs:autoParam (bJ e=false) bu):EvVs c ρ (e::es) (v::vs):=λs pos S=>by
 rw[bO _ hs];refine sM (bk (h s S) (λu ah o1=>?_));exact bk (r ah pos (S.kp o1.k)) (λus aB o2=>⟨o1.k.trans o2.k,.cons (o1.r.keep o2.k.keep) o2.r⟩)
def St.E4(S:St c ρ s)(hk:c.env.kindOf f=some .globalImplicit)(hf:f∈jU)(hb:bootBuiltins f=some g)(hd:(f==("__debug__":Str))=false)(hn:f≠"__name__")(q:Q g s):
 wpAny c.m c.A (eval (.Name f p) c.env) Q no s:=by
 have B:=S.bs.base;refine XM S.kind hk (loadGlobal_builtin (mg:=c.mg) (mb:=c.mb) ?_ (B.bn f hf) ?_ ((B.bi f hn).trans hb) q) hd
 .rw[S.globals];exact B.g.keeps S.bs.keep
 rw[S.builtins];exact B.b.keeps S.bs.keep
def bP(es:List aU):Bool:=es.all λe=>!bJ e
def Qn(h:bJ e=false):bP [e]=true:=by simp[bP,h]
def ns2(h:bJ e=false)(h':bJ e'=false):bP [e,e']=true:=by simp[bP,h,h']
def eU(h:bP es=true)(pos:Pos)(env:Env):(backTo pos (starEach es env)).any (·.1)=false:=by
 induction es with
 |nil=>rfl
 |cons e es ih=>
  simp only[bP,BE,iT,ud] at h;rw[bO _ h.1];show(false||(backTo pos (starEach es env)).any (·.1))=false;rw[ih (by simpa [bP] using h.2)];rfl
def uA(h:wpAny c.m c.A (eval (.Name f p) c.env) (λg ah=>wpAny c.m c.A (callWith pos g [] (backTo pos (starEach args c.env)) []) Q no ah) no s):
 wpAny c.m c.A (eval (.Call (.Name f p) args [] pos) c.env) Q no s:=Call_ h
def yy{f:Str}{id:String}{args:List aU}{vs:List V}{s:Shared}{Q:aA->Shared->Prop}(S:St c ρ s)(hk:c.env.kindOf f=some .globalImplicit)(hf:f∈jU)(hb:bootBuiltins f=some (.builtin id))(hd:(f==("__debug__":Str))=false)(hn:f≠"__name__")
 (ha:EvVs c ρ args vs) (hs:bP args=true) (dg:args≠[]) (q:∀s' xs,Kp s s'->r4 c s'.heap xs vs->wpAny c.m c.A (call (.builtin id) xs) Q no s'):wpAny c.m c.A (eval (.Call (.Name f p) args [] pos) c.env) Q no s:=by
 refine uA (S.E4 hk hf hb hd hn ?_);cases args with
 |nil=>exact aK aa dg
 |cons e es=>
  have kh:=hs;simp only[bP,BE,iT,ud] at hs;exact Yh (bk (ha s pos S) (λxs ah o1=>q ah xs o1.k o1.r)) (bO _ hs.1 es) (eU (by simpa [bP] using hs.2) pos c.env)
def l9(S:St c ρ s)(hk:c.env.kindOf f=some .globalImplicit)(hf:f∈jU)(hb:bootBuiltins f=some (.type T))(hd:(f==("__debug__":Str))=false)(hn:f≠"__name__")
 (ha:EvVs c ρ args vs) (hs:bP args=true) (dg:args≠[]) (q:∀s' xs,Kp s s'->r4 c s'.heap xs vs->wpAny c.m c.A (call (.type T) xs) Q no s'):wpAny c.m c.A (eval (.Call (.Name f p) args [] pos) c.env) Q no s:=by
 refine uA (S.E4 hk hf hb hd hn ?_);cases args with
 |nil=>exact aK aa dg
 |cons e es=>
  have kh:=hs;simp only[bP,BE,iT,ud] at hs;exact ac0 (bk (ha s pos S) (λxs ah o1=>q ah xs o1.k o1.r)) (bO _ hs.1 es) (eU (by simpa [bP] using hs.2) pos c.env)
noncomputable def Iv(c:C):V->Option Nat
 |.d (.lst ds)=>some ds.length
 |.d (.tup ds)=>some ds.length
 |.r a=>match c.σ a with
  |some (.l ds)=>some ds.length
  |some (.i kvs)=>some kvs.length
  |some (.s ks)=>some ks.length
  |_=>none
 |_=>none
theorem Ev.len{n:Nat}(h:Ev c ρ e v)(hn:Iv c v=some n)(hk:autoParam (c.env.kindOf "len"=some .globalImplicit) bu)(hs:autoParam (bJ e=false) bu):Ev c ρ (.Call (.Name "len" p) [e] [] pos) (.d (.int n)):=by
 intros c ρ e v pos p n _ h hn hk hs;exact λs S=>by
  refine yy S hk (by decide) boot_len (by decide) (by decide) (EvVs.cons h EvVs.nil hs) (by simp[bP,hs]) (n9 _ _) λah xs k r=>?_
  apply qZ r;intro x r
  have lst:∀ds,vm c v ds->n=ds.length->wpAny c.m c.A (call (.builtin "len") [x]) (EvO c s (.d (.int n))) no ah:=λds a e=>by
   let ⟨l,vs,zy,i,z,r'⟩:=r.My (S.bs.kp k) a;have hl:=r'.size;refine len_list i.isList (by rw[hl];exact qq z) ⟨k.trans (jv ah _),?_⟩;rw[e,<-hl];exact sS _ _
  cases v with
  |d y=>
   cases y with
   |lst ds=>cases hn;exact lst ds aa aa
   |tup ds=>
    cases hn;let ⟨l,vs,zy,z2,_,z,r'⟩:=r.mT;let ⟨m,i⟩:=z2;have hl:=r'.size;refine P.len_tuple i (by rw[hl];exact qQ.mpr (qq z)) ⟨k.trans (jv ah _),?_⟩;rw[<-hl];exact sS _ _
   |_=>cases hn
  |r a=>
   have B:=S.bs.kp k;obtain rfl:x=.ref a:=r;unfold Iv at hn;dsimp only at hn;cases e:c.σ a with
   |none=>rw[e] at hn;cases hn
   |some cn=>
    rw[e] at hn;cases cn with
    |l ds=>cases hn;exact lst ds e aa
    |i kvs=>
     cases hn;refine aM λhN=>?_;obtain⟨m,_,us,i,z,q⟩:_:=B.gg a _ e;refine hN ?_;clear hN
     have hl:=q.length;refine call_len_dict (B.uq (B.kI a m)) i (by rw[hl];exact qq z) ⟨k.trans (jv ah _),?_⟩;rw[<-hl];exact sS _ _
    |s ks=>
     cases hn;let ⟨m,_,z2,_⟩:=B.gg a _ e;let ⟨o,es,ep,t,ho,hex,hd,_,_,hb,hf,hl⟩:=z2;refine call_len_set ho hex hd hf ?_ ⟨k.trans (jv ah _),?_⟩
     .exact vJ (gE.mpr (qI▸PySem.fits_of_scanBound hb)) (by decide)
     rw[<-hl];exact sS _ _
    |_=>cases hn
inductive ItO(N:Addr->Prop)(c:C)(s:Shared)(ds:List D)(it:aA)(aB:Shared):Prop
 |mk (k:Kp s aB) (z:ds.length<=ck) (I:Addr) (fp wr:List Addr) (T:(Addr->Prop)->Nat->cC->Prop) (e:it=.ref I) (hw:∀b∈wr,s.heap.get? b=none) (hf:∀b∈fp,¬N b) (ha:∀b∈fp,∃o,aB.heap.get? b=some o) (W:Dq c.prog c.w c.A I fp wr ds T) (t:T c.M 0 aB.heap)
def ItN(N:Addr->Prop)(c:C)(ρ:List (Str×V))(e:aU)(ds:List D):Prop:=∀s,St c ρ s->
 wpAny c.m c.A (eval e c.env) (λx ah=>wpAny c.m c.A (pyIter x) (ItO N c s ds) no ah) no s
abbrev It(c:C)(ρ:List (Str×V))(e:aU)(ds:List D):Prop:=ItN c.X c ρ e ds
abbrev zF(c:C)(ρ:List (Str×V))(e:aU)(ds:List D):Prop:=ItN c.M c ρ e ds
def zF.it(h:zF c ρ e ds):It c ρ e ds:=λs S=>bk (h s S) (λy y h=>bk h (λy y q1=>by refine aM λhN=>?_;obtain⟨k,z,I,fp,wr,T,h1,h2,h3,h4,h5,h6⟩:_:=q1;refine hN ?_;clear hN;exact⟨k,z,I,fp,wr,T,h1,h2,λb hb x=>h3 b hb (S.bs.xm b x),h4,h5,h6⟩))
def VR.aeR(B:Bs c s)(r:gf c s.heap x v)(e:vm c v ds):∃a vs,x=.ref a/\¬c.X a/\((∃y,v=.d y)->¬c.M a)/\PL s.heap a vs/\ds.length<=ck/\aC s.heap c.M vs.toList ds:=by
 intros c v s x ds _ B r e;cases v with
 |d x=>
  cases x with
  |lst es=>cases e;cases r with|lst i n z r=>exact⟨_,_,rfl,λh=>n (B.xm _ h),λw=>n,i,z,r⟩
  |_=>cases e
 |r a=>refine aM λhN=>?_;obtain⟨_,x,vs,q⟩:_:=B.gg a _ e;refine hN ?_;clear hN;exact⟨a,vs,r,x,(λq1=>by let ⟨y,e⟩:=q1;exact by cases e),q⟩
def It.ofList(h:Ev c ρ e v)(a:vm c v ds)(hN:∀b,N b->c.M b)(hN':∀b,(¬c.X b/\((∃y,v=.d y)->¬c.M b))->¬N b):ItN N c ρ e ds:=λs S=>bk (h s S) (λx ah q1=>by
 refine aM λhN=>?_;obtain⟨k,r⟩:_:=q1;refine hN ?_;clear hN
 let ⟨l,vs,zy,nx,nm,i,z,r'⟩:=r.aeR (S.bs.kp k) a;have hl:=r'.size;have lt:l<ah.heap.objs.size:=by let ⟨n,z2⟩:=i;revert z2;intro i;exact gP i
 refine D3 i.isList ⟨k.trans (jw ah _),z,ah.heap.objs.size,_,_,_,rfl,?_,?_,?_,Dq.list S.bs.room.hh ah.heap.objs.size l (ie lt) vs ds hl,?_⟩
 .intro b hb;simp at hb;subst hb;exact dQ k (bC _)
 .intro b hb;simp at hb;rcases hb with rfl|rfl
  .exact λh=>(S.bs.kp k).size (hN _ h)
  exact hN' _ ⟨nx,nm⟩
 .intro b hb;simp at hb;rcases hb with rfl|rfl
  .exact⟨_,fh _ aa⟩
  let ⟨n,z2⟩:=i;revert z2;intro i;exact⟨_,dS _ i⟩
 exact⟨⟨_,fh _ aa,rfl,rfl⟩,i.at λo e=>dS _ e,r'.keep λx x e=>dS _ e⟩)
def zF.list(h:Ev c ρ e (.d (.lst ds))):zF c ρ e ds:=It.ofList h aa (λz h=>h) λb h=>h.2 ⟨_,rfl⟩
def It.adt(h:Ev c ρ e (.r a))(ha:c.σ a=some (.l ds)):It c ρ e ds:=λs S=>It.ofList (c:=c) (ρ:=ρ) (N:=c.X) h ha (λb=>S.bs.xm b) (λb h=>h.1) s S
def CV:bootBuiltins "range"=some (.type "range"):=by decide+kernel
def yz(a b:Int):J3 a b 1=((b-a).toNat:Int):=by
 unfold J3;rw[aq (by decide)];split
 .rename_i h;rw[Xh,Ph];exact(BP (JT (jR h))).symm
 rename_i h;exact(cj vL (Int.toNat_eq_zero.mpr (Int.sub_nonpos_of_le (lz.mp h)))).symm
def Qo(h:-1000000<=a/\a<=2000000):vV a=true:=(iT _ _).mpr ⟨decide_eq_true (cN (by decide) h.1),decide_eq_true (vJ h.2 (by decide))⟩
def Ug(a b:Int)(ha:-1000000<=a/\a<=1000000)(hb:-1000000<=b/\b<=1000000):acY a b 1=true:=by
 have h2:=Qo ⟨hb.1,cN hb.2 (by decide)⟩;have h5:vV (b+(1-1))=true:=(cj vV (Int.add_zero b)).trans h2;show(vV a&&vV b&&vV 1&&vV (J3 a b 1)&&(J3 a b 1==0||vV (b+(1-1))))=true
 rewrite [yz,Qo ⟨ha.1,cN ha.2 (by decide)⟩,h2,Qo ⟨cN (by decide) (iS _),(gE (m:=(b-a).toNat) (n:=2000000)).mpr (Xk.mpr (Int.sub_le_sub hb.2 ha.1))⟩,h5,Bool.or_true]
 rfl
def It.ofRange(S:St c ρ s)(k:Kp s ah)(hr:IsRange ah.heap r a b 1 t u w')(ha:-1000000<=a/\a<=1000000)(hb:-1000000<=b/\b<=1000000)(hz:(b-a).toNat<=ck):
 wpAny c.m c.A (pyIter (.ref r)) (ItO c.M c s (dW a (b-a).toNat)) no ah:=by
 refine wpAny_pyIter_range hr (Ug a b ha hb) ⟨k.trans (jw ah _),by simpa [dW] using hz,ah.heap.objs.size,_,_,_,rfl,?_,?_,?_,Dq.range S.bs.room.hh ah.heap.objs.size a (b-a).toNat,?_⟩
 .intro b hb;simp at hb;subst hb;exact dQ k (bC _)
 .intro b hb;simp at hb;subst hb;exact λh=>(S.bs.kp k).size h
 .intro b hb;simp at hb;subst hb;exact⟨_,fh _ aa⟩
 rw[yz];have:=fh (h:=ah.heap) (o:={cls:=.type "range_iterator",data:=.fields #[rawInt a,rawInt ((b-a).toNat:Int),rawInt 1]}) aa
 simpa [IsRangeIter] using this
def zF.abv(h:Ev c ρ e (.d (.int n)))(hn:-1000000<=n/\n<=1000000)(hk:autoParam (c.env.kindOf "range"=some .globalImplicit) bu)(hs:autoParam (bJ e=false) bu):zF c ρ (.Call (.Name "range" p) [e] [] pos) (dW 0 n.toNat):=λs S=>by
 refine l9 S hk (by decide) CV (by decide) (by decide) (EvVs.cons h EvVs.nil hs) (by simp[bP,hs]) (n9 _ _) λah xs k r=>?_
 apply qZ r;intro x r;let ⟨t,zy⟩:=r.cX;refine call_range_1 ?_;have e:n.toNat=(n-0).toNat:=by rw[Xl]
 rw[e];exact It.ofRange (c:=c) (ρ:=ρ) S (k.trans ((jw ah _).trans (jv _ _))) (fh _ aa) (by decide) hn (Xk.mpr (cN (vK (Xl n)) hn.2))
def zF.abw(bF:Ev c ρ e₁ (.d (.int a)))(bN:Ev c ρ e₂ (.d (.int b)))(ha:-1000000<=a/\a<=1000000)(hb:-1000000<=b/\b<=1000000)(hz:(b-a).toNat<=ck)(hk:autoParam (c.env.kindOf "range"=some .globalImplicit) bu)(wo:autoParam (bJ e₁=false) bu)(wu:autoParam (bJ e₂=false) bu):
 zF c ρ (.Call (.Name "range" p) [e₁,e₂] [] pos) (dW a (b-a).toNat):=λs S=>by
 refine l9 S hk (by decide) CV (by decide) (by decide) (EvVs.cons bF (EvVs.cons bN EvVs.nil wu) wo) (by simp[bP,wo,wu]) (n9 _ _) λah xs k r=>?_
 apply EZ r;intro x y r q;let ⟨t,zy⟩:=r.cX;let ⟨u,zy⟩:=q.cX;refine call_range_2 ?_;exact It.ofRange (c:=c) (ρ:=ρ) S (k.trans ((jw ah _).trans (jv _ _))) (fh _ aa) ha hb hz
end
open Mine.EvVs renaming cons->br,nil->fj
open Mine.zF renaming it->kK,list->i6,abv->uB,abw->YV
open Mine.Ev renaming len->uC
def C.Y(c:C)(b:Addr):Prop:=b=c.env.locals\/∃x∈c.own,c.env.cells.lookup x=some b
structure Lo(c:C)(s:Shared):Prop where
 ns:∃m,s.heap.Ns c.env.locals m
 yx:∀b,c.Y b->c.X b
 cell:∀x∈c.own,∃a v,c.env.cells.lookup x=some a/\s.heap.IsCell a v
def YW{h:cC}{a:Addr}{m m':Str->Option aA}(x:h.Ns a m)(y:h.Ns a m'):m=m':=by
 let ⟨o,es,ep,e,d,_,f⟩:=x;let ⟨o',P5,ep',e',d',_,f'⟩:=y;rw[e] at e';cases e';rw[d] at d';cases d';funext n;rw[<-f n,<-f' n]
def Aq{h:cC}{a:Addr}{m:Str->Option aA}{v:Option aA}(x:h.Ns a m)(y:h.IsCell a v):False:=by
 let ⟨o,es,ep,e,d,_,f⟩:=x;let ⟨o',e',d'⟩:=y;rw[e] at e';cases e';rw[d] at d';cases d'
def Lo.kp(x:Lo c s)(k:∀b o,s.heap.get? b=some o->s'.heap.get? b=some o):Lo c s':=
 ⟨let ⟨m,n⟩:=x.ns;⟨m,n.keeps k⟩,x.yx,λn h=>let ⟨a,v,l,i⟩:=x.cell n h;⟨a,v,l,i.keeps k⟩⟩
section
variable {c:C}{h h':cC}{Z:Addr->Prop}(hk:∀b o,¬Z b->h.get? b=some o->h'.get? b=some o)(hm:∀b,Z b->c.M b)
include hk hm
theorem Rep.chg(r:Rep h c.M u d):Rep h' c.M u d:=r.mono λa o n z e=>⟨hk a o (λq=>n (hm a q)) e,n⟩
theorem aC.chg(r:aC h c.M us ds):aC h' c.M us ds:=r.mono λa o n z e=>⟨hk a o (λq=>n (hm a q)) e,n⟩
theorem VR.chg(r:gf c h u v):gf c h' u v:=r.mono λq=>Rep.chg hk hm q
end
def Bs.kx(x:Bs c s)(k:Kx X' s s')(hx:∀b,X' b->c.X b)(hm:∀a,c.M a->∃o,s'.heap.get? a=some o):Bs c s':=
 x.chg (λb o e=>k.keep b o (λq=>by exact ns (x.EY b (hx b q)) e) (x.keep b o e)) hm (λr=>Rep.chg k.keep (λb q=>x.xm b (hx b q)) r) λa cn e o=>k.keep a o λq=>(x.gg a cn e).2.1 (hx a q)
def uD(c:C)(x:Str):Prop:=(c.env.kindOf x=some .local\/(c.env.kindOf x=some .cell/\x∈c.own))/\(x==("__debug__":Str))=false/\(x==("__classdict__":Str))=false
def uD.m(h:uD c x:=by first|exact⟨.inl aa,rfl,rfl⟩|exact⟨.inr ⟨rfl,List.mem_of_elem_eq_true aa⟩,rfl,rfl⟩):uD c x:=h
def aW{x y:Str}{v:V}{ρ:List (Str×V)}(h:y≠x):((x,v)::ρ).lookup y=ρ.lookup y:=by
 rw[lu];have:(y==x)=false:=beq_eq_false_iff_ne.mpr h;rw[this]
def fY{x:Str}{v:V}{ρ:List (Str×V)}:((x,v)::ρ).lookup x=some v:=by
 rw[lu];simp
section
variable {c:C}{ρ:List (Str×V)}
def St.store{s:Shared}{x:Str}{u:aA}{v:V}{Q:Unit->Shared->Prop}(S:St c ρ s)(L:Lo c s)(hx:uD c x)(r:gf c s.heap u v)
 (q:∀s',Kx c.Y s s'->St c ((x,v)::ρ) s'->Lo c s'->Q () s'):wpAny c.m c.A (storeName c.env x u) Q no s:=by
 intros c ρ s x u v Q _ S L hx r q;let ⟨hk,h1,h2⟩:=hx
 have fin:∀(a:Addr) (h':cC) (t:Nat),c.Y a->kY a s.heap h'->(∃o,h'.get? a=some o)->(∀(z:Str) b v,s.heap.IsCell b v->∃v',h'.IsCell b v')->Lo c {s with heap:=h',toks:=t}->Holds {s with heap:=h',toks:=t} c.env x u->
  (∀y w,y≠x->Holds s c.env y w->Holds {s with heap:=h',toks:=t} c.env y w)->Q () {s with heap:=h',toks:=t}:=by
  intro a h' t ya sb ha aeS L' hX hy;have k:Kx (·=a) s {s with heap:=h',toks:=t}:=⟨rfl,rfl,λb o n e=>(sb.2 b n).trans e⟩;have xa:∀b,b=a->c.X b:=λb e=>e▸L.yx a ya
  refine q _ (k.mono λb e=>e▸ya) ⟨S.bs.kx k xa (λb m=>?_),S.kind,S.globals,S.builtins,S.inj,λz b l=>let ⟨v,i⟩:=S.o7 z b l;aeS z b v i,λy w e=>?_⟩ L'
  .by_cases hb:b=a
   .subst hb;exact ha
   let ⟨o,e⟩:=S.bs.gG b m;exact⟨o,(sb.2 b hb).trans e⟩
  by_cases hyx:y=x
  .subst hyx;rw[fY] at e;cases e;exact⟨h1,h2,u,hX,r.chg k.keep λb e=>S.bs.xm b (xa b e)⟩
  rw[aW hyx] at e;refine aM λhN=>?_;obtain⟨a1,a2,w',hw,wz⟩:_:=S.vars y w e;refine hN ?_
  exact⟨a1,a2,w',hy y w' hyx hw,wz.chg k.keep λb e=>S.bs.xm b (xa b e)⟩
 rcases hk with hk|⟨hk,ho⟩
 .let ⟨m,n⟩:=L.ns;refine wpAny_storeName_local hk n (λh' n' sb=>fin c.env.locals h' _ (.inl aa) sb ?_ (λz b v ib=>⟨v,ib.sameBut sb λe=>Aq n (e▸ib)⟩) ?_ (.inl ⟨hk,_,n',by simp⟩) λy w hy hw=>?_) ?_
  .let ⟨o,_,_,e,_⟩:=n';exact⟨o,e⟩
  .exact⟨⟨_,n'⟩,L.yx,λz hz=>let ⟨a,v,l,i⟩:=L.cell z hz;⟨a,v,l,i.sameBut sb λe=>Aq n (e▸i)⟩⟩
  .rcases hw with⟨a,m',n'',e⟩|⟨a,b,l,i⟩
   .have:=YW n n'';subst this;exact .inl ⟨a,_,n',by simp[hy,e]⟩
   exact .inr ⟨a,b,l,i.sameBut sb λe=>Aq n (e▸i)⟩
  rw[S.kind];rfl
 let ⟨a,af0,l,i⟩:=L.cell x ho;let ⟨m,n⟩:=L.ns;have hna:c.env.locals≠a:=λe=>Aq n (e▸i)
 refine wpAny_storeName_cell S.kind hk l i λh' i' sb=>fin a h' s.toks (.inr ⟨x,ho,l⟩) sb ?_ ?_ ?_ (.inr ⟨.inl hk,a,l,i'⟩) λy w hy hw=>?_
 .let ⟨o,e,_⟩:=i';exact⟨o,e⟩
 .intro z b v ib
  by_cases e:b=a
  .subst e;exact⟨_,i'⟩
  exact⟨v,ib.sameBut sb e⟩
 .refine⟨⟨m,n.sameBut sb hna⟩,L.yx,λz hz=>?_⟩;let ⟨b,v,lb,ib⟩:=L.cell z hz
  by_cases e:b=a
  .subst e;exact⟨b,_,lb,i'⟩
  exact⟨b,v,lb,ib.sameBut sb e⟩
 rcases hw with⟨a',m',n'',e⟩|⟨a',b,lb,ib⟩
 .exact .inl ⟨a',m',n''.sameBut sb hna,e⟩
 exact .inr ⟨a',b,lb,ib.sameBut sb λe=>hy (S.inj y x a (e▸lb) l)⟩
inductive r6(c:C):List aU->List D->List (Str×V)->Prop
 |nil:r6 c [] [] []
 |cons {x:Str} {p:Pos} {es:List aU} {d:D} {ds:List D} {tb:List (Str×V)}:uD c x->r6 c es ds tb->r6 c (.Name x p::es) (d::ds) (tb++[(x,.d d)])
inductive wA(c:C):aU->D->List (Str×V)->Prop
 |name {x:Str} {p:Pos} {d:D}:uD c x->wA c (.Name x p) d [(x,.d d)]
 |tup {es:List aU} {k:Nat} {p:Pos} {ds:List D} {tb:List (Str×V)}:r6 c es ds tb->wA c (.Tuple es k p) (.tup ds) tb
def Kx.u9(a:Kp s s')(b:Kx X s' s''):Kx X s s'':=a.kx.trans b
theorem r6.length(h:r6 c es ds tb):(assignEach es c.env).length=ds.length/\(assignEach es c.env).findIdx? (·.1)=none:=by
 induction h with
 |nil=>exact⟨rfl,rfl⟩
 |cons _ _ ih=>
  refine⟨by show _+1=_+1;rw[ih.1],?_⟩;show WA _ ((false,_)::_)=none;rw[WE];simp[ih.2]
def r6.run(h:r6 c es ds tb):∀{ρ:List (Str×V)} {s:Shared} {us:List aA} {Q:Unit->Shared->Prop},St c ρ s->Lo c s->aC s.heap c.M us ds->
 (∀s',Kx c.Y s s'->St c (tb++ρ) s'->Lo c s'->Q () s')->wpAny c.m c.A (assignInOrder ((assignEach es c.env).map (·.2)) us) Q no s:=by
 intros c es ds tb _ h
 induction h with
 |nil=>intro ρ s us Q S L r q;cases r;exact bx (q s (Qm s) S L)
 |@cons x p es d ds tb hx _ ih=>
  intro ρ s us Q S L r q;cases r with
  |@cons u us _ _ r rs=>
   show wpAny c.m c.A (holding us (assign (.Name x p) c.env u)>>=λz=>assignInOrder ((assignEach es c.env).map (·.2)) us) Q no s;refine aF (e9 (D5 (S.store L hx (v:=.d d) r λah aE cF c9=>?_)));refine ih cF c9 (rs.mono λa o n z e=>⟨aE.keep a o (λy=>n (S.bs.xm a (L.yx a y))) e,n⟩) λaB aV b7 cO=>q aB (aE.trans aV) ?_ cO
   rw[jJ];exact b7
theorem wA.run(h:wA c tg d tb)(S:St c ρ s)(L:Lo c s)(r:Rep s.heap c.M u d)
 (q:∀s',Kx c.Y s s'->St c (tb++ρ) s'->Lo c s'->Q () s'):wpAny c.m c.A (assign tg c.env u) Q no s:=by
 intros c ρ tg d tb s u Q _ h S L r q;cases h with
 |name hx=>exact D5 (S.store L hx (v:=.d d) r q)
 |tup h=>
  cases r with
  |@tup a vs ds i nm z r=>
   have hl:=r.size;refine OM S.bs.room.hh i.Mx (by rw[h.length.1,hl]) h.length.2 λh' x=>?_
   have k:Kp s {s with heap:=h'}:=⟨rfl,rfl,λb o e=>x b o (ie (gP e)) e⟩;exact h.run (S.kp k) (L.kp k.keep) (r.keep k.keep) λs' k' S' L'=>q s' (Kx.u9 k k') S' L'
end
open Mine.uD renaming m->cD
open Mine.wA renaming name->i7,tup->q9
open Mine.Rep renaming chg->zG
inductive Qp:aU->Prop
 |l {dw gens scope pos}:Qp (.ListComp dw gens scope pos)
 |s {dw gens scope pos}:Qp (.SetComp dw gens scope pos)
 |d {k v gens scope pos}:Qp (.DictComp k v gens scope pos)
noncomputable def lQ(e:aU)(acc:aA)(env:Env):Sem Unit:=match e with
 |.ListComp dw _ _ _=>do let _<-call (.builtin "list.append") [acc,<-eval dw env]
 |.SetComp dw _ _ _=>do let v<-eval dw env;standAt dw.pos;let _<-call (.builtin "set.add") [acc,v]
 |.DictComp k v _ _ _=>do
  let kv<-eval k env;let vv<-holding [kv] (eval v env)
  match acc with
  |.ref d=>do
   standAt {k.pos with endLine:=v.pos.endLine,endCol:=v.pos.endCol}
   holding [kv,vv] (dictSet d kv vv)
  |_=>unsupported "internal:dictcomp"
 |_=>unsupported "internal:not-a-comprehension"
noncomputable def Ar(ifs:List aU)(env:Env):Sem Bool:=forIn ifs true λc r=>if r=true then do let ok<-isTrue c env (eval c env);pure (B0 ok) else pure (B0 r)
noncomputable def As(e:aU)(depth:Nat)(iz:aU)(acc:aA)(env:Env):Sem Unit:=do
 let x<-eval iz env
 standAt iz.pos
 let x<-foldedSetIterable iz env x;let _<-runOwn (.compStart e (depth+1) (<-holding [x] (pyIter x)) acc env) env
def r7(e:aU)(depth:Nat)(tg iter:aU)(ifs:List aU)(inner:Sem Unit)(it acc:aA)(env:Env):Sem ON:=do
 standAt iter.pos
 match<-pyNext it with
 |none=>pure (.done .next)
 |some v=>
  letOwnedTupleGo tg it v
  assign tg env v
  let ok<-Ar ifs env
  if ok then inner
  again (.compLoop e depth it acc env)
inductive qj(c:C)(ρ:List (Str×V)):List aU->Bool->Prop
 |nil:qj c ρ [] true
 |cons {e:aU} {es:List aU} {a b:Bool}:iH c ρ e a->(a=true->qj c ρ es b)->qj c ρ (e::es) (a&&b)
theorem Au(q:Q false s):∀ifs:List aU,
 wpAny M A (forIn ifs false λc r=>if r=true then do let ok<-isTrue c env (eval c env);pure (B0 ok) else pure (B0 r)) Q E s
 |[]=>bx q
 |e::es=>by
  rw[Ek];exact aF (bx (Au q es))
def qj.run(h:qj c ρ es b):∀{s:Shared} {Q:Bool->Shared->Prop},St c ρ s->(∀s',Kp s s'->Q b s')->wpAny c.m c.A (Ar es c.env) Q no s:=by
 intros c ρ es b _ h
 induction h with
 |nil=>intro s Q S q;exact bx (q s (jM s))
 |@cons e es a b h r ih=>
  intro s Q S q;unfold Ar;rw[Ek,aq aa];refine aF (aF (bk (h s S) (λx ah q1=>bx ?_)));refine aM λhN=>?_;obtain⟨k,e⟩:_:=q1;refine hN ?_
  subst e;cases x with
  |true=>exact ih aa (S.kp k) λs' k'=>q s' (k.trans k')
  |false=>exact Au (q ah k) es
structure wB(c:C)(Da:Addr)(mh:Shared->List D->Prop)(H:Addr->Prop):Prop where
 wC:∀s s' done,mh s done->(∀o,s.heap.get? Da=some o->s'.heap.get? Da=some o)->(∀a o,¬c.M a->¬gp o->s.heap.get? a=some o->s'.heap.get? a=some o)->(∀a o,H a->s.heap.get? a=some o->s'.heap.get? a=some o)->mh s' done
 x:c.X Da
 ny:¬c.Y Da
def C.Z(c:C)(Da b:Addr):Prop:=c.Y b\/b=Da
structure YX(c:C)(ρ:List (Str×V))(Da:Addr)(mh:Shared->List D->Prop)(s:Shared)(done:List D)(u:Unit)(s':Shared):Prop where
 k:Kx (c.Z Da) s s'
 S:St c ρ s'
 L:Lo c s'
 a:mh s' done
def yh(c:C)(ρ:List (Str×V))(Da:Addr)(mh:Shared->List D->Prop)(Uh:Sem Unit)(out:List D):Prop:=
 ∀s done,St c ρ s->Lo c s->mh s done->(done++out).length<=ck->wpAny c.m c.A Uh (YX c ρ Da mh s (done++out)) no s
def uE(c:C)(ρ:List (Str×V))(Da:Addr)(mh:Shared->List D->Prop)(Uh:Sem Unit)(done out:List D):Prop:=
 ∀s,St c ρ s->Lo c s->mh s done->(done++out).length<=ck->wpAny c.m c.A Uh (YX c ρ Da mh s (done++out)) no s
def yh.at{c:C}{ρ:List (Str×V)}{Da:Addr}{mh:Shared->List D->Prop}{Uh:Sem Unit}{done out:List D}(h:yh c ρ Da mh Uh out):uE c ρ Da mh Uh done out:=λs=>h s done
def MC{tb ρ:List (Str×V)}{x:Str}(h:∀p∈tb,p.1≠x):(tb++ρ).lookup x=ρ.lookup x:=by
 induction tb with
 |nil=>rfl
 |cons p tb ih=>
  rw[WG,lu];have:(x==p.1)=false:=beq_eq_false_iff_ne.mpr (h p (.head _)).symm;rw[this];exact ih λq hq=>h q (.tail _ hq)
def St.drop{c:C}{tb ρ:List (Str×V)}{s:Shared}(S:St c (tb++ρ) s)(hf:∀p∈tb,ρ.lookup p.1=none):St c ρ s:=
 ⟨S.bs,S.kind,S.globals,S.builtins,S.inj,S.o7,λx v e=>S.vars x v (by rw[MC λp hp h=>by rw[<-h,hf p hp] at e;cases e];exact e)⟩
def Holds.kx(h:Holds s env x v)(k:Kx X s s')(hl:∀o,s.heap.get? env.locals=some o->s'.heap.get? env.locals=some o)(hc:∀a u,s.heap.IsCell a u->¬X a):Holds s' env x v:=by
 rcases h with⟨a,m,n,e⟩|⟨a,b,l,i⟩
 .exact .inl ⟨a,m,n.at' hl,e⟩
 have nx:=hc b _ i;let ⟨o,e,d⟩:=i;exact .inr ⟨a,b,l,o,k.keep b o nx e,d⟩
def Holds.gen(h:Holds s env x v)(hl:∀o,s.heap.get? env.locals=some o->s'.heap.get? env.locals=some o)(hc:∀a u,s.heap.IsCell a u->s'.heap.IsCell a u):Holds s' env x v:=
 h.imp (λq=>⟨q.1,q.2.imp λm q=>⟨q.1.at' hl,q.2⟩⟩) λq=>⟨q.1,q.2.imp λa q=>⟨q.1,hc a _ q.2⟩⟩
def Cd(k:Kx X s s')(hc:∀a u,s.heap.IsCell a u->¬X a)(a:Addr)(u:Option aA)(i:s.heap.IsCell a u):s'.heap.IsCell a u:=have n:=hc a u i;i.imp λo q=>⟨k.keep a o n q.1,q.2⟩
theorem St.gen(S:St c ρ s)(L:Lo c s)(B:Bs {c with M:=M',σ:=σ',wr:=wr',B:=B'} s')(cell:∀a u,s.heap.IsCell a u->s'.heap.IsCell a u)(loc:∀o,s.heap.get? c.env.locals=some o->s'.heap.get? c.env.locals=some o)
 (hr:∀{u:aA} {d:D},Rep s.heap c.M u d->Rep s'.heap M' u d):St {c with M:=M',σ:=σ',wr:=wr',B:=B'} ρ s'/\Lo {c with M:=M',σ:=σ',wr:=wr',B:=B'} s':=
 ⟨⟨B,S.kind,S.globals,S.builtins,S.inj,λx a l=>(S.o7 x a l).imp λv i=>cell a v i,λx v e=>have q:=S.vars x v e;⟨q.1,q.2.1,q.2.2.imp λu q=>⟨q.1.gen loc cell,q.2.mono hr⟩⟩⟩,L.ns.imp λm n=>n.at' loc,L.yx,λx hx=>(L.cell x hx).imp λa=>qU λv q=>⟨q.1,cell a v q.2⟩⟩
def rm(o:Obj):Prop:=¬o6 o/\∀v,o.data≠.cell v
theorem Rep.rm{h h':cC}{M:Addr->Prop}{v:aA}{d:D}{wr:Addr->Prop}(r:Rep h M v d)(hk:∀b o,¬wr b->h.get? b=some o->h'.get? b=some o)(ho:∀b,wr b->∀o,h.get? b=some o->rm o):Rep h' M v d:=
 r.mono λa o n q e=>⟨hk a o (λm=>(ho a m o e).1 q) e,n⟩
theorem St.rm(S:St c ρ s)(L:Lo c s)(k:Kx wr s s')(ho:∀b,wr b->∀o,s.heap.get? b=some o->Mine.rm o)(hn:∀b,wr b->c.h₀.get? b=none)(hm:∀b,wr b->¬c.M b):St c ρ s'/\Lo c s':=
 S.gen (M':=c.M) (σ':=c.σ) (wr':=c.wr) (B':=c.B) L (S.bs.chg (λb o e=>k.keep b o (λq=>ns (hn b q) e) (S.bs.keep b o e)) (λa m=>(S.bs.gG a m).imp λo e=>k.keep a o (λq=>hm a q m) e) (λr=>r.rm k.keep ho) λa cn e o=>k.keep a o λq=>hm a q (S.bs.gg a cn e).1)
  (Cd k λa u i m=>i.elim λo q=>(ho a m o q.1).2 _ q.2) (λo e=>k.keep _ o (λm=>hm _ m (S.bs.xm _ (L.yx _ (.inl aa)))) e) λr=>r.rm k.keep ho
def Av{d:Data}{u:Option aA}{us:Array aA}(h:d=.cell u)(h':d=.fields us):False:=nomatch h.symm.trans h'
def HM(h:gp o):rm o:=⟨λq=>gR q h,λv e=>h.elim λus e'=>Av e e'⟩
def St.step{c:C}{ρ:List (Str×V)}{s s':Shared}{wr:List Addr}(S:St c ρ s)(L:Lo c s)(k:Kx (·∈wr) s s')(ho:∀b∈wr,∀o,s.heap.get? b=some o->gp o)(hn:∀b∈wr,c.h₀.get? b=none)(hm:∀b∈wr,¬c.M b):St c ρ s'/\Lo c s':=
 S.rm L k (λb m o e=>HM (ho b m o e)) hn hm
inductive TB(c:C)(ρ:List (Str×V))(tg:aU)(ifs:List aU)(d:D)(T:List (Str×V)->Prop)(E:Prop):Prop
 |mk (tb:List (Str×V)) (b:Bool) (t:wA c tg d tb) (n:∀p∈tb,ρ.lookup p.1=none) (ts:qj c (tb++ρ) ifs b) (y:b=true->T (tb++ρ)) (e:b=false->E)
def E5{c:C}{ρ:List (Str×V)}{e:aU}{depth:Nat}{tg iter:aU}{ifs:List aU}{inner:Sem Unit}{acc:aA}{I Da:Addr}{done:List D}{fp wr:List Addr}{ds:List D}{T:(Addr->Prop)->Nat->cC->Prop}{mh:Shared->List D->Prop}{H:Addr->Prop}(outs:List (List D))(jT:outs.length=ds.length)
 (he:Qp e) (hT:compTurn e depth (.ref I) acc c.env=r7 e depth tg iter ifs inner (.ref I) acc c.env) (W:Dq c.prog c.w c.A I fp wr ds T) (ha:wB c Da mh H)
 (hb:∀(i:Nat) d o,ds[i]?=some d->outs[i]?=some o->TB c ρ tg ifs d (λρ'=>uE c ρ' Da mh inner (done++(outs.take i).flatten) o) (o=[]))
 {s:Shared} (S:St c ρ s) (L:Lo c s) (r8:mh s done) (ht:T c.M 0 s.heap) (E6:∀b∈fp,¬c.X b) (hwn:∀b∈wr,c.h₀.get? b=none) (Ui:∀b∈wr,¬c.M b) (hwH:∀b∈wr,¬H b) (hYH:∀b,c.Y b->¬H b) (hz:(done++outs.flatten).length<=ck)
 {R:vq->Shared->Prop} (hR:∀fl s',Kx (λb=>c.Z Da b\/b∈wr) s s'->St c ρ s'->Lo c s'->mh s' (done++outs.flatten)->R (.ok fl) s'):
 codeAny c.m c.A (.compLoop e depth (.ref I) acc c.env) R s:=by
 intros c ρ e depth tg iter ifs inner acc I Da _ done fp wr ds T mh H outs jT he hT W ha hb s S L r8 ht E6 hwn Ui hwH hYH hz R hR;intros done fp wr ds T mh H outs s R _ jT he hT W ha hb S L r8 ht E6 hwn Ui hwH hYH hz hR;have zx:∀b,c.Z Da b->c.X b:=λb h=>h.elim (L.yx b) λe=>e▸ha.x
 refine codeAny_loop (c:=.compLoop e depth (.ref I) acc c.env) (by cases he<;>rfl)
  (λn s'=>∃i,n=ds.length-i/\i<=ds.length/\T c.M i s'.heap/\St c ρ s'/\Lo c s'/\mh s' (done++(outs.take i).flatten)/\Kx (λb=>c.Z Da b\/b∈wr) s s') ?_ ds.length
  ⟨0,rfl,b8 _,ht,S,L,by simpa using r8,Qm s⟩
 intro n ah z2;let ⟨i,zy,hi,E7,cF,c9,Aw,aE⟩:=z2;intros ah i _ hi E7 cF c9 Aw aE
 have YY:(c.m.den (.compLoop e depth (.ref I) acc c.env))=(compTurn e depth (.ref I) acc c.env).onRaise (λx=>do noteFrame x c.env;theTreesLotGoes x):=by
  cases he<;>rfl
 have KD:c.A.under (.compLoop e depth (.ref I) acc c.env)=c.A:=by
  refine XO ?_ ?_<;>(cases he<;>rfl)
 rw[YY,KD,hT];refine wpAny_onRaise ?_;obtain⟨P,hP⟩:∃P:ON->Shared->Prop,P=λfin s'=>match fin with|.done f=>R (.ok f) s'|.again c'=>c'=.compLoop e depth (.ref I) acc c.env/\∃m,m<ds.length-i/\∃i,m=ds.length-i/\i<=ds.length/\T c.M i s'.heap/\St c ρ s'/\Lo c s'/\mh s' (done++(outs.take i).flatten)/\Kx (λb=>c.Z Da b\/b∈wr) s s':=⟨_,rfl⟩;intros P _ hP
 refine mP (Q:=P) (E:=no) ?_ (λu u h=>by rw[hP] at h;exact h) λu u h=>h.elim
 unfold r7;refine aF (jC (aF ?_));rcases Ef i ds.length with eG|hge
 .have hd:ds[i]?=some ds[i]:=iF eG;have Sw:i<outs.length:=by rw[jT];exact eG
  have tH:outs[i]?=some outs[i]:=iF Sw;refine aM λhN=>?_;obtain⟨tb,b,Dr,hf,aeT,Iw,abx⟩:_:=hb i ds[i] outs[i] hd tH;refine hN ?_
  have KG:(outs.take (i+1)).flatten=(outs.take i).flatten++outs[i]:=by
   rw[vC,tH,vD];simp only[Option.toList_some,BF,List.flatten_nil,iW]
  have cG:((done++(outs.take i).flatten)++outs[i]).length<=ck:=by
   rw[jJ,<-KG];refine aG ?_ hz;rw[bU,bU]
   have:(outs.take (i+1)).flatten++(outs.drop (i+1)).flatten=outs.flatten:=by
    rw[<-vD,Em]
   rw[<-this,bU];exact ff (iE ..) _
  refine bk (W.item c.M i ds[i] tg ah (λv aB=>wpAny c.m c.A (do
   assign tg c.env v
   let ok<-Ar ifs c.env
   if ok then inner
   again (.compLoop e depth (.ref I) acc c.env)) P no aB) hd E7 cF.bs.gG ?_) (λr aB h=>?_)
  .intro v aB rv adu aV;have ho:=W.off c.M i ah.heap E7;let ⟨b7,cO⟩:=cF.step c9 aV ho hwn Ui;have YZ:mh aB (done++(outs.take i).flatten):=ha.wC ah aB _ Aw (λo e=>aV.keep Da o (λm=>Ui Da m (cF.bs.xm Da ha.x)) e) (λa o n q e=>aV.keep a o (λm=>q (ho a m o e)) e) λa o n e=>aV.keep a o (λm=>hwH a m n) e
   refine aF (Dr.run b7 cO rv λc8 dP i8 jc=>?_);have Y0:∀a,¬c.M a->¬c.Y a:=λa n y=>n (b7.bs.xm a (cO.yx a y))
   have Y3:mh c8 (done++(outs.take i).flatten):=ha.wC aB c8 _ YZ (λo e=>dP.keep Da o ha.ny e) (λa o n q e=>dP.keep a o (Y0 a n) e) λa o n e=>dP.keep a o (λy=>hYH a y n) e
   have Ce:T c.M (i+1) c8.heap:=W.frame c.M (i+1) aB.heap c8.heap adu λb o h e=>dP.keep b o (h.elim (λh y=>E6 b h (cO.yx b y)) λh=>Y0 b h.1) e
   refine aF (aeT.run i8 λiw o9=>?_);have yC:=i8.kp o9;have Iz:=jc.kp o9.keep;have wD:T c.M (i+1) iw.heap:=W.frame c.M (i+1) c8.heap iw.heap Ce λb o h e=>o9.keep b o e
   have MD:mh iw (done++(outs.take i).flatten):=ha.wC c8 iw _ Y3 (λo e=>o9.keep Da o e) (λa o n q e=>o9.keep a o e) λa o n e=>o9.keep a o e
   have kk:Kx (λb=>c.Z Da b\/b∈wr) s iw:=((aE.trans (aV.mono λb h=>.inr h)).trans (dP.mono λb h=>.inl (.inl h))).trans o9.kx;cases b with
   |false=>
    rw[abx aa,iW] at KG;exact bx (by rw[hP];exact⟨rfl,ds.length-(i+1),Wt _ _ eG,i+1,rfl,eG,wD,yC.drop hf,Iz,by rw[KG];exact MD,kk⟩)
   |true=>
    show wpAny c.m c.A (inner>>=λu=>again (.compLoop e depth (.ref I) acc c.env)) _ no iw;refine aF (bk (Iw aa iw yC Iz MD cG) (λu mW q1=>?_));refine aM λhN=>?_;obtain⟨wF,Ax,vc,Y4⟩:_:=q1;refine hN ?_
    have adv:T c.M (i+1) mW.heap:=W.frame c.M (i+1) iw.heap mW.heap wD λb o h e=>wF.keep b o (λz=>h.elim (λh=>E6 b h (zx b z)) λh=>h.1 (yC.bs.xm b (zx b z))) e
    exact bx (by rw[hP];exact⟨rfl,ds.length-(i+1),Wt _ _ eG,i+1,rfl,eG,adv,Ax.drop hf,vc,by rw[KG,<-jJ];exact Y4,kk.trans (wF.mono λb h=>.inl h)⟩)
  let ⟨v,zy,z2⟩:=h;revert z2;intro h;exact aF h
 have e:i=ds.length:=by exact pI ‹_› ‹_›
 subst e;refine bk (W.done c.M ah (λaB=>R (.ok .next) aB) E7 λaB aV=>?_) (λr aB q2=>by let ⟨h1,h2⟩:=q2;exact by subst h1;exact bx (by rw[hP];exact h2));have ho:=W.off c.M ds.length ah.heap E7;let ⟨b7,cO⟩:=cF.step c9 aV ho hwn Ui;refine hR _ aB (aE.trans (aV.mono λb h=>.inr h)) b7 cO ?_;rw[pL (by rw[jT];exact bW _)] at Aw;exact ha.wC ah aB _ Aw (λo e=>aV.keep Da o (λm=>Ui Da m (cF.bs.xm Da ha.x)) e) (λa o n q e=>aV.keep a o (λm=>q (ho a m o e)) e) λa o n e=>aV.keep a o (λm=>hwH a m n) e
open Mine.qj renaming nil->rq
def CW{c:C}{e:aU}{depth:Nat}{it acc:aA}{tg iter:aU}{ifs:List aU}{R:vq->Shared->Prop}{s:Shared}(he:Qp e)(hg:(clausesOf e)[depth]?=some ⟨tg,iter,ifs,0⟩)
 (h:codeAny c.m c.A (.compLoop e depth it acc c.env) R s) (hi:∀Q:aA->Shared->Prop,Q it s->wpAny c.m c.A (pyIter it) Q no s):codeAny c.m c.A (.compStart e depth it acc c.env) R s:=by
 intros c e depth it acc tg iter ifs R s _ he hg h hi;refine OA ?_
 have YY:(c.m.den (.compStart e depth it acc c.env))=(compStart e depth it acc c.env).onRaise (λx=>do noteFrame x c.env;standAt theWindowsPlace):=by
  cases he<;>rfl
 have KD:c.A.under (.compStart e depth it acc c.env)=c.A:=by
  refine XO ?_ ?_<;>(cases he<;>rfl)
 have hq:(Code.compLoop e depth it acc c.env).quiet=true:=by cases he<;>rfl
 rw[YY,KD];refine wpAny_onRaise ?_;refine mP (E:=no) (Q:=λfin s'=>fin=.again (.compLoop e depth it acc c.env)/\s'=s) ?_ (λfin s' q1=>by let ⟨h1,h2⟩:=q1;exact by subst h1 h2;exact⟨hq,h⟩) λz z h=>h.elim
 unfold compStart;rw[hg];show wpAny _ _ (ask>>=_) _ _ s;refine aF (qH ?_);show wpAny _ _ (if _=true then _ else _) _ _ s;split
 .exact bx ⟨rfl,rfl⟩
 exact aF (yR (aF (jC (aF (hi _ (bx ⟨rfl,rfl⟩))))))
def IA(c:C)(Da:Addr)(s:Shared)(done:List D):Prop:=∃vs,PL s.heap Da vs/\done.length<=ck/\aC s.heap c.M vs.toList done
def IA.ok(hx:c.X Da)(hy:¬c.Y Da):wB c Da (IA c Da) H:=
 ⟨λs s' done q1 h1 h2 y=>by let ⟨vs,i,z,r⟩:=q1;exact⟨vs,i.at h1,z,r.mono λa o n q e=>⟨h2 a o n (λf=>gR q f) e,n⟩⟩,hx,hy⟩
def yh.Y5{c:C}{ρ:List (Str×V)}{Da:Addr}{dw:aU}{gens:List yU}{scope:ia}{pos:Pos}{x:D}(hx:c.X Da)(hy:¬c.Y Da)(h:Ev c ρ dw (.d x)):yh c ρ Da (IA c Da) (lQ (.ListComp dw gens scope pos) (.ref Da) c.env) [x]:=by
 intros c ρ Da dw gens scope pos x _ hx hy h;exact λs done S L qP hz=>by
  let ⟨vs,i,z,r⟩:=qP;show wpAny c.m c.A (eval dw c.env>>=λv=>call (.builtin "list.append") [.ref Da,v]>>=λt=>pure ()) _ _ s;refine aF (bk (h s S) (λu ah q1=>?_));refine aM λhN=>?_;obtain⟨aE,cT⟩:_:=q1;refine hN ?_;clear hN
  have E8:=i.at (aE.keep Da);have hl:=r.size;refine aF (V7 E8 (λh' i' sb=>bx ?_) (by rw[hl];exact eH z));have aV:Kx (·=Da) ah {ah with heap:=h'}:=⟨rfl,rfl,λb o n e=>(sb.2 b n).trans e⟩;have xa:∀b,b=Da->c.X b:=λb e=>e▸hx
  have hm:∀a,c.M a->∃o,h'.get? a=some o:=λa m=>by
   by_cases e:a=Da
   .subst e;let ⟨n,e'⟩:=i';exact⟨_,e'⟩
   let ⟨o,e'⟩:=(S.kp aE).bs.gG a m;exact⟨o,(sb.2 a e).trans e'⟩
  have c9:=L.kp aE.keep;have nl:c.env.locals≠Da:=λe=>hy (.inl e.symm)
  have cl:∀a v,ah.heap.IsCell a v->a≠Da:=λa v qP q=>by
   let ⟨o,e,d⟩:=qP;subst q;let ⟨n,e'⟩:=E8;have q:=e.symm.trans e';cases q;cases d
  refine⟨(aE.kx.trans (aV.mono λb e=>.inr e)),⟨(S.bs.kp aE).kx aV xa hm,S.kind,S.globals,S.builtins,S.inj,λz a l=>let ⟨v,ic⟩:=(S.kp aE).o7 z a l;⟨v,ic.sameBut sb (cl a v ic)⟩,λy w e=>?_⟩,?_,?_⟩
  .refine aM λhN=>?_;obtain⟨h1,h2,u',hh,rr⟩:_:=(S.kp aE).vars y w e;refine hN ?_;clear hN
   exact⟨h1,h2,u',hh.kx aV (λo e=>(sb.2 _ nl).trans e) (λa v i=>cl a v i),rr.chg aV.keep λb e=>S.bs.xm b (xa b e)⟩
  .refine⟨let ⟨m,n⟩:=c9.ns;⟨m,n.sameBut sb nl⟩,L.yx,λz hz=>?_⟩;let ⟨a,v,l,ic⟩:=c9.cell z hz;exact⟨a,v,l,ic.sameBut sb (cl a v ic)⟩
  refine⟨vs.push u,i',hz,?_⟩;rw[JZ];have mm:∀{us:List aA} {es:List D},aC ah.heap c.M us es->aC h' c.M us es:=λr=>r.mono λa o n t e=>⟨(sb.2 a λq=>n (S.bs.xm a (xa a q))).trans e,n⟩
  exact mm ((r.keep aE.keep).append (.one cT))
noncomputable def cy(scope:ia):List Str:=(scope.names.filter (·.2==.cell)).map (·.1)
noncomputable def Y6(env:Env)(scope:ia)(L:Addr)(cs:List (Str×Addr)):Env:={scope:=relabel scope env,locals:=L,globals:=env.globals,cells:=cs,qual:=env.qual,func:=none,code:=env.code,frame:=env.frame,builtins:=env.builtins}
def C.into(c:C)(scope:ia)(L:Addr)(cs:List (Str×Addr))(M X:Addr->Prop):C:={c with env:=Y6 c.env scope L cs,M:=M,X:=X,own:=cy scope}
theorem lR:∀(names:List (Str×D6)) (h:cC) (acc:List (Str×Addr)),
 (∀x∈(names.filter (·.2==.cell)).map (·.1),∃a,(cellsFrom h.objs.size names acc).lookup x=some a/\h.get? a=none/\(pushCells h names).IsCell a none/\h.objs.size<=a)/\
 (∀x,x∉(names.filter (·.2==.cell)).map (·.1)->(cellsFrom h.objs.size names acc).lookup x=acc.lookup x)/\
 (∀x y a,x∈(names.filter (·.2==.cell)).map (·.1)->y∈(names.filter (·.2==.cell)).map (·.1)->(cellsFrom h.objs.size names acc).lookup x=some a->(cellsFrom h.objs.size names acc).lookup y=some a->x=y)
 |[],h,acc=>⟨λx hx=>by simp at hx,λx z=>rfl,λx y a hx=>by simp at hx⟩
 |(n,k)::r,h,acc=>by
  by_cases hk:k=.cell
  .subst hk;have sz:(h.push {cls:=.type "cell",data:=.cell none}).objs.size=h.objs.size+1:=BR ..;let ⟨i1,i2,i3⟩:=lR r (h.push {cls:=.type "cell",data:=.cell none}) ((n,h.objs.size)::acc);rw[sz] at i1 i2 i3;have e1:cellsFrom h.objs.size ((n,qV)::r) acc=cellsFrom (h.objs.size+1) r ((n,h.objs.size)::acc):=rfl;have e2:pushCells h ((n,qV)::r)=pushCells (h.push {cls:=.type "cell",data:=.cell none}) r:=rfl;have e3:(((n,qV)::r).filter (·.2==.cell)).map (·.1)=n::(r.filter (·.2==.cell)).map (·.1):=rfl;rw[e1,e2,e3]
   have old:∀a,(h.push {cls:=.type "cell",data:=.cell none}).get? a=none->h.get? a=none:=λa e=>by
    cases q:h.get? a with
    |none=>rfl
    |some o=>exact ns e (dS _ q)
   have self:n∉(r.filter (·.2==.cell)).map (·.1)->(cellsFrom (h.objs.size+1) r ((n,h.objs.size)::acc)).lookup n=some h.objs.size:=λhn=>by
    rw[i2 n hn];simp
   refine⟨λx hx=>?_,λx hx=>?_,λx y a hx hy l1 l2=>?_⟩
   .by_cases hr:x∈(r.filter (·.2==.cell)).map (·.1)
    .let ⟨a,l,g,ic,le⟩:=i1 x hr;exact⟨a,l,old a g,ic,by exact ee ‹_›⟩
    rcases bZ.mp hx with rfl|hx
    .exact⟨h.objs.size,self hr,bC h,⟨_,Jt r _ _ _ (fh _ aa),rfl⟩,bW _⟩
    exact aK hx hr
   .rw[i2 x λq=>hx (yY _ q),lu];have:(x==n)=false:=beq_eq_false_iff_ne.mpr λe=>hx (e▸vB)
    rw[this]
   by_cases hxr:x∈(r.filter (·.2==.cell)).map (·.1)
   .by_cases Uj:y∈(r.filter (·.2==.cell)).map (·.1)
    .exact i3 x y a hxr Uj l1 l2
    rcases bZ.mp hy with rfl|hy
    .let ⟨a',l',g',_,le⟩:=i1 x hxr;rw[self Uj] at l2;cases l2;rw[l1] at l';cases l';exact aK le (Nat.not_succ_le_self _)
    exact aK hy Uj
   rcases bZ.mp hx with rfl|hx
   .by_cases Uj:y∈(r.filter (·.2==.cell)).map (·.1)
    .let ⟨a',l',g',_,le⟩:=i1 y Uj;rw[self hxr] at l1;cases l1;rw[l2] at l';cases l';exact aK le (Nat.not_succ_le_self _)
    rcases bZ.mp hy with rfl|hy
    .rfl
    exact aK hy Uj
   exact aK hx hxr
  have hb:(k==qV)=false:=by simpa using hk
  let ⟨i1,i2,i3⟩:=lR r h acc;have e1:cellsFrom h.objs.size ((n,k)::r) acc=cellsFrom h.objs.size r acc:=by show(if(k==qV)=true then _ else _)=_;rw[hb];rfl
  have e2:pushCells h ((n,k)::r)=pushCells h r:=by show(if(k==qV)=true then _ else _)=_;rw[hb];rfl
  have e3:(((n,k)::r).filter (·.2==.cell)).map (·.1)=(r.filter (·.2==.cell)).map (·.1):=by
   rw[y9];simp[hb]
  rw[e1,e2,e3];exact⟨i1,i2,i3⟩
noncomputable def pU(scope:ia)(ρ:List (Str×V)):List (Str×V):=ρ.filter λp=>scope.names.lookup p.1==some .free
def E9{q:Str->Bool}{ρ:List (Str×V)}{x:Str}{v:V}(h:(ρ.filter λp=>q p.1).lookup x=some v):q x=true/\ρ.lookup x=some v:=by
 intros q ρ x v _ h
 induction ρ with
 |nil=>simp at h
 |cons p ρ ih=>
  rw[y9] at h
  by_cases hq:q p.1=true
  .rw[aq hq,lu] at h;rw[lu];cases hx:x==p.1 with
   |true=>rw[hx] at h;rw[beq_iff_eq.mp hx];exact⟨hq,h⟩
   |false=>rw[hx] at h;exact ih h
  rw[ay hq] at h;rw[lu];cases hx:x==p.1 with
  |true=>exact aK ((beq_iff_eq.mp hx)▸(ih h).1) hq
  |false=>exact ih h
theorem pg{env:Env}:∀{names:List (Str×D6)} {x:Str},names.lookup x=some .free->
 (names.map λ(n,k)=>if(k==vP&&env.scope.kind==.function&&env.kindOf n==some .cell) then(n,qV) else(n,k)).lookup x=some .cell\/
 (names.map λ(n,k)=>if(k==vP&&env.scope.kind==.function&&env.kindOf n==some .cell) then(n,qV) else(n,k)).lookup x=some .free
 |[],_,h=>by simp at h
 |(n,k)::r,x,h=>by
  have ih:=@pg env r x;show JH x ((if(k==vP&&env.scope.kind==.function&&env.kindOf n==some .cell)=true then(n,qV) else(n,k))::_)=_\/JH x ((if(k==vP&&env.scope.kind==.function&&env.kindOf n==some .cell)=true then(n,qV) else(n,k))::_)=_;cases hx:x==n with
  |true=>
   simp only[lu,hx] at h;cases h;split
   .left;simp[lu,hx]
   right;simp[lu,hx]
  |false=>
   simp only[lu,hx] at h;split
   .simp only[lu,hx];exact ih h
   simp only[lu,hx];exact ih h
theorem wG(env:Env):∀(names:List (Str×D6)) (acc:List (Str×Addr)),(∀x∈names,x.2=.free->∃a,env.cells.lookup x.1=some a)->
 ∃cl,(forIn names acc λ(x:Str×D6) (cs:List (Str×Addr))=>if(x.2==.free)=true then do let a<-cellOf env x.1;pure (B0 ((x.1,a)::cs)) else pure (B0 cs):Sem (List (Str×Addr)))=pure cl/\
  (∀y a,cl.lookup y=some a->acc.lookup y=some a\/env.cells.lookup y=some a)/\(∀y,(acc.lookup y).isSome=true->(cl.lookup y).isSome=true)/\(∀x∈names,x.2=.free->(cl.lookup x.1).isSome=true)
 |[],acc,_=>⟨acc,rfl,λy a h=>.inl h,λy h=>h,λx hx=>by simp at hx⟩
 |(n,k)::r,acc,h=>by
  have hr:∀x∈r,x.2=.free->∃a,env.cells.lookup x.1=some a:=λx hx=>h x (yY _ hx)
  by_cases hk:k=.free
  .subst hk;let ⟨a,ha⟩:=h (n,.free) vB aa;let ⟨cl,e,q,q2,q3⟩:=wG env r ((n,a)::acc) hr;have hn:(cl.lookup n).isSome=true:=q2 n (by simp);refine⟨cl,?_,λy b hb=>?_,λy hy=>q2 y ?_,λx hx hf=>?_⟩
   .rw[Ek];have:cellOf env n=pure a:=by unfold cellOf;rw[ha]
    simp only[beq_self_eq_true,if_true,this,pure_bind];exact e
   .rcases q y b hb with q|q
    .rw[lu] at q;cases hy:y==n with
     |true=>rw[hy] at q;cases q;rw[beq_iff_eq.mp hy];exact .inr ha
     |false=>rw[hy] at q;exact .inl q
    exact .inr q
   .rw[lu];cases hyn:y==n with
    |true=>rfl
    |false=>exact hy
   rcases bZ.mp hx with rfl|hx
   .exact hn
   exact q3 x hx hf
  let ⟨cl,e,q,q2,q3⟩:=wG env r acc hr;refine⟨cl,?_,q,q2,λx hx hf=>?_⟩
  .have hb:(k==vP)=false:=by simpa using hk
   rw[Ek];simp only[hb,sH,if_false,pure_bind];exact e
  rcases bZ.mp hx with rfl|hx
  .exact aK hf hk
  exact q3 x hx hf
def Fb(scope:ia)(env:Env)(h:∀x∈scope.names,x.2=.free->∃a,env.cells.lookup x.1=some a):
 ∃cl,closureFor scope env=pure cl/\(∀y a,cl.lookup y=some a->env.cells.lookup y=some a)/\(∀x∈scope.names,x.2=.free->∃a,cl.lookup x.1=some a):=by
 let ⟨cl,e,q,_,q3⟩:=wG env scope.names [] h;refine⟨cl,?_,λy a hy=>(q y a hy).resolve_left (by simp),λx hx hf=>EG.mp (q3 x hx hf)⟩;unfold closureFor;rw[<-bind_pure (pure cl:Sem _),<-e]
def KH
 (q:∀h',h'=pushCells (s.heap.push {cls:=.type "dict",data:=.dict #[]}) scope.names->Q {scope,locals:=s.heap.objs.size,globals,cells:=cellsFrom (s.heap.objs.size+1) scope.names cl,qual,func:=none,code:=Qs.code,frame:=Qs.frame,builtins:=Qs.builtins} {s with heap:=h'}):
 wpAny M A (newFunctionEnv scope globals cl [] qual none .none (some Qs) b) Q E s:=by
 simp only[newFunctionEnv,XH,if_true];refine aF (DZ (aF (wpAny_layCells _ (λname kind cells=>by cases hkc:kind==qV<;>simp[hkc]) _ _ _ _ ?_)));rw[show({s with heap:=s.heap.push {cls:=.type "dict",data:=.dict #[]}}:Shared).heap.objs.size=s.heap.objs.size+1 from BR ..];exact aF (bx (bx (q _ aa)))
def XN(c:C)(scope:ia)(La Da:Addr)(cs:List (Str×Addr))(a:Addr):Prop:=c.X a\/a=La\/a=Da\/∃x∈cy scope,cs.lookup x=some a
def MN(c:C)(scope:ia)(La Da:Addr)(cs:List (Str×Addr))(a:Addr):Prop:=c.M a\/XN c scope La Da cs a
structure yi(c:C)(ρ:List (Str×V))(scope:ia)(La Da:Addr)(cs cl:List (Str×Addr))(s:Shared)(h:cC):Prop where
 S:St c ρ s
 kk:∀b o,s.heap.get? b=some o->h.get? b=some o
 gD:∃o,h.get? Da=some o
 nL:h.Ns La (λw=>none)
 dD:s.heap.get? Da=none
 dL:s.heap.get? La=none
 Sy:∀x∈cy scope,∃a,cs.lookup x=some a/\s.heap.get? a=none/\h.IsCell a none/\a≠Da/\a≠La
 ME:∀z,z∉cy scope->cs.lookup z=cl.lookup z
 Qt:∀x y a,x∈cy scope->y∈cy scope->cs.lookup x=some a->cs.lookup y=some a->x=y
 MF:∀x a,cl.lookup x=some a->c.env.cells.lookup x=some a
section
variable {c:C}{ρ:List (Str×V)}{scope:ia}{La Da a b:Addr}{cs cl:List (Str×Addr)}{s:Shared}{h:cC}{x:Str}{o:Obj}(F:yi c ρ scope La Da cs cl s h)
include F
theorem yi.cell(hx:x∈cy scope)(l:cs.lookup x=some a):s.heap.get? a=none/\h.IsCell a none/\a≠Da/\a≠La:=(F.Sy x hx).elim λz q=>eF (q.1.symm.trans l)▸q.2
theorem yi.old(hx:x∉cy scope)(l:cs.lookup x=some a):c.env.cells.lookup x=some a:=F.MF x a ((F.ME x hx).symm.trans l)
theorem yi.EY(q:XN c scope La Da cs a):c.X a\/s.heap.get? a=none:=q.imp id λq=>q.elim (λe=>e▸F.dL) λq=>q.elim (λe=>e▸F.dD) λq=>q.elim λz q=>(F.cell q.1 q.2).1
theorem yi.Y7(e:s.heap.get? a=some o)(q:MN c scope La Da cs a):c.M a:=q.elim id λq=>(F.EY q).elim (F.S.bs.xm a) λn=>ns n e
theorem yi.rep(r:Rep s.heap c.M u d):Rep h (MN c scope La Da cs) u d:=r.mono λa o n z e=>⟨F.kk a o e,λm=>n (F.Y7 e m)⟩
theorem yi.nx(m:c.M a)(n:¬c.X a):¬XN c scope La Da cs a:=λq=>(F.EY q).elim n λq=>(F.S.bs.gG a m).elim λz e=>ns q e
theorem yi.gG(m:c.M a):∃o,h.get? a=some o:=(F.S.bs.gG a m).imp λo e=>F.kk a o e
theorem yi.aeU(q:XN c scope La Da cs a):∃o,h.get? a=some o:=q.elim (λq=>F.gG (F.S.bs.xm a q)) λq=>q.elim (λe=>e▸(by let ⟨o,_,_,e,_⟩:=F.nL;exact⟨o,e⟩)) λq=>q.elim (λe=>e▸F.gD) λq=>q.elim λz q=>(F.cell q.1 q.2).2.1.imp λz q=>q.1
theorem yi.bs:Bs (c.into scope La cs (MN c scope La Da cs) (XN c scope La Da cs)) {s with heap:=h}:=
 ⟨
  λb o e=>F.kk b o (F.S.bs.keep b o e),F.S.bs.base,F.S.bs.room,λa m=>m.elim F.gG F.aeU,λa q=>.inr q,λa q=>q.elim (F.S.bs.kI a) λq=>(F.EY q).elim (F.S.bs.EY a) F.S.bs.u7,
  λa cn e=>have q:=F.S.bs.gg a cn e;⟨.inl q.1,F.nx q.1 q.2.1,q.2.2.mono F.rep (F.kk a)⟩,λa q=>have q:=F.S.bs.oq a q;⟨.inl q.1,F.nx q.1 q.2.1,q.2.2⟩,λa q=>.inl (F.S.bs.bm a q)⟩
theorem yi.no(hx:x∈cy scope)(hy:y∉cy scope)(lx:cs.lookup x=some a)(ly:cs.lookup y=some a):False:=(F.S.o7 y a (F.old hy ly)).elim λz q=>q.elim λz q=>ns (F.cell hx lx).1 q.1
theorem yi.st(zH:scope.kind=.function)(um:∀x∈scope.names,x.2=.free->(c.env.kindOf x.1=some .cell\/c.env.kindOf x.1=some .free)/\(ρ.lookup x.1).isSome=true)(nS:∀x,scope.names.lookup x=some .free->(x,vP)∈scope.names/\x∉cy scope)
 (Fc:∀x∈scope.names,x.2=.free->∃a,cl.lookup x.1=some a):St (c.into scope La cs (MN c scope La Da cs) (XN c scope La Da cs)) (pU scope ρ) {s with heap:=h}:=by
 intros c ρ scope La Da cs cl s h _ F zH um nS Fc;refine⟨F.bs,zH,F.S.globals,F.S.builtins,λx y a lx ly=>?_,λx a l=>?_,λx v e=>?_⟩
 .by_cases hx:x∈cy scope
  .by_cases hy:y∈cy scope
   .exact F.Qt x y a hx hy lx ly
   exact(F.no hx hy lx ly).elim
  by_cases hy:y∈cy scope
  .exact(F.no hy hx ly lx).elim
  exact F.S.inj x y a (F.old hx lx) (F.old hy ly)
 .by_cases hx:x∈cy scope
  .exact⟨_,(F.cell hx l).2.1⟩
  exact(F.S.o7 x a (F.old hx l)).imp λv ic=>ic.keeps F.kk
 have hv:=E9 (q:=λx=>scope.names.lookup x==some .free) e;have hq':scope.names.lookup x=some .free:=beq_iff_eq.mp hv.1;have hm:=nS x hq';refine aM λhN=>?_;obtain⟨h1,h2,u,h,r⟩:_:=F.S.vars x v hv.2;refine hN ?_;clear hN
 let ⟨a,la⟩:=Fc (x,.free) hm.1 aa;rcases h with⟨q,_⟩|⟨_,b,lb,ib⟩
 .exact(um (x,.free) hm.1 aa).1.elim (λk=>nomatch q.symm.trans k) λk=>nomatch q.symm.trans k
 obtain rfl:=eF ((F.MF x a la).symm.trans lb);exact⟨h1,h2,u,.inr ⟨pg hq',a,(F.ME x hm.2).trans la,ib.keeps F.kk⟩,r.mono F.rep⟩
theorem yi.lo:Lo (c.into scope La cs (MN c scope La Da cs) (XN c scope La Da cs)) {s with heap:=h}:=
 ⟨⟨_,F.nL⟩,λb q=>q.elim (λq=>.inr (.inl q)) λq=>.inr (.inr (.inr q)),λx hx=>(F.Sy x hx).imp λa q=>⟨_,q.1,q.2.2.1⟩⟩
theorem yi.y(q:(c.into scope La cs (MN c scope La Da cs) (XN c scope La Da cs)).Y b):s.heap.get? b=none:=q.elim (λe=>(show b=La from e)▸F.dL) λq=>q.elim λz q=>(F.cell q.1 q.2).1
theorem yi.yD(DL:Da≠La):¬(c.into scope La cs (MN c scope La Da cs) (XN c scope La Da cs)).Y Da:=λq=>q.elim DL λq=>q.elim λz q=>(F.cell q.1 q.2).2.2.1 aa
end
def qE{c:C}{ρ:List (Str×V)}{e:aU}{scope:ia}{pos:Pos}{KI:Sem aA}{yE:Obj->Prop}{tg iter:aU}{ifs:List aU}{gs:List yU}{use:Option (aA->Sem Unit)}{Q:aA->Shared->Prop}{ds:List D}
 {pV:C->Addr->Shared->List D->Prop} {inner:aA->Env->Sem Unit} {H:Addr->Prop} (outs:List (List D)) (jT:outs.length=ds.length) {s:Shared} (hH:∀b,H b->∃o,s.heap.get? b=some o)
 (he:Qp e) (Ca:clausesOf e=⟨tg,iter,ifs,0⟩::gs) (hT:∀it acc env,compTurn e 0 it acc env=r7 e 0 tg iter ifs (inner acc env) it acc env) (hs:∀x,foldedSetIterable iter c.env x=pure x)
 (zH:scope.kind=.function) (KJ:∀x∈scope.names,x.2=.local->scope.names.lookup x.1=some .local)
 (um:∀x∈scope.names,x.2=.free->(c.env.kindOf x.1=some .cell\/c.env.kindOf x.1=some .free)/\(ρ.lookup x.1).isSome=true) (nS:∀x,scope.names.lookup x=some .free->(x,vP)∈scope.names/\x∉cy scope)
 (S:St c ρ s) (gq:It c ρ iter ds)
 (iY:∀(ah:Shared) (Q':aA->Shared->Prop),(∀pq,yE pq->Q' (.ref ah.heap.objs.size) {ah with heap:=ah.heap.push pq})->wpAny c.m c.A KI Q' no ah) (Y8:∀pq,yE pq->pq.isFreed=false)
 (KL:∀c' ah Da pq,yE pq->ah.heap.get? Da=some pq->(∀b,H b->∃o,ah.heap.get? b=some o)->pV c' Da ah []) (hao:∀(c':C) Da,c'.X Da->¬c'.Y Da->wB c' Da (pV c' Da) H)
 (hb:∀La cs M X Da,(c.into scope La cs M X).X Da->¬(c.into scope La cs M X).Y Da->∀(i:Nat) d o,ds[i]?=some d->outs[i]?=some o->TB (c.into scope La cs M X) (pU scope ρ) tg ifs d (λρ'=>uE (c.into scope La cs M X) ρ' Da (pV (c.into scope La cs M X) Da) (inner (.ref Da) (c.into scope La cs M X).env) (outs.take i).flatten o) (o=[]))
 (hz:(outs.flatten).length<=ck)
 (hQ:∀(c':C) Da La s',c'.prog=c.prog->c'.w=c.w->(∀a,c.M a->c'.M a)->Kp s s'->s.heap.get? Da=none->s.heap.get? La=none->Da≠La->pV c' Da s' (outs.flatten)->(∃m,s'.heap.Ns La m)->(c'.M La)->(c'.M Da)->
  (match (generalizing:=false) use with
   |none=>∀h',kY La s'.heap h'->Q (.ref Da) {s' with heap:=h'}
   |some u=>wpAny c.m c.A (u (.ref Da)) (λz s''=>∃m,s''.heap.Ns La m/\∀h',kY La s''.heap h'->Q .none {s'' with heap:=h'}) no s')):
 wpAny c.m c.A (comprehension e scope c.env pos KI false (eval iter c.env) use) Q no s:=by
 intros c ρ e scope pos KI yE tg iter ifs _ gs use Q ds pV inner H outs jT s hH he Ca hT hs zH KJ um nS S gq iY Y8 KL hao hb hz hQ;intros gs use Q ds pV inner H outs s _ jT hH he Ca hT hs zH KJ um nS S gq iY Y8 KL hao hb hz hQ
 have aby:∀x∈scope.names,x.2=.free->∃a,c.env.cells.lookup x.1=some a:=λx hx hf=>by
  let ⟨hk,hr⟩:=um x hx hf;let ⟨v,hv⟩:=EG.mp hr;refine aM λhN=>?_;obtain⟨_,_,u,h,_⟩:_:=S.vars x.1 v hv;refine hN ?_;clear hN
  rcases h with⟨a,_⟩|⟨_,a,l,_⟩
  .rw[a] at hk;rcases hk with hk|hk<;>cases hk
  exact⟨a,l⟩
 let ⟨cl,Y9,MF,Fc⟩:=Fb scope c.env aby;intros cl _ Y9 MF Fc;refine wpAny_comprehension_free (g:=⟨tg,iter,ifs,0⟩) (gs:=gs) Ca hs Y9 zH KJ (bk (gq s S) (λx ah bF=>bk bF (λit aB bN=>?_)));intros x ah it aB _ bF bN;refine aM λhN=>?_;obtain⟨aV,zC,I,fp,wr,T,rfl,pA,E6,Qu,W,ht⟩:_:=bN;refine hN ?_;clear hN;intros I fp wr T _ aV zC pA E6 Qu W ht
 refine iY aB _ λpq hoa=>KH λAy MG=>?_;intros pq Ay _ hoa MG
 have Y8:=Y8 pq hoa;have sz:(aB.heap.push pq).objs.size=aB.heap.objs.size+1:=BR ..;obtain⟨Da,Ds⟩:∃Da,Da=aB.heap.objs.size:=⟨_,rfl⟩;intros Da _ Ds;obtain⟨La,Qv⟩:∃La,La=(aB.heap.push pq).objs.size:=⟨_,rfl⟩;intros La _ Qv;obtain⟨cs,Ql⟩:∃cs,cs=cellsFrom (La+1) scope.names cl:=⟨_,rfl⟩;intros cs _ Ql;have H3:((aB.heap.push pq).push {cls:=.type "dict",data:=.dict #[]}).objs.size=La+1:=by rw[Qv];exact BR ..
 let ⟨MH,ME,Qt⟩:=lR scope.names ((aB.heap.push pq).push {cls:=.type "dict",data:=.dict #[]}) cl;rw[H3,<-Ql,<-MG] at MH;rw[H3,<-Ql] at ME Qt
 have kk:∀b o,aB.heap.get? b=some o->Ay.get? b=some o:=λb o e=>by
  rw[MG];exact Jt _ _ _ _ (dS _ (dS _ e))
 have gD:Ay.get? Da=some pq:=by rw[MG,Ds];exact Jt _ _ _ _ (dS _ (fh _ Y8))
 have nL:Ay.Ns La (λz=>none):=by rw[MG,Qv];exact(Heap.Ns.new _ _).keeps (Jt _ _)
 have dD:aB.heap.get? Da=none:=by rw[Ds];exact bC _
 have dL:aB.heap.get? La=none:=by
  cases q:aB.heap.get? La with
  |none=>rfl
  |some o=>exact aK (gP q) (by rw[Qv,sz];exact jb.mpr (jr _))
 have DL:Da≠La:=ie (by rw[Ds,Qv,sz];exact qK _)
 have Sy:∀x∈cy scope,∃a,cs.lookup x=some a/\aB.heap.get? a=none/\Ay.IsCell a none/\a≠Da/\a≠La:=λx hx=>by
  let ⟨a,l,g,ic,le⟩:=MH x hx;have le':La+1<=a:=H3▸le;have lt':Da<La:=by rw[Ds,Qv,sz];exact qK _
  refine⟨a,l,?_,ic,Ec (Ed lt' le'),Ec le'⟩;cases q:aB.heap.get? a with
  |none=>rfl
  |some o=>exact ns g (dS _ (dS _ q))
 have F:yi c ρ scope La Da cs cl aB Ay:=⟨S.kp aV,kk,⟨_,gD⟩,nL,dD,dL,Sy,ME,Qt,MF⟩;have body:=hb La cs (MN c scope La Da cs) (XN c scope La Da cs) Da (.inr (.inr (.inl aa))) (F.yD DL);have ht4:T (MN c scope La Da cs) 0 Ay:=W.frame _ 0 aB.heap Ay (W.up c.M _ 0 aB.heap ht λa o e q=>F.Y7 e q) λb o z e=>kk b o e
 have adw:codeAny c.m c.A (.compStart e 0 (.ref I) (.ref Da) (c.into scope La cs (MN c scope La Da cs) (XN c scope La Da cs)).env) (compPost c.m c.A no use Q (.ref Da) La) {aB with heap:=Ay}:=by
  refine CW (c:=c.into scope La cs (MN c scope La Da cs) (XN c scope La Da cs)) he (tg:=tg) (iter:=iter) (ifs:=ifs) (by rw[Ca];rfl) ?_ (λQ' q=>W.self (MN c scope La Da cs) 0 _ Q' ht4 q);refine E5 (c:=c.into scope La cs (MN c scope La Da cs) (XN c scope La Da cs)) (done:=[]) outs jT he (hT _ _ _) W (hao _ Da (.inr (.inr (.inl aa))) (F.yD DL)) body (F.st zH um nS Fc) F.lo (KL _ _ Da pq hoa gD λb hb=>(hH b hb).imp λo e=>kk b o (aV.keep b o e)) ht4 (λb hb q=>(F.EY q).elim (E6 b hb) λq=>(Qu b hb).elim λz e=>ns q e) (λb hb=>S.bs.u7 (pA b hb)) (λb hb q=>(Qu b (W.sub b hb)).elim λo e=>S.bs.new (pA b hb) (F.Y7 e q)) (λb hb q=>(hH b q).elim λz e=>ns (pA b hb) e) (λb q hb=>(hH b hb).elim λo e=>ns (F.y q) (aV.keep b o e)) (by simpa using hz) λfl mW wF Ax vc Sz=>?_;intros fl mW _ wF Ax vc Sz
  have fin:=hQ (c.into scope La cs (MN c scope La Da cs) (XN c scope La Da cs)) Da La mW aa aa (λa m=>.inl m) ⟨wF.gens.trans aV.gens,wF.os.trans aV.os,λb o e=>wF.keep b o (λq=>q.elim (λq=>q.elim (λq=>ns (F.y q) (aV.keep b o e)) λq=>ns dD (q▸aV.keep b o e)) λq=>ns (pA b q) e) (kk b o (aV.keep b o e))⟩ (dQ aV dD) (dQ aV dL) DL (by simpa using Sz) vc.ns (.inr (.inr (.inl aa))) (.inr (.inr (.inr (.inl aa))));cases use with
  |none=>exact⟨vc.ns.choose,vc.ns.choose_spec,fin⟩
  |some u=>exact fin
 subst Ds Qv Ql;exact adw
open Mine.IA renaming ok->Qw
def yh.nest{c:C}{ρ:List (Str×V)}{Da:Addr}{mh:Shared->List D->Prop}{e:aU}{depth:Nat}{acc:aA}{tg iter:aU}{ifs:List aU}{inner:Sem Unit}{ds:List D}{outs:List (List D)}(jT:outs.length=ds.length)
 (he:Qp e) (hg:(clausesOf e)[depth+1]?=some ⟨tg,iter,ifs,0⟩) (hT:∀it,compTurn e (depth+1) it acc c.env=r7 e (depth+1) tg iter ifs inner it acc c.env) (hs:∀x,foldedSetIterable iter c.env x=pure x) (ha:wB c Da mh (λz=>False)) (gq:It c ρ iter ds)
 (hb:∀(i:Nat) d o,ds[i]?=some d->outs[i]?=some o->TB c ρ tg ifs d (λρ'=>yh c ρ' Da mh inner o) (o=[])):
 yh c ρ Da mh (As e depth iter acc c.env) outs.flatten:=λs done S L r8 hz=>by
 unfold As;refine aF (bk (gq s S) (λx ah bF=>aF (jC (aF (sy (hs x) (aF (e9 (bk bF (λit aB bN=>?_)))))))));refine aM λhN=>?_;obtain⟨aV,zC,I,fp,wr,T,rfl,pA,E6,Qu,W,ht⟩:_:=bN;refine hN ?_
 have b7:=S.kp aV;have cO:=L.kp aV.keep;have wn:∀b∈wr,c.h₀.get? b=none:=λb hb=>S.bs.u7 (pA b hb)
 have wm:∀b∈wr,¬c.M b:=λb hb=>S.bs.new (pA b hb)
 have abz:mh aB done:=ha.wC s aB _ r8 (λo e=>aV.keep _ o e) (λa o z z e=>aV.keep a o e) λa o n z=>n.elim
 refine aF (wpAny_runOwn (OB (R:=λr s'=>∃fl,r=.ok fl/\YX c ρ Da mh s (done++outs.flatten) () s') ?_ λr s' q1=>by let ⟨fl,hr,q⟩:=q1;exact by subst hr;exact bx q));refine CW (c:=c) he hg ?_ (λQ' q=>W.self c.M 0 _ Q' ht q);refine E5 outs jT he (hT _) W ha (λi d o h1 h2=>let ⟨tb,b,a1,a2,a3,a4,a5⟩:=hb i d o h1 h2;⟨tb,b,a1,a2,a3,λh=>(a4 h).at,a5⟩) b7 cO abz ht E6 wn wm (λz z h=>h) (λz z h=>h) hz λfl mW wF Ax vc Sz=>⟨fl,rfl,⟨?_,Ax,vc,Sz⟩⟩
 exact⟨wF.gens.trans aV.gens,wF.os.trans aV.os,λb o n e=>wF.keep b o (λh=>h.elim n λh=>ns (pA b h) e) (aV.keep b o e)⟩
def r9(kd:Str->Option D6)(has:Str->Bool)(scope:ia):Bool:=
 scope.kind==.function&&scope.names.all λx=>match x.2 with
  |.local=>scope.names.lookup x.1==some .local
  |.free=>(kd x.1==some .cell||kd x.1==some .free)&&has x.1&&!(cy scope).contains x.1
  |_=>true
def MI{α:Type}:∀{l:List (Str×α)} {n:Str} {v:α},l.lookup n=some v->(n,v)∈l:=mem_of_lookup
def oA(h:r9 kd has scope=true):scope.kind=.function/\(∀x∈scope.names,x.2=.local->scope.names.lookup x.1=some .local)/\
 (∀x∈scope.names,x.2=.free->(kd x.1=some .cell\/kd x.1=some .free)/\has x.1=true)/\(∀x,scope.names.lookup x=some .free->(x,vP)∈scope.names/\x∉cy scope):=by
 simp only[r9,iT,beq_iff_eq,En] at h;let ⟨hk,ha⟩:=h;refine⟨hk,λx hx e=>?_,λx hx e=>?_,λx l=>?_⟩
 .have:=ha x hx;rw[e] at this;simpa using this
 .have:=ha x hx;rw[e] at this;simp only[iT,Pn,beq_iff_eq] at this;exact⟨this.1.1,this.1.2⟩
 have hm:=mem_of_lookup l;have:=ha _ hm;simp only[iT,ud] at this;refine⟨hm,λhc=>?_⟩;have q:=this.2;rw[t8.mpr hc] at q;cases q
section
variable {c:C}{ρ:List (Str×V)}{e e₁ e₂ Mz:aU}{v v₁ v₂:V}{pos p:Pos}
def Qx(it acc:aA)(env:Env):
 compTurn (.ListComp dw [⟨tg,iter,ifs,0⟩] scope pos) 0 it acc env=r7 (.ListComp dw [⟨tg,iter,ifs,0⟩] scope pos) 0 tg iter ifs (lQ (.ListComp dw [⟨tg,iter,ifs,0⟩] scope pos) acc env) it acc env:=
 rfl
def Fd{dw tg iter:aU}{ifs:List aU}{scope:ia}{use:Option (aA->Sem Unit)}{Q:aA->Shared->Prop}{s:Shared}{ds:List D}{outs:List (List D)}(jT:outs.length=ds.length)(hz:outs.flatten.length<=ck)(S:St c ρ s)(gq:It c ρ iter ds)
 (hb:∀La cs M X (i:Nat) d o,ds[i]?=some d->outs[i]?=some o->TB (c.into scope La cs M X) (pU scope ρ) tg ifs d (λρ'=>∃x,Ev (c.into scope La cs M X) ρ' dw (.d x)/\o=[x]) (o=[]))
 (mj:r9 c.env.kindOf (λx=>(ρ.lookup x).isSome) scope=true) (hs:∀x,foldedSetIterable iter c.env x=pure x)
 (hQ:∀Da La s' vs,Kp s s'->s.heap.get? Da=none->s.heap.get? La=none->PL s'.heap Da vs->aC s'.heap (λa=>(c.M a\/a=La)\/a=Da) vs.toList outs.flatten->(∃m,s'.heap.Ns La m)->Da≠La->
  (match (generalizing:=false) use with
   |none=>∀h',kY La s'.heap h'->Q (.ref Da) {s' with heap:=h'}
   |some u=>wpAny c.m c.A (u (.ref Da)) (λy s''=>∃m,s''.heap.Ns La m/\∀h',kY La s''.heap h'->Q .none {s'' with heap:=h'}) no s')):
 wpAny c.m c.A (comprehension (.ListComp dw [⟨tg,iter,ifs,0⟩] scope pos) scope c.env p (newList []) false (eval iter c.env) use) Q no s:=by
 let ⟨h1,h2,h3,h4⟩:=oA mj;refine qE (H:=λy=>False) (hH:=λy h=>h.elim) (pV:=IA) (inner:=λacc env=>lQ (.ListComp dw [⟨tg,iter,ifs,0⟩] scope pos) acc env) (yE:=λo=>o={cls:=.type "list",data:=.seq #[]}) outs jT .l aa Qx hs h1 h2 h3 h4 S gq
  (λah Q' q=>D7 (q _ aa) (by decide)) (λo e=>by subst e;rfl) (λc' ah Da o e g y=>by subst e;exact⟨#[],⟨0,g⟩,by decide,.nil⟩) (λc' Da hx hy=>Qw hx hy) ?_ hz ?_
 .intro La cs M X Da hx hy i d o hd ho;refine aM λhN=>?_;obtain⟨tb,b,t1,t2,t3,t4,t5⟩:_:=hb La cs M X i d o hd ho;refine hN ?_
  refine⟨tb,b,t1,t2,t3,λe=>?_,t5⟩;let ⟨x,ev,zy⟩:=t4 e;exact(yh.Y5 hx hy ev).at
 intro c' Da La s' _ _ hm k hD hL sV z2 hn Dt KN;let ⟨vs,i,z,r⟩:=z2;exact hQ Da La s' vs k hD hL i (r.qh λa h=>h.elim (λh=>h.elim (hm a) λe=>e▸Dt) λe=>e▸KN) hn sV
def jf.comp{dw tg iter:aU}{ifs:List aU}{scope:ia}{ds:List D}{outs:List (List D)}(jT:outs.length=ds.length)(hz:outs.flatten.length<=ck)(gq:It c ρ iter ds)
 (hb:∀La cs M X (i:Nat) d o,ds[i]?=some d->outs[i]?=some o->TB (c.into scope La cs M X) (pU scope ρ) tg ifs d (λρ'=>∃x,Ev (c.into scope La cs M X) ρ' dw (.d x)/\o=[x]) (o=[]))
 (mj:r9 c.env.kindOf (λx=>(ρ.lookup x).isSome) scope=true) (hs:∀x,foldedSetIterable iter c.env x=pure x):jf c ρ (.ListComp dw [⟨tg,iter,ifs,0⟩] scope pos) outs.flatten:=λs S=>by
 rw[eval_ListComp];refine Fd jT hz S gq hb mj hs λDa La s' vs k hD hL i r hn sV h' sb=>?_
 have kk:∀b o,b≠La->s'.heap.get? b=some o->h'.get? b=some o:=λb o n e=>(sb.2 b n).trans e
 refine⟨⟨k.gens,k.os,λb o e=>kk b o (λq=>ns (q▸hL) e) (k.keep b o e)⟩,Da,vs,rfl,hD,i.at λo e=>kk Da o sV e,hz,r.mono λa o n z e=>⟨kk a o (λq=>n (.inl (.inr q))) e,λm=>n (m.imp .inl id)⟩⟩
theorem jf.map{T:Type}{ts:List T}{enc g:T->D}{q:T->Bool}{dw tg iter:aU}{ifs:List aU}{scope:ia}(gq:It c ρ iter (ts.map enc))
 (hb:∀La cs M X t,t∈ts->∃tb,wA (c.into scope La cs M X) tg (enc t) tb/\(∀p∈tb,(pU scope ρ).lookup p.1=none)/\qj (c.into scope La cs M X) (tb++pU scope ρ) ifs (q t)/\(q t=true->Ev (c.into scope La cs M X) (tb++pU scope ρ) dw (.d (g t))))
 (hz:ts.length<=ck) (mj:r9 c.env.kindOf (λx=>(ρ.lookup x).isSome) scope=true) (hs:autoParam (∀x,foldedSetIterable iter c.env x=pure x) HE):jf c ρ (.ListComp dw [⟨tg,iter,ifs,0⟩] scope pos) ((ts.filter q).map g):=by
 have Fe:(ts.map λt=>if q t then[g t] else[]).flatten=(ts.filter q).map g:=by
  clear gq hb hz
  induction ts with
  |nil=>rfl
  |cons t ts ih=>cases h:q t<;>simp[h,ih]
 rw[<-Fe];refine jf.comp (by simp) ?_ gq (λLa cs M X i d o hd ho=>?_) mj hs
 .rw[Fe,aR];exact aG (sD _ _) hz
 rw[dh] at hd ho;cases ht:ts[i]? with
 |none=>rw[ht] at hd;cases hd
 |some t=>
  rw[ht] at hd ho;simp only[zu,zj] at hd ho;subst hd ho;let ⟨tb,h1,h2,h3,h4⟩:=hb La cs M X t (jK ht);exact⟨tb,q t,h1,h2,h3,λe=>⟨_,h4 e,by rw[aq e]⟩,λe=>by rw[e];rfl⟩
end
open Mine.jf renaming map->wH
abbrev Nm:=List (Str×V)
structure Ext(c:C)(s:Shared)(c':C)(s':Shared):Prop where
 eq:c'={c with M:=c'.M,σ:=c'.σ,wr:=c'.wr}
 kx:Kx (λb=>c.wr b\/c.Y b) s s'
 al:∀a o,s.heap.get? a=some o->∃o',s'.heap.get? a=some o'
 m:∀a o,s.heap.get? a=some o->c'.M a->c.M a
 w:∀a o,s.heap.get? a=some o->c'.wr a->c.wr a
 wb:∀a,c.B a->c.wr a->c'.wr a
 sg:∀a o cn,s.heap.get? a=some o->c.B a->¬c.wr a->c.σ a=some cn->c'.σ a=some cn
 sn:∀a o cn,s.heap.get? a=some o->c'.σ a=some cn->∃eL,c.σ a=some eL
 nw:∀a cn,c'.σ a=some cn->¬c'.wr a->(∃eL,c.σ a=some eL)/\¬c.wr a
def Ext.of(k:Kx (λb=>c.wr b\/c.Y b) s s')(al:∀a o,s.heap.get? a=some o->∃o',s'.heap.get? a=some o'):Ext c s c s':=
 ⟨rfl,k,al,λz z z h=>h,λz z z h=>h,λz z h=>h,λz z z z z z h=>h,λz z cn z h=>⟨cn,h⟩,λz cn h n=>⟨⟨cn,h⟩,n⟩⟩
def Ext.u9(k:Kp s s'):Ext c s c s':=.of k.kx λa o e=>⟨o,k.keep a o e⟩
theorem Ext.refl:Ext c s c s:=.u9 (jM s)
theorem Ext.Y(x:Ext c s c' s'):c'.Y=c.Y:=by rw[x.eq];rfl
theorem Ext.B(x:Ext c s c' s'):c'.B=c.B:=by rw[x.eq]
theorem Ext.trans(x:Ext c s c' s')(y:Ext c' s' k8 s''):Ext c s k8 s'':=by
 refine⟨by rw[y.eq,x.eq],⟨y.kx.gens.trans x.kx.gens,y.kx.os.trans x.kx.os,λb o n e=>?_⟩,λa o e=>?_,λa o e h=>?_,λa o e h=>?_,λa hb h=>?_,λa o cn eo hb hn e=>?_,λa o cn eo e=>?_,λa cn e n=>?_⟩
 .refine y.kx.keep b o (λh=>n ?_) (x.kx.keep b o n e);rcases h with h|h
  .exact .inl (x.w b o e h)
  exact .inr (x.Y▸h)
 .let ⟨o',e'⟩:=x.al a o e;exact y.al a o' e'
 .let ⟨o',e'⟩:=x.al a o e;exact x.m a o e (y.m a o' e' h)
 .let ⟨o',e'⟩:=x.al a o e;exact x.w a o e (y.w a o' e' h)
 .exact y.wb a (x.B▸hb) (x.wb a hb h)
 .let ⟨o',e'⟩:=x.al a o eo;exact y.sg a o' cn e' (x.B▸hb) (λh=>hn (x.w a o eo h)) (x.sg a o cn eo hb hn e)
 .let ⟨o',e'⟩:=x.al a o eo;let ⟨eL,e''⟩:=y.sn a o' cn e' e;exact x.sn a o eL eo e''
 let ⟨z2,n'⟩:=y.nw a cn e n;let ⟨eL,e'⟩:=z2;exact x.nw a eL e' n'
abbrev C.set(c:C)(M:Addr->Prop)(σ:Addr->Option Cn)(wr:Addr->Prop):C:={c with M:=M,σ:=σ,wr:=wr}
def WS(c:C):List (List Stmt)->(sA->Shared->Prop)->Shared->Prop
 |[],Q,s=>Q .next s
 |ss::k,Q,s=>wpAny c.m c.A (execs ss c.env) (λf s'=>match f with|.next=>WS c k Q s'|f=>Q f s') no s
inductive vd(c:C)(s:Shared)(P:C->Nm->Prop)(R:C->D->Prop):sA->Shared->Prop
 |next {s':Shared} (c':C) (X:Ext c s c' s') (ρ':Nm) (S:St c' ρ' s') (L:Lo c' s') (h:P c' ρ'):vd c s P R .next s'
 |ret {s':Shared} (c':C) (X:Ext c s c' s') (u:aA) (d:D) (B:Bs c' s') (r:Rep s'.heap c.B u d) (h:R c' d):vd c s P R (.ret u) s'
def Ex(c:C)(ρ:Nm)(k:List (List Stmt))(P:C->Nm->Prop)(R:C->D->Prop):Prop:=∀s,St c ρ s->Lo c s->WS c k (vd c s P R) s
theorem WS.mono(h:∀f s,Q f s->Q' f s):∀{k:List (List Stmt)} {s:Shared},WS c k Q s->WS c k Q' s
 |[],s,x=>h _ _ x
 |ss::k,s,x=>bk x (λf s' q=>by cases f<;>first|exact WS.mono h q|exact h _ _ q)
theorem WS.env(h:c'={c with M:=c'.M,σ:=c'.σ,wr:=c'.wr}):∀{k:List (List Stmt)} {Q:sA->Shared->Prop} {s:Shared},WS c' k Q s->WS c k Q s
 |[],Q,s,x=>x
 |ss::k,Q,s,x=>by
  have e1:c'.m=c.m:=by rw[h]
  have e2:c'.A=c.A:=by rw[h]
  have e3:c'.env=c.env:=by rw[h]
  unfold WS at x⊢;rw[e1,e2,e3] at x;refine bk x (λf s' q=>?_);cases f<;>first|exact q|exact WS.env h q
theorem vd.trans(x:Ext c s c' s')(h:vd c' s' P R f s''):vd c s P R f s'':=by
 cases h with
 |next k8 X ρ' S L h=>exact .next k8 (x.trans X) ρ' S L h
 |ret k8 X u d B r h=>exact .ret k8 (x.trans X) u d B (x.B▸r) h
def Ex.go(h:Ex c' ρ k P R)(x:Ext c s c' s')(S:St c' ρ s')(L:Lo c' s'):WS c k (vd c s P R) s':=
 WS.env x.eq ((h s' S L).mono λf s'' q=>q.trans x)
section
variable {c:C}{ρ:Nm}{k:List (List Stmt)}{rest:List Stmt}{P:C->Nm->Prop}{R:C->D->Prop}{e e₁ e₂:aU}{v:V}{pos p:Pos}{x:Str}
def Ex.done(h:P c ρ):Ex c ρ [] P R:=λs S L=>.next c .refl ρ S L h
def Ex.pop(h:Ex c ρ k P R):Ex c ρ ([]::k) P R:=λs S L=>by
 unfold WS;exact V8 (h s S L)
def Ex.body{ss:List Stmt}(h:Ex c ρ [ss] P R){s:Shared}(S:St c ρ s)(L:Lo c s){K:sA->Shared->Prop}(kn:∀c' ρ' s',Ext c s c' s'->St c' ρ' s'->Lo c' s'->P c' ρ'->K .next s')
 (kr:∀c' s' u d,Ext c s c' s'->Bs c' s'->Rep s'.heap c.B u d->R c' d->K (.ret u) s'):wpAny c.m c.A (execs ss c.env) K no s:=by
 have h:=h s S L;unfold WS at h;refine bk h (λf s' q=>?_);replace q:vd c s P R f s':=by cases f<;>exact q
 cases q with
 |next c' X ρ' S' L' hp=>exact kn c' ρ' s' X S' L' hp
 |ret c' X u d B r hr=>exact kr c' s' u d X B r hr
theorem Ex.mono(h:Ex c ρ k P R)(hp:∀c ρ,P c ρ->P' c ρ)(hr:∀c d,R c d->R' c d):Ex c ρ k P' R':=λs S L=>
 (h s S L).mono λf s' q=>by
  cases q with
  |next c' X ρ' S' L' h=>exact .next c' X ρ' S' L' (hp _ _ h)
  |ret c' X u d B r h=>exact .ret c' X u d B r (hr _ _ h)
def Ex.gen(h:∀P R,(∀c ρ,pB c ρ->P c ρ)->(∀c d,yF c d->R c d)->Ex c ρ k P R):Ex c ρ k pB yF:=h _ _ (λz z h=>h) λz z h=>h
def Ex.aeV(h:∀P,(∀c ρ,pB c ρ->P c ρ)->Ex c ρ k P R):Ex c ρ k pB R:=h _ λz z h=>h
def Ex.Qy{st:Stmt}(h:∀s,St c ρ s->Lo c s->∀Q:sA->Shared->Prop,(∀c' ρ' s',Ext c s c' s'->St c' ρ' s'->Lo c' s'->Ex c' ρ' (rest::k) P R->Q .next s')->
 (∀c' s' u d,Ext c s c' s'->Bs c' s'->Rep s'.heap c.B u d->R c' d->Q (.ret u) s')->wpAny c.m c.A (exec st c.env) Q no s):Ex c ρ ((st::rest)::k) P R:=λs S L=>by
 unfold WS;exact D8 (h s S L _ (λc' ρ' s' x S' L' r=>r.go x S' L') λc' s' u d x B r hr=>vd.ret c' x u d B r hr)
def Ex.stmt{st:Stmt}(h:∀s,St c ρ s->Lo c s->wpAny c.m c.A (exec st c.env) (λf s'=>∃c' ρ',f=.next/\Ext c s c' s'/\St c' ρ' s'/\Lo c' s'/\Ex c' ρ' (rest::k) P R) no s):Ex c ρ ((st::rest)::k) P R:=
 Ex.Qy λs S L Q qn z=>bk (h s S L) (λf s' q=>by
  let ⟨c',ρ',zy,x,S',L',r⟩:=q;exact qn c' ρ' s' x S' L' r)
def Ex.ifs{body orelse:List Stmt}{b:Bool}(h:iH c ρ e b)(h1:b=true->Ex c ρ (body::rest::k) P R)(h2:b=false->Ex c ρ (orelse::rest::k) P R):Ex c ρ ((.If e body orelse pos::rest)::k) P R:=by
 intros c ρ k rest P R e pos body orelse b _ h h1 h2;exact λs S L=>by
  unfold WS;refine D8 (wpAny_If (bk (h s S) (λx s' q=>?_)));refine aM λhN=>?_;obtain⟨kp,rfl⟩:_:=q;refine hN ?_
  have S':=S.kp kp;have L':=L.kp kp.keep;cases x with
  |true=>rw[aq aa];exact bk ((h1 aa).go (.u9 kp) S' L') (λf s'' q=>by cases f<;>exact q)
  |false=>rw[ay (by decide)];exact bk ((h2 aa).go (.u9 kp) S' L') (λf s'' q=>by cases f<;>exact q)
def St.b(S:St c ρ s)(r:Rep s.heap c.M u d):Rep s.heap c.B u d:=r.qh S.bs.bm
structure RO(M:Addr->Prop)(s:Shared)(d:D)(x:aA)(s':Shared):Prop where
 k:Kp s s'
 r:Rep s'.heap M x d
def HN(c:C)(ρ:Nm)(e:aU)(d:D):Prop:=∀s,St c ρ s->wpAny c.m c.A (eval e c.env) (RO c.B s d) no s
def HN.of(h:Ev c ρ e (.d d)):HN c ρ e d:=λs S=>bk (h s S) (λx s' o1=>⟨o1.k,(S.kp o1.k).b o1.r⟩)
theorem HN.lst(h:Ev c ρ e (.r a))(ha:c.σ a=some (.l ds))(hb:¬c.B a):HN c ρ e (.lst ds):=λs S=>bk (h s S) (λx s' o1=>⟨o1.k,by
 obtain rfl:x=.ref a:=o1.r;refine aM λhN=>?_;obtain⟨_,_,vs,i,z,q⟩:_:=(S.bs.kp o1.k).gg a _ ha;refine hN ?_
 exact .lst i hb z (q.qh S.bs.bm)⟩)
def uF(c:C)(ρ:Nm)(es:List aU)(ds:List D):Prop:=
 ∀s pos,St c ρ s->wpAny c.m c.A (spliced (backTo pos (starEach es c.env))) (acs c.B s ds) no s
theorem uF.nil:uF c ρ [] []:=λs pos z=>vQ ⟨jM s,.nil⟩
theorem uF.cons{x:D}{es:List aU}{ds:List D}(h:HN c ρ e x)(r:uF c ρ es ds)(hs:autoParam (bJ e=false) bu):uF c ρ (e::es) (x::ds):=λs pos S=>by
 rw[bO _ hs];refine sM (bk (h s S) (λu ah o1=>?_));exact bk (r ah pos (S.kp o1.k)) (λus aB o2=>⟨o1.k.trans o2.k,.cons (zD o1.r o2.k.keep) o2.r⟩)
theorem HN.tup{es:List aU}{ds:List D}{n:Nat}(h:uF c ρ es ds)(hz:ds.length<=ck:=by exact bz aa):HN c ρ (.Tuple es n pos) (.tup ds):=λs S=>by
 refine Jr (bk (h s pos S) (λus ah o1=>⟨by rw[o1.r.length];exact eH hz,o1.k.trans (jw ah _),?_⟩));exact .tup ⟨0,fh _ aa⟩ (λh=>(S.bs.kp o1.k).size (S.bs.bm _ h)) hz (o1.r.keep λz z e=>dS _ e)
theorem Ex.ret(h:HN c ρ e d)(hr:R c d):Ex c ρ ((.Return (some e) pos::rest)::k) P R:=λs S L=>by
 unfold WS;refine D8 (V9 (bk (h s S) (λu s' o1=>?_)));exact vd.ret c (.u9 o1.k) u d (S.bs.kp o1.k) o1.r hr
def Ex.Za(hr:R c .none):Ex c ρ ((.Return none pos::rest)::k) P R:=λs S L=>by
 unfold WS;exact D8 (wpAny_Return_none (vd.ret c .refl _ .none S.bs .none hr))
def Ext.Ff(k:Kx c.Y s s')(S:St c ρ s)(L:Lo c s)(S':St c ρ' s'):Ext c s c s':=.of (k.mono λz h=>.inr h) λa o e=>by
 by_cases h:c.Y a
 .exact S'.bs.gG a (S.bs.xm a (L.yx a h))
 exact⟨o,k.keep a o h e⟩
def Ex.assign(h:Ev c ρ e v)(hx:uD c x)(r:Ex c ((x,v)::ρ) (rest::k) P R)(hs:autoParam (swapsWith e (some (.Name x p)) pos.line c.env=pure false) bu):Ex c ρ ((.Assign [.Name x p] e pos::rest)::k) P R:=
 Ex.stmt λs S L=>OO (bk (h s S) (λu ah o1=>(S.kp o1.k).store (L.kp o1.k.keep) hx o1.r λaB aV b7 cO=>
  ⟨c,_,rfl,(Ext.u9 o1.k).trans (.Ff aV (S.kp o1.k) (L.kp o1.k.keep) b7),b7,cO,r⟩)) hs
end
open Mine.Ex renaming pop->aT,ifs->cP,done->dM,assign->gS,ret->jX,stmt->pW
open Mine.C renaming set->jY
open Mine.Ext renaming u9->kL
open Mine.HN renaming of->kM,lst->KO,tup->Qz
open Mine.uF renaming cons->Cf,nil->QA
noncomputable def C.upd(c:C)(a:Addr)(cn:Cn):C:={c with σ:=λb=>if b=a then some cn else c.σ b}
noncomputable def C.add(c:C)(a:Addr)(cn:Cn):C:={c with M:=λb=>c.M b\/b=a,σ:=λb=>if b=a then some cn else c.σ b,wr:=λb=>c.wr b\/b=a}
def zI{d:Data}{es:Array tY}{ep:Nat}{v:Option aA}(h:d=.dict es ep)(h':d=.cell v):False:=nomatch h.symm.trans h'
def Cg{d:Data}{es:Array (Int×aA)}{ep:Nat}{t:yQ}{v:Option aA}(h:d=.set es ep t)(h':d=.cell v):False:=nomatch h.symm.trans h'
def Fg{prog:Program}{w:World}{K:Type}[DecidableEq K]{knd:KeyKind prog w K}{h:cC}{a:Addr}{us:List (K×aA)}(d:h.DictOf knd a us):∃o,h.get? a=some o/\∀v,o.data≠.cell v:=by
 let ⟨o,es,ep,ho,_,hd,_⟩:=d;exact⟨o,ho,λv e=>zI hd e⟩
def PL.nc(i:PL h a vs):∃o,h.get? a=some o/\∀v,o.data≠.cell v:=i.elim λn i=>⟨_,i,λv e=>nomatch e⟩
def CR.rt{g:G0}{M:Addr->Prop}{h:cC}{a:Addr}{cn:Cn}(r:CR g M h a cn):∃o,h.get? a=some o/\∀v,o.data≠.cell v:=by
 intros g M h a cn _ r;cases cn with
 |l ds=>exact r.elim λvs q=>q.1.nc
 |v ws=>exact r.elim λvs q=>q.1.nc
 |i kvs=>exact r.elim λus q=>Fg q.1
 |s ks=>let ⟨z2,_⟩:=r;let ⟨o,es,ep,t,ho,_,hd,_⟩:=z2;exact⟨o,ho,λv e=>Cg hd e⟩
 |k kvs=>exact r.elim λus q=>Fg q.1
 |o d=>exact⟨_,r,λv e=>nomatch e⟩
 |t bX=>exact r.elim λes q=>q.elim λn q=>⟨_,q.1,λv e=>nomatch e⟩
def DI{c:C}{a b:Addr}{cn eL:Cn}(e:(c.upd a cn).σ b=some eL):(b=a/\cn=eL)\/(b≠a/\c.σ b=some eL):=
 dite (b=a) (λh=>.inl ⟨h,eF ((aq h).symm.trans e)⟩) λh=>.inr ⟨h,(ay h).symm.trans e⟩
def MJ{c:C}{a b:Addr}{cn eL:Cn}(e:c.σ b=some eL):∃eL,(c.upd a cn).σ b=some eL:=dite (b=a) (λh=>⟨cn,aq h⟩) λh=>⟨eL,(ay h).trans e⟩
theorem St.upd{c:C}{ρ:Nm}{s s':Shared}{a:Addr}{Zb cn:Cn}(S:St c ρ s)(L:Lo c s)(hw:c.wr a)(h₀:c.σ a=some Zb)(k:Kx (·=a) s s')(cr:CR c.toG0 c.M s'.heap a cn):St (c.upd a cn) ρ s'/\Lo (c.upd a cn) s'/\Ext c s (c.upd a cn) s':=by
 intros c ρ s s' a Zb cn _ S L hw h₀ k cr;have p:=S.bs.gg a _ h₀;have hr:∀{u:aA} {d:D},Rep s.heap c.M u d->Rep s'.heap c.M u d:=λr=>zG k.keep (λb e=>e▸p.1) r
 have al:∀b o,s.heap.get? b=some o->∃o',s'.heap.get? b=some o':=λb o e=>dite (b=a) (λh=>h▸cr.rt.imp λz q=>q.1) λh=>⟨o,k.keep b o h e⟩
 have B:Bs (c.upd a cn) s':=⟨λb o e=>k.keep b o (λq=>ns (S.bs.kI b (q▸p.1)) e) (S.bs.keep b o e),S.bs.base,S.bs.room,λb m=>(S.bs.gG b m).elim (al b),S.bs.xm,S.bs.kI,
  λb eL e=>(DI e).elim (λq=>by let ⟨zy,zy⟩:=q;exact⟨p.1,p.2.1,cr⟩) λq=>have h:=S.bs.gg b _ q.2;⟨h.1,h.2.1,h.2.2.mono hr λo=>k.keep b o q.1⟩,λb h=>have q:=S.bs.oq b h;⟨q.1,q.2.1,q.2.2.elim λz e=>MJ e⟩,S.bs.bm⟩
 have G:=S.gen (M':=c.M) (σ':=(c.upd a cn).σ) (wr':=c.wr) (B':=c.B) L B (Cd k λb u i m=>p.2.2.rt.elim λo q=>i.elim λo' q'=>q.2 u (eF (q'.1.symm.trans (m▸q.1))▸q'.2)) (λo e=>k.keep _ o (λe=>p.2.1 (L.yx a (.inl e.symm))) e) hr;exact⟨G.1,G.2,rfl,⟨k.gens,k.os,λb o n e=>k.keep b o (λh=>n (.inl (h▸hw))) e⟩,al,λz z z h=>h,λz z z h=>h,λz z h=>h,λb o eL eo hb hn e=>(ay λh:b=a=>hn (h▸hw)).trans e,λb o eL eo e=>(DI e).elim (λq=>⟨_,q.1▸h₀⟩) λq=>⟨_,q.2⟩,λb eL e n=>(DI e).elim (λq=>aK (q.1▸hw) n) λq=>⟨⟨_,q.2⟩,n⟩⟩
def Bs.xQ(B:Bs c s)(h:s.heap.get? a=none):c.σ a=none:=by
 cases e:c.σ a with
 |none=>rfl
 |some cn=>exact aK (B.gg a cn e).1 (B.new h)
def KP{c:C}{a b:Addr}{cn eL:Cn}(e:(c.add a cn).σ b=some eL):(b=a/\cn=eL)\/(b≠a/\c.σ b=some eL):=DI e
theorem St.add{c:C}{ρ:Nm}{s s':Shared}{a:Addr}{cn:Cn}(S:St c ρ s)(L:Lo c s)(kp:Kp s s')(new:s.heap.get? a=none)(cr:CR c.toG0 (λb=>c.M b\/b=a) s'.heap a cn):St (c.add a cn) ρ s'/\Lo (c.add a cn) s'/\Ext c s (c.add a cn) s':=by
 intros c ρ s s' a cn _ S L kp new cr;have na:=S.bs.new new;have hr:∀{u:aA} {d:D},Rep s.heap c.M u d->Rep s'.heap (λb=>c.M b\/b=a) u d:=λr=>r.mono λb o n z e=>⟨kp.keep b o e,λh=>h.elim n λh=>ns (h▸new) e⟩
 have B:Bs (c.add a cn) s':=⟨λb o e=>kp.keep b o (S.bs.keep b o e),S.bs.base,S.bs.room,λb m=>m.elim (λm=>(S.bs.gG b m).imp λo e=>kp.keep b o e) λe=>e▸cr.rt.imp λz q=>q.1,λb h=>.inl (S.bs.xm b h),λb m=>m.elim (S.bs.kI b) λe=>S.bs.u7 (e▸new),
  λb eL e=>(KP e).elim (λq=>by let ⟨zy,zy⟩:=q;exact⟨.inr aa,λx=>na (S.bs.xm _ x),cr⟩) λq=>have h:=S.bs.gg b _ q.2;⟨.inl h.1,h.2.1,h.2.2.mono hr (kp.keep b)⟩,
  λb h=>h.elim (λh=>have q:=S.bs.oq b h;⟨.inl q.1,q.2.1,q.2.2.elim λz e=>MJ e⟩) λh=>by subst h;exact⟨.inr aa,λx=>na (S.bs.xm _ x),cn,aq aa⟩,λb h=>.inl (S.bs.bm b h)⟩
 have G:=S.gen (M':=λb=>c.M b\/b=a) (σ':=(c.add a cn).σ) (wr':=λb=>c.wr b\/b=a) (B':=c.B) L B (λb u i=>i.keeps kp.keep) (λo e=>kp.keep _ o e) hr;exact⟨G.1,G.2,rfl,kp.kx,λb o e=>⟨o,kp.keep b o e⟩,λb o e h=>h.elim id λh=>ns (h▸new) e,λb o e h=>h.elim id λh=>ns (h▸new) e,λz z h=>.inl h,λb o eL eo hb hn e=>(ay λh:b=a=>ns (h▸new) eo).trans e,λb o eL eo e=>(KP e).elim (λq=>ns (q.1▸new) eo) λq=>⟨_,q.2⟩,λb eL e n=>(KP e).elim (λq=>aK (.inr q.1) n) λq=>⟨⟨_,q.2⟩,λw=>n (.inl w)⟩⟩
def Rep.DJ(i:h.get? a=some o)(n:¬o6 o)(r:Rep h M v d):Rep h (λb=>M b\/b=a) v d:=
 r.mono λb o' m q e=>⟨e,λh=>h.elim m λh=>by subst h;rw[i] at e;cases e;exact n q⟩
inductive aeW(c:C)(s:Shared)(cn:Cn)(x:aA)(s':Shared):Prop
 |mk (k:Kp s s') (a:Addr) (e:x=.ref a) (n:s.heap.get? a=none) (r:CR c.toG0 (λb=>c.M b\/b=a) s'.heap a cn)
def jP(c:C)(ρ:Nm)(e:aU)(cn:Cn):Prop:=∀s,St c ρ s->wpAny c.m c.A (eval e c.env) (aeW c s cn) no s
def jf.new{c:C}{ρ:Nm}{e:aU}{ds:List D}(h:jf c ρ e ds):jP c ρ e (.l ds):=λs S=>bk (h s S) (λx s' q1=>by refine aM λhN=>?_;obtain⟨k,a,vs,e,n,i,z,r⟩:_:=q1;refine hN ?_;exact⟨k,a,e,n,vs,i,z,r⟩)
inductive aeX(c:C)(ρ:Nm)(x:Str)(cn:Cn)(s:Shared)(f:sA)(s':Shared):Prop
 |mk (e:f=.next) (a:Addr) (n:s.heap.get? a=none) (X:Ext c s (c.add a cn) s') (S:St (c.add a cn) ((x,.r a)::ρ) s') (L:Lo (c.add a cn) s')
structure aeY(c:C)(ρ:Nm)(s:Shared)(f:sA)(s':Shared):Prop where
 e:f=.next
 X:Ext c s c s'
 S:St c ρ s'
 L:Lo c s'
def Uk(c:C)(ρ:Nm)(st:Stmt)(x:Str)(cn:Cn):Prop:=∀s,St c ρ s->Lo c s->wpAny c.m c.A (exec st c.env) (aeX c ρ x cn s) no s
def AsV(c:C)(ρ:Nm)(st:Stmt)(x:Str)(v:V):Prop:=∀s,St c ρ s->Lo c s->wpAny c.m c.A (exec st c.env) (aeY c ((x,v)::ρ) s) no s
section
variable {c:C}{ρ:Nm}{k:List (List Stmt)}{rest:List Stmt}{P:C->Nm->Prop}{R:C->D->Prop}{e e₁ e₂:aU}{v:V}{pos p:Pos}{x:Str}{st:Stmt}{cn:Cn}
def jP.as(h:jP c ρ e cn)(hx:uD c x)(hs:autoParam (swapsWith e (some (.Name x p)) pos.line c.env=pure false) bu):Uk c ρ (.Assign [.Name x p] e pos) x cn:=λs S L=>
 OO (bk (h s S) (λu ah qP=>by
  refine aM λhN=>?_;obtain⟨kp,a,e,n,cr⟩:_:=qP;refine hN ?_
  subst e;let ⟨cF,c9,tK⟩:=S.add L kp n cr;exact cF.store c9 hx (v:=.r a) aa λaB aV b7 cO=>⟨rfl,a,n,tK.trans (.Ff aV cF c9 b7),b7,cO⟩)) hs
def Ex.asN(h:Uk c ρ st x cn)(r:∀a,¬c.M a->c.σ a=none->Ex (c.add a cn) ((x,.r a)::ρ) (rest::k) P R):Ex c ρ ((st::rest)::k) P R:=
 pW λs S L=>bk (h s S L) (λf s' q1=>by refine aM λhN=>?_;obtain⟨e,a,n,X,S',L'⟩:_:=q1;refine hN ?_;exact⟨_,_,e,X,S',L',r a (S.bs.new n) (S.bs.xQ n)⟩)
def Ex.asV(h:AsV c ρ st x v)(r:Ex c ((x,v)::ρ) (rest::k) P R):Ex c ρ ((st::rest)::k) P R:=
 pW λs S L=>bk (h s S L) (λf s' q1=>by refine aM λhN=>?_;obtain⟨e,X,S',L'⟩:_:=q1;refine hN ?_;exact⟨_,_,e,X,S',L',r⟩)
end
open Mine.Ex renaming asN->Fi,asV->Fj
open Mine.jf renaming new->KQ
inductive MK(c:C)(ρ:Nm)(Q:C->V->Prop)(s:Shared)(x:aA)(s':Shared):Prop
 |mk (c':C) (v:V) (X:Ext c s c' s') (S:St c' ρ s') (L:Lo c' s') (r:gf c' s'.heap x v) (q:Q c' v)
def g9(c:C)(ρ:Nm)(e:aU)(Q:C->V->Prop):Prop:=∀s,St c ρ s->Lo c s->
 wpAny c.m c.A (eval e c.env) (MK c ρ Q s) no s
section
variable {c:C}{ρ:Nm}{k:List (List Stmt)}{rest:List Stmt}{P:C->Nm->Prop}{R:C->D->Prop}{e e₁ e₂ o:aU}{v:V}{pos p apos:Pos}{x:Str}{Q:C->V->Prop}{a:Addr}
def g9.mono(h:g9 c ρ e Q)(q:∀c v,Q c v->Q' c v):g9 c ρ e Q':=λs S L=>bk (h s S L) (λ_ _ ⟨c',v,X,S',L',r,hq⟩=>⟨c',v,X,S',L',r,q _ _ hq⟩)
def Ev.m(h:Ev c ρ e v):g9 c ρ e (λc' v'=>c'=c/\v'=v):=λs S L=>bk (h s S) (λx s' o1=>⟨c,v,.u9 o1.k,S.kp o1.k,L.kp o1.k.keep,o1.r,rfl,rfl⟩)
def Ex.expr(h:g9 c ρ e Q)(r:∀c' v,c'={c with M:=c'.M,σ:=c'.σ,wr:=c'.wr}->Q c' v->Ex c' ρ (rest::k) P R)(hi:autoParam (interactive c.env=false) bu)(hs:autoParam (swapsWith e none pos.line c.env=pure false) bu):Ex c ρ ((.Expr e pos::rest)::k) P R:=
 pW λs S L=>wpAny_Expr_any (bk (h s S L) (λx s' ⟨c',v,X,S',L',_,q⟩=>⟨c',ρ,rfl,X,S',L',r c' v X.eq q⟩)) hi hs
def uD.chg(h:uD c x)(e:c'={c with M:=c'.M,σ:=c'.σ,wr:=c'.wr}):uD c' x:=by rw[e];exact h
def Ex.Zc(h:g9 c ρ e Q)(hx:uD c x)(r:∀c' v,c'={c with M:=c'.M,σ:=c'.σ,wr:=c'.wr}->Q c' v->Ex c' ((x,v)::ρ) (rest::k) P R)(hs:autoParam (swapsWith e (some (.Name x p)) pos.line c.env=pure false) bu):Ex c ρ ((.Assign [.Name x p] e pos::rest)::k) P R:=
 pW λs S L=>OO (bk (h s S L) (λu ah qP=>by
  refine aM λhN=>?_;obtain⟨c',v,X,S',L',q,hq⟩:_:=qP;refine hN ?_
  have e1:c'.m=c.m:=by rw[X.eq]
  have e2:c'.A=c.A:=by rw[X.eq]
  have e3:c'.env=c.env:=by rw[X.eq]
  rw[<-e1,<-e2,<-e3];exact S'.store L' (hx.chg X.eq) q λaB aV b7 cO=>⟨c',_,rfl,X.trans (.Ff aV S' L' b7),b7,cO,r c' v X.eq hq⟩)) hs
def Ex.aeZ(h:g9 c ρ e Q)(r:∀c' v,c'={c with M:=c'.M,σ:=c'.σ,wr:=c'.wr}->Q c' v->∃d,v=.d d/\R c' d):Ex c ρ ((.Return (some e) pos::rest)::k) P R:=λs S L=>by
 unfold WS;refine D8 (V9 (bk (h s S L) (λu s' ⟨c',v,X,S',L',q,hq⟩=>?_)));let ⟨d,zy,hr⟩:=r c' v X.eq hq;exact vd.ret c' X u d S'.bs (X.B▸S'.b q) hr
def KR:backToKw pos (keywordEach [] env)=[]:=rfl
def QB{name:Str}{args:List aU}{T id:String}{s:Shared}{Q:aA->Shared->Prop}(S:St c ρ s)(h:Ev c ρ o v)(pa:OP T)(slot:Slot T name id)(qY:typeOf (.builtin id)=pure (.type "method_descriptor"))
 (ht:∀s ov,Bs c s->gf c s.heap ov v->s.TypeIs ov T/\(∀a,ov=.ref a->∃ob,s.heap.get? a=some ob/\ob.dict=none))
 (bS:attributeBase o name c.env (eval o c.env)=eval o c.env) (hline:(apos.endLine==pos.line)=true) (hs:bP args=true) (hn:args.length<29)
 (q:∀ah ov,Kp s ah->gf c ah.heap ov v->wpAny c.m c.A (callWith pos (.builtin id) [ov] (backTo pos (starEach args c.env)) []) Q no ah):wpAny c.m c.A (eval (.Call (.Attribute o name apos) args [] pos) c.env) Q no s:=by
 have tG:(backTo pos (starEach args c.env)).all (λx=>!x.1)=true:=by
  have:=eU hs pos c.env;rw[En];intro x hx;have:=JI.mp this x hx
  simpa using this
 refine Wa bS (by rw[tG];simp[KR];exact aG ‹_› (by decide)) hline aa (bk (h s S) (λov ah o1=>?_));let ⟨t1,t2⟩:=ht ah ov (S.bs.kp o1.k) o1.r;exact⟨T,id,pa,slot,qY,t1,t2,q ah ov o1.k o1.r⟩
def mq{name:Str}{args:List aU}{vs:List V}{T id:String}{s:Shared}{Q:aA->Shared->Prop}(S:St c ρ s)(h:Ev c ρ o v)(ha:EvVs c ρ (e::args) vs)(pa:OP T)(slot:Slot T name id)(qY:typeOf (.builtin id)=pure (.type "method_descriptor"))
 (ht:∀s ov,Bs c s->gf c s.heap ov v->s.TypeIs ov T/\(∀a,ov=.ref a->∃ob,s.heap.get? a=some ob/\ob.dict=none))
 (bS:attributeBase o name c.env (eval o c.env)=eval o c.env) (hline:(apos.endLine==pos.line)=true) (hs:bP (e::args)=true) (hn:args.length<28)
 (q:∀ah ov xs,Kp s ah->gf c ah.heap ov v->r4 c ah.heap xs vs->wpAny c.m c.A (call (.builtin id) (ov::xs)) Q no ah):wpAny c.m c.A (eval (.Call (.Attribute o name apos) (e::args) [] pos) c.env) Q no s:=
 QB S h pa slot qY ht bS hline hs (by rw[jL];exact Wu ‹_›) λah ov aE cT=>by
  have kh:=hs;simp only[bP,BE,iT,ud] at kh;exact Yi (bk (ha ah pos (S.kp aE)) (λxs aB o1=>q aB ov xs (aE.trans o1.k) (cT.keep o1.k.keep) o1.r)) (bO _ kh.1 args) (eU (by simpa [bP] using kh.2) pos c.env)
def zJ(hs:c.σ a=some (.l ds))(B:Bs c s)(r:gf c s.heap ov (.r a)):s.TypeIs ov "list"/\(∀b,ov=.ref b->∃ob,s.heap.get? b=some ob/\ob.dict=none):=by
 obtain rfl:ov=.ref a:=r;refine aM λhN=>?_;obtain⟨_,_,vs,⟨n,i⟩,_⟩:_:=B.gg a _ hs;refine hN ?_
 exact⟨⟨_,i,rfl⟩,λb e=>by cases e;exact⟨_,i,rfl⟩⟩
def St.ML(S:St c ρ s)(L:Lo c s)(hw:c.wr a)(hs:c.σ a=some (.l ds))(i:PL s.heap a vs)(e:s'={s with heap:=s.heap.update a (jS f)})(ef:f vs=ws)(z:ds'.length<=ck)(r:aC s.heap c.M ws.toList ds'):
 St (c.upd a (.l ds')) ρ s'/\Lo (c.upd a (.l ds')) s'/\Ext c s (c.upd a (.l ds')) s':=by
 subst e ef;let ⟨n,z2⟩:=i;revert z2;intro i;have sb:kY a s.heap (s.heap.update a (jS f)):=qT ..;have k:Kx (·=a) s {s with heap:=s.heap.update a (jS f)}:=⟨rfl,rfl,λb o n e=>(sb.2 b n).trans e⟩;exact S.upd L hw hs k ⟨f vs,⟨_,i.update f⟩,z,aC.chg k.keep (λb e=>e▸(S.bs.gg a _ hs).1) r⟩
theorem g9.append{ds:List D}{x:D}(h:Ev c ρ o (.r a))(hs:c.σ a=some (.l ds))(hw:c.wr a)(he:Ev c ρ e (.d x))(hz:ds.length+1<=ck)(bS:autoParam (attributeBase o "append" c.env (eval o c.env)=eval o c.env) bu)(hline:autoParam ((apos.endLine==pos.line)=true) bu)(cW:autoParam (bJ e=false) bu):
 g9 c ρ (.Call (.Attribute o "append" apos) [e] [] pos) (λc' v=>c'=c.upd a (.l (ds++[x]))/\v=.d .none):=λs S L=>
 mq S h (.cons he .nil cW) PC XY PySem.F.type_list_append (λs ov B r=>zJ hs B r) bS hline (Qn cW) (bz aa) λah ov xs aE cT mV=>by
  obtain rfl:ov=.ref a:=cT;apply qZ mV;intro u ru;have cF:=S.kp aE;have c9:=L.kp aE.keep;refine aM λhN=>?_;obtain⟨_,_,vs,⟨n,i⟩,z,r⟩:_:=cF.bs.gg a _ hs;refine hN ?_
  have hl:=r.size;refine D9 XY ⟨_,i,rfl⟩ PySem.F.entry_list_append (PySem.F.args_list_append_2 _ _) (adj a vs n u (by rw[hl];exact eH z)) ⟨i,?_⟩;let ⟨b7,cO,gy⟩:=cF.ML c9 hw hs ⟨n,i⟩ (f:=λxs=>xs.push u) aa aa (ds':=ds++[x]) (by simpa using hz) (by rw[JZ];exact r.append (.one ru));exact⟨_,.d .none,(kL aE).trans gy,b7,cO,.none,rfl,rfl⟩
end
open Mine.Ex renaming expr->pX,Zc->Ci,aeZ->Fl
open Mine.Ev renaming m->rz
open Mine.g9 renaming append->Cj
section
variable {c:C}{ρ:Nm}{k:List (List Stmt)}{rest:List Stmt}{P:C->Nm->Prop}{R:C->D->Prop}{e e₁ e₂ o:aU}{v:V}{pos p apos:Pos}{x:Str}{Q:C->V->Prop}{a:Addr}
def CX(h:n+m<=ck):Ys (n+m)=false:=by
 unfold Ys;exact decide_eq_false (jb.mpr (eH h))
theorem g9.extend(h:Ev c ρ o (.r a))(hs:c.σ a=some (.l ds))(hw:c.wr a)(he:Ev c ρ e v)(ha:vm c v es)(hz:ds.length+es.length<=ck)(bS:autoParam (attributeBase o "extend" c.env (eval o c.env)=eval o c.env) bu)(hline:autoParam ((apos.endLine==pos.line)=true) bu)(cW:autoParam (bJ e=false) bu):
 g9 c ρ (.Call (.Attribute o "extend" apos) [e] [] pos) (λc' v=>c'=c.upd a (.l (ds++es))/\v=.d .none):=by
 intros c ρ e o v pos apos a ds es _ h hs hw he ha hz bS hline cW;exact λs S L=>
  mq S h (.cons he .nil cW) PC XZ PySem.F.type_list_extend (λs ov B r=>zJ hs B r) bS hline (Qn cW) (bz aa) λah ov xs aE cT mV=>by
   obtain rfl:ov=.ref a:=cT;apply qZ mV;intro u ru;have cF:=S.kp aE;have c9:=L.kp aE.keep;refine aM λhN=>?_;obtain⟨_,_,vs,⟨n,i⟩,z,r⟩:_:=cF.bs.gg a _ hs;refine hN ?_;clear hN
   have hl:=r.size;let ⟨b,ws,zy,z2,z',q⟩:=uv ru cF.bs ha;let ⟨m,j⟩:=z2;have Cm:=q.size;refine D9 XZ ⟨_,i,rfl⟩ PySem.F.entry_list_extend (PySem.F.args_list_extend_2 _ _) (adk a vs n b ws m (by rw[hl,Cm,CX hz];simp) (by rw[hl];exact eH z) (by rw[hl,Cm];exact vA (eH hz))) ⟨i,j,?_⟩;let ⟨b7,cO,gy⟩:=cF.ML c9 hw hs ⟨n,i⟩ (f:=λxs=>xs++ws) aa aa (ds':=ds++es) (by simpa using hz) (by rw[EE];exact r.append q);exact⟨_,.d .none,(kL aE).trans gy,b7,cO,.none,rfl,rfl⟩
def HO(xs:Array aA)(j:Nat)(h:j<xs.size):(xs.eraseIdxIfInBounds j).toList=xs.toList.take j++xs.toList.drop (j+1):=by
 simp[Array.eraseIdxIfInBounds,h,O1]
theorem g9.pop{ds:List D}{n:Int}{j:Nat}{x:D}(h:Ev c ρ o (.r a))(hs:c.σ a=some (.l ds))(hw:c.wr a)(he:Ev c ρ e (.d (.int n)))(hk:seqIndex? n ds.length=some j)(hx:ds[j]?=some x)(bS:autoParam (attributeBase o "pop" c.env (eval o c.env)=eval o c.env) bu)(hline:autoParam ((apos.endLine==pos.line)=true) bu)(cW:autoParam (bJ e=false) bu):
 g9 c ρ (.Call (.Attribute o "pop" apos) [e] [] pos) (λc' v=>c'=c.upd a (.l (ds.take j++ds.drop (j+1)))/\v=.d x):=by
 intros c ρ e o pos apos a ds n j x _ h hs hw he hk hx bS hline cW;exact λs S L=>
  mq S h (.cons he .nil cW) PC X0 PySem.F.type_list_pop (λs ov B r=>zJ hs B r) bS hline (Qn cW) (bz aa) λah ov xs aE cT mV=>by
   obtain rfl:ov=.ref a:=cT;apply qZ mV;intro u ru;let ⟨t,zy⟩:=jV ru;have cF:=S.kp aE;have c9:=L.kp aE.keep;refine aM λhN=>?_;obtain⟨_,_,vs,⟨m,i⟩,z,r⟩:_:=cF.bs.gg a _ hs;refine hN ?_;clear hN
   have hl:=r.size;let ⟨y,hy,ry⟩:=r.get hx;have b:=ko hk;have hz:=qq z;refine D9 X0 ⟨_,i,rfl⟩ PySem.F.entry_list_pop (PySem.F.args_list_pop_2 _ _) (list_pop_at a vs m n t j y ((iT _ _).mpr ⟨decide_eq_true (cN (JS (jR hz)) b.1),decide_eq_true (sG b.2.1 hz)⟩) (by rw[hl];exact hk) (by rw[<-lC];exact hy) (by rw[hl];exact eH z)) ⟨i,?_⟩;have hj:j<vs.size:=(iR.mp hy).1
   let ⟨b7,cO,gy⟩:=cF.ML c9 hw hs ⟨m,i⟩ (f:=λxs=>xs.eraseIdxIfInBounds j) aa aa (ds':=ds.take j++ds.drop (j+1)) (aG (O1 ds j▸WH ds j) z) (by
    rw[HO vs j hj];exact(r.take j).append (r.drop (j+1)))
   refine⟨_,.d x,(kL aE).trans gy,b7,cO,?_,rfl,rfl⟩;exact zG (c:=c) (Z:=(·=a)) (h:=ah.heap) (λb o nb e=>((qT ah.heap a _).2 b nb).trans e) (λb e=>e▸(cF.bs.gg a _ hs).1) ry
def QC{s:Shared}{l b:Addr}{vs ws:Array aA}{n m:Nat}{Q:aA->Shared->Prop}(i:IsL s.heap l vs n)(j:IsL s.heap b ws m)(h1:vs.size+ws.size<=ck)(h:Q (.ref l) {s with heap:=s.heap.update l (jS λx=>x++ws)}):wpAny c.m c.A (inplaceOp .Add (.ref l) (.ref b)) Q no s:=by
 intros c s l b vs ws n m Q _ i j h1 h;unfold inplaceOp;refine e9 ?_;have ti:s.TypeIs (.ref l) "list":=⟨_,i,rfl⟩;have tj:s.TypeIs (.ref b) "list":=⟨_,j,rfl⟩;have hI:typeLookup (.type "list") (dunderI "add")=pure (some (.builtin "list.__iadd__")):=X3.lookup
 have hfi:fillsInplaceSlot (.type "list") "add" (Operator.Add==.Add)=pure false:=by
  unfold fillsInplaceSlot;show(typeLookup (.type "list") (dunderI "add")>>=λfi=>pure (fi.isSome&&!isSeqSlot fi))=pure false;rw[hI];rfl
 refine aF (Bu ti (aF (sy hfi ?_)));show wpAny c.m c.A (if false=true then _ else _) Q no s;rw[ay Xv];refine aF (wpAny_binaryOp1_none (nm:="add") ti tj noFill_list_add ?_);refine aF (sy (PySem.seqSlot_of hI aa) ?_);exact aF (yR (D9 X3 ti PySem.F.entry_list_iadd (PySem.F.args_list_iadd_2 _ _) (adl l vs n b ws m (by rw[CX h1];simp) (eH (aG (iE _ _) h1)) (vA (eH h1))) ⟨i,j,h⟩))
def Ex.iadd(hx:ρ.lookup x=some (.r a))(hs:c.σ a=some (.l ds))(hw:c.wr a)(cW:uD c x)(he:Ev c ρ e v)(ha:vm c v es)(hz:ds.length+es.length<=ck)(r:Ex (c.upd a (.l (ds++es))) ((x,.r a)::ρ) (rest::k) P R):Ex c ρ ((.AugAssign (.Name x p) .Add e pos::rest)::k) P R:=by
 intros c ρ k rest P R e _ v pos p x a ds es hx hs hw cW he ha hz r;intros v pos p x a ds es _ hx hs hw cW he ha hz r;exact pW λs S L=>by
  refine aM λhN=>?_;obtain⟨h1,h2,u,hh,ru⟩:_:=S.vars x _ hx;refine hN ?_;clear hN
  obtain rfl:u=.ref a:=ru;refine wpAny_AugAssign_Name (hh.load S.kind h2 (bk (he s S) (λy ah o1=>?_)));have cF:=S.kp o1.k;have c9:=L.kp o1.k.keep;refine aM λhN=>?_;obtain⟨_,_,vs,⟨n,i⟩,z,q⟩:_:=cF.bs.gg a _ hs;refine hN ?_;clear hN
  have hl:=q.size;let ⟨b,ws,zy,z2,z',q'⟩:=uv o1.r cF.bs ha;let ⟨m,j⟩:=z2;have Cm:=q'.size;refine QC i j (by rw[hl,Cm];exact hz) ?_;let ⟨b7,cO,gy⟩:=cF.ML c9 hw hs ⟨n,i⟩ (f:=λxs=>xs++ws) aa aa (ds':=ds++es) (by simpa using hz) (by rw[EE];exact q.append q');exact b7.store cO (c:=c.upd a (.l (ds++es))) cW (v:=.r a) aa λc8 dP i8 jc=>⟨_,_,rfl,(kL o1.k).trans (gy.trans (.Ff dP b7 cO i8)),i8,jc,r⟩
def MM(xs:Array aA)(j:Nat)(u:aA):(xs.setIfInBounds j u).toList=xs.toList.set j u:=by simp
theorem aC.set(r:aC h M vs ds)(q:Rep h M u d)(j:Nat):aC h M (vs.set j u) (ds.set j d):=by
 induction vs generalizing ds j with
 |nil=>cases r;exact .nil
 |cons v vs ih=>
  cases r with
  |cons a r=>
   cases j with
   |zero=>exact .cons q r
   |succ j=>exact .cons a (ih r j)
def KS{s:Shared}{l:Addr}{vs:Array aA}{k:Int}{t:Tok}{u:aA}{Q:Unit->Shared->Prop}(hl:PL s.heap l vs)(h0:0<=k)(Zd:k<2^63)(hn:k<vs.size)(hQ:Q () {s with heap:=s.heap.update l (jS (·.setIfInBounds k.toNat u))}):wpAny c.m c.A (setItem (.ref l) (.int k t) u) Q no s:=by
 intros c s l vs k t u Q _ hl h0 Zd hn hQ;have hl:=hl.isList;refine aM λhN=>?_;obtain⟨o,ho,hc,ne,hd⟩:_:=id hl;refine hN ?_;clear hN;intros o ne _ ho hc hd
 unfold setItem
 try with_reducible refine e9 ?_
 first|refine aF (bx ?_)|skip
 refine aF (V6 hl.typeIs (by decide) ?_);refine aF (Jq (name:=J6 "__setitem__") hl.typeIs Wb
  (vo Wb hl.typeIs entry_list_setitem ?_ (args_list_setitem _ _ _)))
 show wpAny _ _ (adb (.int k t)>>=_) _ _ s;refine aF (wpAny_listSubscript_int (fitsIndex_of h0 Zd) ?_);clear Zd;let ⟨j,zy⟩:=Ez h0;intros j _ h0 hn hQ;have hj:j<vs.size:=kG.mp ‹_›;have hx':vs[j]?=some vs[j]:=ED hj;show wpAny _ _ ((seqItemAt l j>>=λr=>pure (r.map (j,·)))>>=_) _ _ s;refine aF (aF (wpAny_seqItemAt ho hd (bx ?_)));rw[hx'];show wpAny _ _ (setSeqItemAt l j u>>=_) _ _ s;refine aF (wpAny_setSeqItemAt ho hd ?_)
 first
  |exact aF (bx (bx ⟨.none,rfl,bx hQ⟩))
  |exact bx ⟨.none,rfl,bx hQ⟩
def MO{s:Shared}{l:Addr}{vs:Array aA}{j:Nat}{t:Tok}{u:aA}{Q:Unit->Shared->Prop}(hl:PL s.heap l vs)(hn:j<vs.size)(hz:vs.size<=ck)(hQ:Q () {s with heap:=s.heap.update l (jS (·.setIfInBounds j u))}):wpAny c.m c.A (setItem (.ref l) (.int j t) u) Q no s:=
 KS hl (iS j) (sG (kG.mpr hn) (qq hz)) (kG.mpr hn) hQ
def St.xR{s:Shared}{ds:List D}{j:Nat}{t:Tok}{u:aA}{d:D}{Q:Unit->Shared->Prop}(S:St c ρ s)(L:Lo c s)(hs:c.σ a=some (.l ds))(hw:c.wr a)(hj:j<ds.length)(r:Rep s.heap c.M u d)
 (q:∀s',St (c.upd a (.l (ds.set j d))) ρ s'->Lo (c.upd a (.l (ds.set j d))) s'->Ext c s (c.upd a (.l (ds.set j d))) s'->Kx (·=a) s s'->Q () s'):wpAny c.m c.A (setItem (.ref a) (.int j t) u) Q no s:=by
 refine aM λhN=>?_;obtain⟨_,_,vs,i,z,r'⟩:_:=S.bs.gg a _ hs;refine hN ?_;clear hN
 have hl:vs.size=ds.length:=r'.length;refine MO i (hl▸hj) (hl▸z) ?_;let ⟨b7,cO,gy⟩:=S.ML L hw hs i (f:=λxs=>xs.setIfInBounds j u) aa aa (ds':=ds.set j d) (by simpa using z) (by rw[MM];exact r'.set r j);exact q _ b7 cO gy ⟨rfl,rfl,λb o n e=>((qT s.heap a _).2 b n).trans e⟩
theorem Ex.xR{ds:List D}{j:Nat}{d:D}(h:Ev c ρ e₁ (.d d))(ho:Ev c ρ o (.r a))(hi:Ev c ρ e₂ (.d (.int j)))(hs:c.σ a=some (.l ds))(hw:c.wr a)(hj:j<ds.length)(r:Ex (c.upd a (.l (ds.set j d))) ρ (rest::k) P R)(hsw:autoParam (swapsWith e₁ (some (.Subscript o e₂ p)) pos.line c.env=pure false) bu):
 Ex c ρ ((.Assign [.Subscript o e₂ p] e₁ pos::rest)::k) P R:=
 pW λs S L=>wpAny_Assign_Subscript (bk (h s S) (λu ah o1=>bk (ho ah (S.kp o1.k)) (λov aB o2=>bk (hi aB (S.kp (o1.k.trans o2.k))) (λiv c8 o3=>by
  obtain rfl:ov=.ref a:=o2.r;let ⟨t,zy⟩:=jV o3.r;have k:=(o1.k.trans o2.k).trans o3.k;exact(S.kp k).xR (L.kp k.keep) hs hw hj (zD o1.r (o2.k.trans o3.k).keep) λs' S' L' X' z=>⟨_,ρ,rfl,(kL k).trans X',S',L',r⟩)))) hsw
end
def St.weaken{c:C}{ρ ρ':Nm}{s:Shared}(S:St c ρ s)(h:∀x v,ρ'.lookup x=some v->ρ.lookup x=some v):St c ρ' s:=
 ⟨S.bs,S.kind,S.globals,S.builtins,S.inj,S.o7,λx v e=>S.vars x v (h x v e)⟩
def Ext.step{c c':C}{s s' s'':Shared}{wr:List Addr}(x:Ext c s c' s')(k:Kx (·∈wr) s' s'')(hn:∀b∈wr,s.heap.get? b=none):Ext c s c' s'':=by
 have nw:∀b o,s.heap.get? b=some o->b∉wr:=λb o e m=>by exact ns (hn b m) e
 refine⟨x.eq,⟨k.gens.trans x.kx.gens,k.os.trans x.kx.os,λb o n e=>k.keep b o (nw b o e) (x.kx.keep b o n e)⟩,λa o e=>?_,x.m,x.w,x.wb,x.sg,x.sn,x.nw⟩;let ⟨o',e'⟩:=x.al a o e;exact⟨o',k.keep a o' (nw a o e) e'⟩
section
variable {c:C}{ρ:Nm}{k:List (List Stmt)}{rest:List Stmt}{P:C->Nm->Prop}{R:C->D->Prop}{e e₁ e₂ o:aU}{v:V}{pos p apos:Pos}{x:Str}{Q:C->V->Prop}{a:Addr}
def Ex.sub(h:Ex c ρ' k P R)(hl:∀x v,ρ'.lookup x=some v->ρ.lookup x=some v):Ex c ρ k P R:=λs S L=>h s (S.weaken hl) L
abbrev Ze(c:C)(ρ:Nm)(e:aU)(ds:List D):Prop:=ItN (λb=>c.wr b\/c.X b) c ρ e ds
def zF.w(h:zF c ρ e ds):Ze c ρ e ds:=λs S=>bk (h s S) (λx ah bF=>bk bF (λit aB q1=>by refine aM λhN=>?_;obtain⟨k,z,I,fp,wr,T,a1,a2,a3,a4,a5,a6⟩:_:=q1;refine hN ?_;exact⟨k,z,I,fp,wr,T,a1,a2,λb hb h=>a3 b hb (h.elim (λh=>(S.bs.oq b h).1) (S.bs.xm b)),a4,a5,a6⟩))
structure FI(c:C)(s:Shared)(fp wr:List Addr)(T:(Addr->Prop)->Nat->cC->Prop)(Inv:Nat->C->Nm->Prop)(i:Nat)(c':C)(ρ':Nm)(s':Shared):Prop where
 t:T c'.M i s'.heap
 S:St c' ρ' s'
 L:Lo c' s'
 X:Ext c s c' s'
 fm:∀b∈fp,¬(c'.wr b\/c'.X b)
 wm:∀b∈wr,¬c'.M b
 I:Inv i c' ρ'
def MP{prog:Program}{w:World}{A:Around}{env:Env}{tg:aU}{it:aA}{body:List Stmt}{s:Shared}{Q:sA->Shared->Prop}(I:Nat->Shared->Prop)
 (turn:∀n s,I n s->wpAny (model prog w) A (pyNext it) (λr ah=>(r=none/\Q .next ah)\/∃v,r=some v/\wpAny (model prog w) A (letOwnedTupleGo tg it v) (λz aB=>wpAny (model prog w) A (yV tg env v) (λz iw=>wpAny (model prog w) A (execs body env) (λf mW=>(f=.next/\∃m,m<n/\I m mW)\/∃u,f=.ret u/\Q (.ret u) mW) no iw) no aB) no ah) no s)
 (n:Nat) (h:I n s):codeAny (model prog w) A (.forLoop tg it body [] env) (λr s'=>match r with|.ok f=>Q f s'|.error e=>cameBackBy (model prog w) A env no e s') s:=by
 intros prog w A env tg it body s Q I n _ turn h;refine codeAny_forLoop_any I (λn s hI=>mP (turn n s hI) (λr ah h=>?_) λz z h=>h.elim) n h;intros n s r ah _ hI h;rcases h with⟨rfl,h⟩|⟨v,rfl,h⟩
 .exact V8 h
 refine mP h (λz z h=>mP h (λz z h=>mP h (λf z h=>?_) λz z h=>h.elim) λz z h=>h.elim) λz z h=>h.elim
 rcases h with⟨rfl,h⟩|⟨u,rfl,h⟩
 .exact h
 exact h
section
variable {s s':Shared}{I:Addr}{fp wr:List Addr}{T:(Addr->Prop)->Nat->cC->Prop}{Inv:Nat->C->Nm->Prop}{ds:List D}{i:Nat}{ρ' tb:Nm}{M' wr':Addr->Prop}{σ':Addr->Option Cn}{tg:aU}{d:D}{body:List Stmt}(W:Dq c.prog c.w c.A I fp wr ds T)(pA:∀b∈wr,s.heap.get? b=none)(B:Bs c s)(F:FI c s fp wr T Inv i (c.set M' σ' wr') ρ' s')
include W pA B F
theorem FI.step{c8:Shared}(dP:Kx (·∈wr) s' c8):St (c.set M' σ' wr') ρ' c8/\Lo (c.set M' σ' wr') c8/\Ext c s (c.set M' σ' wr') c8:=
 have h:=F.S.step F.L dP (W.off M' i s'.heap F.t) (λb hb=>B.u7 (pA b hb)) F.wm
 ⟨h.1,h.2,F.X.step dP pA⟩
theorem FI.turn(hd:ds[i]?=some d)(Dr:wA (c.set M' σ' wr') tg d tb)(mX:Ex (c.set M' σ' wr') (tb++ρ') [body] (Inv (i+1)) R){K:sA->Shared->Prop}(kn:∀c' ρ' s',FI c s fp wr T Inv (i+1) c' ρ' s'->K .next s')
 (kr:∀c' s' u d,Ext c s c' s'->Bs c' s'->Rep s'.heap c.B u d->R c' d->K (.ret u) s'):
 wpAny c.m c.A (pyNext (.ref I)) (λr ah=>∃v,r=some v/\wpAny c.m c.A (letOwnedTupleGo tg (.ref I) v) (λz aB=>wpAny c.m c.A (yV tg c.env v) (λz iw=>wpAny c.m c.A (execs body c.env) K no iw) no aB) no ah) no s':=by
 refine W.item M' i d tg s' (λv c8=>wpAny c.m c.A (yV tg c.env v) (λz iw=>wpAny c.m c.A (execs body c.env) K no iw) no c8) hd F.t F.S.bs.gG λv c8 rv Ce dP=>?_
 let ⟨i8,jc,iI⟩:=F.step W pA B dP;refine Dr.run i8 jc rv λiw o9 yC Iz=>?_
 have SA:=iI.trans (.Ff o9 i8 jc yC);have Y0:∀a,¬M' a->¬c.Y a:=λa n y=>n (i8.bs.xm a (jc.yx a y))
 have fy:∀b∈fp,¬c.Y b:=λb h y=>F.fm b h (.inr (jc.yx b y))
 have wD:T M' (i+1) iw.heap:=W.frame M' (i+1) c8.heap iw.heap Ce λb o h e=>o9.keep b o (h.elim (fy b) λh=>Y0 b h.1) e
 have Zf:=W.has M' (i+1) iw.heap wD;refine mX.body yC Iz (λk8 nW mW pC Ax vc YM=>kn k8 nW mW ⟨?_,Ax,vc,SA.trans pC,λb hb m=>?_,λb hb m=>let ⟨o,e⟩:=Zf b (W.sub b hb);F.wm b hb (pC.m b o e m),YM⟩) λk8 mW u d pC=>kr k8 mW u d (SA.trans pC)
 .have t1:T (λa=>M' a\/k8.M a) (i+1) iw.heap:=W.up M' _ (i+1) iw.heap wD λa o e h=>h.elim id (pC.m a o e)
  have t2:T (λa=>M' a\/k8.M a) (i+1) mW.heap:=W.frame _ (i+1) iw.heap mW.heap t1 λb o h e=>pC.kx.keep b o (λy=>h.elim (λh=>y.elim (λy=>F.fm b h (.inl y)) (fy b h)) λh=>y.elim (λy=>h.1 (.inl (yC.bs.oq b y).1)) λy=>Y0 b (λm=>h.1 (.inl m)) y) e
  exact W.up _ k8.M (i+1) mW.heap t2 λa o e h=>.inr h
 let ⟨o,e⟩:=Zf b hb;have hX:k8.X=c.X:=(cj C.X pC.eq:);exact F.fm b hb (m.imp (pC.w b o e) λm=>hX▸m)
end
def Ex.acw{tg iter:aU}{body:List Stmt}{ds:List D}(Inv:Nat->C->Nm->Prop)(gq:Ze c ρ iter ds)(h0:Inv 0 c ρ)
 (hb:∀i d c' ρ',c'={c with M:=c'.M,σ:=c'.σ,wr:=c'.wr}->ds[i]?=some d->Inv i c' ρ'->∃tb,wA c' tg d tb/\Ex c' (tb++ρ') [body] (Inv (i+1)) R)
 (h1:∀c' ρ',c'={c with M:=c'.M,σ:=c'.σ,wr:=c'.wr}->Inv ds.length c' ρ'->Ex c' ρ' (rest::k) P R) (hs:autoParam (∀x,foldedSetIterable iter c.env x=pure x) HE):Ex c ρ ((.For tg iter body [] pos::rest)::k) P R:=by
 intros c ρ k rest P R pos tg iter body ds Inv _ gq h0 hb h1 hs;exact Ex.Qy λs S L Q qn qr=>by
  refine wpAny_For (bk (gq s S) (λx ah bF=>bk bF (λit aB bN=>?_))) hs;refine aM λhN=>?_;obtain⟨aV,zC,I,fp,wr,T,rfl,pA,E6,Qu,W,ht⟩:_:=bN;refine hN ?_
  refine MP (λn s'=>∃i c' ρ',n=ds.length-i/\i<=ds.length/\FI c s fp wr T Inv i c' ρ' s') (λn s' h=>?_) ds.length
   ⟨0,c,ρ,rfl,b8 _,ht,S.kp aV,L.kp aV.keep,.u9 aV,E6,λb hb=>S.bs.new (pA b hb),h0⟩
  let ⟨i,c',ρ',hn,hi,F⟩:=h;subst hn;obtain⟨M',σ',wr',rfl⟩:∃M' σ' wr',c'=c.set M' σ' wr':=⟨_,_,_,F.X.eq⟩;rcases tZ hi with eG|rfl
  .have hd:=iF eG;let ⟨tb,Dr,mX⟩:=hb i _ _ ρ' aa hd F.I;exact bk (F.turn W pA S.bs hd Dr mX (λk8 nW acy F'=>.inl ⟨rfl,ds.length-(i+1),Wv eG (qK i),i+1,k8,nW,rfl,eG,F'⟩) λk8 acy u d X B r hr=>.inr ⟨u,rfl,qr k8 acy u d X B r hr⟩) (λz z h=>.inr h)
  refine W.done M' s' _ F.t (λc8 dP=>?_)|>λh=>bk h (λr c8 h=>.inl h)
  let ⟨i8,jc,iI⟩:=F.step W pA S.bs dP;exact qn _ ρ' c8 iI i8 jc (h1 _ ρ' aa F.I)
def Ex.for{tg iter:aU}{body:List Stmt}{ds:List D}(Inv:Nat->C->Nm->Prop)(gq:zF c ρ iter ds)(h0:Inv 0 c ρ)
 (hb:∀i d c' ρ',c'={c with M:=c'.M,σ:=c'.σ,wr:=c'.wr}->ds[i]?=some d->Inv i c' ρ'->∃tb,wA c' tg d tb/\Ex c' (tb++ρ') [body] (Inv (i+1)) R)
 (h1:∀c' ρ',c'={c with M:=c'.M,σ:=c'.σ,wr:=c'.wr}->Inv ds.length c' ρ'->Ex c' ρ' (rest::k) P R) (hs:autoParam (∀x,foldedSetIterable iter c.env x=pure x) HE):Ex c ρ ((.For tg iter body [] pos::rest)::k) P R:=.acw Inv gq.w h0 hb h1 hs
end
open Mine.Ex renaming sub->kN
structure wI(c:C)(O:Addr->Prop)(s:Shared)(c':C)(s':Shared):Prop where
 eq:c'={c with M:=c'.M,σ:=c'.σ,wr:=c'.wr}
 kx:Kx O s s'
 al:∀a o,s.heap.get? a=some o->∃o',s'.heap.get? a=some o'
 m:∀a o,s.heap.get? a=some o->c'.M a->c.M a
 mm:∀a,c.M a->c'.M a
 w:∀a o,s.heap.get? a=some o->c'.wr a->c.wr a
 ww:∀a,c.wr a->c'.wr a
 sg:∀a cn,¬O a->c.σ a=some cn->c'.σ a=some cn
 sn:∀a o cn,s.heap.get? a=some o->c'.σ a=some cn->∃eL,c.σ a=some eL
 nw:∀a cn,c'.σ a=some cn->¬c'.wr a->(∃eL,c.σ a=some eL)/\¬c.wr a
def wI.ext(x:wI c O s c' s')(h:∀a,O a->c.wr a):Ext c s c' s':=
 ⟨x.eq,x.kx.mono λa o=>.inl (h a o),x.al,x.m,x.w,λa z=>x.ww a,λa o cn z z n=>x.sg a cn λq=>n (h a q),x.sn,x.nw⟩
def St.after{c c':C}{ρ:Nm}{O:Addr->Prop}{s s':Shared}(S:St c ρ s)(L:Lo c s)(h:∀a,O a->c.wr a)(x:wI c O s c' s')(B:Bs c' s'):St c' ρ s'/\Lo c' s':=by
 intros c c' ρ O s s' _ S L h x B;obtain⟨M',σ',wr',rfl⟩:∃M' σ' wr',c'={c with M:=M',σ:=σ',wr:=wr'}:=⟨_,_,_,x.eq⟩;have om:∀a,O a->c.M a/\¬c.X a:=λa o=>have q:=S.bs.oq a (h a o);⟨q.1,q.2.1⟩
 exact S.gen (M':=M') (σ':=σ') (wr':=wr') (B':=c.B) L B (Cd x.kx λa u i m=>(S.bs.oq a (h a m)).2.2.elim λcn hc=>(S.bs.gg a cn hc).2.2.rt.elim λo' q=>i.elim λo z=>q.2 u (eF (z.1.symm.trans q.1)▸z.2))
  (λo e=>x.kx.keep _ o (λm=>(om _ m).2 (L.yx _ (.inl aa))) e) λr=>r.mono λa o n y e=>⟨x.kx.keep a o (λq=>n (om a q).1) e,λm=>n (x.m a o e m)⟩
structure FnRec(g:G0)(fa:Addr)(fd:FuncData)(body:List Stmt):Prop where
 at':∃o,g.h₀.get? fa=some o/\o.data=.func fd
 code:g.h₀.CodeRec fd.code fd.qualname
 body:fd.body=.stmts body
 clo:fd.closure=[]
 globals:fd.globals=mainGlobals
 builtins:fd.builtins=builtinsNs
 kind:fd.scope.kind=.function
 gen:fd.scope.isGenerator=false
 co:fd.scope.isCoroutine=false
def FX(fd:FuncData)(L fa a:Addr):Prop:=a=L\/∃x∈cy fd.scope,(callEnvC fd L fa).cells.lookup x=some a
def C.fn(c:C)(fd:FuncData)(fa L:Addr)(O:Addr->Prop):C:=
 {c with env:=callEnvC fd L fa,A:=c.A.deeper (callEnvC fd L fa),M:=λa=>c.M a\/FX fd L fa a,X:=FX fd L fa,own:=cy fd.scope,n:=c.n-1,wr:=O,B:=c.M}
def QD(scope:ia)(names:List Str):Bool:=names.all λx=>(scope.names.lookup x==some .local||(scope.names.lookup x==some .cell&&(cy scope).contains x))&&(x !=("__debug__":Str))&&(x !=("__classdict__":Str))
def Ul:∀{m:Str->Option aA},x∉r.map (·.1)->bindL kd r m x=m x:=by
 induction r with
 |nil=>exact λz=>rfl
 |cons p r ih=>
  intro m hx;refine(ih λh=>hx (.tail _ h)).trans (show(if kd p.1=some .local then(λy=>if y=p.1 then some p.2 else m y) else m) x=m x from ?_);split
  .exact ay λe=>hx (bZ.mpr (.inl e))
  rfl
def Um:∀{m:Str->Option aA},(binds.map (·.1)).Nodup->(x,u)∈binds->kd x=some .local->bindL kd binds m x=some u:=by
 induction binds with
 |nil=>exact λz h=>(nomatch h)
 |cons p r ih=>
  intro m hn h hk;have hn:=ir.mp hn;refine(bZ.mp h).elim (λe=>?_) λh=>ih hn.2 h hk
  subst e;exact(Ul hn.1).trans ((congrFun (aq hk) x).trans (aq aa))
def Un:∀{m:Str->Option aA},x∉r.map (·.1)->bindC kd r m x=m x:=by
 induction r with
 |nil=>exact λz=>rfl
 |cons p r ih=>
  intro m hx;refine(ih λh=>hx (.tail _ h)).trans (show(if kd p.1=some .local then m else λy=>if y=p.1 then some p.2 else m y) x=m x from ?_);split
  .rfl
  exact ay λe=>hx (bZ.mpr (.inl e))
def Uo:∀{m:Str->Option aA},(binds.map (·.1)).Nodup->(x,u)∈binds->kd x≠some .local->bindC kd binds m x=some u:=by
 induction binds with
 |nil=>exact λz h=>(nomatch h)
 |cons p r ih=>
  intro m hn h hk;have hn:=ir.mp hn;refine(bZ.mp h).elim (λe=>?_) λh=>ih hn.2 h hk
  subst e;exact(Un hn.1).trans ((congrFun (ay hk) x).trans (aq aa))
def MQ{names:List Str}{xs:List aA}{vs:List V}{x:Str}{v:V}(r:iG M h xs vs)(e:(names.zip vs).lookup x=some v):∃u,(x,u)∈names.zip xs/\VR M h v u:=by
 induction r generalizing names with
 |nil=>cases names<;>cases e
 |@cons u _ w _ r rs ih=>
  cases names with
  |nil=>cases e
  |cons n names=>
   rw[El,lu] at e;cases hx:x==n with
   |true=>
    rw[hx] at e;cases e;exact⟨u,by rw[beq_iff_eq.mp hx];exact .head _,r⟩
   |false=>
    rw[hx] at e;let ⟨u',h1,h2⟩:=ih e;exact⟨u',.tail _ h1,h2⟩
abbrev Calls(c:C)(f:aA)(xs:List aA)(Q:aA->Shared->Prop)(s:Shared):Prop:=codeAny c.m c.A (.call f ⟨xs,[]⟩) (λr s'=>match r with|.ok (.ret v)=>Q v s'|.ok _=>False|.error e=>no e s') s
def Fo{g:G0}{fa:Addr}{fd:FuncData}{body:List Stmt}(F:FnRec g fa fd body){c:C}(hg:c.toG0=g)(hn:1<=c.n){O:Addr->Prop}(hO:∀a,O a->c.wr a){s:Shared}{xs:List aA}{vs:List V}{names:List Str}(B:Bs c s)(ha:r4 c s.heap xs vs)
 (QE:bindArgs fd ⟨xs,[]⟩=pure (names.zip xs)) (mu:names.Nodup) (Zg:QD fd.scope names=true) (hl:names.length=xs.length) {P:C->Nm->Prop} {R:C->D->Prop}
 (mX:∀L,Ex (c.fn fd fa L O) (names.zip vs) [body] P R) {Q:aA->Shared->Prop}
 (hQ:∀L fE c' s' u d,fE={c.fn fd fa L O with M:=fE.M,σ:=fE.σ,wr:=fE.wr}->((∃ρ,P fE ρ/\d=.none)\/R fE d)->c'.σ=fE.σ->wI c O s c' s'->Bs c' s'->Rep s'.heap c.M u d->Q u s'):
 Calls c (.ref fa) xs Q s:=by
 intros g fa fd body c O s _ F hg hn hO xs vs names B ha QE mu Zg hl P R mX Q hQ;intros xs vs names P R Q _ F hg hn hO B ha QE mu Zg hl mX hQ;subst hg;let ⟨o,ho,adx⟩:=F.at';have sub:∀x∈names.zip xs,x.1∈names:=λx hx=>(WI hx).1
 have par:∀x∈names,(fd.scope.names.lookup x=some .local\/(fd.scope.names.lookup x=some .cell/\x∈cy fd.scope))/\(x==("__debug__":Str))=false/\(x==("__classdict__":Str))=false:=λx hx=>by
  have:=En.mp Zg x hx;simp only[iT,Pn,beq_iff_eq,bne_iff_ne,ne_eq,t8] at this;exact⟨this.1.1,beq_eq_false_iff_ne.mpr this.1.2,beq_eq_false_iff_ne.mpr this.2⟩
 obtain⟨L,hL⟩:∃L,L=s.heap.objs.size:=⟨_,rfl⟩;intros L _ hL;have H1:(s.heap.push {cls:=.type "frame",data:=.dict #[]}).objs.size=L+1:=by rw[hL];exact BR ..
 let ⟨MH,ME,Qt⟩:=lR fd.scope.names (s.heap.push {cls:=.type "frame",data:=.dict #[]}) [];rw[H1] at MH ME Qt;have SD:(callEnvC fd L fa).cells=cellsFrom (L+1) fd.scope.names []:=rfl
 have acz:∀a,L<=a->s.heap.get? a=none:=λa h=>by
  cases e:s.heap.get? a with
  |none=>rfl
  |some o=>exact aK (gP e) (jb.mpr (hL▸h))
 have fx:∀a,FX fd L fa a->s.heap.get? a=none:=λa h=>by
  rcases h with rfl|⟨x,hx,l⟩
  .exact acz _ (bW _)
  let ⟨a',l',_,_,le⟩:=MH x hx;rw[SD] at l;rw[l] at l';cases l';exact acz a (Ww le)
 refine codeAny_call_cells (a:=fa) (o:=o) (fd:=fd) (body:=body) (binds:=names.zip xs) (f6 (iE ..) B.room.d) (B.keep _ _ ho) adx (B.base.lim.keeps B.keep) (F.code.keeps B.keep) F.body QE F.clo (λx hx=>?_) (λah I=>?_) F.co F.gen F.kind
 .rcases(par x.1 (sub x hx)).1 with h|⟨h1,h2⟩
  .exact .inl h
  let ⟨a,l,_⟩:=MH x.1 h2;exact .inr ⟨h1,by rw[<-hL,l];rfl⟩
 rw[<-hL] at I⊢;let ⟨bF,tk,e₁⟩:=I.toInCall.same;have aE:Kp s ah:=⟨by rw[e₁],by rw[e₁],I.toInCall.keep⟩;have kf:∀a o,s.heap.get? a=some o->¬FX fd L fa a:=λa o e h=>ns (fx a h) e
 have hr:∀{u:aA} {d:D},Rep s.heap c.M u d->Rep ah.heap (c.fn fd fa L O).M u d:=λr=>r.mono λa o n z e=>⟨aE.keep a o e,λh=>h.elim n (kf a o e)⟩
 have mf:∀a,c.M a->¬FX fd L fa a:=λa m=>let ⟨o,e⟩:=B.gG a m;kf a o e
 have cl:∀x a,(callEnvC fd L fa).cells.lookup x=some a->x∈cy fd.scope:=λx a l=>by
  by_cases h:x∈cy fd.scope
  .exact h
  rw[SD,ME x h] at l;simp at l
 have acA:Bs (c.fn fd fa L O) ah:=by
  refine⟨λb o e=>aE.keep b o (B.keep b o e),B.base,⟨B.room.hh,?_,?_⟩,λa m=>?_,λa h=>.inr h,λa m=>?_,λa cn e=>?_,λa h=>?_,λa h=>.inl h⟩
  .show c.A.units+3+50*(c.n-1)+500<cLine;exact Sm (k:=3) hn B.room.u aa
  .show c.A.depth+1+(c.n-1)<recursionLimit;exact Sn hn B.room.d
  .rcases m with m|m
   .let ⟨o,e⟩:=B.gG a m;exact⟨o,aE.keep a o e⟩
   rcases m with rfl|⟨x,hx,l⟩
   .let ⟨o,_,_,e,_⟩:=I.toInCall.ns;exact⟨o,e⟩
   let ⟨o,e,_⟩:=I.cell x a l;exact⟨o,e⟩
  .rcases m with m|m
   .exact B.kI a m
   show c.h₀.get? a=none;exact B.u7 (fx a m)
  .let ⟨h1,h2,h3⟩:=B.gg a cn e;exact⟨.inl h1,mf a h1,h3.mono hr (aE.keep a)⟩
  let ⟨h1,h2,h3⟩:=B.oq a (hO a h);exact⟨.inl h1,mf a h1,h3⟩
 have cF:St (c.fn fd fa L O) (names.zip vs) ah:=by
  refine⟨acA,F.kind,F.globals,F.builtins,λx y a lx ly=>Qt x y a (cl x a lx) (cl y a ly) lx ly,λx a l=>⟨_,I.cell x a l⟩,λx v e=>?_⟩;let ⟨u,hu,r⟩:=MQ ha e;let ⟨hk,h1,h2⟩:=par x (WI hu).1;have Fp:((names.zip xs).map (·.1)).Nodup:=by rw[List.map_fst_zip (by exact fF ‹_›)];exact mu
  refine⟨h1,h2,u,?_,r.mono hr⟩;rcases hk with hk|⟨hk,hc⟩
  .exact .inl ⟨hk,_,I.toInCall.ns,Um Fp hu hk⟩
  let ⟨a,l,_⟩:=MH x hc;refine .inr ⟨.inl hk,a,l,?_⟩;have:=I.cell x a l;rw[Uo Fp hu (by show fd.scope.names.lookup x≠some .local;rw[hk];decide)] at this;exact this
 have c9:Lo (c.fn fd fa L O) ah:=⟨⟨_,I.toInCall.ns⟩,λb h=>h,λx hx=>by
  let ⟨a,l,_⟩:=MH x hx;exact⟨a,_,l,I.cell x a l⟩⟩
 have fin:∀fE aB u d,Ext (c.fn fd fa L O) ah fE aB->Bs fE aB->Rep aB.heap c.M u d->((∃ρ,P fE ρ/\d=.none)\/R fE d)->Q u aB:=λfE aB u d X yG ru hp=>by
  obtain⟨M',σ',wr',rfl⟩:∃M' σ' wr',fE={c.fn fd fa L O with M:=M',σ:=σ',wr:=wr'}:=⟨_,_,_,X.eq⟩;have old:∀a o,s.heap.get? a=some o->∃o,ah.heap.get? a=some o:=λa o e=>⟨o,aE.keep a o e⟩
  have mk:∀a,c.M a->M' a/\¬FX fd L fa a:=λa m=>⟨yG.bm a m,mf a m⟩
  have nX:∀a o,s.heap.get? a=some o->σ' a≠none->¬c.X a:=λa o e h=>by
   let ⟨cn,hc⟩:=EH.mp h;let ⟨wJ,e₁⟩:=old a o e;let ⟨eL,e'⟩:=X.sn a wJ cn e₁ hc;exact(B.gg a eL e').2.1
  have nX':∀a,σ' a≠none->¬c.X a:=λa h x=>by
   let ⟨o,e⟩:=B.gG a (B.xm a x);exact nX a o e h x
  have kk:Kx O s aB:=⟨X.kx.gens.trans aE.gens,X.kx.os.trans aE.os,λb o n e=>X.kx.keep b o (λh=>h.elim n λh=>kf b o e h) (aE.keep b o e)⟩
  have sg':∀a cn,¬O a->c.σ a=some cn->σ' a=some cn:=λa cn n e=>by
   have m:=(B.gg a cn e).1;let ⟨o,eo⟩:=acA.gG a (.inl m);exact X.sg a o cn eo m n e
  have wk:∀a,O a->wr' a:=λa o=>X.wb a (B.oq a (hO a o)).1 o
  have e₂:wI c O s {c with M:=λa=>M' a/\¬FX fd L fa a,σ:=σ',wr:=λa=>c.wr a\/wr' a} aB:=by
   refine⟨rfl,kk,λa o e=>?_,λa o e h=>?_,λa m=>mk a m,λa o e h=>?_,λa h=>.inl h,sg',λa o cn e h=>?_,λa cn e n=>⟨(X.nw a cn e λq=>n (.inr q)).1,λq=>n (.inl q)⟩⟩
   .let ⟨wJ,e₁⟩:=old a o e;exact X.al a wJ e₁
   .let ⟨wJ,e₁⟩:=old a o e;exact(X.m a wJ e₁ h.1).elim id λq=>aK q h.2
   .let ⟨wJ,e₁⟩:=old a o e;exact h.elim id λh=>hO a (X.w a wJ e₁ h)
   let ⟨wJ,e₁⟩:=old a o e;exact X.sn a wJ cn e₁ h
  have Az:Bs {c with M:=λa=>M' a/\¬FX fd L fa a,σ:=σ',wr:=λa=>c.wr a\/wr' a} aB:=by
   refine⟨yG.keep,B.base,B.room,λa m=>yG.gG a m.1,λa h=>mk a (B.xm a h),λa m=>yG.kI a m.1,λa cn e=>?_,λa h=>?_,λa h=>mk a (B.bm a h)⟩
   .let ⟨h1,h2,h3⟩:=yG.gg a cn e;exact⟨⟨h1,h2⟩,nX' a (by intro q;have e':σ' a=some cn:=e;exact ns q e'),h3.mono (λr=>r.qh λb m=>m.1) λz e=>e⟩
   rcases h with h|h
   .refine aM λhN=>?_;obtain⟨h1,h2,cn,h3⟩:_:=B.oq a h;refine hN ?_
    refine⟨mk a h1,h2,?_⟩
    by_cases ho:O a
    .exact(yG.oq a (wk a ho)).2.2
    exact⟨cn,sg' a cn ho h3⟩
   refine aM λhN=>?_;obtain⟨h1,h2,cn,h3⟩:_:=yG.oq a h;refine hN ?_
   exact⟨⟨h1,h2⟩,nX' a (by intro q;have e':σ' a=some cn:=h3;exact ns q e'),cn,h3⟩
  exact hQ L _ {c with M:=λa=>M' a/\¬FX fd L fa a,σ:=σ',wr:=λa=>c.wr a\/wr' a} aB u d X.eq hp aa e₂ Az ru
 exact mP ((mX L).body cF c9 (λfE ρ' aB X b7 cO hp=>fin fE aB .none .none X b7.bs .none (.inl ⟨ρ',hp,rfl⟩)) λfE aB u d X yG ru hr=>fin fE aB u d X yG ru (.inr hr)) (λz z h=>h) λz z h=>h.elim
def Ext.rep{c c':C}{ρ:Nm}{s s':Shared}(x:Ext c s c' s')(S:St c ρ s)(L:Lo c s){u:aA}{d:D}(r:Rep s.heap c.M u d):Rep s'.heap c'.M u d:=
 r.mono λa o n z e=>⟨x.kx.keep a o (λh=>n (h.elim (λh=>(S.bs.oq a h).1) λh=>S.bs.xm a (L.yx a h))) e,λm=>n (x.m a o e m)⟩
def Ext.ae0{c c':C}{ρ:Nm}{s s':Shared}(x:Ext c s c' s')(S:St c ρ s)(L:Lo c s){u:aA}{v:V}(r:gf c s.heap u v):gf c' s'.heap u v:=r.mono λq=>x.rep S L q
inductive ady(c:C)(ρ:Nm)(Q:C->List V->Prop)(s:Shared)(xs:List aA)(s':Shared):Prop
 |mk (c':C) (vs:List V) (X:Ext c s c' s') (S:St c' ρ s') (L:Lo c' s') (r:r4 c' s'.heap xs vs) (q:Q c' vs)
structure TgO(c c':C)(ρ':Nm)(s:Shared)(u:Unit)(s':Shared):Prop where
 X:Ext c s c' s'
 S:St c' ρ' s'
 L:Lo c' s'
def AA(c:C)(ρ:Nm)(es:List aU)(Q:C->List V->Prop):Prop:=∀s pos,St c ρ s->Lo c s->
 wpAny c.m c.A (spliced (backTo pos (starEach es c.env))) (ady c ρ Q s) no s
def rV(c:C)(ρ:Nm)(tg:aU)(v:V)(c':C)(ρ':Nm):Prop:=∀s u,St c ρ s->Lo c s->gf c s.heap u v->
 wpAny c.m c.A (assign tg c.env u) (TgO c c' ρ' s) no s
inductive wL:C->Nm->List aU->List V->C->Nm->Prop
 |nil {c ρ}:wL c ρ [] [] c ρ
 |cons {c ρ tg v fE QF jx vs nZ Fq}:rV c ρ tg v fE QF->bJ tg=false->wL fE QF jx vs nZ Fq->wL c ρ (tg::jx) (v::vs) nZ Fq
def oB(h:bJ tg=false)(jx:List aU)(env:Env):assignEach (tg::jx) env=(false,assign tg env)::assignEach jx env:=by
 cases tg<;>first|rfl|cases h
section
variable {c:C}{ρ:Nm}{k:List (List Stmt)}{rest:List Stmt}{P:C->Nm->Prop}{R:C->D->Prop}{e e₁ e₂ o tg:aU}{v:V}{pos p apos:Pos}{x:Str}{Q:C->V->Prop}{a:Addr}
theorem AA.nil:AA c ρ [] (λc' vs=>c'=c/\vs=[]):=λs pos S L=>vQ ⟨c,[],.refl,S,L,.nil,rfl,rfl⟩
theorem AA.cons{es:List aU}{Q':C->List V->Prop}(h:g9 c ρ e Q)(r:∀c' v,c'={c with M:=c'.M,σ:=c'.σ,wr:=c'.wr}->Q c' v->AA c' ρ es (λk8 vs=>Q' k8 (v::vs)))(hs:autoParam (bJ e=false) bu):AA c ρ (e::es) Q':=by
 intros c ρ e Q es Q' _ h r hs;exact λs pos S L=>by
  rw[bO _ hs];refine sM (bk (h s S L) (λu ah q1=>?_));refine aM λhN=>?_;obtain⟨fE,v,X,cF,c9,q,hq⟩:_:=q1;refine hN ?_
  have h2:=r fE v X.eq hq ah pos cF c9;obtain⟨M',σ',wr',rfl⟩:∃M' σ' wr',fE={c with M:=M',σ:=σ',wr:=wr'}:=⟨_,_,_,X.eq⟩;exact bk h2 (λus aB q2=>by refine aM λhN=>?_;obtain⟨nZ,vs,gy,b7,cO,SE,adz⟩:_:=q2;refine hN ?_;exact⟨nZ,v::vs,X.trans gy,b7,cO,.cons (gy.ae0 cF c9 q) SE,adz⟩)
def jP.m(h:jP c ρ e cn):g9 c ρ e (λc' v=>∃a,¬c.M a/\c.σ a=none/\c'=c.add a cn/\v=.r a):=λs S L=>bk (h s S) (λx s' qP=>by
 refine aM λhN=>?_;obtain⟨kp,a,e,n,cr⟩:_:=qP;refine hN ?_
 subst e;let ⟨cF,c9,tK⟩:=S.add L kp n cr;exact⟨_,.r a,tK,cF,c9,rfl,a,S.bs.new n,S.bs.xQ n,rfl,rfl⟩)
def rV.name(hx:uD c x):rV c ρ (.Name x p) v c ((x,v)::ρ):=λs u S L r=>D5 (S.store L hx r λs' k' S' L'=>⟨.Ff k' S L S',S',L'⟩)
def rV.Kz{ds:List D}{j:Nat}{d:D}(ho:Ev c ρ o (.r a))(hi:Ev c ρ e (.d (.int j)))(hs:c.σ a=some (.l ds))(hw:c.wr a)(hj:j<ds.length)(sQ:autoParam (CT e=false) bu):rV c ρ (.Subscript o e p) (.d d) (c.upd a (.l (ds.set j d))) ρ:=by
 intros c ρ e o p a ds j d _ ho hi hs hw hj sQ;exact λs u S L r=>by
  rw[Wc];refine aF (e9 (bk (ho s S) (λov ah o1=>aF (e9 (bk (hi ah (S.kp o1.k)) (λiv aB o2=>aF (jC (aF (e9 ?_)))))))));obtain rfl:ov=.ref a:=o1.r;let ⟨t,zy⟩:=jV o2.r;have kk:=o1.k.trans o2.k;exact(S.kp kk).xR (L.kp kk.keep) hs hw hj (zD r kk.keep) λs' S' L' X' z=>OQ ⟨(kL kk).trans X',S',L'⟩
def wL.run(h:wL c ρ jx vs c' ρ'):∀{s:Shared} {us:List aA},St c ρ s->Lo c s->r4 c s.heap us vs->
 wpAny c.m c.A (assignInOrder ((assignEach jx c.env).map (·.2)) us) (λz s'=>Ext c s c' s'/\St c' ρ' s'/\Lo c' s') no s:=by
 induction h with
 |nil=>intro s us S L r;cases r;exact bx ⟨.refl,S,L⟩
 |@cons c ρ tg v fE QF jx vs nZ Fq h1 hs _ ih=>
  intro s us S L r;cases r with
  |@cons u us _ _ r rs=>
   rw[oB hs];show wpAny c.m c.A (holding us (assign tg c.env u)>>=λz=>assignInOrder ((assignEach jx c.env).map (·.2)) us) _ no s;refine aF (e9 (bk (h1 s u S L r) (λz ah q1=>?_)));refine aM λhN=>?_;obtain⟨tK,cF,c9⟩:_:=q1;refine hN ?_
   have h2:=ih cF c9 (rs.mono λq=>tK.rep S L q);obtain⟨M',σ',wr',rfl⟩:∃M' σ' wr',fE={c with M:=M',σ:=σ',wr:=wr'}:=⟨_,_,_,tK.eq⟩;exact bk h2 (λz aB q2=>by let ⟨gy,b7,cO⟩:=q2;exact⟨tK.trans gy,b7,cO⟩)
def wL.len(h:wL c ρ jx vs c' ρ')(env:Env):(assignEach jx env).length=vs.length/\(assignEach jx env).findIdx? (·.1)=none:=by
 induction h with
 |nil=>exact⟨rfl,rfl⟩
 |cons _ hs _ ih=>
  rw[oB hs];refine⟨by show _+1=_+1;rw[ih.1],?_⟩;rw[WE];simp[ih.2]
def Ex.Zh(h:g9 c ρ e Q)(r:∀c' v,c'={c with M:=c'.M,σ:=c'.σ,wr:=c'.wr}->Q c' v->∃k8 nW,rV c' ρ tg v k8 nW/\Ex k8 nW (rest::k) P R)(cW:autoParam (bJ tg=false) bu)
 (hs:autoParam (swapsWithSole [tg] e pos.line c.env=pure false) bu) (hw:autoParam (swappedStores [tg] e c.env=pure none) bu):Ex c ρ ((.Assign [tg] e pos::rest)::k) P R:=by
 intros c ρ k rest P R e tg pos Q _ h r cW hs hw;exact pW λs S L=>wpAny_Assign_stores (bk (h s S L) (λu ah qP=>by
  refine aM λhN=>?_;obtain⟨fE,v,X,cF,c9,q,hq⟩:_:=qP;refine hN ?_
  let ⟨nZ,Fq,t,ex⟩:=r fE v X.eq hq;obtain⟨M',σ',wr',rfl⟩:∃M' σ' wr',fE={c with M:=M',σ:=σ',wr:=wr'}:=⟨_,_,_,X.eq⟩;rw[oB cW];exact bk (t ah u cF c9 q) (λz aB q1=>by refine aM λhN=>?_;obtain⟨gy,b7,cO⟩:_:=q1;refine hN ?_;exact⟨_,_,rfl,X.trans gy,b7,cO,ex⟩))) hs hw
def Ex.Uq{jx es:List aU}{n m:Nat}{tp vp:Pos}{Q:C->List V->Prop}(h:AA c ρ es Q)(r:∀c' vs,c'={c with M:=c'.M,σ:=c'.σ,wr:=c'.wr}->Q c' vs->∃k8 nW,wL c' ρ jx vs k8 nW/\Ex k8 nW (rest::k) P R)(hz:jx.length<=100:=by decide)
 (hw:autoParam (swappedStores [.Tuple jx n tp] (.Tuple es m vp) c.env=pure none) bu):Ex c ρ ((.Assign [.Tuple jx n tp] (.Tuple es m vp) pos::rest)::k) P R:=by
 intros c ρ k rest P R pos _ jx es n m tp vp Q h r hz hw;intros jx es n m tp vp Q _ h r hz hw;exact pW λs S L=>PN (Jr (bk (h s vp S L) (λxs ah qP=>by
  refine aM λhN=>?_;obtain⟨fE,vs,X,cF,c9,q,hq⟩:_:=qP;refine hN ?_
  let ⟨nZ,Fq,t,ex⟩:=r fE vs X.eq hq;obtain⟨M',σ',wr',rfl⟩:∃M' σ' wr',fE={c with M:=M',σ:=σ',wr:=wr'}:=⟨_,_,_,X.eq⟩;have hl:=q.length;have tl:=t.len c.env
  have cG:vs.length<=100:=by
   rw[<-tl.1]
   have:∀l:List aU,(assignEach l c.env).length=l.length:=λl=>by
    induction l with
    |nil=>rfl
    |cons e l ih=>cases e<;>(show _+1=_+1;rw[ih])
   rw[this];exact hz
  refine⟨by rw[hl,qI];exact lK ‹_› rfl,?_⟩;have kp:Kp ah {ah with heap:=ah.heap.push {cls:=.type "tuple",data:=.seq xs.toArray}}:=jw ah _;refine OM (s:={ah with heap:=ah.heap.push {cls:=.type "tuple",data:=.seq xs.toArray}}) S.bs.room.hh (items:=xs.toArray) ⟨_,fh _ aa,rfl,0,rfl⟩ (by rw[tl.1];simp[hl]) tl.2 λh' x=>?_
  have kk:Kp ah {ah with heap:=h'}:=kp.trans ⟨rfl,rfl,λb o e=>x b o (ie (gP e)) e⟩;exact bk (t.run (cF.kp kk) (c9.kp kk.keep) (q.keep kk.keep)) (λz aB q1=>by let ⟨gy,b7,cO⟩:=q1;exact⟨_,_,rfl,X.trans ((kL kk).trans gy),b7,cO,ex⟩)))) aa hw
end
open Mine.wL renaming cons->fJ,nil->pY
open Mine.rV renaming name->jZ
open Mine.Ex renaming Zh->mY,Uq->Ft
open Mine.jP renaming m->mZ
open Mine.AA renaming cons->oE,nil->Co
section
variable {c:C}{ρ:Nm}{k:List (List Stmt)}{rest:List Stmt}{P:C->Nm->Prop}{R:C->D->Prop}{e e₁ e₂ o tg:aU}{v:V}{pos p apos:Pos}{x:Str}{Q:C->V->Prop}{a:Addr}
def MR{names:List Str}:∀{us:List aA} {vs:List V} {ρ:Nm} {s:Shared},(∀x∈names,uD c x)->names.length=vs.length->St c ρ s->Lo c s->r4 c s.heap us vs->
 wpAny c.m c.A (assignInOrder (names.map λn=>bindName c.env n) us) (λz s'=>Ext c s c s'/\St c ((names.zip vs).reverse++ρ) s'/\Lo c s') no s:=by
 intros c names
 induction names with
 |nil=>
  intro us vs ρ s _ hl S L r;cases r with
  |nil=>exact bx ⟨.refl,S,L⟩
  |cons=>simp at hl
 |cons n names ih=>
  intro us vs ρ s hs hl S L r;cases r with
  |nil=>simp at hl
  |@cons u us v vs r rs=>
   show wpAny c.m c.A (holding us (bindName c.env n u)>>=λz=>assignInOrder (names.map λn=>bindName c.env n) us) _ no s;refine aF (e9 (wpAny_bindName (S.store L (hs n (.head _)) r λah aE cF c9=>?_)));refine bk (ih (λx hx=>hs x (.tail _ hx)) (by simpa using hl) cF c9 (rs.mono λq=>(Ext.Ff aE S L cF).rep S L q)) (λ_ aB ⟨gy,b7,cO⟩=>⟨(Ext.Ff aE S L cF).trans gy,?_,cO⟩);rw[El,BG,jJ];exact b7
theorem iG.reverse(r:iG M h us vs):iG M h us.reverse vs.reverse:=by
 have app:∀{us:List aA} {vs:List V} {ws:List aA} {zs:List V},iG M h us vs->iG M h ws zs->iG M h (us++ws) (vs++zs):=λr q=>by
  induction r with
  |nil=>exact q
  |cons a _ ih=>exact .cons a ih
 induction r with
 |nil=>exact .nil
 |cons a _ ih=>rw[BG,BG];exact app ih (.cons a .nil)
theorem MS{α β:Type}:∀{l:List α} {m:List β},l.length=m.length->(l.reverse.zip m.reverse).reverse=l.zip m
 |[],[],_=>rfl
 |a::l,b::m,h=>by
  have h':l.length=m.length:=by simpa using h
  rw[BG,BG,List.zip_append (by simpa using h')];simp[MS h']
def Ex.Ur{jx es:List aU}{n m:Nat}{tp vp:Pos}{names:List Str}{Q:C->List V->Prop}(h:AA c ρ es Q)(Zi:∀x∈names,uD c x)(r:∀c' vs,c'={c with M:=c'.M,σ:=c'.σ,wr:=c'.wr}->Q c' vs->names.length=vs.length/\Ex c' (names.zip vs++ρ) (rest::k) P R)(hz:names.length<=100:=by decide)
 (hw:autoParam (swappedStores [.Tuple jx n tp] (.Tuple es m vp) c.env=pure (some names)) bu):Ex c ρ ((.Assign [.Tuple jx n tp] (.Tuple es m vp) pos::rest)::k) P R:=by
 intros c ρ k rest P R pos jx _ es n m tp vp names Q h Zi r hz hw;intros es n m tp vp names Q _ h Zi r hz hw;exact pW λs S L=>Assign_Tuple_swapped (Jr (bk (h s vp S L) (λxs ah qP=>by
  refine aM λhN=>?_;obtain⟨fE,vs,X,cF,c9,q,hq⟩:_:=qP;refine hN ?_
  let ⟨hln,ex⟩:=r fE vs X.eq hq;obtain⟨M',σ',wr',rfl⟩:∃M' σ' wr',fE={c with M:=M',σ:=σ',wr:=wr'}:=⟨_,_,_,X.eq⟩;have hl:=q.length;refine⟨by rw[hl,<-hln,qI];exact lK ‹_› rfl,?_⟩;have kp:Kp ah {ah with heap:=ah.heap.push {cls:=.type "tuple",data:=.seq xs.toArray}}:=jw ah _;have jt:names.length=xs.toArray.size:=by simp[hl,hln]
  rw[jt];refine unpackItems_tuple (s:={ah with heap:=ah.heap.push {cls:=.type "tuple",data:=.seq xs.toArray}}) S.bs.room.hh (items:=xs.toArray) ⟨_,fh _ aa,rfl,0,rfl⟩ λh' x=>?_
  have kk:Kp ah {ah with heap:=h'}:=kp.trans ⟨rfl,rfl,λb o e=>x b o (ie (gP e)) e⟩;refine bk (MR (c:={c with M:=M',σ:=σ',wr:=wr'}) (names:=names.reverse) (us:=xs.reverse) (vs:=vs.reverse) (λx hx=>Zi x (List.mem_reverse.mp hx)) (by simpa using hln) (cF.kp kk) (c9.kp kk.keep) (iG.reverse (q.keep kk.keep))) (λ_ aB ⟨gy,b7,cO⟩=>⟨_,_,rfl,X.trans ((kL kk).trans gy),?_,cO,ex⟩);rw[MS hln] at b7;exact b7))) aa hw
def iG.ofD(r:aC h M us ds):iG M h us (ds.map .d):=r.ind (m:=λus ds=>iG M h us (ds.map .d)) .nil λa z ih=>.cons a ih
def Ex.Zj(h:Ev c ρ e (.d (.tup ds)))(t:wL c ρ jx (ds.map .d) c' ρ')(r:Ex c' ρ' (rest::k) P R)
 (hs:autoParam (swapsWithSole [.Tuple jx n tp] e pos.line c.env=pure false) bu) (hw:autoParam (swappedStores [.Tuple jx n tp] e c.env=pure none) bu):Ex c ρ ((.Assign [.Tuple jx n tp] e pos::rest)::k) P R:=
 pW λs S L=>PN (bk (h s S) (λu ah o1=>by
  let ⟨l,vs,zy,i,nm,z,r'⟩:=VR.mT o1.r;have hl:=r'.size;have tl:=t.len c.env;refine OM S.bs.room.hh i.Mx (by rw[tl.1,hl,aR]) tl.2 λh' x=>?_
  have kk:Kp s {ah with heap:=h'}:=o1.k.trans ⟨rfl,rfl,λb o e=>x b o (ie (gP e)) e⟩;have adA:Kp ah {ah with heap:=h'}:=⟨rfl,rfl,λb o e=>x b o (ie (gP e)) e⟩;exact bk (t.run (S.kp kk) (L.kp kk.keep) (iG.ofD (r'.keep adA.keep))) (λy aB q1=>by let ⟨gy,b7,cO⟩:=q1;exact⟨_,_,rfl,(kL kk).trans gy,b7,cO,r⟩))) hs hw
def HP{s:Shared}{l:Addr}{Fv Fw:aA}{jx:List (Bool×(aA->Sem Unit))}{Q:Unit->Shared->Prop}(hh:c.A.handled=none)(hl:PL s.heap l #[Fv,Fw])(hn:jx.length=2)(cW:jx.findIdx? (·.1)=none)
 (hQ:∀s',Kp s s'->wpAny c.m c.A (assignInOrder (jx.map (·.2)) [Fv,Fw]) Q no s'):wpAny c.m c.A (unpack (.ref l) jx) Q no s:=by
 intros c s l Fv Fw jx Q _ hh hl hn cW hQ;have il:=hl.isList;have eG:l≠s.heap.objs.size:=by let ⟨n,e⟩:=hl;exact ie (gP e)
 unfold unpack;rw[hn,cW];refine aF (e9 ?_);unfold unpackItems;refine aF ?_;unfold notIterableAtAll;refine aF (V0 il.typeIs PySem.F.slot_list_iter.lookup (bx ?_));simp only[sH,if_false];refine aF (e9 (D3 il ?_));have i0:(s.heap.push {cls:=.type "list_iterator",data:=.fields #[.ref l,.int 0 0]}).IsListIter s.heap.objs.size l 0:=⟨_,fh _ aa,rfl,rfl⟩;have l0:PL (s.heap.push {cls:=.type "list_iterator",data:=.fields #[.ref l,.int 0 0]}) l #[Fv,Fw]:=hl.at λo e=>dS _ e
 refine aF (e9 ?_);show wpAny _ _ (pyNext (.ref s.heap.objs.size)>>=_) _ _ _;refine aF (Js (s:={s with heap:=s.heap.push {cls:=.type "list_iterator",data:=.fields #[.ref l,.int 0 0]}}) i0 l0.isList (x:=Fv) aa λbF E8 ah=>?_);have l1:PL bF l #[Fv,Fw]:=l0.at λo e=>ah.extBut l o eG e
 refine aF (e9 ?_);show wpAny _ _ (pyNext (.ref s.heap.objs.size)>>=_) _ _ _;refine aF (Js (s:={s with heap:=bF}) E8 l1.isList (x:=Fw) aa λbN ae1 aB=>?_);have l2:PL bN l #[Fv,Fw]:=l1.at λo e=>aB.extBut l o eG e
 refine aF (e9 (bx (bx (bx ?_))));show wpAny _ _ (if 2<2 then _ else _) _ _ _;rw[ay (by decide)];refine aF (e9 (OL (s:={s with heap:=bN}) hh ae1 l2.isList aa λj0 adB=>?_));simp only[Option.isSome_none,sH,if_false];exact bx (hQ _ ⟨rfl,rfl,λb o e=>adB b o (ie (gP e)) (aB.extBut b o (ie (gP e)) (ah.extBut b o (ie (gP e)) (dS _ e)))⟩)
end
open Mine.Ex renaming Ur->wM,Zj->Fx
def abA{prog:Program}{w:World}{A:Around}{s:Shared}{K:Frag}{x C dx:Addr}{ox:Obj}{es:List tY}{n:Nat}{name:Str}{tk:Tok}{v:aA}{R:vq->Shared->Prop}(X:K.In s.heap)(I:InstAt s.heap x ox C (some (dictOf es n)))(hd:ox.dict=some dx)
 (hp:plainOver K C=true) (ht:takerIn K C name=some none) (hh:hasDictIn K C=true) (hl:(getL name es).isSome=true) (hz:(putL name (uf w.params name) (.str name s.toks) v es).length<=1000)
 (h:∀h',h'.get? dx=some (dictOf (putL name (uf w.params name) (.str name s.toks) v es) (putN name es n))->kY dx s.heap h'->R (.ok (.ret .none)) {s with heap:=h',toks:=s.toks+1}):
 codeAny (model prog w) A (.call (.builtin "object.__setattr__") ⟨[.ref x,.str name tk,v],[]⟩) R s:=by
 intros prog w A s K x C dx _ ox es n name tk v R X I hd hp ht hh hl hz h;intros ox es n name tk v R _ X I hd hp ht hh hl hz h
 have D0:s.heap.get? dx=some (dictOf es n):=by
  have:=I.dict;rw[hd] at this;exact this
 refine osa_open X I hp ht λb=>?_;intros b
 let ⟨cd,hc,rU⟩:=any_some hh
 have D':(s.heap.update dx (Obj.putName name (uf w.params name) (.str name s.toks) v)).get? dx=some (dictOf (putL name (uf w.params name) (.str name s.toks) v es) (putN name es n)):=by
  rw[EB _ D0 (by rw[putName_dict];rfl),putName_dict]
 refine aM λhN=>?_;obtain⟨hx,Ca,hn,-⟩:_:=I;refine hN ?_
 refine aM λhN=>?_;obtain⟨oc,odi,oda,osl⟩:_:=ox;refine hN ?_
 dsimp only at Ca hd;subst Ca hd;refine aF (bx (aF (aF (Wd hx (aF ((looks_clsIn X hc).here ?_))))));rw[rU];refine bx (a:=some dx) (aF (bx (aF ?_)));unfold nsSet;refine aF (aF (qH (bx (aF (wpAny_mkText (aF (Wd D0 ?_)))))))
 have c:(!es.toArray.any (·.key.isStr name)&&es.toArray.any (·.refKey))=false:=by
  rw[WJ,WJ];unfold getL at hl;split at hl
  .rename_i en he;rw[BH.mpr ⟨en,O2 he,O3 he⟩];rfl
  split at hl
  .cases hl
  rename_i z;rw[JX] at z;rw[z,Xu]
 dsimp only;rw[aRefKeyMayBeTheName_at,c];refine wpAny_updatePart D0 ?_;refine aF (wpAny_lookBehind D' (pastItsLine_dict (by rw[O4,qI];exact lK ‹_› rfl)) ?_);exact bx (h _ D' (qT ..))
def MT{prog:Program}{w:World}{A:Around}{E:aA->Shared->Prop}{s:Shared}{K:Frag}{x C dx:Addr}{ox:Obj}{es:List tY}{n:Nat}{name:Str}{v:aA}{Q:Unit->Shared->Prop}(X:K.In s.heap)(I:InstAt s.heap x ox C (some (dictOf es n)))(hd:ox.dict=some dx)
 (hs:findIn K (.ref C) "__setattr__"=some (some (.builtin "object.__setattr__"))) (hp:plainOver K C=true) (ht:takerIn K C name=some none) (hh:hasDictIn K C=true) (hl:(getL name es).isSome=true) (hz:(putL name (uf w.params name) (.str name (s.toks+1)) v es).length<=1000)
 (h:∀h',h'.get? dx=some (dictOf (putL name (uf w.params name) (.str name (s.toks+1)) v es) (putN name es n))->kY dx s.heap h'->Q () {s with heap:=h',toks:=s.toks+2}):
 wpAny (model prog w) A (setAttr (.ref x) name v) Q E s:=
 set_plain X I hs (abA (s:={s with toks:=s.toks+1}) X I hd hp ht hh hl hz λh' g sb=>h h' g sb)
theorem IB(n:Str)(hs:Int)(key v:aA):∀es:List tY,(putL n hs key v es).length<=es.length+1
 |[]=>by simp[putL]
 |e::r=>by
  unfold putL;split
  .simp
  have:=IB n hs key v r;simp;assumption
theorem IC:∀{es:List tY},(∀e∈es,∃x t,e.key=.str x t)->∀e∈putL n hs (.str n t) v es,∃x t,e.key=.str x t
 |[],_,e,he=>by simp[putL] at he;subst he;exact⟨n,t,rfl⟩
 |a::r,h,e,he=>by
  unfold putL at he;split at he
  .rcases bZ.mp he with rfl|he
   .exact h a (.head _)
   exact h e (.tail _ he)
  rcases bZ.mp he with rfl|he
  .exact h e (.head _)
  exact IC (λe he=>h e (.tail _ he)) e he
def adC{es:List tY}(h:∀e∈es,∃x t,e.key=.str x t):es.any (·.refKey)=false:=by
 rw[JI];intro e he;let ⟨x,t,hk⟩:=h e he;unfold DictEntry.refKey;rw[hk];simp
def xS{es:List tY}(h:∀e∈es,∃x t,e.key=.str x t)(n:Str):getL n es=some ((es.find? (·.key.isStr n)).map (·.val)):=by
 unfold getL;split
 .rename_i e he;rw[he];rfl
 rename_i he;rw[he,adC h];rfl
def aev(x m:Str)(t:Tok):(XK x t).isStr m=(x==m):=rfl
theorem Cq:∀{es:List tY},(∀e∈es,∃x t,e.key=.str x t)->((putL n hs (.str n t) v es).find? (·.key.isStr m)).map (·.val)=if m=n then some v else(es.find? (·.key.isStr m)).map (·.val)
 |[],_=>by
  unfold putL;rw[za,List.find?_nil];show qS _ (match (n==m) with|true=>_|false=>_)=_
  by_cases h:m=n
  .subst h;rw[aq aa,beq_self_eq_true];rfl
  have:(n==m)=false:=beq_eq_false_iff_ne.mpr λe=>h e.symm
  rw[ay h,this]
 |a::r,hk=>by
  have ih:=Cq (n:=n) (m:=m) (hs:=hs) (t:=t) (v:=v) (λe he=>hk e (.tail _ he):∀e∈r,_);let ⟨x,u,ha⟩:=hk a (.head _);have isA:∀y,a.key.isStr y=(x==y):=λy=>by rw[ha];rfl
  unfold putL
  by_cases hn:x=n
  .subst hn;rw[isA,beq_self_eq_true,aq aa,za,za];show qS _ (match a.key.isStr m with|true=>_|false=>_)=_;rw[isA]
   by_cases h:m=x
   .subst h;rw[aq aa,beq_self_eq_true];rfl
   have:(x==m)=false:=beq_eq_false_iff_ne.mpr λe=>h e.symm
   rw[ay h,this]
  have h1:a.key.isStr n=false:=by rw[isA];exact beq_eq_false_iff_ne.mpr hn
  rw[h1,ay (by decide),za,za,isA];cases h2:x==m with
  |true=>
   have:¬m=n:=λe=>hn ((beq_iff_eq.mp h2).trans e)
   rw[ay this]
  |false=>exact ih
noncomputable def gT(n:Str)(v:V):List (Str×V)->List (Str×V)
 |[]=>[(n,v)]
 |(m,w)::r=>if m=n then(n,v)::r else(m,w)::gT n v r
theorem uG(n m:Str)(v:V):∀l:List (Str×V),(gT n v l).lookup m=if m=n then some v else l.lookup m
 |[]=>by
  by_cases h:m=n
  .subst h;simp[gT]
  have:(m==n)=false:=beq_eq_false_iff_ne.mpr h;simp[gT,h,this]
 |(k,w)::r=>by
  unfold gT
  by_cases h:k=n
  .subst h;rw[aq aa]
   by_cases h:m=k
   .subst h;simp
   have:(m==k)=false:=beq_eq_false_iff_ne.mpr h;simp[lu,h,this]
  rw[ay h,lu,lu,uG n m v r]
  by_cases h2:m=k
  .subst h2;simp[h]
  have:(m==k)=false:=beq_eq_false_iff_ne.mpr h2;simp[this]
structure oF(g:G0):Prop where
 hasDict:hasDictIn g.K g.cls=true
 setter:findIn g.K (.ref g.cls) "__setattr__"=some (some (.builtin "object.__setattr__"))
 plain:plainOver g.K g.cls=true
 makes:makesIn g.K g.cls=true
 keep:keepIn g.K (.ref g.cls)=true
structure eK(g:G0)(n:Str):Prop where
 get:plainGet g.K g.cls n=true
 no:∃at',findIn g.K (.ref g.cls) n=some at'/\noGet g.K at'=true
 set:takerIn g.K g.cls n=some none
structure jh(g:G0)(n:Str)(fa:Addr):Prop where
 get:plainGet g.K g.cls n=true
 find:findIn g.K (.ref g.cls) n=some (some (.ref fa))
 fn:isFn g.K (.ref fa)=true
 keep:keepIn g.K (.ref fa)=true
def Rep.handed(r:Rep h M u d):handedIn u=true:=by intros h M u d _ r;cases r<;>rfl
theorem VR.handed(r:VR M h v u):handedIn u=true:=by
 cases v with
 |d x=>exact Rep.handed r
 |r a=>obtain rfl:u=.ref a:=r;rfl
theorem AB:∀{es:List tY},(putL n hs key v es).length=if(es.find? (·.key.isStr n)).isSome then es.length else es.length+1
 |[]=>rfl
 |e::r=>by
  unfold putL;rw[za];cases h:e.key.isStr n with
  |true=>rfl
  |false=>
   rw[ay (by decide),jL,AB (es:=r)];dsimp only;split<;>rfl
theorem AD:∀{l:List (Str×V)},(gT n v l).length=if(l.lookup n).isSome then l.length else l.length+1
 |[]=>rfl
 |(m,w)::r=>by
  unfold gT;rw[lu]
  by_cases h:m=n
  .subst h;simp
  have:(n==m)=false:=beq_eq_false_iff_ne.mpr λe=>h e.symm
  rw[ay h,this,jL,AD (l:=r)];split<;>rfl
section
variable {c:C}{ρ:Nm}{k:List (List Stmt)}{rest:List Stmt}{P:C->Nm->Prop}{R:C->D->Prop}{e e₁ e₂ o tg:aU}{v:V}{pos p apos:Pos}{x:Str}{Q:C->V->Prop}{a da:Addr}{bX:List (Str×V)}{n:Str}
def Bs.inst(B:Bs c s)(ho:c.σ a=some (.o da))(hd:c.σ da=some (.t bX)):∃es m,InstAt s.heap a ⟨.ref c.cls,some da,.plain,#[]⟩ c.cls (some (dictOf es m))/\s.heap.get? da=some (dictOf es m)/\es.length=bX.length/\(∀e∈es,∃x t,e.key=.str x t)/\
 (∀x v,bX.lookup x=some v->∃u,getL x es=some (some u)/\handedIn u=true/\VR c.M s.heap v u)/\∀x,bX.lookup x=none->getL x es=some none:=by
 intros c a da bX s _ B ho hd;let ⟨_,_,i⟩:=B.gg a _ ho;refine aM λhN=>?_;obtain⟨_,_,es,m,j,r⟩:_:=B.gg da _ hd;refine hN ?_
 exact⟨es,m,⟨i,rfl,rfl,j⟩,j,r⟩
theorem Bs.sP(B:Bs c s):c.K.In s.heap:=B.base.sP.keeps B.keep
def Ev.attr(C:oF c.toG0)(A:eK c.toG0 n)(h:Ev c ρ o (.r a))(ho:c.σ a=some (.o da))(hd:c.σ da=some (.t bX))(hn:bX.lookup n=some v)
 (he:eval (.Attribute o n pos) c.env=(do
  let o'<-eval o c.env
  standAt pos.atName
  let r<-holding [o'] (getAttr o' n true)
  letTemporaryGo o o' r
  pure r):=by with_unfolding_all rfl):Ev c ρ (.Attribute o n pos) v:=λs S=>
 Attribute_any_ (bk (h s S) (λu ah o1=>by
  obtain rfl:u=.ref a:=o1.r;have B:=S.bs.kp o1.k;let ⟨es,m,I,_,_,_,r,_⟩:=B.inst ho hd;let ⟨w,g1,g2,g3⟩:=r n v hn;let ⟨at',f1,f2⟩:=A.no;exact get_value B.sP I (Pw A.get).1 (findObj_own C.hasDict f1 f2 g1) g2 ⟨o1.k.trans (jv ah _),g3⟩)) he
theorem St.setAttr{s:Shared}{u:aA}{Q:Unit->Shared->Prop}(C:oF c.toG0)(A:eK c.toG0 n)(S:St c ρ s)(L:Lo c s)(ho:c.σ a=some (.o da))(hd:c.σ da=some (.t bX))(hw:c.wr da)(hz:bX.length<=100)(r:gf c s.heap u v)
 (q:∀s',St (c.upd da (.t (gT n v bX))) ρ s'->Lo (c.upd da (.t (gT n v bX))) s'->Ext c s (c.upd da (.t (gT n v bX))) s'->Q () s'):wpAny c.m c.A (setAttr (.ref a) n u) Q no s:=by
 intros c ρ v a da bX n s u Q _ C A S L ho hd hw hz r q;let ⟨es,m,I,D0,hl,hk,r1,r2⟩:=S.bs.inst ho hd;have hzz:(putL n (uf c.w.params n) (.str n (s.toks+1)) u es).length<=1000:=aG (IB n (uf c.w.params n) (.str n (s.toks+1)) u es) (aG (gw (aG (fF ‹es.length=_›) ‹_›)) (bz aa));refine MT S.bs.sP I aa C.setter C.plain A.set C.hasDict (by rw[xS hk];rfl) hzz λh' g sb=>?_
 have kx:Kx (·=da) s {s with heap:=h',toks:=s.toks+2}:=⟨rfl,rfl,λb o nb e=>(sb.2 b nb).trans e⟩;have pD:=IC (n:=n) (hs:=uf c.w.params n) (t:=s.toks+1) (v:=u) hk;have mda:=(S.bs.gg da _ hd).1;have ch:∀{u:aA} {v:V},VR c.M s.heap v u->VR c.M h' v u:=λr=>r.mono λq=>zG (c:=c) kx.keep (λb e=>e▸mda) q
 let ⟨S',L',X'⟩:=S.upd L hw hd (cn:=.t (gT n v bX)) kx (by
  have look:∀x,getL x es=some ((es.find? (·.key.isStr x)).map (·.val)):=λx=>xS hk x
  refine⟨_,_,g,?_,pD,λx w e=>?_,λx e=>?_⟩
  .rw[AB,AD,hl]
   have:(es.find? (·.key.isStr n)).isSome=(bX.lookup n).isSome:=by
    cases q:bX.lookup n with
    |none=>have:=r2 n q;rw[look] at this;cases f:es.find? (·.key.isStr n) with
     |none=>rfl
     |some y=>rw[f] at this;cases this
    |some w=>obtain⟨u',g1,_⟩:=r1 n w q;rw[look] at g1;cases f:es.find? (·.key.isStr n) with
     |none=>rw[f] at g1;cases g1
     |some y=>rfl
   rw[this]
  .rw[uG] at e;rw[xS pD,Cq hk]
   by_cases hx:x=n
   .rw[aq hx] at e⊢;cases e;exact⟨u,rfl,VR.handed r,ch r⟩
   rw[ay hx] at e⊢;obtain⟨u',g1,g2,g3⟩:=r1 x w e;rw[look] at g1;exact⟨u',g1,g2,ch g3⟩
  rw[uG] at e;rw[xS pD,Cq hk]
  by_cases hx:x=n
  .exact ns e (aq hx)
  rw[ay hx] at e⊢;have:=r2 x e;rw[look] at this;exact this)
 exact q _ S' L' X'
def rV.attr(C:oF c.toG0)(A:eK c.toG0 n)(h:Ev c ρ o (.r a))(ho:c.σ a=some (.o da))(hd:c.σ da=some (.t bX))(hw:c.wr da)(hz:bX.length<=100:=by decide):rV c ρ (.Attribute o n p) v (c.upd da (.t (gT n v bX))) ρ:=λs u S L r=>by
 rw[PySem.assign_Attribute];refine aF (e9 (bk (h s S) (λov ah o1=>aF (jC (aF (e9 ?_))))));obtain rfl:ov=.ref a:=o1.r;exact(S.kp o1.k).setAttr C A (L.kp o1.k.keep) ho hd hw hz (r.keep o1.k.keep) λs' S' L' X'=>OQ ⟨(kL o1.k).trans X',S',L'⟩
def QG{args:List aU}{s:Shared}{Q:aA->Shared->Prop}(bS:attributeBase o n c.env (eval o c.env)=eval o c.env)(hline:(apos.endLine==pos.line)=true)(hs:bP args=true)(hn:args.length<29)
 (h:wpAny c.m c.A (eval o c.env) (λov ah=>∀pl,wpAny c.m c.A (getMethod ov n pl) (λf aB=>wpAny c.m c.A (callWith pos f.1 f.2 (backTo pos (starEach args c.env)) []) Q no aB) no ah) no s):wpAny c.m c.A (eval (.Call (.Attribute o n apos) args [] pos) c.env) Q no s:=by
 intros c o pos apos n args s Q _ bS hline hs hn h
 have tG:(backTo pos (starEach args c.env)).all (λx=>!x.1)=true:=by
  have:=eU hs pos c.env;rw[En];intro x hx;have:=JI.mp this x hx
  simpa using this
 rw[arm_eval_Call,bS];refine aF (mP h (λov ah bF=>?_) λz z e=>e);refine aF (jC ?_)
 have adD:methodCallForm (args.length+([]:List Keyword).length) (backTo pos (starEach args c.env)) (backToKw pos (keywordEach [] c.env))=true:=by
  unfold methodCallForm;rw[tG];simp[KR];exact aG ‹_› (by decide)
 have SG:methodCallPos true o c.env apos pos=pure pos:=by unfold methodCallPos;simp[hline]
 unfold methodCall;rw[adD];refine aF (e9 (mP (bF _) (λf aB bN=>?_) λz z e=>e));exact aF (sy SG bN)
def Fy{args:List aU}{vs:List V}{fa:Addr}{s:Shared}{Q:aA->Shared->Prop}(M:jh c.toG0 n fa)(S:St c ρ s)(h:Ev c ρ o (.r a))(ho:c.σ a=some (.o da))(hd:c.σ da=some (.t bX))(hn:bX.lookup n=none)(ha:EvVs c ρ args vs)(hv:args=[]->vs=[])
 (bS:attributeBase o n c.env (eval o c.env)=eval o c.env) (hline:(apos.endLine==pos.line)=true) (hs:bP args=true) (hz:args.length<29)
 (q:∀ah xs,Kp s ah->r4 c ah.heap (.ref a::xs) (.r a::vs)->wpAny c.m c.A (call (.ref fa) (.ref a::xs)) Q no ah):wpAny c.m c.A (eval (.Call (.Attribute o n apos) args [] pos) c.env) Q no s:=by
 refine QG bS hline hs hz (bk (h s S) (λov ah ⟨aE,cT⟩ pl=>?_));obtain rfl:ov=.ref a:=cT;have B:=S.bs.kp aE;let ⟨es,m,I,_,_,hk,_,r2⟩:=B.inst ho hd;refine method_fn B.sP I (Pw M.get).1 (Pw M.get).2 M.find (beq_iff_eq.mp M.fn) (by show(lookIn n (dictOf es m)).map _=_;rw[lookIn_dict,r2 n hn];rfl) ?_;cases args with
 |nil=>rw[hv aa] at q;exact callWith_K0 B.sP M.keep (q ah [] aE (.cons aa .nil))
 |cons e es=>
  have kh:=hs;simp only[bP,BE,iT,ud] at kh;exact callWith_K B.base.sP M.keep (bk (ha ah pos (S.kp aE)) (λxs aB o1=>⟨(B.kp o1.k).sP,q aB xs (aE.trans o1.k) (.cons aa o1.r)⟩)) (bO _ kh.1 es) (eU (by simpa [bP] using kh.2) pos c.env)
end
open Mine.Ev renaming attr->Fz
open Mine.rV renaming attr->FA
abbrev Sg:=Addr->Option Cn
structure m8(g:G0)(fa:Addr)(fd:FuncData)(body:List Stmt)(names:List Str):Prop extends FnRec g fa fd body where
 bind:∀xs:List aA,xs.length=names.length->bindArgs fd ⟨xs,[]⟩=pure (names.zip xs)
 nd:names.Nodup
 par:QD fd.scope names=true
 keep:keepIn g.K (.ref fa)=true
def yj(g:G0)(n:Nat)(fa:Addr)(vs:List V)(pZ:Sg->Prop)(d:D):Prop:=∀c:C,c.toG0=g->n<=c.n->pZ c.σ->∀s xs (Q:aA->Shared->Prop),Bs c s->r4 c s.heap xs vs->(∀s' u,Kp s s'->Rep s'.heap c.M u d->Q u s')->Calls c (.ref fa) xs Q s
open Classical in
noncomputable def C.old(c:C)(σ':Sg):C:={c with σ:=λa=>if c.M a then σ' a else none}
open Classical in
theorem wI.old{c c':C}{O:Addr->Prop}{s s':Shared}(X:wI c O s c' s')(B:Bs c s)(B':Bs c' s'):wI c O s (c.old c'.σ) s'/\Bs (c.old c'.σ) s':=by
 intros c c' O s s' _ X B B';obtain⟨M',σ',wr',rfl⟩:∃M' σ' wr',c'={c with M:=M',σ:=σ',wr:=wr'}:=⟨_,_,_,X.eq⟩;intros M' σ' wr' _ X B';have pos:∀a,c.M a->(c.old σ').σ a=σ' a:=λa m=>by show(if c.M a then σ' a else none)=σ' a;rw[aq m]
 have Zk:∀a cn,(c.old σ').σ a=some cn->c.M a/\σ' a=some cn:=λa cn e=>by
  have e':(if c.M a then σ' a else none)=some cn:=e
  by_cases h:c.M a
  .rw[aq h] at e';exact⟨h,e'⟩
  exact ns (ay h) e'
 refine⟨⟨rfl,X.kx,X.al,λz z z h=>h,λz h=>h,λz z z h=>h,λz h=>h,λa cn n e=>?_,λa o cn e h=>X.sn a o cn e (Zk a cn h).2,λa cn e n=>?_⟩,⟨B'.keep,B.base,B.room,λa m=>B'.gG a (X.mm a m),B.xm,B.kI,λa cn e=>?_,λa h=>?_,B.bm⟩⟩
 .rw[pos a (B.gg a cn e).1];exact X.sg a cn n e
 .let ⟨m,e'⟩:=Zk a cn e;let ⟨o,eo⟩:=B.gG a m;intros o _ eo;exact⟨X.sn a o cn eo e',n⟩
 .let ⟨m,e'⟩:=Zk a cn e;let ⟨_,h2,h3⟩:=B'.gg a cn e';exact⟨m,h2,h3.mono (λr=>r.qh X.mm) λz e=>e⟩
 let ⟨h1,h2,_⟩:=B.oq a h;refine aM λhN=>?_;obtain⟨_,_,cn,e⟩:_:=B'.oq a (X.ww a h);refine hN ?_
 exact⟨h1,h2,cn,by rw[pos a h1];exact e⟩
def QH(g:G0)(n:Nat)(fa:Addr)(vs:List V)(O:Addr->Prop)(pZ:Sg->Prop)(Po:Sg->Sg->D->Prop):Prop:=∀c:C,c.toG0=g->n<=c.n->(∀a,O a->c.wr a)->pZ c.σ->∀s xs (Q:aA->Shared->Prop),Bs c s->r4 c s.heap xs vs->
 (∀c' s' u d,wI c O s c' s'->Bs c' s'->Rep s'.heap c'.M u d->Po c.σ c'.σ d->Q u s')->Calls c (.ref fa) xs Q s
def yj.of(F:m8 g fa fd body names)(hl:names.length=vs.length)
 (h:∀(c:C) L,c.toG0=g->n<=c.n->pZ c.σ->Ex (c.fn fd fa L (λz=>False)) (names.zip vs) [body] (λz z=>d=.none) (λz d'=>d'=d)):yj g (n+1) fa vs pZ d:=λc hg hn hp s xs Q B ha hQ=>
 Fo F.toFnRec hg (by exact aG (iQ 1 _) ‹_›) (O:=λz=>False) (λz h=>h.elim) B ha (F.bind xs (by rw[ha.length,hl])) F.nd F.par (by rw[ha.length,hl]) (λL=>h c L hg (by exact ee ‹_›) hp) λL fE c' s' u d' z hd z X z r=>by
  have:d'=d:=by
   rcases hd with⟨_,h1,h2⟩|h
   .rw[h1,h2]
   exact h
  subst this;exact hQ s' u (X.kx.kp λz h=>h.elim) r
def QH.of(F:m8 g fa fd body names)(hl:names.length=vs.length)(hi:∀σ σ' SH d,(∀a,O a->σ' a=SH a)->Po σ σ' d->Po σ SH d)
 (h:∀(c:C) L,c.toG0=g->n<=c.n->(∀a,O a->c.wr a)->pZ c.σ->Ex (c.fn fd fa L O) (names.zip vs) [body] (λc' z=>Po c.σ c'.σ .none) (λc' d=>Po c.σ c'.σ d)):QH g (n+1) fa vs O pZ Po:=λc hg hn hO hp s xs Q B ha hQ=>
 Fo F.toFnRec hg (by exact aG (iQ 1 _) ‹_›) hO B ha (F.bind xs (by rw[ha.length,hl])) F.nd F.par (by rw[ha.length,hl]) (λL=>h c L hg (by exact ee ‹_›) hO hp) λL fE c' s' u d' z hd he X B' r=>by
  let ⟨X',B''⟩:=X.old B B';refine hQ _ s' u d' X' B'' r (hi _ fE.σ _ _ (λa o=>?_) ?_)
  .show fE.σ a=(c.old c'.σ).σ a;unfold C.old;dsimp only;rw[aq (B.oq a (hO a o)).1,he]
  rcases hd with⟨_,h1,h2⟩|h
  .rw[h2];exact h1
  exact h
def lH(g:G0)(n:Nat)(fa:Addr)(vs:List V)(O:Addr->Prop)(pZ:Sg->Prop)(Po:Sg->Sg->Prop):Prop:=∀c:C,c.toG0=g->n<=c.n->(∀a,O a->c.wr a)->pZ c.σ->∀s xs (Q:aA->Shared->Prop),Bs c s->r4 c s.heap xs vs->
 (∀c' s',wI c O s c' s'->Bs c' s'->(∀a cn,c'.σ a=some cn->(∃eL,c.σ a=some eL)\/¬c.M a)->Po c.σ c'.σ->Q .none s')->Calls c (.ref fa) xs Q s
def lH.of(F:m8 g fa fd body names)(hl:names.length=vs.length)
 (h:∀(c:C) L,c.toG0=g->n<=c.n->(∀a,O a->c.wr a)->pZ c.σ->Ex (c.fn fd fa L O) (names.zip vs) [body] (λc' z=>Po c.σ c'.σ) (λc' d=>d=.none/\Po c.σ c'.σ)):lH g (n+1) fa vs O pZ Po:=λc hg hn hO hp s xs Q B ha hQ=>
 Fo F.toFnRec hg (by exact aG (iQ 1 _) ‹_›) hO B ha (F.bind xs (by rw[ha.length,hl])) F.nd F.par (by rw[ha.length,hl]) (λL=>h c L hg (by exact ee ‹_›) hO hp) λL fE c' s' u d' z hd he X B' r=>by
  have Us:d'=.none/\Po c.σ c'.σ:=by
   rw[he];rcases hd with⟨_,h1,h2⟩|h
   .exact⟨h2,h1⟩
   exact h
  let ⟨zy,po⟩:=Us;cases r;refine hQ c' s' X B' (λa cn e=>?_) po
  by_cases hm:c.M a
  .let ⟨o,eo⟩:=B.gG a hm;exact .inl (X.sn a o cn eo e)
  exact .inr hm
section
variable {c:C}{ρ:Nm}{k:List (List Stmt)}{rest:List Stmt}{P:C->Nm->Prop}{R:C->D->Prop}{e e₁ e₂ o tg:aU}{v:V}{pos p apos:Pos}{f:Str}{Q:C->V->Prop}{a da fa:Addr}{bX:List (Str×V)}{n:Nat}{args:List aU}{vs:List V}{d:D}
def St.Zl{s:Shared}(S:St c ρ s){g:aA}{Q:aA->Shared->Prop}(hk:c.env.kindOf f=some .globalImplicit)(hm:c.mg f=some g)(hd:(f==("__debug__":Str))=false)(q:Q g s):wpAny c.m c.A (eval (.Name f p) c.env) Q no s:=by
 refine XM S.kind hk (loadGlobal_global (mg:=c.mg) (by rw[S.globals];exact S.bs.base.g.keeps S.bs.keep) hm q) hd
def FD{s:Shared}{Q:aA->Shared->Prop}(S:St c ρ s)(hm:c.mg f=some (.ref fa))(hk:keepIn c.K (.ref fa)=true)(ha:EvVs c ρ (e::args) vs)(kq:c.env.kindOf f=some .globalImplicit)(hd:(f==("__debug__":Str))=false)(hs:bP (e::args)=true)
 (q:∀ah xs,Kp s ah->r4 c ah.heap xs vs->wpAny c.m c.A (call (.ref fa) xs) Q no ah):wpAny c.m c.A (eval (.Call (.Name f p) (e::args) [] pos) c.env) Q no s:=by
 refine uA (S.Zl kq hm hd ?_);have kh:=hs;simp only[bP,BE,iT,ud] at kh;exact callWith_K S.bs.base.sP hk (bk (ha s pos S) (λxs aB o1=>⟨(S.bs.kp o1.k).sP,q aB xs o1.k o1.r⟩)) (bO _ kh.1 args) (eU (by simpa [bP] using kh.2) pos c.env)
def Ev.call(F:yj c.toG0 n fa vs pZ d)(hm:c.mg f=some (.ref fa))(hk:keepIn c.K (.ref fa)=true)(ha:EvVs c ρ (e::args) vs)(hn:n<=c.n)(hp:pZ c.σ)(kq:autoParam (c.env.kindOf f=some .globalImplicit) bu)(hd:autoParam ((f==("__debug__":Str))=false) bu)(hs:autoParam (bP (e::args)=true) bu):
 Ev c ρ (.Call (.Name f p) (e::args) [] pos) (.d d):=λs S=>FD S hm hk ha kq hd hs λah xs aE cT=>yS<|F c aa hn hp ah xs _ (S.bs.kp aE) cT λs' u k' r=>⟨aE.trans k',r⟩
def Ev.SJ{m:Str}{pZ:Sg->Prop}(F:yj c.toG0 n fa (.r a::vs) pZ d)(M:jh c.toG0 m fa)(h:Ev c ρ o (.r a))(ho:c.σ a=some (.o da))(hda:c.σ da=some (.t bX))(vY:bX.lookup m=k6)(ha:EvVs c ρ args vs)(hn:n<=c.n)(hp:pZ c.σ)(hv:args=[]->vs=[]:=by intro h;first|rfl|cases h)
 (bS:autoParam (attributeBase o m c.env (eval o c.env)=eval o c.env) bu) (hline:autoParam ((apos.endLine==pos.line)=true) bu) (hs:autoParam (bP args=true) bu) (hz:args.length<29:=by decide):Ev c ρ (.Call (.Attribute o m apos) args [] pos) (.d d):=λs S=>
 Fy M S h ho hda vY ha hv bS hline hs hz λah xs aE cT=>yS<|F c aa hn hp ah _ _ (S.bs.kp aE) cT λs' u k' r=>⟨aE.trans k',r⟩
structure FE(c:C)(O:Addr->Prop)(c':C):Prop where
 eq:c'={c with M:=c'.M,σ:=c'.σ,wr:=c'.wr}
 mm:∀a,c.M a->c'.M a
 ww:∀a,c.wr a->c'.wr a
 sg:∀a cn,¬O a->c.σ a=some cn->c'.σ a=some cn
 nw:∀a cn,c'.σ a=some cn->¬c'.wr a->(∃eL,c.σ a=some eL)/\¬c.wr a
def g9.call(F:QH c.toG0 n fa vs O pZ Po)(hm:c.mg f=some (.ref fa))(hk:keepIn c.K (.ref fa)=true)(ha:EvVs c ρ (e::args) vs)(hn:n<=c.n)(hO:∀a,O a->c.wr a)(hp:pZ c.σ)(kq:autoParam (c.env.kindOf f=some .globalImplicit) bu)(hd:autoParam ((f==("__debug__":Str))=false) bu)(hs:autoParam (bP (e::args)=true) bu):
 g9 c ρ (.Call (.Name f p) (e::args) [] pos) (λc' v=>FE c O c'/\∃d,v=.d d/\Po c.σ c'.σ d):=λs S L=>FD S hm hk ha kq hd hs λah xs aE cT=>yS<|F c aa hn hO hp ah xs _ (S.bs.kp aE) cT λc' s' u d X B r po=>by
 let ⟨S',L'⟩:=(S.kp aE).after (L.kp aE.keep) hO X B;exact⟨c',.d d,(kL aE).trans (X.ext hO),S',L',r,⟨X.eq,X.mm,X.ww,X.sg,X.nw⟩,d,rfl,po⟩
def g9.SJ(F:lH c.toG0 n fa (.r a::vs) O pZ Po)(M:jh c.toG0 m fa)(h:Ev c ρ o (.r a))(ho:c.σ a=some (.o da))(hda:c.σ da=some (.t bX))(vY:bX.lookup m=k6)(ha:EvVs c ρ args vs)(hn:n<=c.n)(hO:∀a,O a->c.wr a)(hp:pZ c.σ)(hv:args=[]->vs=[]:=by intro h;first|rfl|cases h)
 (bS:autoParam (attributeBase o m c.env (eval o c.env)=eval o c.env) bu) (hline:autoParam ((apos.endLine==pos.line)=true) bu) (hs:autoParam (bP args=true) bu) (hz:args.length<29:=by decide):
 g9 c ρ (.Call (.Attribute o m apos) args [] pos) (λc' v=>FE c O c'/\(∀a cn,c'.σ a=some cn->(∃eL,c.σ a=some eL)\/¬c.M a)/\v=.d .none/\Po c.σ c'.σ):=λs S L=>
 Fy M S h ho hda vY ha hv bS hline hs hz λah xs aE cT=>yS<|F c aa hn hO hp ah _ _ (S.bs.kp aE) cT λc' s' X B iY po=>by
  let ⟨S',L'⟩:=(S.kp aE).after (L.kp aE.keep) hO X B;exact⟨c',.d .none,(kL aE).trans (X.ext hO),S',L',.none,⟨X.eq,X.mm,X.ww,X.sg,X.nw⟩,iY,rfl,po⟩
end
open Mine.lH renaming of->k9
open Mine.Ev renaming call->mw
open Mine.yj renaming of->rA
open Mine.g9 renaming call->uH,SJ->QI
def QJ(C:Addr)(rest:List aA)(kw:List (Str×aA)):(J8 "type.__call__" ⟨.ref C::rest,kw⟩).weight=1:=by rfl
def Ut(C:Addr)(rest:List aA)(kw:List (Str×aA)):(J8 "type.__call__" ⟨.ref C::rest,kw⟩).cUnits=1:=by rfl
theorem Bs.add(B:Bs c s)(kp:Kp s s')(new:s.heap.get? a=none)(cr:CR c.toG0 (λb=>c.M b\/b=a) s'.heap a cn):Bs (c.add a cn) s':=by
 intros c s s' a cn _ B kp new cr;have na:=B.new new;have hr:∀{u:aA} {d:D},Rep s.heap c.M u d->Rep s'.heap (λb=>c.M b\/b=a) u d:=λr=>r.mono λb o n z e=>⟨kp.keep b o e,λh=>h.elim n λh=>by subst h;exact ns new e⟩
 let ⟨wJ,e₁,afT⟩:=cr.rt;refine⟨λb o e=>kp.keep b o (B.keep b o e),B.base,B.room,λb m=>?_,λb h=>.inl (B.xm b h),λb m=>?_,λb eL e=>?_,λb h=>?_,λb h=>.inl (B.bm b h)⟩
 .rcases m with m|rfl
  .let ⟨o,e⟩:=B.gG b m;exact⟨o,kp.keep b o e⟩
  exact⟨wJ,e₁⟩
 .rcases m with m|rfl
  .exact B.kI b m
  show c.h₀.get? b=none;cases e:c.h₀.get? b with
  |none=>rfl
  |some o=>exact ns new (B.keep b o e)
 .by_cases h:b=a
  .subst h;simp only[C.add,if_true] at e;cases e;exact⟨.inr aa,λx=>na (B.xm b x),cr⟩
  simp only[C.add,h,if_false] at e;let ⟨h1,h2,h3⟩:=B.gg b _ e;exact⟨.inl h1,h2,h3.mono hr (kp.keep b)⟩
 rcases h with h|rfl
 .refine aM λhN=>?_;obtain⟨h1,h2,eL,e⟩:_:=B.oq b h;refine hN ?_
  have hb:b≠a:=λq=>na (q▸h1)
  exact⟨.inl h1,h2,eL,by simp[C.add,hb,e]⟩
 exact⟨.inr aa,λx=>na (B.xm b x),cn,by simp[C.add]⟩
def VR.grow(r:VR M h v u)(kk:∀b o,h.get? b=some o->h'.get? b=some o)(new:h.get? a=none):VR (λb=>M b\/b=a) h' v u:=
 r.mono λr=>r.mono λb o n z e=>⟨kk b o e,λh=>h.elim n λh=>by subst h;exact ns new e⟩
def FnI(g:G0)(n:Nat)(fi:Addr)(vs:List V)(Po:Addr->Addr->Sg->Sg->Prop):Prop:=∀x dx,x≠dx->lH g n fi (.r x::vs) (λa=>a=dx) (λσ=>σ x=some (.o dx)/\σ dx=some (.t [])) (λσ σ'=>σ' x=some (.o dx)/\Po x dx σ σ')
inductive MkO(c:C)(Po:Addr->Addr->Sg->Sg->Prop)(c':C)(v:V):Prop
 |mk (x dx:Addr) (A:FE c (λz=>False) c') (nx:¬c.M x) (nd:¬c.M dx) (e:c'.σ x=some (.o dx)) (ev:v=.r x) (po:∃aJ,(∀b,aJ b=none->c.σ b=none)/\Po x dx aJ c'.σ) (wx:c'.wr x) (wd:c'.wr dx) (nw:∀a cn,c'.σ a=some cn->(∃eL,c.σ a=some eL)\/¬c.M a)
def g9.make{c:C}{ρ:Nm}{e:aU}{args:List aU}{vs:List V}{n:Nat}{fi:Addr}{f:Str}{pos p:Pos}{Po:Addr->Addr->Sg->Sg->Prop}(Ck:oF c.toG0)(F:FnI c.toG0 n fi vs Po)(hm:c.mg f=some (.ref c.cls))(hi:findIn c.K (.ref c.cls) "__init__"=some (some (.ref fi)))(hf:typeIn c.K (.ref fi)=some (.type "function"))
 (ha:EvVs c ρ (e::args) vs) (hn:n+1<=c.n) (kq:autoParam (c.env.kindOf f=some .globalImplicit) bu) (hd:autoParam ((f==("__debug__":Str))=false) bu) (hs:autoParam (bP (e::args)=true) bu):
 g9 c ρ (.Call (.Name f p) (e::args) [] pos) (MkO c Po):=by
 intros c ρ e args vs n fi f pos p Po _ Ck F hm hi hf ha hn kq hd hs;exact λs S L=>by
  refine FD S hm Ck.keep ha kq hd hs λah xs aE cT=>yS ?_
  have B:=S.bs.kp aE;have X:=B.sP;refine aM λhN=>?_;obtain⟨hh,g,dr,t,os⟩:_:=ah;refine hN ?_
  refine make_core (makes_of X Ck.makes) (looks_findIn X hi) (λself=>bind_fn X self hf) (.inl aa) ?_;obtain⟨dx,hdx⟩:∃dx,dx=hh.objs.size:=⟨_,rfl⟩;have sz:(hh.push emptyDict).objs.size=dx+1:=by rw[hdx];exact BR ..
  have KU:Kp ⟨hh,g,dr,t,os⟩ ⟨hh.push emptyDict,g,dr,t,os⟩:=⟨rfl,rfl,λy y e=>dS _ e⟩;have Uu:Kp ⟨hh.push emptyDict,g,dr,t,os⟩ ⟨(hh.push emptyDict).push (instObj c.cls dx),g,dr,t,os⟩:=⟨rfl,rfl,λy y e=>dS _ e⟩;have n1:hh.get? dx=none:=by rw[hdx];exact bC _
  have n2:(hh.push emptyDict).get? (dx+1)=none:=by rw[<-sz];exact bC _
  have n2':hh.get? (dx+1)=none:=dQ KU n2;have g1:(hh.push emptyDict).get? dx=some emptyDict:=by rw[hdx];exact fh _ aa
  have g2:((hh.push emptyDict).push (instObj c.cls dx)).get? (dx+1)=some (instObj c.cls dx):=by rw[<-sz];exact fh _ aa
  rw[<-hdx];have B1:Bs (c.add dx (.t [])) ⟨hh.push emptyDict,g,dr,t,os⟩:=B.add KU n1 ⟨[],0,g1,rfl,λe he=>by simp at he,λx v e=>by simp at e,λx y=>rfl⟩;have B2:Bs ((c.add dx (.t [])).add (dx+1) (.o dx)) ⟨(hh.push emptyDict).push (instObj c.cls dx),g,dr,t,os⟩:=B1.add Uu n2 g2;have nM:¬c.M (dx+1):=B.new n2';have nD:¬c.M dx:=B.new n1;have ne:dx+1≠dx:=Nat.succ_ne_self _;obtain⟨nZ,sW⟩:∃nZ:Mine.C,nZ={((c.add dx (.t [])).add (dx+1) (.o dx)) with A:=c.A.under (.builtin "type.__call__" ⟨.ref c.cls::xs,[]⟩),n:=c.n-1}:=⟨_,rfl⟩
  have B3:Bs nZ ⟨(hh.push emptyDict).push (instObj c.cls dx),g,dr,t,os⟩:=by
   rw[sW];refine⟨B2.keep,B2.base,⟨B.room.hh,?_,?_⟩,B2.gG,B2.xm,B2.kI,B2.gg,B2.oq,B2.bm⟩
   .show c.A.units+(J8 "type.__call__" ⟨.ref c.cls::xs,[]⟩).cUnits+50*(c.n-1)+500<cLine;rw[Ut];exact Sm (k:=1) (aG (iQ 1 n) hn) B.room.u aa
   show c.A.depth+(J8 "type.__call__" ⟨.ref c.cls::xs,[]⟩).weight+(c.n-1)<recursionLimit;rw[QJ];exact Sn (aG (iQ 1 n) hn) B.room.d
  have MU:nZ.σ (dx+1)=some (.o dx):=by rw[sW];simp[C.add]
  have hd2:nZ.σ dx=some (.t []):=by rw[sW];simp[C.add]
  have va:r4 nZ ((hh.push emptyDict).push (instObj c.cls dx)) (.ref (dx+1)::xs) (.r (dx+1)::vs):=by
   rw[sW];refine .cons aa (iG.mono (λ{u d} q=>?_) cT);have q1:VR (λb=>c.M b\/b=dx) (hh.push emptyDict) (.d d) u:=VR.grow (v:=.d d) q KU.keep n1;exact VR.grow (v:=.d d) q1 Uu.keep n2
  have:=F (dx+1) dx ne nZ (by rw[sW];rfl) (by rw[sW];exact Ea hn) (λa e=>by rw[sW,e];exact .inl (.inr aa)) ⟨MU,hd2⟩ ⟨(hh.push emptyDict).push (instObj c.cls dx),g,dr,t,os⟩ _
   (λu s'=>u=.none/\MK c ρ (MkO c Po) s (.ref (dx+1)) s') B3 va λae2 s' iI Az iY ⟨po1,po⟩=>⟨rfl,?_⟩
  .have hm':nZ.m=c.m:=by rw[sW];rfl
   unfold Mine.Calls at this;rw[hm'] at this;have hA:nZ.A=c.A.under (.builtin "type.__call__" ⟨.ref c.cls::xs,[]⟩):=by rw[sW]
   rw[hA] at this;refine OB this λr s' z=>?_
   rcases r with e|(v|_|_|_)<;>first|exact z.elim|exact z
  obtain⟨M',σ',wr',rfl⟩:∃M' σ' wr',ae2={nZ with M:=M',σ:=σ',wr:=wr'}:=⟨_,_,_,iI.eq⟩;subst sW;have kk:Kp (⟨hh,g,dr,t,os⟩:Shared) ⟨(hh.push emptyDict).push (instObj c.cls dx),g,dr,t,os⟩:=KU.trans Uu;have nO:∀b o,hh.get? b=some o->¬b=dx:=λb o e q=>ns (q▸n1) e
  have nX:∀b o,hh.get? b=some o->¬b=dx+1:=λb o e q=>ns (q▸n2') e
  have XX:wI c (λy=>False) ⟨hh,g,dr,t,os⟩ {c with M:=M',σ:=σ',wr:=wr'} s':=by
   refine⟨rfl,⟨iI.kx.gens,iI.kx.os,λb o y e=>iI.kx.keep b o (nO b o e) (kk.keep b o e)⟩,λa o e=>iI.al a o (kk.keep a o e),λa o e h=>?_,λa m=>iI.mm a (.inl (.inl m)),λa o e h=>?_,λa h=>iI.ww a (.inl (.inl h)),λa cn y e=>?_,λa o cn e h=>?_,λa cn e n=>?_⟩
   .rcases iI.m a o (kk.keep a o e) h with(h|h)|h
    .exact h
    .exact aK h (nO a o e)
    exact aK h (nX a o e)
   .rcases iI.w a o (kk.keep a o e) h with(h|h)|h
    .exact h
    .exact aK h (nO a o e)
    exact aK h (nX a o e)
   .have m:=(B.gg a cn e).1;have h1:¬a=dx:=λq=>nD (q▸m)
    have h2:¬a=dx+1:=λq=>nM (q▸m)
    exact iI.sg a cn h1 (by simp[C.add,h1,h2,e])
   .let ⟨eL,e'⟩:=iI.sn a o cn (kk.keep a o e) h;simp only[C.add,nO a o e,nX a o e,if_false] at e';exact⟨eL,e'⟩
   let ⟨z2,n'⟩:=iI.nw a cn e n;let ⟨eL,e'⟩:=z2;have h1:¬a=dx:=λq=>n' (.inl (.inr q))
   have h2:¬a=dx+1:=λq=>n' (.inr q)
   simp only[C.add,h1,h2,if_false] at e';exact⟨⟨eL,e'⟩,λq=>n' (.inl (.inl q))⟩
  have BB:Bs {c with M:=M',σ:=σ',wr:=wr'} s':=⟨Az.keep,B.base,B.room,Az.gG,Az.xm,Az.kI,Az.gg,Az.oq,Az.bm⟩;let ⟨S',L'⟩:=(S.kp aE).after (L.kp aE.keep) (λy h=>h.elim) XX BB
  have nul:∀b,(if b=dx+1 then some (Cn.o dx) else if b=dx then some (Cn.t []) else c.σ b)=none->c.σ b=none:=λb hb=>by
   split at hb
   .cases hb
   split at hb
   .cases hb
   exact hb
  have nwM:∀b cn,σ' b=some cn->(∃eL,c.σ b=some eL)\/¬c.M b:=λb cn e=>by
   rcases iY b cn e with⟨eL,h⟩|h
   .have h':(if b=dx+1 then some (Cn.o dx) else if b=dx then some (Cn.t []) else c.σ b)=some eL:=h;split at h'
    .rename_i q;exact .inr (q▸nM)
    split at h'
    .rename_i q;exact .inr (q▸nD)
    exact .inl ⟨eL,h'⟩
   exact .inr λm=>h (.inl (.inl m))
  exact⟨_,.r (dx+1),(kL aE).trans (XX.ext λy h=>h.elim),S',L',rfl,dx+1,dx,⟨rfl,XX.mm,XX.ww,XX.sg,XX.nw⟩,nM,nD,po1,rfl,⟨_,nul,po⟩,iI.ww _ (.inr aa),iI.ww _ (.inl (.inr aa)),nwM⟩
inductive CY:aU->ia->List yU->Pos->Sem aA->Prop
 |l {dw gens scope pos}:CY (.ListComp dw gens scope pos) scope gens pos (newList [])
 |s {dw gens scope pos}:CY (.SetComp dw gens scope pos) scope gens pos (newSet (.type "set"))
 |d {k v gens scope pos}:CY (.DictComp k v gens scope pos) scope gens pos newDict
def adE(c:C)(use:Option (aA->Sem Unit))(La:Addr)(Q:aA->Shared->Prop)(v:aA)(s':Shared):Prop:=match use with
 |none=>∀h',kY La s'.heap h'->Q v {s' with heap:=h'}
 |some u=>wpAny c.m c.A (u v) (λz s''=>∃m,s''.heap.Ns La m/\∀h',kY La s''.heap h'->Q .none {s'' with heap:=h'}) no s'
def Cp(c:C)(ρ:Nm)(e:aU)(cn:Cn):Prop:=∃scope gens pos acc,CY e scope gens pos acc/\firstAsync gens=false/\∀s (use:Option (aA->Sem Unit)) (Q:aA->Shared->Prop),St c ρ s->
 (∀Da La s',Kp s s'->s.heap.get? Da=none->s.heap.get? La=none->Da≠La->(∃m,s'.heap.Ns La m)->CR c.toG0 (λa=>(c.M a\/a=La)\/a=Da) s'.heap Da cn->adE c use La Q (.ref Da) s')->
 wpAny c.m c.A (comprehension e scope c.env (firstIterPos gens pos) acc false (firstIter gens c.env) use) Q no s
theorem CY.eval(h:CY e scope gens pos acc)(hf:firstAsync gens=false)(env:Env):PySem.eval e env=comprehension e scope env (firstIterPos gens pos) acc false (firstIter gens env) none:=by
 rw[<-hf];cases h<;>rfl
def CY.use(h:CY e scope gens pos acc)(hf:firstAsync gens=false)(env:Env)(u:aA->Sem Unit):evalThenUse e env u=(comprehension e scope env (firstIterPos gens pos) acc false (firstIter gens env) (some u)>>=λz=>pure ()):=by
 rw[<-hf];cases h<;>rfl
def IE{h:cC}{a:Addr}{m:Str->Option aA}(n:h.Ns a m):∀o,h.get? a=some o->rm o:=λo e=>by
 let ⟨o',es,ep,e',d,_⟩:=n;rw[e] at e';cases e';exact⟨λq1=>by let ⟨vs,k,q⟩:=q1;exact(by rw[d] at q;cases q),λv q=>(by rw[d] at q;cases q)⟩
section
variable {c:C}{ρ:Nm}{e:aU}{cn:Cn}{x:Str}{p pos:Pos}
def CR.adF{s':Shared}(sV:Da≠La)(sb:kY La s'.heap h')(r:CR c.toG0 (λa=>(c.M a\/a=La)\/a=Da) s'.heap Da cn):CR c.toG0 (λa=>c.M a\/a=Da) h' Da cn:=
 r.mono (λq=>q.mono λa o n z e=>⟨(sb.2 a λh=>n (.inl (.inr h))).trans e,λh=>n (h.elim (λh=>.inl (.inl h)) .inr)⟩) λo e=>(sb.2 Da sV).trans e
def Cp.new(h:Cp c ρ e cn):jP c ρ e cn:=λs S=>by
 let ⟨scope,gens,ps,acc,hc,hf,z2⟩:=h;revert z2;intro h;rw[hc.eval hf];exact h s none _ S λDa La s' kp hD hL sV z cr h' sb=>⟨⟨kp.gens,kp.os,λb o e=>(sb.2 b λq=>ns (q▸hL) e).trans (kp.keep b o e)⟩,Da,rfl,hD,cr.adF sV sb⟩
def Cp.asU(h:Cp c ρ e cn)(hx:uD c x)(hs:swapsWith e (some (.Name x p)) pos.line c.env=pure true):Uk c ρ (.Assign [.Name x p] e pos) x cn:=by
 intros c ρ e cn x p pos _ h hx hs;exact λs S L=>by
  let ⟨scope,gens,ps,acc,hc,hf,z2⟩:=h;revert z2;intro h;rw[We x p e pos hs,hc.use hf];refine aF (jC (aF (aF (h s _ _ S λDa La s' kp hD hL sV q1 cr=>?_))));let ⟨m,hn⟩:=q1;let ⟨cF,c9,tK⟩:=S.add L kp hD (cn:=cn) (cr.mono (λq=>q.qh λa h=>h.elim (λh=>.inl (.inl h)) .inr) λz e=>e);have QK:¬(c.add Da cn).M La:=λq=>q.elim (S.bs.new hL) λq=>sV q.symm
  refine D5 (cF.store (c:=c.add Da cn) c9 hx (v:=.r Da) aa λaB aV b7 cO=>?_);have FF:aB.heap.Ns La m:=hn.at' λo e=>aV.keep La o (λq=>QK (cF.bs.xm La (c9.yx La q))) e
  refine⟨m,FF,λh' sb=>bx (bx ?_)⟩;have kx:Kx (·=La) aB {aB with heap:=h'}:=⟨rfl,rfl,λb o n e=>(sb.2 b n).trans e⟩;let ⟨i8,jc⟩:=b7.rm cO kx (λb e=>e▸IE FF) (λb e=>e▸S.bs.u7 hL) (λb e=>e▸QK);exact⟨rfl,Da,hD,(tK.trans (.Ff aV cF c9 b7)).step (wr:=[La]) (kx.mono λb e=>e▸.head _) (λb hb=>eO.mp hb▸hL),i8,jc⟩
end
open Mine.Cp renaming asU->wN,new->KV
section
variable {c:C}{ρ:Nm}{e:aU}{cn:Cn}{x:Str}{p pos:Pos}{st:Stmt}
def Uk.data(h:Uk c ρ st x (.l ds)):AsV c ρ st x (.d (.lst ds)):=by
 intros c ρ x st ds _ h;exact λs S L=>bk (h s S L) (λf s' qP=>by
  refine aM λhN=>?_;obtain⟨hf,a,n,X,S',L'⟩:_:=qP;refine hN ?_
  have nM:=S.bs.new n;have sN:=S.bs.xQ n;have hr:∀{u:aA} {d:D},Rep s'.heap (c.add a (.l ds)).M u d->Rep s'.heap c.M u d:=λr=>r.qh λb h=>.inl h
  have sg:∀b cn,c.σ b=some cn->(c.add a (.l ds)).σ b=some cn:=λb cn e=>by
   have:b≠a:=λq=>by rw[q,sN] at e;cases e
   simp[C.add,this,e]
  refine aM λhN=>?_;obtain⟨_,_,vs,i,z,r⟩:_:=S'.bs.gg a (.l ds) (by simp[C.add]);refine hN ?_
  refine⟨hf,⟨rfl,X.kx,X.al,λw w w h=>h,λw w w h=>h,λw w h=>h,λw w w w w w h=>h,λw w cn w h=>⟨cn,h⟩,λw cn h n=>⟨⟨cn,h⟩,n⟩⟩,⟨⟨S'.bs.keep,S.bs.base,S.bs.room,λb m=>S'.bs.gG b (.inl m),S.bs.xm,S.bs.kI,λb cn e=>?_,S.bs.oq,S.bs.bm⟩,S'.kind,S'.globals,S'.builtins,S'.inj,S'.o7,λy v e=>?_⟩,⟨L'.ns,L'.yx,L'.cell⟩⟩
  .let ⟨h1,h2,h3⟩:=S'.bs.gg b cn (sg b cn e);let ⟨g1,g2,_⟩:=S.bs.gg b cn e;exact⟨g1,g2,h3.mono (λr=>hr r) λw e=>e⟩
  by_cases hy:y=x
  .subst hy;rw[fY] at e;cases e;refine aM λhN=>?_;obtain⟨h1,h2,u,hh,ru⟩:_:=S'.vars y (.r a) fY;refine hN ?_
   obtain rfl:u=.ref a:=ru;exact⟨h1,h2,_,hh,.lst i nM z (r.qh λb h=>.inl h)⟩
  rw[aW hy] at e;refine aM λhN=>?_;obtain⟨h1,h2,u,hh,ru⟩:_:=S'.vars y v (by rw[aW hy];exact e);refine hN ?_
  exact⟨h1,h2,u,hh,ru.mono λr=>hr r⟩)
def jP.f(h:jP c ρ e (.l ds)):jf c ρ e ds:=λs S=>bk (h s S) (λx s' q1=>by refine aM λhN=>?_;obtain⟨k,a,ex,n,vs,i,z,r⟩:_:=q1;refine hN ?_;exact⟨k,a,vs,ex,n,i,z,r⟩)
def Cp.comp{dw tg iter:aU}{ifs:List aU}{scope:ia}{ds:List D}{outs:List (List D)}(jT:outs.length=ds.length)(hz:outs.flatten.length<=ck)(gq:It c ρ iter ds)
 (hb:∀La cs M X (i:Nat) d o,ds[i]?=some d->outs[i]?=some o->TB (c.into scope La cs M X) (pU scope ρ) tg ifs d (λρ'=>∃x,Ev (c.into scope La cs M X) ρ' dw (.d x)/\o=[x]) (o=[]))
 (mj:r9 c.env.kindOf (λx=>(ρ.lookup x).isSome) scope=true) (hs:∀x,foldedSetIterable iter c.env x=pure x):Cp c ρ (.ListComp dw [⟨tg,iter,ifs,0⟩] scope pos) (.l outs.flatten):=by
 intros c ρ pos dw tg iter ifs scope ds outs _ jT hz gq hb mj hs;exact⟨scope,_,pos,_,.l,rfl,λs use Q S hQ=>Fd jT hz S gq hb mj hs λDa La s' vs k hD hL i r hn sV=>by
  have:=hQ Da La s' k hD hL sV hn ⟨vs,i,hz,r⟩;cases use<;>exact this⟩
theorem Cp.map{T:Type}{ts:List T}{enc g:T->D}{q:T->Bool}{dw tg iter:aU}{ifs:List aU}{scope:ia}(gq:It c ρ iter (ts.map enc))
 (hb:∀La cs M X t,t∈ts->∃tb,wA (c.into scope La cs M X) tg (enc t) tb/\(∀p∈tb,(pU scope ρ).lookup p.1=none)/\qj (c.into scope La cs M X) (tb++pU scope ρ) ifs (q t)/\(q t=true->Ev (c.into scope La cs M X) (tb++pU scope ρ) dw (.d (g t))))
 (hz:ts.length<=ck) (mj:r9 c.env.kindOf (λx=>(ρ.lookup x).isSome) scope=true) (hs:autoParam (∀x,foldedSetIterable iter c.env x=pure x) HE):Cp c ρ (.ListComp dw [⟨tg,iter,ifs,0⟩] scope pos) (.l ((ts.filter q).map g)):=by
 have Fe:(ts.map λt=>if q t then[g t] else[]).flatten=(ts.filter q).map g:=by
  clear gq hb hz
  induction ts with
  |nil=>rfl
  |cons t ts ih=>cases h:q t<;>simp[h,ih]
 rw[<-Fe];refine Cp.comp (by simp) ?_ gq (λLa cs M X i d o hd ho=>?_) mj hs
 .rw[Fe,aR];exact aG (sD _ _) hz
 rw[dh] at hd ho;cases ht:ts[i]? with
 |none=>rw[ht] at hd;cases hd
 |some t=>
  rw[ht] at hd ho;simp only[zu,zj] at hd ho;subst hd ho;let ⟨tb,h1,h2,h3,h4⟩:=hb La cs M X t (jK ht);exact⟨tb,q t,h1,h2,h3,λe=>⟨_,h4 e,by rw[aq e]⟩,λe=>by rw[e];rfl⟩
def MV(it acc:aA)(env:Env):
 compTurn (.ListComp dw [⟨tg,iter,ifs,0⟩,⟨zK,iz,qk,0⟩] scope pos) 1 it acc env=r7 (.ListComp dw [⟨tg,iter,ifs,0⟩,⟨zK,iz,qk,0⟩] scope pos) 1 zK iz qk (lQ (.ListComp dw [⟨tg,iter,ifs,0⟩,⟨zK,iz,qk,0⟩] scope pos) acc env) it acc env:=rfl
def QL(it acc:aA)(env:Env):
 compTurn (.ListComp dw [⟨tg,iter,ifs,0⟩,⟨zK,iz,qk,0⟩] scope pos) 0 it acc env=r7 (.ListComp dw [⟨tg,iter,ifs,0⟩,⟨zK,iz,qk,0⟩] scope pos) 0 tg iter ifs (As (.ListComp dw [⟨tg,iter,ifs,0⟩,⟨zK,iz,qk,0⟩] scope pos) 0 iz acc env) it acc env:=by
 intros pos dw tg iter zK iz ifs qk scope it acc env;unfold r7 As;simp only[bind_assoc];rfl
def Cp.adG{dw tg iter zK iz:aU}{ifs qk:List aU}{scope:ia}{ds:List D}{outs:List (List D)}(jT:outs.length=ds.length)(hz:outs.flatten.length<=ck)(gq:It c ρ iter ds)
 (hb:∀La cs M X (i:Nat) d o,ds[i]?=some d->outs[i]?=some o->TB (c.into scope La cs M X) (pU scope ρ) tg ifs d (λρ'=>∃(ds':List D) (FG:List (List D)),It (c.into scope La cs M X) ρ' iz ds'/\FG.length=ds'.length/\o=FG.flatten/\∀(j:Nat) d' o',ds'[j]?=some d'->FG[j]?=some o'->TB (c.into scope La cs M X) ρ' zK qk d' (λnW=>∃x,Ev (c.into scope La cs M X) nW dw (.d x)/\o'=[x]) (o'=[])) (o=[]))
 (mj:r9 c.env.kindOf (λx=>(ρ.lookup x).isSome) scope=true) (hs:∀x,foldedSetIterable iter c.env x=pure x) (kh:∀env x,foldedSetIterable iz env x=pure x):Cp c ρ (.ListComp dw [⟨tg,iter,ifs,0⟩,⟨zK,iz,qk,0⟩] scope pos) (.l outs.flatten):=by
 intros c ρ pos dw tg iter zK _ iz ifs qk scope ds outs jT hz gq hb mj hs kh;intros iz ifs qk scope ds outs _ jT hz gq hb mj hs kh;refine⟨scope,_,pos,_,.l,rfl,λs use Q S hQ=>?_⟩;let ⟨h1,h2,h3,h4⟩:=oA mj;refine qE (H:=λy=>False) (hH:=λy h=>h.elim) (pV:=IA) (e:=.ListComp dw [⟨tg,iter,ifs,0⟩,⟨zK,iz,qk,0⟩] scope pos) (inner:=λacc env=>As (.ListComp dw [⟨tg,iter,ifs,0⟩,⟨zK,iz,qk,0⟩] scope pos) 0 iz acc env) (yE:=λo=>o={cls:=.type "list",data:=.seq #[]}) outs jT .l aa QL hs h1 h2 h3 h4 S gq
  (λah Q' q=>D7 (q _ aa) (by decide)) (λo e=>by subst e;rfl) (λc' ah Da o e g y=>by subst e;exact⟨#[],⟨0,g⟩,by decide,.nil⟩) (λc' Da hx hy=>Qw hx hy) ?_ hz ?_
 .intro La cs M X Da hx hy i d o hd ho;intros La cs M X Da i d o _ hx hy hd ho;refine aM λhN=>?_;obtain⟨tb,b,t1,t2,t3,t4,t5⟩:_:=hb La cs M X i d o hd ho;refine hN ?_;intros tb b _ t1 t2 t3 t4 t5
  refine⟨tb,b,t1,t2,t3,λe=>?_,t5⟩;let ⟨ds',FG,i1,i2,i3,i4⟩:=t4 e;intros ds' FG _ i1 i2 i3 i4;subst i3;refine(yh.nest (e:=.ListComp dw [⟨tg,iter,ifs,0⟩,⟨zK,iz,qk,0⟩] scope pos) (tg:=zK) (ifs:=qk) i2 .l aa (λit=>MV ..) (kh _) (Qw hx hy) i1 λj d' o' rU tH=>?_).at;intros j d' o' _ rU tH;refine aM λhN=>?_;obtain⟨tb',b',u1,u2,u3,u4,u5⟩:_:=i4 j d' o' rU tH;refine hN ?_;intros tb' b' _ u1 u2 u3 u4 u5
  refine⟨tb',b',u1,u2,u3,λe=>?_,u5⟩;let ⟨x,ev,zy⟩:=u4 e;exact yh.Y5 hx hy ev
 intro c' Da La s' _ _ hm k hD hL sV z2 hn Dt KN;let ⟨vs,i,z,r⟩:=z2;have:=hQ Da La s' k hD hL sV hn ⟨vs,i,hz,r.qh λa h=>h.elim (λh=>h.elim (hm a) λe=>e▸Dt) λe=>e▸KN⟩;cases use<;>exact this
end
open Mine.Cp renaming map->Cr
open Mine.Uk renaming data->FH
noncomputable def C.adds(c:C)(τ:Sg):C:={c with M:=λb=>c.M b\/τ b≠none,σ:=λb=>match τ b with|some cn=>some cn|none=>c.σ b,wr:=λb=>c.wr b\/τ b≠none}
def C.zL{c:C}(h:τ b=some cn):(c.adds τ).σ b=some cn:=by simp[C.adds,h]
def C.oG{c:C}(h:τ b=none):(c.adds τ).σ b=c.σ b:=by simp[C.adds,h]
def FJ{α:Type}{o:Option α}{x:α}(h:o=some x):o≠none:=λe=>ns e h
def MW{c:C}{τ:Sg}{b:Addr}{cn:Cn}(e:(c.adds τ).σ b=some cn):τ b=some cn\/(τ b=none/\c.σ b=some cn):=by
 cases h:τ b with
 |some eL=>exact .inl ((C.zL h).symm.trans e)
 |none=>exact .inr ⟨rfl,(C.oG h).symm.trans e⟩
theorem St.adds{c:C}{ρ:Nm}{s s':Shared}{τ:Sg}(S:St c ρ s)(L:Lo c s)(kp:Kp s s')(new:∀a cn,τ a=some cn->s.heap.get? a=none)(cr:∀a cn,τ a=some cn->CR c.toG0 (λb=>c.M b\/τ b≠none) s'.heap a cn):St (c.adds τ) ρ s'/\Lo (c.adds τ) s'/\Ext c s (c.adds τ) s':=by
 intros c ρ s s' τ _ S L kp new cr;have Zm:∀a,τ a≠none->s.heap.get? a=none:=λa h=>(EH.mp h).elim (new a)
 have na:∀a,τ a≠none->¬c.M a:=λa h=>S.bs.new (Zm a h)
 have old:∀b o,s.heap.get? b=some o->τ b=none:=λb o e=>aM λq=>ns (Zm b q) e
 have hr:∀{u:aA} {d:D},Rep s.heap c.M u d->Rep s'.heap (λb=>c.M b\/τ b≠none) u d:=λr=>r.mono λb o n z e=>⟨kp.keep b o e,λh=>h.elim n λh=>h (old b o e)⟩
 have B:Bs (c.adds τ) s':=⟨λb o e=>kp.keep b o (S.bs.keep b o e),S.bs.base,S.bs.room,λb m=>m.elim (λm=>(S.bs.gG b m).imp λo e=>kp.keep b o e) λm=>(EH.mp m).elim λcn e=>(cr b cn e).rt.imp λz q=>q.1,λb h=>.inl (S.bs.xm b h),λb m=>m.elim (S.bs.kI b) λm=>S.bs.u7 (Zm b m),
  λb eL e=>(MW e).elim (λh=>⟨.inr (FJ h),λx=>na b (FJ h) (S.bs.xm b x),cr b _ h⟩) λq=>have p:=S.bs.gg b _ q.2;⟨.inl p.1,p.2.1,p.2.2.mono hr (kp.keep b)⟩,
  λb h=>h.elim (λh=>have p:=S.bs.oq b h;⟨.inl p.1,p.2.1,p.2.2.imp λcn e=>(C.oG (aM λq=>na b q p.1)).trans e⟩) λh=>(EH.mp h).elim λcn e=>⟨.inr h,λx=>na b h (S.bs.xm b x),cn,C.zL e⟩,λb h=>.inl (S.bs.bm b h)⟩
 have G:=S.gen (M':=λb=>c.M b\/τ b≠none) (σ':=(c.adds τ).σ) (wr':=(c.adds τ).wr) (B':=c.B) L B (λb u i=>i.keeps kp.keep) (λo e=>kp.keep _ o e) hr;exact⟨G.1,G.2,rfl,kp.kx,λb o e=>⟨o,kp.keep b o e⟩,λb o e h=>h.elim id λh=>aK (old b o e) h,λb o e h=>h.elim id λh=>aK (old b o e) h,λz z h=>.inl h,λb o eL eo hb hn e=>(C.oG (old b o eo)).trans e,λb o eL eo e=>⟨eL,(C.oG (old b o eo)).symm.trans e⟩,
  λb eL e n=>(MW e).elim (λh=>aK (.inr (FJ h)) n) λq=>⟨⟨_,q.2⟩,λw=>n (.inl w)⟩⟩
inductive ae3(c:C)(Good:Addr->Sg->Prop)(s:Shared)(x:aA)(s':Shared):Prop
 |mk (k:Kp s s') (a:Addr) (τ:Sg) (e:x=.ref a) (n:∀b cn,τ b=some cn->s.heap.get? b=none) (r:∀b cn,τ b=some cn->CR c.toG0 (λb=>c.M b\/τ b≠none) s'.heap b cn) (g:Good a τ)
def HQ(c:C)(ρ:Nm)(e:aU)(Good:Addr->Sg->Prop):Prop:=∀s,St c ρ s->wpAny c.m c.A (eval e c.env) (ae3 c Good s) no s
def HQ.m{c:C}{ρ:Nm}{e:aU}{Good:Addr->Sg->Prop}(h:HQ c ρ e Good):g9 c ρ e (λc' v=>∃a τ,c'=c.adds τ/\v=.r a/\Good a τ/\∀b,τ b≠none->¬c.M b/\c.σ b=none):=by
 intros c ρ e Good _ h;exact λs S L=>bk (h s S) (λx s' qP=>by
  refine aM λhN=>?_;obtain⟨kp,a,τ,e,n,cr,g⟩:_:=qP;refine hN ?_
  subst e;let ⟨cF,c9,tK⟩:=S.adds L kp n cr;refine⟨_,.r a,tK,cF,c9,rfl,a,τ,rfl,rfl,g,λb h=>?_⟩;let ⟨cn,e⟩:=EH.mp h;exact⟨S.bs.new (n b cn e),S.bs.xQ (n b cn e)⟩)
open Mine.C renaming zL->Cs
noncomputable def look{α:Type}(kvs:List (Int×α))(k:Int):Option α:=(kvs.find? λp=>p.1=k).map (·.2)
noncomputable def put{α:Type}(kvs:List (Int×α))(k:Int)(x:α):List (Int×α):=if kvs.any (λp=>p.1=k) then kvs.map (λp=>if p.1=k then(p.1,x) else p) else kvs++[(k,x)]
theorem DR.any{α:Type}{R:aA->α->Prop}{us:List (Int×aA)}{kvs:List (Int×α)}(r:DR R us kvs)(k:Int):us.any (λp=>p.1=k)=kvs.any (λp=>p.1=k):=by
 induction r with
 |nil=>rfl
 |cons _ _ ih=>rw[JJ,JJ,ih]
def KW{κ:Type}[DecidableEq κ]{k' k:κ}{u:aA}{us:List (κ×aA)}(e:¬k'=k):valueAt ((k',u)::us) k=valueAt us k:=cj (qS _) (O5 λh=>e (fG h))
def Zn{κ:Type}[DecidableEq κ]{k:κ}{u:aA}{us:List (κ×aA)}:valueAt ((k,u)::us) k=some u:=by simp[valueAt]
def Zo{α:Type}{k' k:Int}{u:α}{us:List (Int×α)}(e:¬k'=k):Mine.look ((k',u)::us) k=Mine.look us k:=cj (qS _) (O5 λh=>e (fG h))
theorem DR.look{α:Type}{R:aA->α->Prop}{us:List (Int×aA)}{kvs:List (Int×α)}(r:DR R us kvs)(k:Int):(valueAt us k=none/\Mine.look kvs k=none)\/∃u x,valueAt us k=some u/\Mine.look kvs k=some x/\R u x:=by
 induction r with
 |nil=>exact .inl ⟨rfl,rfl⟩
 |@cons k' u x us kvs h _ ih=>
  by_cases e:k'=k
  .subst e;exact .inr ⟨u,x,Zn,by simp[Mine.look],h⟩
  rcases ih with⟨h1,h2⟩|⟨u',x',h1,h2,h3⟩
  .exact .inl ⟨(KW e).trans h1,(Zo e).trans h2⟩
  exact .inr ⟨u',x',(KW e).trans h1,(Zo e).trans h2,h3⟩
def DR.append{α:Type}{R:aA->α->Prop}{us QM:List (Int×aA)}{kvs acB:List (Int×α)}(r:DR R us kvs)(q:DR R QM acB):DR R (us++QM) (kvs++acB):=by
 induction r with
 |nil=>exact q
 |cons h _ ih=>exact .cons h ih
theorem DR.put{α:Type}{R:aA->α->Prop}{us:List (Int×aA)}{kvs:List (Int×α)}(r:DR R us kvs){u:aA}{x:α}(h:R u x)(k:Int):DR R (stored us k u) (Mine.put kvs k x):=by
 unfold stored Mine.put;rw[r.any k];split
 .rename_i ae4;clear ae4
  induction r with
  |nil=>exact .nil
  |@cons k' u' x' us kvs h' _ ih=>
   rw[gx,gx]
   by_cases e:k'=k
   .rw[aq e,aq e];exact .cons h ih
   rw[ay e,ay e];exact .cons h' ih
 exact r.append (.cons h .nil)
def gU{α:Type}(kvs:List (Int×α))(k:Int)(x:α):(put kvs k x).length<=kvs.length+1:=by
 unfold put;split<;>simp
section
variable {c:C}{ρ:Nm}{k:List (List Stmt)}{rest:List Stmt}{P:C->Nm->Prop}{R:C->D->Prop}{e e₁ e₂ o tg:aU}{v:V}{pos p apos:Pos}{a:Addr}{kvs:List (Int×V)}{i:Int}{ks:List Int}
def Bs.dict{s:Shared}(B:Bs c s)(h:c.σ a=some (.i kvs)):∃us,s.heap.DictOf (intKind c.prog c.w) a us/\kvs.length<=ck/\DR (λu x=>VR c.M s.heap x u) us kvs/\(a==sysModules)=false:=by
 refine aM λhN=>?_;obtain⟨m,_,us,d,z,r⟩:_:=B.gg a _ h;refine hN ?_
 exact⟨us,d,z,r,B.uq (B.kI a m)⟩
def Ev.QN(bF:Ev c ρ e₁ (.r a))(hs:c.σ a=some (.i kvs))(bN:Ev c ρ e₂ (.d (.int i)))(hv:look kvs i=some v)(sQ:autoParam (CT e₂=false) bu):Ev c ρ (.Subscript e₁ e₂ pos) v:=by
 intros c ρ e₁ e₂ v pos a kvs i _ bF hs bN hv sQ;exact bF.sub bN λs u w B r q=>by
  obtain rfl:u=.ref a:=r;let ⟨t,zy⟩:=jV q;let ⟨us,d,z,dr,_⟩:=B.dict hs;rcases dr.look i with⟨_,h2⟩|⟨u,x,h1,h2,h3⟩
  .exact ns h2 hv
  rw[h2] at hv;cases hv;exact zv d.typeIs slot_dict_getitem.lookup (wpAny_getItem_of (jd _ _ i t) d.mapOf h1 ⟨jv s _,h3⟩) (gX sQ _ _)
def Cmp.inI(hs:c.σ a=some (.i kvs)):Cmp c .In (.d (.int i)) (.r a) (look kvs i).isSome:=by
 intros c a kvs i _ hs;exact λs x y B r q=>by
  obtain rfl:y=.ref a:=q;let ⟨t,zy⟩:=jV r;let ⟨us,d,z,dr,hn⟩:=B.dict hs;refine wpAny_in_of (jd _ _ i t) hn d.mapOf ⟨jv s _,?_⟩;rcases dr.look i with⟨h1,h2⟩|⟨u,x,h1,h2,_⟩<;>rw[h1,h2]<;>rfl
def Cmp.KY(hs:c.σ a=some (.i kvs)):Cmp c .NotIn (.d (.int i)) (.r a) (!(look kvs i).isSome):=by
 intros c a kvs i _ hs;exact λs x y B r q=>by
  obtain rfl:y=.ref a:=q;let ⟨t,zy⟩:=jV r;let ⟨us,d,z,dr,hn⟩:=B.dict hs;refine Wf (jd _ _ i t) hn d.mapOf ⟨jv s _,?_⟩;rcases dr.look i with⟨h1,h2⟩|⟨u,x,h1,h2,_⟩<;>rw[h1,h2]<;>rfl
def Cmp.abB(hs:c.σ a=some (.s ks)):Cmp c .NotIn (.d (.int i)) (.r a) (!ks.contains i):=λs x y B r q=>by
 obtain rfl:y=.ref a:=q;let ⟨t,zy⟩:=jV r;let ⟨_,_,so,nd⟩:=B.gg a _ hs;exact wpAny_notInSet_of (jd _ _ i t) aa so ⟨jv s _,rfl⟩
def St.Uv{s:Shared}{t:Tok}{u:aA}{Q:Unit->Shared->Prop}(S:St c ρ s)(L:Lo c s)(hs:c.σ a=some (.i kvs))(hw:c.wr a)(hz:kvs.length+1<=ck)(r:gf c s.heap u v)
 (q:∀s',St (c.upd a (.i (put kvs i v))) ρ s'->Lo (c.upd a (.i (put kvs i v))) s'->Ext c s (c.upd a (.i (put kvs i v))) s'->Q () s'):wpAny c.m c.A (setItem (.ref a) (.int i t) u) Q no s:=by
 let ⟨us,d,z,dr,hn⟩:=S.bs.dict hs;have ma:=(S.bs.gg a _ hs).1;refine wpAny_setItem_pairs (jd _ _ i t) d (λh' d' sb=>?_) (by rw[dr.length];exact eH z);have kx:Kx (·=a) s {s with heap:=h',toks:=s.toks+1}:=⟨rfl,rfl,λb o n e=>(sb.2 b n).trans e⟩;have ch:∀{u:aA} {v:V},VR c.M s.heap v u->VR c.M h' v u:=λr=>r.mono λq=>zG (c:=c) kx.keep (λb e=>e▸ma) q
 let ⟨S',L',X'⟩:=S.upd L hw hs (cn:=.i (put kvs i v)) kx ⟨_,d',aG (gU kvs i v) hz,(dr.mono λy y q=>ch q).put (ch r) i⟩;exact q _ S' L' X'
def rV.QN(ho:Ev c ρ o (.r a))(hi:Ev c ρ e (.d (.int i)))(hs:c.σ a=some (.i kvs))(hw:c.wr a)(hz:kvs.length+1<=ck)(sQ:autoParam (CT e=false) bu):rV c ρ (.Subscript o e p) v (c.upd a (.i (put kvs i v))) ρ:=by
 intros c ρ e o v p a kvs i _ ho hi hs hw hz sQ;exact λs u S L r=>by
  rw[Wc];refine aF (e9 (bk (ho s S) (λov ah o1=>aF (e9 (bk (hi ah (S.kp o1.k)) (λiv aB o2=>aF (jC (aF (e9 ?_)))))))));obtain rfl:ov=.ref a:=o1.r;let ⟨t,zy⟩:=jV o2.r;have kk:=o1.k.trans o2.k;exact(S.kp kk).Uv (L.kp kk.keep) hs hw hz (r.keep kk.keep) λs' S' L' X'=>OQ ⟨(kL kk).trans X',S',L'⟩
def zM(hs:c.σ a=some (.i kvs))(B:Bs c s)(r:gf c s.heap ov (.r a)):s.TypeIs ov "dict"/\(∀b,ov=.ref b->∃ob,s.heap.get? b=some ob/\ob.dict=none):=by
 obtain rfl:ov=.ref a:=r;let ⟨us,d,_⟩:=B.dict hs;exact⟨d.typeIs,d.mapOf.noDict⟩
def Uw(hs:c.σ a=some (.s ks))(B:Bs c s)(r:gf c s.heap ov (.r a)):s.TypeIs ov "set"/\(∀b,ov=.ref b->∃ob,s.heap.get? b=some ob/\ob.dict=none):=by
 obtain rfl:ov=.ref a:=r;let ⟨_,_,so,_⟩:=B.gg a _ hs;exact⟨so.typeIs,so.noDict⟩
def g9.setAdd(h:Ev c ρ o (.r a))(hs:c.σ a=some (.s ks))(hw:c.wr a)(he:Ev c ρ e (.d (.int i)))(Zp:0<=i)(Dk:i<4)(hz:ks.length+1<scanBound)(bS:autoParam (attributeBase o "add" c.env (eval o c.env)=eval o c.env) bu)(hline:autoParam ((apos.endLine==pos.line)=true) bu)(cW:autoParam (bJ e=false) bu):
 g9 c ρ (.Call (.Attribute o "add" apos) [e] [] pos) (λc' v=>c'=c.upd a (.s (if ks.contains i then ks else ks++[i]))/\v=.d .none):=by
 intros c ρ e o pos apos a i ks _ h hs hw he Zp Dk hz bS hline cW;exact λs S L=>
  mq S h (.cons he .nil cW) PySem.F.plainAttrs_set XQ PySem.F.type_set_add (λs ov B r=>Uw hs B r) bS hline (Qn cW) (bz aa) λah ov xs aE cT mV=>by
   obtain rfl:ov=.ref a:=cT;apply qZ mV;intro u ru;let ⟨t,zy⟩:=jV ru;have cF:=S.kp aE;have c9:=L.kp aE.keep;let ⟨_,_,so,nd,st⟩:=cF.bs.gg a _ hs;refine yr Zp Dk so st hz λh' sb Du FN=>?_
   have kx:Kx (·=a) ah {ah with heap:=h',toks:=ah.toks+1}:=⟨rfl,rfl,λb o n e=>(sb.2 b n).trans e⟩
   let ⟨b7,cO,gy⟩:=cF.upd c9 hw hs (cn:=.s (if ks.contains i then ks else ks++[i])) kx (by
    cases hc:ks.contains i with
    |true=>
     rw[aq aa];rw[hc,aq aa] at Du
     have e:(λk'=>ks.contains k'||decide (k'=i))=λk'=>ks.contains k':=by
      funext k'
      by_cases hk:k'=i
      .subst hk;rw[hc];rfl
      simp[hk]
     rw[e] at Du;exact⟨Du,nd,FN⟩
    |false=>
     rw[ay (by decide)];rw[hc,ay (by decide)] at Du
     have e:(λk'=>ks.contains k'||decide (k'=i))=λk'=>(ks++[i]).contains k':=by
      funext k';simp
     rw[e] at Du;refine⟨by rw[bU];exact Du,?_,FN⟩;rw[kX];refine⟨nd,by simp,λx hx y hy=>?_⟩;simp at hy;subst hy;intro e;subst e;rw[t8.mpr hx] at hc;cases hc)
   exact⟨_,.d .none,(kL aE).trans gy,b7,cO,.none,rfl,rfl⟩
def jP.adH:jP c ρ (.Dict [] [] pos) (.i []):=λs S=>wpAny_Dict_empty ⟨jw s _,s.heap.objs.size,rfl,bC _,[],EM s.heap,by decide,.nil⟩
end
open Mine.Ev renaming QN->sX
open Mine.jP renaming adH->zN
open Mine.rV renaming QN->zO
open Mine.Cmp renaming KY->FO,inI->QO
def HR:typeLookup (.type "list") "keys"=pure none:=am_miss_of_fast (by decide+kernel)
def abC{prog:Program}{w:World}{A:Around}{E:aA->Shared->Prop}{s:Shared}{a:Addr}{xs:Array aA}{Q:Option aA->Shared->Prop}(hx:PL s.heap a xs)(hA:A.handled=none)(h:∀s',Kp s s'->Q none s'):wpAny (model prog w) A (getAttr? (.ref a) "keys") Q E s:=by
 intros prog w A E s a xs Q _ hx hA h;let ⟨k,z2⟩:=hx;revert z2;intro hx;refine aM λhN=>?_;obtain⟨hp,g,d,tk,os⟩:_:=s;refine hN ?_
 have hT:∀YI,(⟨hp,g,d,YI,os⟩:Shared).TypeIs (.ref a) "list":=λz=>⟨_,hx,rfl⟩
 have f1:=sub_AttributeError;have f3:=PD.lookup;have f4:=PD.bind (.ref a);have f5:=am_list_getattr_none;unfold getAttr? getAttrBy? getAttrBy
 repeat (any_goals (first|assumption|exact hT _|((with_reducible show wpAny _ _ (call (Value.builtin "list.__getattribute__") _ _) _ _ _);refine D9 PD (hT _) am_entry_list_getattribute (PySem.F.args_list_getattribute_2 _ _) (meets_getattribute_miss_list a xs k #[] "keys" _ HR (by decide+kernel) (by size_fits)) ⟨hx,hA,λh' YI e hx'=>?_⟩)|wp_step))
 let ⟨t',u',he⟩:=hx'.there;show wpAny _ _ (getattributeRaised _ _ _ _ _ _ _) _ _ _;unfold getattributeRaised
 repeat (any_goals (first|assumption|wp_step))
 exact h _ ⟨rfl,rfl,λb o e=>hx'.keeps b o e⟩
noncomputable def oH(p:Int×D):D:=.tup [.int p.1,p.2]
def AE:entryFor table "dict.update.loop"=some kF.«dict.update.loop»:=VV (by kernel_rfl)
def qs:plainId "dict.update.loop"=true:=by decide+kernel
def aS{α:Type}(acc:List (Int×α))(kvs:List (Int×α)):List (Int×α):=kvs.foldl (λa p=>put a p.1 p.2) acc
def m9{α:Type}(acc kvs:List (Int×α)):(aS acc kvs).length<=acc.length+kvs.length:=by
 induction kvs generalizing acc with
 |nil=>simp[aS]
 |cons p kvs ih=>
  exact aG (ih (put acc p.1 p.2)) (Ij (gU acc p.1 p.2) aa (bW _))
def Rep.Ux(r:Rep h M v (oH p)):∃a n t u,v=.ref a/\IsT h a #[.int p.1 t,u] n/\Rep h M u p.2:=by
 intros h M v p _ r;let ⟨a,vs,zy,z2,_,_,ra⟩:=r.mT;let ⟨n,pt⟩:=z2;refine aM λhN=>?_;obtain⟨v1,l1,e1,r1,ra⟩:_:=ra.DG;refine hN ?_
 refine aM λhN=>?_;obtain⟨v2,l2,e2,r2,ra⟩:_:=ra.DG;refine hN ?_
 let ⟨t,zy⟩:=r1.cX;rw[e2,ra.Qc] at e1;obtain rfl:vs=#[.int p.1 t,v2]:=Array.ext' e1;exact⟨a,n,t,v2,rfl,pt,r2⟩
def Dv{prog:Program}{w:World}{h:cC}{a:Addr}{us:List (Int×aA)}{o:Obj}(d:h.DictOf (intKind prog w) a us)(q:o6 o):h.get? a=some o->False:=λe=>by
 let ⟨o',es,ep,e',_,d',_⟩:=d;let ⟨x,y,z⟩:=q;cases e.symm.trans e';cases d'.symm.trans z
def AF{h:cC}{I l:Addr}{i:Nat}{o:Obj}(it:h.IsListIter I l i)(q:o6 o):h.get? I=some o->False:=λe=>by
 let ⟨o',e',_,d'⟩:=it;cases e.symm.trans e';exact gR q ⟨_,d'⟩
def QS{prog:Program}{w:World}{A:Around}{l I Da:Addr}{vs:Array aA}{us:List (Int×aA)}{s:Shared}{i:Nat}{ta:Addr}{n:Nat}{key:Int}{t:Tok}{u:aA}{R:vq->Shared->Prop}(dg:l≠I/\l≠Da/\I≠Da)
 (it:s.heap.IsListIter I l i) (pl:PL s.heap l vs) (hv:vs[i]?=some (.ref ta)) (pt:∀bF,(∀b o,b≠I->s.heap.get? b=some o->bF.get? b=some o)->IsT bF ta #[.int key t,u] n) (d:s.heap.DictOf (intKind prog w) Da us) (hz:us.length+1<=ck)
 (hR:∀bF bN tk,bN.IsListIter I l (i+1)->(∀b o,b≠I->s.heap.get? b=some o->bF.get? b=some o)->kY Da bF bN->bN.DictOf (intKind prog w) Da (stored us key u)->codeAny (model prog w) A (.builtin "dict.update.loop" ⟨[.ref Da,.ref I,rawInt (i+1:Nat),.none],[]⟩) R {s with heap:=bN,toks:=tk}):
 codeAny (model prog w) A (.builtin "dict.update.loop" ⟨[.ref Da,.ref I,rawInt i,.none],[]⟩) R s:=by
 intros prog w A l I Da vs us _ s i ta n key t u R dg it pl hv pt d hz hR;intros s i ta n key t u R _ dg it pl hv pt d hz hR;refine tW AE ?_;rw[vR qs _];unfold kF.«dict.update.loop»;refine aF (Js it pl.isList hv λbF adI QT=>?_);have pt:=pt bF λb o n e=>QT.extBut b o n e
 refine aF (e9 (aF (Bx ?_)));unfold adf;refine aF (Bu (T:="tuple") ⟨_,pt,rfl⟩ ?_);show wpAny _ _ (if true=true then _ else _) _ _ _;rw[aq aa];refine aF (Ju pt aa (bx ?_));show wpAny _ _ (holding [l7 key t,u] (dictSet Da (l7 key t) u)) _ _ _;refine e9 (OR (s:={s with heap:=bF}) (jd _ _ key t) (dN d λo e=>QT.extBut Da o dg.2.2.symm e) (λbN yH KZ=>bx ⟨tX qs _,?_⟩) (eH (Ww hz)));exact hR bF bN _ (adI.at λo e=>(KZ.2 I dg.2.2).trans e) (λb o n e=>QT.extBut b o n e) KZ yH
def QU{prog:Program}{w:World}{A:Around}{M:Addr->Prop}{l I Da:Addr}{vs:Array aA}{kvs:List (Int×D)}{R:vq->Shared->Prop}(hh:A.handled=none)(hM:¬M I/\¬M Da)(dg:l≠I/\l≠Da/\I≠Da):∀(n i:Nat) (acc:List (Int×D)) (us:List (Int×aA)) (s:Shared),vs.size-i=n->i<=vs.size->
 s.heap.IsListIter I l i->PL s.heap l vs->aC s.heap M vs.toList (kvs.map oH)->s.heap.DictOf (intKind prog w) Da us->DR (Rep s.heap M) us acc->(acc.length+(kvs.length-i)<=ck)->
 (∀s' QM,s'.gens=s.gens->s'.os=s.os->(∀b o,b≠I->b≠Da->s.heap.get? b=some o->s'.heap.get? b=some o)->s'.heap.DictOf (intKind prog w) Da QM->DR (Rep s'.heap M) QM (aS acc (kvs.drop i))->R (.ok (.ret .none)) s')->
 codeAny (model prog w) A (.builtin "dict.update.loop" ⟨[.ref Da,.ref I,rawInt i,.none],[]⟩) R s:=by
 intros prog w A M l I Da vs kvs R _ hh hM dg;have off:∀{s:Shared} {i:Nat} {us:List (Int×aA)} {h':cC},s.heap.IsListIter I l i->s.heap.DictOf (intKind prog w) Da us->(∀b o,b≠I->b≠Da->s.heap.get? b=some o->h'.get? b=some o)->∀{u:aA} {x:D},Rep s.heap M u x->Rep h' M u x:=λ{s i us h'} it d k {u x} q=>q.mono λa o n q e=>⟨k a o (λh=>AF it q (h▸e)) (λh=>Dv d q (h▸e)) e,n⟩
 intro n
 induction n with
 |zero=>
  intro i acc us s hn hi it pl r d dr hz hR;obtain rfl:i=vs.size:=pI hi (Wx hn);have hl:=r.length;rw[l6,aR] at hl;refine tW AE ?_;rw[vR qs _];unfold kF.«dict.update.loop»;refine aF (OL (A:=A.in1) hh it pl.isList (zq (bW _)) λh' he=>?_);show wpAny _ _ (adg Da []>>=λz=>ret sL) _ _ _;refine aF (bx (bx (hR _ us aa aa (λb o n1 n2 e=>he b o n1 e) (dN d λo e=>he Da o dg.2.2.symm e) ?_)));rw[hl,List.drop_length];exact dr.mono λz z q=>off it d (λb o n1 z e=>he b o n1 e) q
 |succ n ih=>
  intro i acc us s hn hi it pl r d dr hz hR;have hl:=r.length;rw[l6,aR] at hl;have eG:i<vs.size:=zw hn;have ng:i<kvs.length:=hl▸eG;let ⟨v,hv,rv⟩:=r.get (k:=i) (d:=oH kvs[i]) (by rw[dh,iF ng];rfl);let ⟨ta,m,t,u,zy,pt,ru⟩:=rv.Ux;rw[lC] at hv;have zC:=dr.length;refine QS dg it pl hv (λbF k=>k ta _ (λh=>AF it ⟨_,_,rfl⟩ (h▸pt)) pt) d (by rw[zC];exact aG (ff (Nat.sub_pos_of_lt ng) _) hz) λbF bN tk adJ aE KZ yH=>?_
  have kk:∀b o,b≠I->b≠Da->s.heap.get? b=some o->bN.get? b=some o:=λb o n1 n2 e=>(KZ.2 b n2).trans (aE b o n1 e)
  have rep:∀{u:aA} {x:D},Rep s.heap M u x->Rep bN M u x:=off it d kk;refine ih (i+1) (put acc kvs[i].1 kvs[i].2) _ {s with heap:=bN,toks:=tk} (xM hn) eG adJ (pl.at λo e=>kk l o dg.1 dg.2.1 e) (r.YO rep) yH ((dr.mono λz z q=>rep q).put (rep ru) _) (Ij (gU acc kvs[i].1 kvs[i].2) (TZ ng) hz) λs' QM g o k d' Uy=>hR s' QM g o (λb o n1 n2 e=>k b o n1 n2 (kk b o n1 n2 e)) d' ?_
  rw[WK ng];exact Uy
noncomputable def cJ(kvs:List (Int×D)):List (Int×V):=kvs.map λp=>(p.1,.d p.2)
def DR.d(r:DR (Rep h M) us kvs):DR (λu x=>VR M h x u) us (cJ kvs):=by
 induction r with
 |nil=>exact .nil
 |cons a _ ih=>exact .cons a ih
def Ct{prog:Program}{w:World}{A:Around}{M:Addr->Prop}{s:Shared}{l:Addr}{vs:Array aA}{kvs:List (Int×D)}{Q:aA->Shared->Prop}(hh:A.handled=none)(hM:∀a,M a->∃o,s.heap.get? a=some o)(pl:PL s.heap l vs)(r:aC s.heap M vs.toList (kvs.map oH))(hz:kvs.length<=ck)
 (h:∀s' us,Kp s s'->s'.heap.DictOf (intKind prog w) s.heap.objs.size us->DR (Rep s'.heap M) us (aS [] kvs)->Q (.ref s.heap.objs.size) s'):wpAny (model prog w) A (call (.type "dict") [.ref l]) Q no s:=by
 intros prog w A M s l vs kvs Q _ hh hM pl r hz h;refine callType_codes (Q₁:=λobj ah=>obj=.ref s.heap.objs.size/\ah={s with heap:=s.heap.push {cls:=.type "dict",data:=.dict #[]}}) PySem.F.kt_called_dict (PySem.F.kt_typeCall_dict_1 _) PySem.F.entry_dict_init (kt_code_dict_new _ ⟨rfl,rfl⟩) ?_;intro obj ah z2;let ⟨zy,zy⟩:=z2;obtain⟨Da,Ds⟩:∃Da,Da=s.heap.objs.size:=⟨_,rfl⟩;intros Da _ Ds;rw[<-Ds];have nD:s.heap.get? Da=none:=by rw[Ds];exact bC _
 have iY:(s.heap.push {cls:=.type "dict",data:=.dict #[]}).DictOf (intKind prog w) Da []:=by rw[Ds];exact EM s.heap
 have KU:∀b o,s.heap.get? b=some o->(s.heap.push {cls:=.type "dict",data:=.dict #[]}).get? b=some o:=λb o e=>dS _ e
 have MX:PL (s.heap.push {cls:=.type "dict",data:=.dict #[]}) l vs:=pl.at (KU l);have lD:l≠Da:=λe=>by let ⟨n,i⟩:=pl;intros n _ i;have i':s.heap.get? l=_:=i;rw[e,nD] at i';cases i'
 refine⟨iY.typeIs (s:={s with heap:=s.heap.push {cls:=.type "dict",data:=.dict #[]}}),PySem.F.args_dict_init_2 _ _,?_⟩;unfold kF.«dict.__init__»;refine aF ?_;unfold adh;refine aF (wpAny_notOrdered_dict (iY.typeIs (s:={s with heap:=s.heap.push {cls:=.type "dict",data:=.dict #[]}})) ?_);show wpAny _ _ (pure (Da,[ug l])) _ _ _;refine bx ?_;show wpAny _ _ (Yu "dict.__init__" Da (.ref l) [] .none) _ _ _;unfold Yu;refine aF (Bu (MX.isList.typeIs (s:={s with heap:=s.heap.push {cls:=.type "dict",data:=.dict #[]}})) ?_);rw[aq (by decide)];refine aF (abC (s:={s with heap:=s.heap.push {cls:=.type "dict",data:=.dict #[]}}) MX hh λaB aV=>?_);intros aB _ aV;show wpAny _ _ (if true=true then _ else _) _ _ _;rw[aq aa];refine aF (yR ?_);have MY:PL aB.heap l vs:=MX.at (aV.keep l);refine aF (D3 MY.isList ?_);obtain⟨I,hI⟩:∃I,I=aB.heap.objs.size:=⟨_,rfl⟩;intros I _ hI;rw[<-hI];have nI:aB.heap.get? I=none:=by rw[hI];exact bC _
 have d2:aB.heap.DictOf (intKind prog w) Da []:=dN iY (aV.keep Da);have ID:I≠Da:=λe=>by let ⟨o,_,_,g,_⟩:=d2;rw[<-e,nI] at g;cases g
 have lI:l≠I:=λe=>by let ⟨n,i⟩:=MY;intros n _ i;have i':aB.heap.get? l=_:=i;rw[e,nI] at i';cases i'
 have kp3:∀b o,aB.heap.get? b=some o->(aB.heap.push {cls:=.type "list_iterator",data:=.fields #[.ref l,.int 0 0]}).get? b=some o:=λb o e=>dS _ e
 have old:∀b o,s.heap.get? b=some o->b≠I/\b≠Da:=λb o e=>by
  refine⟨λh=>?_,λh=>by rw[h,nD] at e;cases e⟩;have:=aV.keep b o (KU b o e);rw[h,nI] at this;cases this
 have nM:¬M I/\¬M Da:=by
  refine⟨λm=>?_,λm=>?_⟩
  .let ⟨o,e⟩:=hM I m;intros o _ e;exact(old I o e).1 aa
  let ⟨o,e⟩:=hM Da m;intros o _ e;exact(old Da o e).2 aa
 refine bx ⟨tX qs _,?_⟩;have it0:(aB.heap.push {cls:=.type "list_iterator",data:=.fields #[.ref l,.int 0 0]}).IsListIter I l 0:=by rw[hI];exact⟨_,fh _ aa,rfl,rfl⟩
 refine QU (A:=A.in1) (l:=l) (I:=I) (vs:=vs) (kvs:=kvs) (M:=M) hh nM ⟨lI,lD,ID⟩ vs.size 0 [] [] {aB with heap:=aB.heap.push {cls:=.type "list_iterator",data:=.fields #[.ref l,.int 0 0]}} (JA _) (b8 _) it0 (MY.at (kp3 l)) ((r.keep λb o e=>aV.keep b o (KU b o e)).keep kp3) (dN d2 (kp3 Da)) .nil (by simpa using hz) λs' us g o k d' Uy=>?_;intros s' us _ g o k d' Uy
 rw[Ds] at d'⊢;exact⟨rfl,h s' us ⟨g.trans aV.gens,o.trans aV.os,λb o e=>k b o (old b o e).1 (old b o e).2 (kp3 b o (aV.keep b o (KU b o e)))⟩ d' (by simpa using Uy)⟩
def QV:bootBuiltins "dict"=some (.type "dict"):=by decide+kernel
def Uz:bootBuiltins "set"=some (.type "set"):=by decide+kernel
section
variable {c:C}{ρ:Nm}{e:aU}{v:V}{p pos:Pos}
def jP.dictOf{kvs:List (Int×D)}(h:Ev c ρ e v)(ha:vm c v (kvs.map oH))(hk:autoParam (c.env.kindOf "dict"=some .globalImplicit) bu)(hs:autoParam (bJ e=false) bu):jP c ρ (.Call (.Name "dict" p) [e] [] pos) (.i (cJ (aS [] kvs))):=λs S=>by
 refine l9 S hk (by decide) QV (by decide) (by decide) (br h fj hs) (by simp[bP,hs]) (n9 _ _) λah xs aE cT=>?_
 apply qZ cT;intro x rx;have B:=S.bs.kp aE;let ⟨l,vs,zy,i,z,r⟩:=uv rx B ha;rw[aR] at z;refine Ct B.room.hh B.gG i r z λs' us k' d dr=>⟨aE.trans k',ah.heap.objs.size,rfl,dQ aE (bC _),us,d,?_,?_⟩
 .unfold cJ;rw[aR];exact aG (m9 [] kvs) (by simpa using z)
 refine(dr.mono λu x q=>?_).d;let ⟨o,es,ep,g,_,dd,_⟩:=d;exact q.DJ g λq1=>by let ⟨a,b,e⟩:=q1;exact by rw[dd] at e;cases e
end
open Mine.jP renaming dictOf->zP
noncomputable def kO(ns:List Int):List Int:=ns.foldl vW []
def MZ(h:σ.Nodup)(k:Int):(vW σ k).Nodup:=by
 unfold vW;split
 .exact h
 rename_i hn;rw[kX];refine⟨h,by simp,λa ha b hb=>?_⟩;simp at hb;subst hb;intro e;subst e;exact hn (BH.mpr ⟨a,ha,by simp⟩)
def sd(ns:List Int):(kO ns).Nodup:=by
 unfold kO
 have:∀(l σ:List Int),σ.Nodup->(l.foldl vW σ).Nodup:=λl=>by
  induction l with
  |nil=>intro σ h;exact h
  |cons a l ih=>intro σ h;exact ih _ (MZ h a)
 exact this ns [] qM
def oW(l:List Int)(k:Int):l.any (·==k)=l.contains k:=by
 induction l with
 |nil=>rfl
 |cons a l ih=>
  have h:(a==k)=(k==a):=by rw[Pu,beq_iff_eq,beq_iff_eq];exact eq_comm
  rw[JJ,WM,ih,h]
def FQ(ns:List Int):firstMet (λi=>ns.getD i 0) ns.length=kO ns:=by
 intros ns;unfold firstMet kO
 congr 1
 apply List.ext_getElem
 .simp
 intro i h1 h2;simp at h1⊢;simp[h1]
noncomputable def bA(ns:List Int):List D:=ns.map .int
theorem aC.ints:∀{vs:List aA} {ns:List Int},aC h M vs (bA ns)->EK vs ns
 |_,[],r=>by cases r;exact .nil
 |_,n::ns,r=>by
  cases r with
  |cons a r=>cases a with|int _ t=>exact .cons n t (aC.ints r)
section
variable {c:C}{ρ:Nm}{e o e₁ e₂:aU}{v:V}{p pos apos:Pos}{a:Addr}{kvs:List (Int×V)}{i:Int}
def jP.setOf{ns:List Int}(h:Ev c ρ e v)(ha:vm c v (bA ns))(oj:∀k∈ns,0<=k/\k<4)(hz:ns.length+1<scanBound)(hk:autoParam (c.env.kindOf "set"=some .globalImplicit) bu)(hs:autoParam (bJ e=false) bu):jP c ρ (.Call (.Name "set" p) [e] [] pos) (.s (kO ns)):=λs S=>by
 refine l9 S hk (by decide) Uz (by decide) (by decide) (br h fj hs) (by simp[bP,hs]) (n9 _ _) λah xs aE cT=>?_
 apply qZ cT;intro x rx;have B:=S.bs.kp aE;let ⟨l,vs,zy,i,z,r⟩:=uv rx B ha;have hl:=r.length;simp only[l6,bA,aR] at hl;refine Al B.room.hh i.isList r.ints oj (by rw[hl];exact hz) λh' tk so st keep=>?_
 rw[hl,FQ] at so;refine⟨aE.trans ⟨rfl,rfl,λb o e=>keep b o (gP e) e⟩,ah.heap.objs.size,rfl,dQ aE (bC _),?_,sd ns,st⟩;exact BY so (λk=>oW _ k) aa
theorem g9.M0(h:Ev c ρ o (.r a))(hs:c.σ a=some (.i kvs))(hw:c.wr a)(bF:Ev c ρ e₁ (.d (.int i)))(bN:Ev c ρ e₂ (.d x))(hz:kvs.length+1<=ck)(bS:autoParam (attributeBase o "setdefault" c.env (eval o c.env)=eval o c.env) bu)(hline:autoParam ((apos.endLine==pos.line)=true) bu)(gh:autoParam (bJ e₁=false) bu)(gk:autoParam (bJ e₂=false) bu):
 g9 c ρ (.Call (.Attribute o "setdefault" apos) [e₁,e₂] [] pos) (λc' v=>c'=c.upd a (.i (if(look kvs i).isSome then kvs else put kvs i (.d x)))):=by
 intros c ρ o e₁ e₂ pos apos a kvs i x _ h hs hw bF bN hz bS hline gh gk;exact λs S L=>
  mq S h (.cons bF (.cons bN .nil gk) gh) BW X4 PySem.F.type_dict_setdefault (λs ov B r=>zM hs B r) bS hline (ns2 gh gk) (bz aa) λah ov xs aE cT mV=>by
   obtain rfl:ov=.ref a:=cT;apply EZ mV;intro u w ru wz;let ⟨t,zy⟩:=jV ru;have cF:=S.kp aE;have c9:=L.kp aE.keep;let ⟨us,d,z,dr,hn⟩:=cF.bs.dict hs;have ma:=(cF.bs.gg a _ hs).1;refine By X4 d.typeIs PySem.F.entry_dict_setdefault (PySem.F.args_dict_setdefault_3 _ _ _) (kt_meets_setdefault (intKind c.prog c.w) a (jd _ _ i t) hn w) ⟨us,d,by rw[dr.length];exact eH z,λv hv=>?_,λhv h' d' sb=>?_⟩
   .rcases dr.look i with⟨h1,_⟩|⟨u,y,h1,h2,h3⟩
    .exact ns h1 hv
    rw[h1] at hv;cases hv;rw[h2];have kt:Kp ah {ah with toks:=ah.toks+1}:=jv ah _;let ⟨b7,cO,gy⟩:=(cF.kp kt).upd (c9.kp kt.keep) hw hs (cn:=.i kvs) (Qm _) ⟨us,d,z,dr⟩;exact⟨_,y,(kL aE).trans ((kL kt).trans gy),b7,cO,h3,rfl⟩
   rcases dr.look i with⟨h1,h2⟩|⟨u,y,h1,_,_⟩
   .rw[h2];have kx:Kx (·=a) ah {ah with heap:=h',toks:=ah.toks+1}:=⟨rfl,rfl,λb o n e=>(sb.2 b n).trans e⟩;have ch:∀{u:aA} {v:V},VR c.M ah.heap v u->VR c.M h' v u:=λr=>r.mono λq=>zG (c:=c) kx.keep (λb e=>e▸ma) q
    let ⟨b7,cO,gy⟩:=cF.upd c9 hw hs (cn:=.i (put kvs i (.d x))) kx ⟨_,d',aG (gU kvs i _) hz,(dr.mono λs s q=>ch q).put (ch wz) i⟩;exact⟨_,.d x,(kL aE).trans gy,b7,cO,ch wz,rfl⟩
   exact ns hv h1
end
def K0(h:wpAny M A t (λv s'=>Q [v] s') E s):wpAny M A (evalAll [t]) Q E s:=by
 show wpAny M A (t>>=λv=>holding [v] (evalAll [])>>=λr=>pure (v::r)) Q E s;exact aF (bk h (λv s' h'=>aF (e9 (bx (bx h')))))
section
variable {c:C}{ρ:Nm}{e e₁ e₂:aU}{v:V}{p pos:Pos}{i:Int}{n:Nat}
def jP.ae5(h:Ev c ρ e (.d (.int i)))(Zp:0<=i)(Dk:i<4)(hc:kdsCode c.K c.env.code=true)(Km:autoParam ((displayRoad n [e]==.constants)=false) bu)(DF:autoParam ((displayRoad n [e]==.unsure)=false) bu)(cW:autoParam (bJ e=false) bu):jP c ρ (.Set [e] n pos) (.s [i]):=by
 intros c ρ e pos i n _ h Zp Dk hc Km DF cW;exact λs S=>by
  rw[arm_eval_Set];refine aF (jC ?_);refine aF (kds_main S.bs.sP hc λb=>?_);rw[bO _ cW];refine Kl Km DF ?_;have kp:Kp s {s with heap:=s.heap.push (qg (ju c.w))}:=jw s _;refine K0 (aF (bk (h _ (S.kp kp)) (λu ah q1=>aF (jC (bx ⟨u,rfl,?_⟩)))));refine aM λhN=>?_;obtain⟨aE,cT⟩:_:=q1;refine hN ?_
  let ⟨t,zy⟩:=jV cT;have g:ah.heap.get? s.heap.objs.size=some (qg (ju c.w)):=aE.keep _ _ (fh _ aa);have so:=B9 (prog:=c.prog) (w:=c.w) (ju c.w) g;have st:=B8 (ju c.w) g;unfold setAdd;refine e9 (aF ((intKind c.prog c.w).pyHash (k:=i) (jd _ _ _ _) ?_));refine ET (s:={ah with toks:=ah.toks+1}) Zp Dk so st (by decide) λh' sb Du FN=>?_
  refine⟨?_,s.heap.objs.size,rfl,bC _,?_,by simp,FN⟩
  .exact⟨aE.gens,aE.os,λb o e=>(sb.2 b λq=>by rw[q,bC] at e;cases e).trans (aE.keep b o (kp.keep b o e))⟩
  exact BY Du (λk=>by simp) aa
def HQ.pair(bF:Ev c ρ e₁ (.d d))(bN:jP c ρ e₂ (.s ks))(wo:autoParam (bJ e₁=false) bu)(wu:autoParam (bJ e₂=false) bu):HQ c ρ (.List [e₁,e₂] pos) (λla τ=>∃sa,la≠sa/\τ la=some (.v [.d d,.r sa])/\τ sa=some (.s ks)/\∀b,b≠la->b≠sa->τ b=none):=by
 intros c ρ e₁ e₂ pos d ks _ bF bN wo wu;exact λs S=>by
  refine OF ?_;rw[bO _ wo,bO _ wu];refine sM (bk (bF s S) (λu ah q1=>?_));refine aM λhN=>?_;obtain⟨aE,cT⟩:_:=q1;refine hN ?_
  refine sM (bk (bN ah (S.kp aE)) (λx aB ⟨aV,sa,ex,SK,cr⟩=>vQ ⟨?_,?_⟩))
  .simp;rw[qI];decide
  subst ex;obtain⟨la,UA⟩:∃la,la=aB.heap.objs.size:=⟨_,rfl⟩;have kp:Kp aB {aB with heap:=aB.heap.push {cls:=.type "list",data:=.seq #[u,.ref sa]}}:=jw aB _;have nl:aB.heap.get? la=none:=by rw[UA];exact bC _
  have gl:(aB.heap.push {cls:=.type "list",data:=.seq #[u,.ref sa]}).get? la=some {cls:=.type "list",data:=.seq #[u,.ref sa]}:=by rw[UA];exact fh _ aa
  let ⟨o,eo,_⟩:=cr.rt;have ne:la≠sa:=λq=>by rw[q,eo] at nl;cases nl
  have Zq:s.heap.get? sa=none:=dQ aE SK;refine⟨(aE.trans aV).trans kp,la,(λb=>if b=la then some (.v [.d d,.r sa]) else if b=sa then some (.s ks) else none),by rw[UA],λb cn e=>?_,λb cn e=>?_,sa,ne,by simp,by simp[ne.symm],λb h1 h2=>by simp[h1,h2]⟩
  .by_cases h1:b=la
   .subst h1;exact dQ (aE.trans aV) nl
   by_cases h2:b=sa
   .subst h2;exact Zq
   simp[h1,h2] at e
  by_cases h1:b=la
  .subst h1;simp at e;subst e;refine⟨#[u,.ref sa],⟨0,gl⟩,bz aa,.cons ?_ (.cons aa .nil)⟩;have q:Rep ah.heap c.M u d:=cT;refine q.mono λa o' nm z e'=>⟨kp.keep a o' (aV.keep a o' e'),λh=>h.elim nm λh=>?_⟩
   by_cases h1:a=b
   .subst h1;have:=aV.keep a o' e';exact ns nl this
   by_cases h2:a=sa
   .subst h2;exact ns SK e'
   simp[h1,h2] at h
  by_cases h2:b=sa
  .subst h2;simp[h1] at e;subst e;exact v8 cr (kp.keep b)
  simp[h1,h2] at e
end
def St.SM{c:C}{ρ:Nm}{s s':Shared}{Da:Addr}(S:St c ρ s)(L:Lo c s)(hx:c.X Da)(hy:¬c.Y Da)(nc:∃o,s.heap.get? Da=some o/\∀v,o.data≠.cell v)(al:∃o,s'.heap.get? Da=some o)(k:Kx (·=Da) s s'):St c ρ s'/\Lo c s':=
 S.gen (M':=c.M) (σ':=c.σ) (wr':=c.wr) (B':=c.B) L (S.bs.kx k (λb e=>e▸hx) λa m=>dite (a=Da) (λe=>e▸al) λe=>(S.bs.gG a m).imp λo e'=>k.keep a o e e') (Cd k λa v i q=>nc.elim λo z=>i.elim λo' z'=>z.2 v (eF (z'.1.symm.trans (q▸z.1))▸z'.2))
  (λo e=>k.keep _ o (λe=>hy (.inl e.symm)) e) λr=>zG (c:=c) k.keep (λb e=>S.bs.xm b (e▸hx)) r
def M1(c:C)(Da:Addr)(s:Shared)(done:List D):Prop:=∃kvs us,done=kvs.map oH/\s.heap.DictOf (intKind c.prog c.w) Da us/\DR (Rep s.heap c.M) us (aS [] kvs)/\done.length<=ck
def M1.ok(hx:c.X Da)(hy:¬c.Y Da):wB c Da (M1 c Da) H:=
 ⟨λs s' done q1 h1 h2 y=>by let ⟨kvs,us,e,d,r,z⟩:=q1;exact⟨kvs,us,e,dN d h1,r.mono λy y q=>q.mono λa o n q e=>⟨h2 a o n (λf=>gR q f) e,n⟩,z⟩,hx,hy⟩
def K1{α:Type}(acc l m:List (Int×α)):aS acc (l++m)=aS (aS acc l) m:=by simp[aS]
def lT{prog:Program}{w:World}{h:cC}{a:Addr}{us:List (Int×aA)}(d:h.DictOf (intKind prog w) a us):∃o,h.get? a=some o/\∀v,o.data≠.cell v:=by
 let ⟨o,es,ep,ho,_,hd,_⟩:=d;exact⟨o,ho,λv e=>by first|exact zI hd e|exact Cg hd e|(rw[hd] at e;cases e)⟩
def yh.adK{c:C}{ρ:Nm}{Da:Addr}{ke ve:aU}{gens:List yU}{scope:ia}{pos:Pos}{i:Int}{x:D}(hx:c.X Da)(hy:¬c.Y Da)(hk:Ev c ρ ke (.d (.int i)))(hv:Ev c ρ ve (.d x)):yh c ρ Da (M1 c Da) (lQ (.DictComp ke ve gens scope pos) (.ref Da) c.env) [oH (i,x)]:=by
 intros c ρ Da ke ve gens scope pos i x _ hx hy hk hv;exact λs done S L qP hz=>by
  let ⟨kvs,us,ed,d,r,z⟩:=qP;show wpAny c.m c.A (eval ke c.env>>=λkv=>holding [kv] (eval ve c.env)>>=λvv=>_) _ _ s;refine aF (bk (hk s S) (λu ah o1=>aF (e9 (bk (hv ah (S.kp o1.k)) (λw aB o2=>?_)))));let ⟨t,zy⟩:=jV o1.r;have kk:=o1.k.trans o2.k;have b7:=S.kp kk;have cO:=L.kp kk.keep;have yH:aB.heap.DictOf (intKind c.prog c.w) Da us:=dN d (kk.keep Da);have Zr:DR (Rep aB.heap c.M) us (aS [] kvs):=r.mono λy y q=>q.keep kk.keep
  have cG:(aS ([]:List (Int×D)) kvs).length<=kvs.length:=by have:=m9 ([]:List (Int×D)) kvs;simpa using this
  have hk:kvs.length<=ck:=by rw[ed,aR] at z;exact z
  refine aF (jC (e9 (OR (jd _ _ i t) yH (λh' d' sb=>?_) (by rw[Zr.length];exact eH (aG cG hk)))));have dP:Kx (·=Da) aB {aB with heap:=h',toks:=aB.toks+1}:=⟨rfl,rfl,λb o n e=>(sb.2 b n).trans e⟩;let ⟨i8,jc⟩:=b7.SM cO hx hy (lT yH) (let ⟨o,e,_⟩:=lT d';⟨o,e⟩) dP;have ch:∀{u:aA} {x:D},Rep aB.heap c.M u x->Rep h' c.M u x:=λq=>zG (c:=c) dP.keep (λb e=>S.bs.xm b (e▸hx)) q
  refine⟨kk.kx.trans (dP.mono λb e=>.inr e),i8,jc,kvs++[(i,x)],_,by rw[ed,eB];rfl,d',?_,hz⟩;rw[K1];exact(Zr.mono λy y q=>ch q).put (ch o2.r) i
section
variable {c:C}{ρ:Nm}{e:aU}{cn:Cn}{x:Str}{p pos:Pos}
theorem Cp.dict{ke ve tg iter:aU}{ifs:List aU}{scope:ia}{ds:List D}{outs:List (List (Int×D))}(jT:outs.length=ds.length)(hz:outs.flatten.length<=ck)(gq:It c ρ iter ds)
 (hb:∀La cs M X (i:Nat) d o,ds[i]?=some d->outs[i]?=some o->TB (c.into scope La cs M X) (pU scope ρ) tg ifs d (λρ'=>∃k x,Ev (c.into scope La cs M X) ρ' ke (.d (.int k))/\Ev (c.into scope La cs M X) ρ' ve (.d x)/\o=[(k,x)]) (o=[]))
 (mj:r9 c.env.kindOf (λx=>(ρ.lookup x).isSome) scope=true) (hs:∀x,foldedSetIterable iter c.env x=pure x):Cp c ρ (.DictComp ke ve [⟨tg,iter,ifs,0⟩] scope pos) (.i (cJ (aS [] outs.flatten))):=by
 intros c ρ pos ke ve tg iter ifs scope ds outs _ jT hz gq hb mj hs;refine⟨scope,_,pos,_,.d,rfl,λs use Q S hQ=>?_⟩;let ⟨h1,h2,h3,h4⟩:=oA mj;have nS:((outs.map λo=>o.map oH).flatten)=outs.flatten.map oH:=by simp[O6]
 refine qE (H:=λy=>False) (hH:=λy h=>h.elim) (pV:=M1) (e:=.DictComp ke ve [⟨tg,iter,ifs,0⟩] scope pos) (inner:=λacc env=>lQ (.DictComp ke ve [⟨tg,iter,ifs,0⟩] scope pos) acc env) (yE:=λo=>o={cls:=.type "dict",data:=.dict #[]}) (outs.map λo=>o.map oH) (by simpa using jT) .d aa (λy y y=>rfl) hs h1 h2 h3 h4 S gq
  (λah Q' q=>?_) (λo e=>by subst e;rfl) (λc' ah Da o e g y=>by subst e;exact⟨[],[],rfl,⟨_,#[],0,g,⟨rfl,rfl,rfl⟩,rfl,λy he=>by simp at he,Yv,qM⟩,.nil,by decide⟩) (λc' Da hx hy=>M1.ok hx hy) ?_ (by rw[nS,aR];exact hz) ?_
 .show wpAny _ _ newDict _ _ _;simp only[newDict,newObj];exact aF (DZ (bx (q _ aa)))
 .intro La cs M X Da hx hy i d o hd ho;rw[dh] at ho;cases zQ:outs[i]? with
  |none=>rw[zQ] at ho;cases ho
  |some o'=>
   rw[zQ] at ho;simp only[zu,zj] at ho;subst ho;refine aM λhN=>?_;obtain⟨tb,b,t1,t2,t3,t4,t5⟩:_:=hb La cs M X i d o' hd zQ;refine hN ?_
   refine⟨tb,b,t1,t2,t3,λe=>?_,λe=>by rw[t5 e];rfl⟩;let ⟨k,x,ek,ex,zy⟩:=t4 e;exact(yh.adK hx hy ek ex).at
 intro c' Da La s' hp hw hm k hD hL sV z2 hn Dt KN;let ⟨kvs,us,e,d,r,z⟩:=z2;rw[nS] at e
 have ek:kvs=outs.flatten:=by
  have inj:∀(a b:List (Int×D)),a.map oH=b.map oH->a=b:=λa=>by
   induction a with
   |nil=>intro b h;cases b<;>simp at h⊢
   |cons p a ih=>
    intro b h;cases b with
    |nil=>simp at h
    |cons q b=>
     rw[gx,gx] at h;let ⟨h1,h2⟩:=EN h;rw[ih b h2];refine aM λhN=>?_;obtain⟨p1,p2⟩:_:=p;refine hN ?_;refine aM λhN=>?_;obtain⟨q1,q2⟩:_:=q;refine hN ?_
     simp[oH] at h1;rw[h1.1,h1.2]
  exact inj _ _ e.symm
 subst ek;rw[hp,hw] at d
 have dz:(cJ (aS [] outs.flatten)).length<=ck:=by
  unfold cJ;rw[aR];have:=m9 ([]:List (Int×D)) outs.flatten;refine aG this (by simpa using hz)
 have:=hQ Da La s' k hD hL sV hn ⟨us,d,dz,(r.mono λu x q=>(by
  have q':Rep s'.heap (λa=>c.M a\/a=La) u x:=q.qh λa h=>h.elim (hm a) λe=>e▸Dt
  let ⟨o,es,ep,g,_,dd,_⟩:=d;exact q'.DJ g λq1=>by let ⟨a,b,e⟩:=q1;exact by rw[dd] at e;cases e)).d⟩
 cases use<;>exact this
end
theorem uI:∀{l u:List Int},l.Nodup->(∀x∈l,x∈u)->l.length<=u.length
 |[],u,_,_=>b8 _
 |a::l,u,h,hs=>by
  rw[ir] at h;have hm:a∈u:=hs a (.head _);have:=uI (l:=l) (u:=u.erase a) h.2 λx hx=>(WN (λe=>h.1 (by rw[<-e];exact hx))).mpr (hs x (.tail _ hx))
  rw[WO hm] at this;have:0<u.length:=WQ hm;exact Nat.add_le_of_le_sub ‹0<u.length› ‹l.length<=u.length-1›
def UB{σ:List Int}{k x:Int}:x∈vW σ k↔x∈σ\/x=k:=by
 unfold vW;split
 .rename_i h;let ⟨y,hy,e⟩:=BH.mp h;have:y=k:=by simpa using e
  subst this;exact⟨.inl,λh=>h.elim id λh=>h▸hy⟩
 simp
def Cu{ns:List Int}{x:Int}:x∈kO ns↔x∈ns:=by
 unfold kO
 have:∀(l σ:List Int),x∈l.foldl vW σ↔x∈σ\/x∈l:=λl=>by
  induction l with
  |nil=>intro σ;simp
  |cons a l ih=>intro σ;rw[zb,ih,UB,bZ,or_assoc]
 rw[this ns []];simp
def QW(ns:List Int)(k:Int):kO (ns++[k])=vW (kO ns) k:=by simp[kO]
def FU(b:Bool)(prog:Program)(w:World)(h:cC)(a:Addr)(ks:List Int):Prop:=h.SetOf (intKind prog w) a (λk=>ks.contains k) ks.length/\ks.Nodup/\rZ b h a
def IF(x:FU b prog w h a ks)(k:∀o,h.get? a=some o->h'.get? a=some o):FU b prog w h' a ks:=
 ⟨x.1.imp λo=>qU λes=>qU λep=>qU λt=>And.imp_left (k o),x.2.1,Aj x.2.2 k⟩
def M3(U:List Int)(b:Bool)(c:C)(Da:Addr)(s:Shared)(done:List D):Prop:=∃ks,done=bA ks/\(∀k∈ks,k∈U)/\FU b c.prog c.w s.heap Da (kO ks)
def M3.ok(hx:c.X Da)(hy:¬c.Y Da):wB c Da (M3 U b c Da) H:=
 ⟨λs s' done q h1 h2 z=>q.imp λks q=>⟨q.1,q.2.1,IF q.2.2 h1⟩,hx,hy⟩
def yI(d:FU b prog w h a ks):∃o,h.get? a=some o/\∀v,o.data≠.cell v:=by
 let ⟨z2,_⟩:=d;let ⟨o,es,ep,t,ho,_,hd,_⟩:=z2;exact⟨o,ho,λv e=>by first|exact zI hd e|exact Cg hd e|(rw[hd] at e;cases e)⟩
def yh.adL{c:C}{ρ:Nm}{Da:Addr}{dw:aU}{gens:List yU}{scope:ia}{pos:Pos}{i:Int}{U:List Int}{b:Bool}(hx:c.X Da)(hy:¬c.Y Da)(hU:U.length+1<scanBound)(hi:i∈U)(h0:0<=i)(h4:i<4)(h:Ev c ρ dw (.d (.int i))):yh c ρ Da (M3 U b c Da) (lQ (.SetComp dw gens scope pos) (.ref Da) c.env) [.int i]:=by
 intros c ρ Da dw gens scope pos i U b _ hx hy hU hi h0 h4 h;exact λs done S L qP hz=>by
  let ⟨ks,ed,hk,so⟩:=qP;show wpAny c.m c.A (eval dw c.env>>=λv=>standAt dw.pos>>=λz=>call (.builtin "set.add") [.ref Da,v]>>=λz=>pure ()) _ _ s;refine aF (bk (h s S) (λu ah q1=>aF (jC (aF ?_))));refine aM λhN=>?_;obtain⟨aE,cT⟩:_:=q1;refine hN ?_
  let ⟨t,zy⟩:=jV cT;have cF:=S.kp aE;have c9:=L.kp aE.keep;have QX:=IF so (aE.keep Da);have hl:(kO ks).length<=U.length:=uI (sd ks) λx hx=>hk x (Cu.mp hx)
  refine yr h0 h4 QX.1 QX.2.2 (f6 (gw hl) hU) λh' sb Du FN=>bx ?_
  have aV:Kx (·=Da) ah {ah with heap:=h',toks:=ah.toks+1}:=⟨rfl,rfl,λb o n e=>(sb.2 b n).trans e⟩
  have so2:FU b c.prog c.w h' Da (kO (ks++[i])):=by
   refine⟨?_,sd _,FN⟩;rw[QW];refine BY Du (λk=>?_) ?_
   .rw[<-oW,<-oW,step_any]
   rw[step_length,oW]
  let ⟨b7,cO⟩:=cF.SM c9 hx hy (yI QX) (let ⟨o,e,_⟩:=yI so2;⟨o,e⟩) aV;refine⟨aE.kx.trans (aV.mono λb e=>.inr e),b7,cO,ks++[i],by rw[ed];simp[bA],λk pD=>?_,so2⟩;rcases dY.mp pD with h|h
  .exact hk k h
  simp at h;exact h▸hi
section
variable {c:C}{ρ:Nm}{e:aU}{cn:Cn}{x:Str}{p pos:Pos}
def Cp.set{dw tg iter:aU}{ifs:List aU}{scope:ia}{ds:List D}{outs:List (List Int)}(jT:outs.length=ds.length)(hz:outs.flatten.length<=ck)(h4:∀k∈outs.flatten,0<=k/\k<4)(gq:It c ρ iter ds)
 (hb:∀La cs M X (i:Nat) d o,ds[i]?=some d->outs[i]?=some o->TB (c.into scope La cs M X) (pU scope ρ) tg ifs d (λρ'=>∃k,Ev (c.into scope La cs M X) ρ' dw (.d (.int k))/\o=[k]) (o=[]))
 (mj:r9 c.env.kindOf (λx=>(ρ.lookup x).isSome) scope=true) (hs:∀x,foldedSetIterable iter c.env x=pure x):Cp c ρ (.SetComp dw [⟨tg,iter,ifs,0⟩] scope pos) (.s (kO outs.flatten)):=by
 intros c ρ pos dw tg iter ifs scope ds outs _ jT hz h4 gq hb mj hs;refine⟨scope,_,pos,_,.s,rfl,λs use Q S hQ=>?_⟩;let ⟨h1,h2,h3,ae6⟩:=oA mj
 have hU:(kO outs.flatten).length+1<scanBound:=by
  have:(kO outs.flatten).length<=[0,1,2,3].length:=uI (u:=[0,1,2,3]) (sd _) λx hx=>by
   exact ack (h4 x (Cu.mp hx))
  exact f6 (gw this) (by decide+kernel)
 have nS:((outs.map λo=>bA o).flatten)=bA outs.flatten:=by simp[bA,O6]
 refine qE (H:=λz=>False) (hH:=λz h=>h.elim) (pV:=M3 (kO outs.flatten) (ju c.w)) (e:=.SetComp dw [⟨tg,iter,ifs,0⟩] scope pos) (inner:=λacc env=>lQ (.SetComp dw [⟨tg,iter,ifs,0⟩] scope pos) acc env) (yE:=λo=>o=qg (ju c.w)) (outs.map λo=>bA o) (by simpa using jT) .s aa (λz z z=>rfl) hs h1 h2 h3 ae6 S gq
  (λah Q' q=>CQ (q _ aa)) (λo e=>by subst e;rfl) (λc' ah Da o e g z=>by
   subst e;exact⟨[],rfl,λk hk=>by simp at hk,BY (B9 (ju c.w) g) (λz=>rfl) aa,qM,B8 (ju c.w) g⟩) (λc' Da hx hy=>M3.ok hx hy) ?_ (by rw[nS];unfold bA;rw[aR];exact hz) ?_
 .intro La cs M X Da hx hy i d o hd ho;rw[dh] at ho;cases zQ:outs[i]? with
  |none=>rw[zQ] at ho;cases ho
  |some o'=>
   rw[zQ] at ho;simp only[zu,zj] at ho;subst ho;refine aM λhN=>?_;obtain⟨tb,b,t1,t2,t3,t4,t5⟩:_:=hb La cs M X i d o' hd zQ;refine hN ?_
   refine⟨tb,b,t1,t2,t3,λe=>?_,λe=>by rw[t5 e];rfl⟩;let ⟨k,ek,zy⟩:=t4 e;have M4:k∈outs.flatten:=Eo.mpr ⟨[k],jK zQ,by simp⟩;exact(yh.adL hx hy hU (Cu.mpr M4) (h4 k M4).1 (h4 k M4).2 ek).at
 intro c' Da La s' hp hw hm k hD hL sV z2 hn Dt _;let ⟨ks,e,z3,so⟩:=z2;rw[nS] at e
 have ek:ks=outs.flatten:=by
  have inj:∀(a b:List Int),bA a=bA b->a=b:=λa=>by
   induction a with
   |nil=>intro b h;cases b<;>simp[bA] at h⊢
   |cons p a ih=>
    intro b h;cases b with
    |nil=>simp[bA] at h
    |cons q b=>
     simp only[bA,gx] at h;let ⟨h1,h2⟩:=EN h;rw[ih b h2,jF.inj h1]
  exact inj _ _ e.symm
 subst ek;rw[hp,hw] at so;have:=hQ Da La s' k hD hL sV hn so;cases use<;>exact this
end
section
variable {prog:Program}{w:World}{A:Around}{E:aA->Shared->Prop}{s:Shared}{M:Addr->Prop}
theorem M5(hQ:Q r s):∀{us ws:List aA} {ds es:List D} {fin:Bool} {i:Nat},1<=i->aC s.heap M us ds->aC s.heap M ws es->D.yv .Lt fin ds es=some r->A.units+D.dK ds<cLine->KatLex prog w A true fin Q (us.zip ws) i s
 |[],ws,ds,es,fin,i,hi,ru,wz,e,hz=>by
  cases ru;have e:fin=r:=eF e;subst e;exact kat_nil hQ
 |u::us,[],ds,es,fin,i,hi,ru,wz,e,hz=>by
  cases wz;cases ru with
  |cons a b=>have e:fin=r:=eF e;subst e;exact kat_nil hQ
 |u::us,v::ws,ds,es,fin,i,hi,ru,wz,e,hz=>by
  cases ru with
  |@cons _ _ d ds hr ru=>
   cases wz with
   |@cons _ _ d' es hq wz=>
    rw[xO] at e;rw[D.dK] at hz;let ⟨z2,la⟩:=Kv hr;let ⟨as,ra⟩:=z2;let ⟨z2,lb⟩:=Kv hq;let ⟨bs,rb⟩:=z2;have heq:EqAt A s u v (eT d d'):=eqAt_reads d.py d'.py A s u v as bs ra rb la lb (by rw[Kr,Kr];exact f6 (ff (aG (lW _ _) (JD _ _)) _) hz);rw[El];refine kat_cons (heq prog w _ _ (kat_go (λhb=>?_) λhb=>?_))
    .rw[hb,aq aa] at e;exact kat_yes (M5 hQ (iQ 1 _) ru wz e (f6 (ff (O0 _ _) _) hz))
    rw[hb,ay (by decide)] at e;refine kat_no ?_
    have h0:(true&&i==0)=false:=by
     have:(i==0)=false:=beq_eq_false_iff_ne.mpr (Ec hi);rw[this];rfl
    rw[h0];exact kat_one u v (qi.rep (op:=.Lt) aa d.dep d d' A u v r (bW _) hr hq e (f6 (ff (JD _ _) _) hz) prog w _ _ hQ)
def Zs{Q:Bool->Shared->Prop}{r:Bool}(hQ:Q r s){us ws:List aA}{ds es:List D}{fin:Bool}{k j:Int}(ru:aC s.heap M us (.int k::ds))(wz:aC s.heap M ws (.int j::es))(e:D.yv .Lt fin (.int k::ds) (.int j::es)=some r)(hz:A.units+D.dK ds<cLine):
 KatLex prog w A true fin Q (us.zip ws) 0 s:=by
 intros prog w A s M Q r _ hQ us ws ds es fin k j ru wz e hz;intros us ws ds es fin k j _ hQ ru wz e hz;cases ru with
 |@cons u us _ _ hr ru=>
  cases wz with
  |@cons v ws _ _ hq wz=>
   cases hr with
   |int _ t=>
    cases hq with
    |int _ t'=>
     rw[El];refine kat_cons (wpAny_eqBool_int (kat_go (λhb=>?_) λhb=>?_))
     .have:eT (.int k) (.int j)=true:=by
       have hb':k=j:=by simpa using hb
       subst hb';show lE (.int k) (.int k)=true;simp[lE]
      rw[xO,this,aq aa] at e;exact kat_yes (M5 hQ (bW 1) ru wz e hz)
     have:eT (.int k) (.int j)=false:=by
      have hb':¬k=j:=by simpa using hb
      show lE (.int k) (.int j)=false;simp[lE,hb']
     rw[xO,this,ay (by decide)] at e;refine kat_no ?_;show wpAny _ _ (oneLt' true _ _) _ _ _;refine oneLt_int ?_;have:decide (k<j)=r:=eF e;rw[this];exact hQ
end
def aew:eT .none .none=true:=rfl
def M6(d:D):Prop:=∃k ds,d=.tup (.int k::ds)
def K2(kf:D->Int)(ds:List D):Prop:=∀x∈ds,∀y∈ds,D.ord .Lt x y=some (decide (kf x<kf y))
section
variable {prog:Program}{w:World}{A:Around}{E:aA->Shared->Prop}{s:Shared}{M:Addr->Prop}
theorem AG:∀{vs:List aA} {ds:List D},aC h M vs ds->(∀d∈ds,M6 d)->∃fs,KatTups h vs fs/\fs.length=vs.length/\∀f∈fs,∃k t,f=.int k t
 |_,_,.nil,_=>⟨[],KatTups.nil,rfl,λf h=>by cases h⟩
 |_,_,.cons (d:=d) hr r,ht=>by
  let ⟨fs,h1,h2,h3⟩:=AG r λd hd=>ht d (.tail _ hd)
  let ⟨k,es,e⟩:=ht d (.head _);subst e;cases hr with
  |@tup a us _ i _ _ q=>
   let ⟨n,z2⟩:=i;revert z2;intro i;cases hu:us.toList with
   |nil=>rw[hu] at q;cases q
   |cons u ul=>
    rw[hu] at q;cases q with
    |cons hq q=>
     cases hq with
     |int _ t=>
      refine⟨.int k t::fs,KatTups.cons i aa aa (by rw[<-lC,hu];rfl) h1,by simp[h2],λf hf=>?_⟩;rcases bZ.mp hf with e|hf
      .exact⟨k,t,e⟩
      exact h3 f hf
theorem aC.IG(r:aC h M vs ds):∀(is:List Nat),(∀i∈is,i<vs.length)->aC h M (is.map λi=>vs.getD i sL) (is.map λi=>ds.getD i jg)
 |[],_=>.nil
 |i::is,hi=>by
  have eG:=hi i (.head _);let ⟨d,e,q⟩:=r.get' (iF eG);have e1:vs.getD i sL=vs[i]:=by simp[kW,eG]
  have e2:ds.getD i jg=d:=by rw[kW,e];rfl
  rw[gx,gx,e1,e2];exact .cons q (aC.IG r is λj hj=>hi j (.tail _ hj))
noncomputable def rB(kf:D->Int)(ds:List D)(i:Nat):Int:=kf (ds.getD i jg)
def M7{kf:D->Int}{ds:List D}{p:Array Nat}(hR:Rg ds.length p)(hU:Up (rB kf ds) p ds.length):(p.toList.map λi=>ds.getD i jg).Perm ds/\(p.toList.map λi=>ds.getD i jg).Pairwise (λx y=>kf x<=kf y):=by
 intros kf ds p _ hR hU;refine⟨?_,?_⟩
 .have h1:p.toList.Perm (lX ds.length):=by have:=hR.toList;simpa using this
  have h2:=h1.map λi=>ds.getD i jg
  refine h2.trans ?_
  have:(lX ds.length).map (λi=>ds.getD i jg)=ds:=by
   apply zc;intro i;rw[dh]
   by_cases hi:i<ds.length
   .rw[BD hi];simp[kW,hi]
   rw[qL (jb.mp (pM▸hi)),qL (jb.mp hi)];rfl
  rw[this]
 rw[zd,List.pairwise_iff_getElem];intro i j hi hj l8;have jt:=hR.size;rw[l6] at hi hj;have:=hU i j (ee l8) (jt▸hj);unfold kv rB at this;have e1:p.getD i 0=p.toList[i]:=by simp[EC,hi]
 have e2:p.getD j 0=p.toList[j]:=by simp[EC,hj]
 rw[e1,e2] at this;exact this
def QY(k:Int)(t:Tok):Looks Mo h (typeOf (.int k t)) (.type "int"):=Looks.of_pure aa
def QZ{Ma:Addr->Prop}{a:Addr}{vs:List aA}{n:Nat}{ds:List D}{kf:D->Int}{P:ON->Shared->Prop}(ho:s.heap.get? a=some (seqObj "list" vs.toArray n))(r:aC s.heap Ma vs ds)(ha:Ma a)(ht:∀d∈ds,M6 d)(hk:K2 kf ds)(rW:ds.length<64)(hz:A.units+D.dK ds<cLine)
 (h:∀s' HJ ds',Kx (·=a) s s'->PL s'.heap a HJ->aC s'.heap Ma HJ.toList ds'->ds'.Perm ds->ds'.Pairwise (λx y=>kf x<=kf y)->P (.done (.ret .none)) s'):wpAny (model prog w) A (kF.«list.sort» ⟨[.ref a],[]⟩) P E s:=by
 intros prog w A E s Ma a vs n ds kf P _ ho r ha ht hk rW hz h;have UC:=r.length;have hal:a<s.heap.objs.size:=gP ho;rw[list_sort_plain];refine aF (listItems_at ho aa ?_);refine aF (listUpdate_at ho aa ?_ (by rw[O4,qI];exact aG (fF ‹_›) (aG (ee ‹_›) (by decide))) (b8 _));obtain⟨e1,P7⟩:∃e1,(s.heap.update a (jS λz=>(#[]:Array aA))).get? a=some (seqObj "list" #[] e1):=⟨_,J4 ho λz=>#[]⟩;intros e1 _ P7;refine aF (seqEpoch_at P7 aa ?_);refine aF (wpAny_newTuple ?_ (by show vs.length<=_;rw[qI];exact aG (fF ‹_›) (aG (ee ‹_›) (by decide))));refine aF (D7 ?_ (b8 _));refine e9 ?_;show wpAny (model prog w) A _ P E {s with heap:=((s.heap.update a (jS λz=>(#[]:Array aA))).push (seqObj "tuple" vs.toArray 0)).push (seqObj "list" #[] 0)};dsimp only;have s1:=qT s.heap a (jS λz=>(#[]:Array aA));have ho3:(((s.heap.update a (jS λz=>(#[]:Array aA))).push (seqObj "tuple" vs.toArray 0)).push (seqObj "list" #[] 0)).get? a=some (seqObj "list" #[] e1):=dS _ (dS _ P7);have Q0:∀b o,b≠a->s.heap.get? b=some o->(((s.heap.update a (jS λz=>(#[]:Array aA))).push (seqObj "tuple" vs.toArray 0)).push (seqObj "list" #[] 0)).get? b=some o:=λb o hb e=>dS _ (dS _ ((s1.2 b hb).trans e))
 generalize hh3:((s.heap.update a (jS λz=>(#[]:Array aA))).push (seqObj "tuple" vs.toArray 0)).push (seqObj "list" #[] 0)=h3 at ho3 Q0;have r3:aC h3 Ma vs ds:=r.mono λb o nb z e=>⟨Q0 b o (λe'=>nb (e'▸ha)) e,nb⟩
 have fin:∀(out:List aA) (ds':List D),out.length<64->aC h3 Ma out ds'->ds'.Perm ds->ds'.Pairwise (λx y=>kf x<=kf y)->wpAny (model prog w) A (do
  let Zt:=(<-seqEpoch a)!=e1
  ade (.ref a) λz=>out.toArray
  if Zt then rule "list.sort.modified";raiseError "ValueError" "list modified during sort"
  ret .none) P E {s with heap:=h3}:=λout ds' jT ro hp hs=>by
  refine aF (seqEpoch_at ho3 aa ?_);refine aF (listUpdate_at ho3 aa ?_ (b8 _) (by rw[O4,qI];exact aG (ee ‹_›) (by decide)));simp only[bne_self_eq_false,sH,if_false];have s2:=qT h3 a (jS λz=>out.toArray);obtain⟨c2,oi⟩:∃c2,(h3.update a (jS λz=>out.toArray)).get? a=some (seqObj "list" out.toArray c2):=⟨_,J4 ho3 λz=>out.toArray⟩;refine bx (h _ out.toArray ds' ⟨rfl,rfl,λb o hb e=>(s2.2 b hb).trans (Q0 b o hb e)⟩ ⟨c2,oi⟩ ?_ hp hs);rw[List.toList_toArray];exact ro.mono λb o nb z e=>⟨(s2.2 b (λe'=>nb (e'▸ha))).trans e,nb⟩
 by_cases h2:vs.toArray.size<2
 .rw[aq h2,aq h2];refine aF (bx ?_);rw[show(pure ():StateT SortSt Sem Unit).run (PY general' (vs.toArray.zip vs.toArray) #[] 7 none)=pure ((),PY general' (vs.toArray.zip vs.toArray) #[] 7 none) from rfl];refine aF (bx ?_);dsimp only
  have e2:(arrOf (PY general' (vs.toArray.zip vs.toArray) #[] 7 none)).map (·.2)=vs.toArray:=by
   show(vs.toArray.zip vs.toArray).map (·.2)=_;apply XC.mp;simp;exact List.map_snd_zip (bW _)
  rw[e2];have cG:vs.length<2:=by simpa using h2
  have:=fin vs ds (Ed cG (by decide)) r3 (.refl _) (by
   cases ds with
   |nil=>exact J9
   |cons d ds=>
    cases ds with
    |nil=>exact JK _ _
    |cons _ _=>exact aK (UC▸cG) (jb.mpr (iQ 2 _)))
  exact this
 rw[ay h2,ay h2];have cG:2<=vs.length:=by simpa using h2
 let ⟨fs,kt,nS,hfi⟩:=AG r3 ht;refine aF (kat_kind kt (jD Jz (nS.symm▸cG)) (T:=.type "int") (λv hv=>by let ⟨k,t,zy⟩:=hfi v hv;exact QY k t) (by decide) ?_);have hnt:(J1 "int"!=J1 "tuple")=true:=by decide
 rw[hnt];have HS:0<ds.length:=jD Jz (UC▸cG);refine aF (mP (kat_run (Q:=λFN s'=>s'={s with heap:=h3}/\∃p:Array Nat,arrOf FN=p.map (kas_item (vs.toArray.zip vs.toArray))/\failedOf FN=none/\Rg ds.length p/\Up (rB kf ds) p ds.length) (G:=λp s'=>s'={s with heap:=h3}/\Rg ds.length p/\Up (rB kf ds) p ds.length)
  rfl cG (by exact f6 (fF ‹_›) ‹_›) (λp' FN s' a1 a2 a3 a4=>⟨a4.1,p',a2,a3,a4.2⟩) ?_) ?_ λz z e=>e)
 .rw[UC];refine Sp (n:=ds.length) (lt:=eX (rB kf ds)) (λi j C hi hj hC=>?_) (JY ds.length) (Mp HS).sP ⟨rfl,(Mp HS).ev _,YF _ HS⟩;intros i j C _ hi hj hC;unfold kas_ask;have hiv:i<vs.length:=UC.symm▸hi;have hjv:j<vs.length:=UC.symm▸hj;let ⟨v,ev,rv⟩:=r3.get (iF hi);let ⟨u,eu,ru⟩:=r3.get (iF hj);have gi:vs.getD i sL=v:=by rw[kW,ev];rfl
  have gj:vs.getD j sL=u:=by rw[kW,eu];rfl
  rw[gi,gj];have Q2:ds[i]∈ds:=BC hi;have hmj:ds[j]∈ds:=BC hj;have ho:=hk _ Q2 _ hmj
  have eG:eX (rB kf ds) i j=decide (kf ds[i]<kf ds[j]):=by
   unfold eX rB;have g1:ds.getD i jg=ds[i]:=by simp[kW,hi]
   have g2:ds.getD j jg=ds[j]:=by simp[kW,hj]
   rw[g1,g2]
  rw[eG] at hC;let ⟨ki,es,ei⟩:=ht _ Q2;let ⟨kj,fs',ej⟩:=ht _ hmj;have hdm:=Ky Q2;generalize ds[i]=di at*;generalize ds[j]=dj at*;subst ei;subst ej;cases rv with
  |@tup av xs _ iv _ _ qv=>
   cases ru with
   |@tup au ys _ iu _ _ qu=>
    let ⟨nv,z2⟩:=iv;revert z2;intro iv;let ⟨nu,z2⟩:=iu;revert z2;intro iu;have wO:=qv.size;have Q3:=qu.size;refine kat_lt iv aa iu aa ?_;rw[Qj] at ho;have ae7:ow .Lt (jF ki::es).length (jF kj::fs').length=decide (xs.size<ys.size):=by rw[wO,Q3];rfl
    rw[ae7] at ho;exact Zs hC qv qu ho (f6 (ff (aG (aG (O0 _ _) (jr _)) hdm) _) hz)
 intro z2 s' z3;refine aM λhN=>?_;obtain⟨⟨⟩,FN⟩:_:=z2;refine hN ?_;refine aM λhN=>?_;obtain⟨rfl,p,har,hf,hRg,hUp⟩:_:=z3;refine hN ?_
 dsimp only;have ae8:=kat_snds aa har;rw[ae8,hf];let ⟨p1,p2⟩:=M7 (kf:=kf) hRg hUp
 have wQ:∀i∈p.toList,i<vs.length:=λi hi=>by
  have:i∈yX (lX ds.length):=hRg.mem_iff.mp (by simpa using hi);rw[UC];simpa using this
 have:=fin (p.toList.map λi=>vs.getD i sL) (p.toList.map λi=>ds.getD i jg) (by rw[aR,l6,hRg.size];exact rW) (r3.IG p.toList wQ) p1 p2;exact this
end
section
variable {c:C}{ρ:Nm}{e o e₁ e₂:aU}{v:V}{p pos apos:Pos}{a:Addr}{ds:List D}
def rC{f:Str}{id:String}{s:Shared}{Q:aA->Shared->Prop}(S:St c ρ s)(hk:c.env.kindOf f=some .globalImplicit)(hf:f∈jU)(hb:bootBuiltins f=some (.builtin id))(hd:(f==("__debug__":Str))=false)(hn:f≠"__name__")(hs:bJ e=false)
 (h:wpAny c.m c.A (eval e c.env) (λx ah=>wpAny c.m c.A (call (.builtin id) [x]) Q no ah) no s):wpAny c.m c.A (eval (.Call (.Name f p) [e] [] pos) c.env) Q no s:=by
 refine uA (S.E4 hk hf hb hd hn ?_);refine Yh (e:=e) (rest:=[]) ?_ (bO _ hs []) (eU (es:=[]) aa pos c.env);rw[bO _ hs];exact sM (bk h (λx ah hx=>vQ hx))
def Cv{name:Str}{args:List aU}{T id:String}{s:Shared}{Q:aA->Shared->Prop}(pa:OP T)(slot:Slot T name id)(qY:typeOf (.builtin id)=pure (.type "method_descriptor"))
 (bS:attributeBase o name c.env (eval o c.env)=eval o c.env) (hline:(apos.endLine==pos.line)=true) (hs:bP args=true) (hn:args.length<29)
 (h:wpAny c.m c.A (eval o c.env) (λov ah=>ah.TypeIs ov T/\(∀a,ov=.ref a->∃ob,ah.heap.get? a=some ob/\ob.dict=none)/\wpAny c.m c.A (callWith pos (.builtin id) [ov] (backTo pos (starEach args c.env)) []) Q no ah) no s):wpAny c.m c.A (eval (.Call (.Attribute o name apos) args [] pos) c.env) Q no s:=by
 have tG:(backTo pos (starEach args c.env)).all (λx=>!x.1)=true:=by
  have:=eU hs pos c.env;rw[En];intro x hx;have:=JI.mp this x hx
  simpa using this
 refine Wa bS (by rw[tG];simp[KR];exact aG ‹_› (by decide)) hline aa (bk h (λov ah ⟨t1,t2,q⟩=>?_));exact⟨T,id,pa,slot,qY,t1,t2,q⟩
def uJ(c:C)(ρ:Nm)(e:aU)(ds:List D):Prop:=∀s,St c ρ s->wpAny c.m c.A (eval e c.env) (λx ah=>Kp s ah/\∀(A':Around) (Q:List aA->Shared->Prop),A'.handled=none->
 (∀aB vs ds',Kp ah aB->aC aB.heap c.M vs ds'->ds'.Perm ds->Q vs aB)->wpAny c.m A' (collect x) Q no ah) no s
theorem uJ.list(h:Ev c ρ e v)(ha:vm c v ds):uJ c ρ e ds:=λs S=>by
 refine bk (h s S) (λx ah o1=>⟨o1.k,λA' Q hh hq=>?_⟩);let ⟨l,vs,zy,i,z,r⟩:=uv o1.r (S.bs.kp o1.k) ha;refine collect_list (vs:=vs.toList) (by rw[Array.toArray_toList];exact i.isList) ?_ (by rw[r.length];exact eH z)
 have kp:Kp ah {ah with heap:=(ah.heap.push (seqObj "list" #[] 0)).update ah.heap.objs.size (jS (·++vs.toList.toArray))}:=⟨rfl,rfl,λb o e=>by
  have eG:b<ah.heap.objs.size:=gP e;show((ah.heap.push _).update _ _).get? b=_;rw[Xr _ _ _ _ (ie eG),Heap.get?_push_ne _ _ _ (ie eG)];exact e⟩
 exact hq _ vs.toList ds kp (r.keep kp.keep) (.refl _)
theorem uK:∀{vs:List aA} {ds:List D},vs.length=ds.length->(∀(j:Nat) v,vs[j]?=some v->∃d,ds[j]?=some d/\Rep h M v d)->aC h M vs ds
 |[],[],_,_=>.nil
 |[],_::_,h,_=>by simp at h
 |_::_,[],h,_=>by simp at h
 |v::vs,d::ds,hl,hg=>by
  let ⟨d',e,r⟩:=hg 0 v aa;cases e;exact .cons r (uK (by simpa using hl) λj v hj=>by simpa using hg (j+1) v (by simpa using hj))
def DR.get{α:Type}{R:aA->α->Prop}{us:List (Int×aA)}{kvs:List (Int×α)}(r:DR R us kvs){j:Nat}{k:Int}{u:aA}(h:us[j]?=some (k,u)):∃x,kvs[j]?=some (k,x)/\R u x:=
 DR.rec (motive:=λus kvs z=>∀(j:Nat) (k:Int) (u:aA),us[j]?=some (k,u)->∃x,kvs[j]?=some (k,x)/\R u x) (λz z z e=>nomatch JG.symm.trans e)
  (λ{_ _ x _ _} r _ ih j k u=>JC (λe=>have q:=Prod.mk.inj (eF e);⟨x,cj (λk=>some (k,x)) q.1,q.2▸r⟩) (λn z=>ih n k u) j) r j k u h
def nq{prog:Program}{w:World}{k:Int}{v:aA}(h:(intKind prog w).is k v=true):∃t,v=.int k t:=by
 cases v<;>simp[intKind,Value.isInt] at h;subst h;exact⟨_,rfl⟩
def uJ.keys{kvs:List (Int×V)}(h:Ev c ρ e (.r a))(hs:c.σ a=some (.i kvs)):uJ c ρ e (kvs.map λq=>.int q.1):=by
 intros c ρ e a kvs _ h hs;exact λs S=>by
  refine bk (h s S) (λx ah o1=>⟨o1.k,λA' Q hh hq=>?_⟩);obtain rfl:x=.ref a:=o1.r;let ⟨us,d,z,r,ns⟩:=(S.bs.kp o1.k).dict hs;let ⟨ep,da⟩:=d.dictAt;have hl:=r.length;refine Px (A:=A') (kdl_dict (knd:=intKind c.prog c.w) (kvs:=us) (ep:=ep) ns) hh da (by rw[hl];exact eH z) λh' tk acc keep r8=>?_
  refine hq _ acc.toList (kvs.map λq=>.int q.1) ⟨rfl,rfl,keep⟩ ?_ (.refl _);refine uK (by rw[l6,r8.1,hl,aR]) λj v hj=>?_
  let ⟨k,x,e,q⟩:=r8.2 j v (by rw[<-lC];exact hj);let ⟨y,e2,_⟩:=r.get e;let ⟨t,zy⟩:=nq q;exact⟨.int k,by rw[dh,e2];rfl,.int k t⟩
def uJ.Zu{kvs:List (Int×D)}(h:jP c ρ o (.i (cJ kvs)))(bS:autoParam (attributeBase o "values" c.env (eval o c.env)=eval o c.env) bu)(hline:autoParam ((apos.endLine==pos.line)=true) bu):uJ c ρ (.Call (.Attribute o "values" apos) [] [] pos) (kvs.map (·.2)):=by
 intros c ρ o pos apos kvs _ h bS hline;exact λs S=>by
  refine Cv BW J2 X5 bS hline aa (by decide) (bk (h s S) (λx ah ⟨aE,a,ex,new,us,d,z,r⟩=>?_));subst ex;have qY:=d.typeIs (s:=ah);refine⟨qY,λb e=>by cases e;let ⟨o,_,_,ho,z2,_⟩:=d;let ⟨_,hd,_⟩:=z2;exact⟨o,ho,hd⟩,?_⟩
  have HS:c.h₀.get? a=none:=by
   cases e0:c.h₀.get? a with
   |none=>rfl
   |some o=>have:=S.bs.keep _ _ e0;exact ns new this
  have ns:(a==sysModules)=false:=S.bs.uq HS;refine Yj (By J2 qY X6 (X7 _) (Wg (intKind c.prog c.w) a ns) ⟨⟨us,d⟩,?_⟩);have kp:Kp ah {ah with heap:=ah.heap.push {cls:=.type "dict_values",data:=.fields #[.ref a]}}:=jw ah _;refine⟨aE.trans kp,λA' Q hh hq=>?_⟩;let ⟨ep,da⟩:=(dN d (kp.keep a)).dictAt;have hl:=r.length;refine Px (A:=A') (kdl_values (knd:=intKind c.prog c.w) (kvs:=us) (ep:=ep) (r:=ah.heap.objs.size) (d:=a)) hh ⟨⟨_,fh _ aa,rfl,rfl⟩,da⟩ (by rw[hl];exact eH z) λh' tk acc keep r8=>?_
  refine hq _ acc.toList (kvs.map (·.2)) ⟨rfl,rfl,keep⟩ ?_ (.refl _);have B4:us.length=kvs.length:=by rw[hl];simp[cJ]
  refine uK (by rw[l6,r8.1,B4,aR]) λj v hj=>?_
  let ⟨k,e⟩:=r8.2 j v (by rw[<-lC];exact hj);let ⟨y,e2,ry⟩:=r.get e;rw[cJ,dh] at e2;cases M8:kvs[j]? with
  |none=>rw[M8] at e2;cases e2
  |some q=>
   rw[M8] at e2;cases e2;refine⟨q.2,by rw[dh,M8];rfl,?_⟩;have ry':Rep ah.heap (λb=>c.M b\/b=a) v q.2:=ry;exact(ry'.qh λb hb=>.inl hb).keep λb o e=>keep b o (kp.keep b o e)
def AH:bootBuiltins "sorted"=some (.builtin "sorted"):=by first|rfl|decide+kernel
def yJ{prog:Program}{w:World}{A:Around}{s:Shared}{x:aA}{Q:aA->Shared->Prop}{G:List aA->Shared->Prop}
 (ae9:∀Q':List aA->Shared->Prop,(∀ah vs,Kp s ah->G vs ah->Q' vs ah)->wpAny (model prog w) A.in1 (collect x) Q' no s)
 (hG:∀vs ah,G vs ah->vs.length<64)
 (adM:∀ah aB vs D,Kp s ah->G vs ah->Kp ah aB->ah.heap.get? D=none->aB.heap.get? D=some (seqObj "list" vs.toArray 0)->wpAny (model prog w) A.in1.in1 (kF.«list.sort» ⟨[.ref D],[]⟩) (λfin c8=>fin=.done (.ret .none)/\Q (.ref D) c8) no aB):
 wpAny (model prog w) A (call (.builtin "sorted") [x]) Q no s:=by
 refine Calls.call_function_entry kind_sorted plain_sorted entry_sorted (args_sorted1 _) ?_;unfold kF.«sorted»;refine aF (m:=checkCount "sorted" 1 1 _) (bx ?_);refine aF (ae9 _ λah vs aE g=>?_);refine aF (D7 ?_ (by have:=hG _ _ g;rw[qI];exact aG (ee ‹_›) (by decide)));have ho:(ah.heap.push (seqObj "list" vs.toArray 0)).get? ah.heap.objs.size=some (seqObj "list" vs.toArray 0):=fh _ aa;refine aF (e9 (vo slot_list_sort ⟨_,ho,rfl⟩ entry_list_sort (bk (adM ah {ah with heap:=ah.heap.push (seqObj "list" vs.toArray 0)} vs ah.heap.objs.size aE g (jw ah _) (bC _) ho) (λfin c8 ⟨e,q⟩=>⟨.none,e,?_⟩)) (args_list_sort _)));exact bx ⟨_,rfl,q⟩
theorem wU{kf:D->Int}:∀{l m:List D},l.Pairwise (λx y=>kf x<=kf y)->m.Pairwise (λx y=>kf x<=kf y)->l.Perm m->(∀x∈l,∀y∈l,kf x=kf y->x=y)->l=m
 |[],m,_,_,p,_=>by rw[List.nil_perm] at p;exact p.symm
 |a::l,[],_,_,p,_=>by rw[List.perm_nil] at p;cases p
 |a::l,b::m,h,h',p,inj=>by
  rw[mR] at h h';have h1:a∈b::m:=p.mem_iff.mp (.head _);have h2:b∈a::l:=p.mem_iff.mpr (.head _)
  have hab:a=b:=by
   refine inj a (.head _) b h2 ?_
   have a1:kf b<=kf a:=by
    rcases bZ.mp h1 with e|h1
    .rw[e];exact eS _
    exact h'.1 a h1
   have a2:kf a<=kf b:=by
    rcases bZ.mp h2 with e|h2
    .rw[e];exact eS _
    exact h.1 b h2
   exact uc ‹_› ‹_›
  subst hab;rw[wU h.2 h'.2 (List.Perm.cons_inv p) λx hx y hy=>inj x (.tail _ hx) y (.tail _ hy)]
def jf.Zv{kf:D->Int}{out:List D}(h:uJ c ρ e ds)(ht:∀d∈ds,M6 d)(hk:K2 kf ds)(inj:∀x∈ds,∀y∈ds,kf x=kf y->x=y)(rW:ds.length<64)(SN:D.dK ds<=400)(ho:out.Perm ds)(hs:out.Pairwise (λx y=>kf x<=kf y))(kq:autoParam (c.env.kindOf "sorted"=some .globalImplicit) bu)(cW:autoParam (bJ e=false) bu):
 jf c ρ (.Call (.Name "sorted" p) [e] [] pos) out:=λs S=>by
 refine rC S kq (by decide) AH (by decide) (by decide) cW (bk (h s S) (λx ah ⟨aE,hc⟩=>?_));refine yJ (G:=λvs aB=>∃ds',aC aB.heap c.M vs ds'/\ds'.Perm ds) (λQ' hq=>hc c.A.in1 Q' S.bs.room.hh λaB vs ds' aV r hp=>hq aB vs aV ⟨ds',r,hp⟩) (λvs aB ⟨ds',r,hp⟩=>by rw[r.length,hp.length_eq];exact rW) λaB c8 vs Dl aV ⟨ds',r,hp⟩ dP new hD=>?_
 have yG:=(S.bs.kp aE).kp aV;have r':aC c8.heap (λb=>c.M b\/b=Dl) vs ds':=r.mono λb o nb z e=>⟨dP.keep b o e,λh=>h.elim nb λe'=>by rw[e',new] at e;cases e⟩
 have hdd:D.dK ds'<=400:=by
  have:∀l m:List D,l.Perm m->D.dK l=D.dK m:=by
   intro l m hp
   induction hp with
   |nil=>rfl
   |cons x _ ih=>rw[D.dK,D.dK,ih]
   |swap x y l=>simp only[D.dK];exact Nat.max_left_comm ..
   |trans _ _ a b=>exact a.trans b
  rw[this _ _ hp];exact SN
 refine QZ (ds:=ds') (kf:=kf) hD r' (.inr aa) (λd hd=>ht d (hp.mem_iff.mp hd)) (λx hx y hy=>hk x (hp.mem_iff.mp hx) y (hp.mem_iff.mp hy)) (by rw[hp.length_eq];exact rW) (xN (k:=2) ‹_› S.bs.room.u aa) λiw HJ afa o9 pl afb Q4 adN=>⟨rfl,?_⟩
 have dg:∀b o,aB.heap.get? b=some o->iw.heap.get? b=some o:=λb o e=>o9.keep b o (λe'=>by have e':b=Dl:=e';rw[e',new] at e;cases e) (dP.keep b o e)
 have eo:afa=out:=wU adN hs (Q4.trans (hp.trans ho.symm)) λx hx y hy=>inj x ((Q4.trans hp).mem_iff.mp hx) y ((Q4.trans hp).mem_iff.mp hy)
 subst eo;refine⟨aE.trans (aV.trans ⟨o9.gens.trans dP.gens,o9.os.trans dP.os,dg⟩),Dl,HJ,rfl,dQ aE (dQ aV new),pl,?_,afb⟩;rw[ho.length_eq];unfold ck;exact aG (ee ‹_›) (by decide)
def jf.Zw{ns:List Int}{out:List Int}(h:uJ c ρ e (bA ns))(rW:ns.length<64)(ho:out.Perm ns)(hs:out.Pairwise (·<=·))(kq:autoParam (c.env.kindOf "sorted"=some .globalImplicit) bu)(cW:autoParam (bJ e=false) bu):
 jf c ρ (.Call (.Name "sorted" p) [e] [] pos) (bA out):=λs S=>by
 refine rC S kq (by decide) AH (by decide) (by decide) cW (bk (h s S) (λx ah ⟨aE,hc⟩=>?_));refine yJ (G:=λvs aB=>∃sY,EK vs sY/\sY.Perm ns) (λQ' hq=>hc c.A.in1 Q' S.bs.room.hh λaB vs ds' aV r hp=>hq aB vs aV ?_) (λvs aB ⟨sY,r,hp⟩=>by rw[r.length,hp.length_eq];exact rW) λaB c8 vs Dl aV ⟨sY,r,hp⟩ dP new hD=>?_
 .have:∃sY,ds'=bA sY/\sY.Perm ns:=by
   have tG:∀d∈ds',∃k,d=.int k:=λd hd=>by
    let ⟨k,_,e⟩:=cg.mp (hp.mem_iff.mp hd);exact⟨k,e.symm⟩
   refine⟨ds'.map λd=>match d with|.int k=>k|_=>0,?_,?_⟩
   .unfold bA;rw[cV]
    conv=>lhs;rw[<-O7 ds']
    apply vE;intro d hd;let ⟨k,zy⟩:=tG d hd;rfl
   have:=hp.map λd=>match d with|.int k=>k|_=>0
   refine this.trans ?_;unfold bA;rw[cV];exact .of_eq (by
    conv=>rhs;rw[<-O7 ns]
    rfl)
  let ⟨sY,e,FW⟩:=this;subst e;exact⟨sY,r.ints,FW⟩
 refine list_sort_tree (P:=λfin c8=>fin=.done (.ret .none)/\_) hD r (by rw[r.length,hp.length_eq];exact rW) λFY afc a1 a2 a3=>⟨rfl,?_⟩
 have eo:afc=out:=ksm_same (a2.trans (hp.trans ho.symm)) a3 hs;subst eo;have hDl:Dl<c8.heap.objs.size:=gP hD;have s1:=qT c8.heap Dl (jS λz=>(#[]:Array aA))
 have adO:∀b o,b≠Dl->c8.heap.get? b=some o->(sortedHeap c8.heap Dl vs FY).get? b=some o:=λb o hb e=>by
  unfold sortedHeap;rw[Xr _ _ _ _ hb];exact dS _ (dS _ ((s1.2 b hb).trans e))
 obtain⟨e1,P7⟩:∃e1,(c8.heap.update Dl (jS λz=>(#[]:Array aA))).get? Dl=some (seqObj "list" #[] e1):=⟨_,J4 hD λz=>#[]⟩
 have pl:PL (sortedHeap c8.heap Dl vs FY) Dl FY:=by
  unfold sortedHeap;exact⟨_,J4 (dS _ (dS _ P7)) λz=>FY⟩
 have dg:∀b o,aB.heap.get? b=some o->(sortedHeap c8.heap Dl vs FY).get? b=some o:=λb o e=>adO b o (λe'=>by rw[e',new] at e;cases e) (dP.keep b o e)
 refine⟨aE.trans (aV.trans ⟨dP.gens,dP.os,dg⟩),Dl,FY,rfl,dQ aE (dQ aV new),pl,?_,?_⟩
 .unfold bA;rw[aR,ho.length_eq];unfold ck;exact aG (ee ‹_›) (by decide)
 have go:∀{xs:List aA} {ms:List Int},EK xs ms->aC (sortedHeap c8.heap Dl vs FY) (λb=>c.M b\/b=Dl) xs (bA ms):=by
  intro xs ms h
  induction h with
  |nil=>exact .nil
  |cons n t _ ih=>exact .cons (.int n t) ih
 exact go a1
end
open Mine.jf renaming Zw->Q5,Zv->Zx
open Mine.uJ renaming list->Q6
section
variable {α:Type}
def Cw{β:Type}{P:β->Prop}{l:List β}{a:β}(h:∀x∈l,P x)(h':P a)(x:β)(hx:x∈l++[a]):P x:=(dY.mp hx).elim (h x) λe=>eO.mp e▸h'
def II(k:Int):look ([]:List (Int×α)) k=none:=rfl
def fK(p:Int×α)(l:List (Int×α))(k:Int):look (p::l) k=if p.1=k then some p.2 else look l k:=
 dite (p.1=k) (λh=>(cj (qS λx:Int×α=>x.2) (List.find?_cons_of_pos (p:=λq:Int×α=>decide (q.1=k)) (l:=l) (decide_eq_true h))).trans (aq h).symm) λh=>(cj (qS λx:Int×α=>x.2) (O5 (p:=λq:Int×α=>decide (q.1=k)) (l:=l) λx=>h (fG x))).trans (ay h).symm
def K3(l m:List (Int×α))(k:Int):look (l++m) k=(look l k).or (look m k):=by
 induction l with
 |nil=>simp[II]
 |cons p l ih=>rw[WG,fK,fK,ih];split<;>simp
def gY{l:List (Int×α)}{k:Int}{x:α}(h:look l k=some x):(k,x)∈l:=
 (Option.map_eq_some_iff.mp h).elim λp q=>have e:p.1=k:=fG (O3 (p:=λp:Int×α=>decide (p.1=k)) q.1);have e:p=(k,x):=qW e q.2;e▸O2 q.1
def gB{l:List (Int×α)}{k:Int}:look l k=none↔k∉l.map (·.1):=
 (Option.map_eq_none_iff.trans List.find?_eq_none).trans ⟨λh x=>(cg.mp x).elim λp q=>h p q.1 (decide_eq_true q.2),λh p q e=>h (cg.mpr ⟨p,q,fG e⟩)⟩
def Nk(l:List (Int×α)):Prop:=(l.map (·.1)).Nodup
def Nk.tail{p:Int×α}{l:List (Int×α)}(h:Nk (p::l)):Nk l:=(ir.mp h).2
def Nk.head{p:Int×α}(h:Nk (p::l)):look l p.1=none:=gB.mpr (ir.mp h).1
theorem Nk.look(h:Nk l){p:Int×α}(hp:p∈l):look l p.1=some p.2:=by
 induction l with
 |nil=>cases hp
 |cons q l ih=>
  rw[fK];rcases bZ.mp hp with e|hp
  .subst e;rw[aq aa]
  by_cases e:q.1=p.1
  .have:=h.head;rw[e,ih h.tail hp] at this;cases this
  rw[ay e];exact ih h.tail hp
def AI{l:List (Int×α)}:(l.any λp=>p.1=k)=(look l k).isSome:=by
 induction l with
 |nil=>rfl
 |cons p l ih=>
  rw[JJ,fK,ih]
  by_cases h:p.1=k
  .simp[h]
  simp[h]
def Cx(l:List (Int×α))(k:Int)(x:α):(put l k x).map (·.1)=if(look l k).isSome then l.map (·.1) else l.map (·.1)++[k]:=by
 unfold put;rw[AI];split
 .rw[cV];congr 1;funext p;simp only[EJ];split<;>rfl
 simp
def UD(l:List (Int×α))(k:Int)(x:α)(j:Int):look (l.map λp=>if p.1=k then(p.1,x) else p) j=if k=j then(look l k).map (λz=>x) else look l j:=by
 induction l with
 |nil=>exact(ite_self _).symm
 |cons p l ih=>
  rw[gx,fK,ih,fK,fK]
  by_cases e:p.1=k
  .subst e;rw[aq aa,aq aa];by_cases e:p.1=j
   .rw[aq e,aq e];rfl
   rw[ay e,ay e,ay e,ay e]
  rw[ay e,ay e];by_cases e':p.1=j
  .rw[aq e',aq e',ay (λh=>e (e'.trans h.symm))]
  rw[ay e',ay e']
def gc(l:List (Int×α))(k:Int)(x:α)(j:Int):look (put l k x) j=if k=j then some x else look l j:=by
 unfold put;rw[AI];split
 .rename_i h;rw[UD];generalize look l k=o at h;cases o with
  |none=>cases h
  |some y=>rfl
 rename_i h;rw[K3,fK,II]
 by_cases e:k=j
 .subst e;rw[aq aa,aq aa];generalize look l k=o at h;cases o with
  |none=>rfl
  |some y=>exact aK aa h
 rw[ay e,ay e];exact Option.or_none
def ku(h:Nk l)(k:Int)(x:α):Nk (put l k x):=by
 unfold Nk;rw[Cx];split
 .exact h
 rename_i hs;have hn:k∉l.map (·.1):=gB.mp (by simpa using hs);rw[kX];exact⟨h,by simp,λa ha b hb e=>hn (by simp at hb;rw[<-hb,<-e];exact ha)⟩
def gH:∀{acc:List (Int×α)},Nk acc->Nk (aS acc kvs):=by
 induction kvs with
 |nil=>exact λh=>h
 |cons p kvs ih=>exact λh=>ih (ku h _ _)
def g7:Nk ([]:List (Int×α)):=qM
def i9(h:look l k=none)(x:α):put l k x=l++[(k,x)]:=by
 unfold put;rw[AI,h];rfl
def UE:∀{acc:List (Int×α)},Nk (acc++kvs)->aS acc kvs=acc++kvs:=by
 induction kvs with
 |nil=>intro acc h;simp[aS]
 |cons p kvs ih=>
  intro acc h;have e:acc++p::kvs=(acc++[p])++kvs:=by simp
  have hn:look acc p.1=none:=gB.mpr λhm=>by
   unfold Nk at h;rw[eB,gx,kX] at h;exact h.2.2 _ hm _ (.head _) aa
  show aS (put acc p.1 p.2) kvs=_;rw[i9 hn,e];exact ih (by rw[<-e];exact h)
def gZ{l:List (Int×α)}(h:Nk l):aS [] l=l:=UE (acc:=[]) h
def zR(acc l:List (Int×α))(p:Int×α):aS acc (l++[p])=put (aS acc l) p.1 p.2:=by simp[aS]
noncomputable def AJ(p:Int×α):List (Int×α)->List (Int×α)
 |[]=>[p]
 |q::l=>if p.1<=q.1 then p::q::l else q::AJ p l
def K4(p q:Int×α)(l:List (Int×α)):AJ p (q::l)=if p.1<=q.1 then p::q::l else q::AJ p l:=rfl
def aI(l:List (Int×α)):List (Int×α):=l.foldr AJ []
def Sk(l:List (Int×α)):Prop:=l.Pairwise λp q=>p.1<q.1
def FZ(p:Int×α)(l:List (Int×α)):(AJ p l).Perm (p::l):=by
 induction l with
 |nil=>exact .refl _
 |cons a l ih=>
  rw[K4];split
  .exact .refl _
  exact(PZ a ih).trans (.swap p a l)
def UG{p q:Int×α}{l:List (Int×α)}:q∈AJ p l↔q=p\/q∈l:=(FZ p l).mem_iff.trans bZ
def fL(l:List (Int×α)):(aI l).Perm l:=by
 induction l with
 |nil=>exact .refl _
 |cons p l ih=>exact(FZ p (aI l)).trans (.cons p ih)
def jB{p:Int×α}{l:List (Int×α)}:p∈aI l↔p∈l:=(fL l).mem_iff
def cY(l:List (Int×α)):(aI l).length=l.length:=(fL l).length_eq
def Nk.perm{l m:List (Int×α)}(h:Nk l)(p:l.Perm m):Nk m:=(p.map (λx:Int×α=>x.1)).nodup_iff.mp h
def gr{l:List (Int×α)}(h:Nk l):Nk (aI l):=h.perm (fL l).symm
def Nk.Q7{l m:List (Int×α)}(h:Nk l)(p:l.Perm m)(k:Int):Mine.look l k=Mine.look m k:=by
 cases e:Mine.look m k with
 |none=>
  rw[gB] at e⊢;exact λx=>e ((p.map (·.1)).mem_iff.mp x)
 |some x=>exact h.look (p:=(k,x)) (p.mem_iff.mpr (gY e))
def oJ{l:List (Int×α)}(h:Nk l)(k:Int):look (aI l) k=look l k:=(gr h).Q7 (fL l) k
def Zy{p:Int×α}{l:List (Int×α)}(h:Sk l)(hn:∀q∈l,q.1≠p.1):Sk (AJ p l):=by
 induction l with
 |nil=>exact JK _ _
 |cons a l ih=>
  unfold Sk at h;rw[mR] at h;rw[K4];split
  .rename_i zA;unfold Sk;rw[mR,mR];refine⟨λq hq=>?_,h⟩;rcases bZ.mp hq with e|hq
   .subst e;exact Int.lt_iff_le_and_ne.2 ⟨zA,(hn q (.head _)).symm⟩
   have:=h.1 q hq;exact vJ ‹_› ‹_›
  rename_i zA;unfold Sk;rw[mR];refine⟨λq hq=>?_,ih h.2 λq hq=>hn q (.tail _ hq)⟩;rcases UG.mp hq with e|hq
  .subst e;exact qQ.mp ‹_›
  exact h.1 q hq
def nB{l:List (Int×α)}(h:Nk l):Sk (aI l):=by
 induction l with
 |nil=>exact J9
 |cons p l ih=>exact Zy (ih h.tail) λq hq e=>gB.mp h.head (e▸jQ (jB.mp hq))
def Sk.nk{l:List (Int×α)}(h:Sk l):Nk l:=zd.mpr (h.imp λ{a b} h (e:a.1=b.1)=>lY b.1 (e▸h))
def Sk.nd{l:List (Int×α)}(h:Sk l):l.Nodup:=Yl (S:=λa b=>a≠b) (λ{a b} h (e:a=b)=>lY b.1 (e▸h)) h
def Sk.ext{l m:List (Int×α)}(h:Sk l)(h':Sk m)(e:∀k,look l k=look m k):l=m:=
 List.Perm.eq_of_pairwise (λz z z z x y=>aK (sG x y) (lY _)) h h' ((WR h.nd h'.nd).mpr λp=>⟨λx=>gY ((e p.1).symm.trans (h.nk.look x)),λx=>gY ((e p.1).trans (h'.nk.look x))⟩)
def mC{l:List (Int×α)}(h:Sk l):aI l=l:=(nB h.nk).ext h λk=>oJ h.nk k
def uL{l m:List (Int×α)}(h:Nk l)(h':Nk m)(e:aI l=aI m)(k:Int):look l k=look m k:=by rw[<-oJ h,<-oJ h',e]
def K5{l m:List (Int×α)}(h:Nk l)(h':Nk m)(e:∀k,look l k=look m k):aI l=aI m:=(nB h).ext (nB h') λk=>by rw[oJ h,oJ h',e]
def wV{l m:List (Int×α)}(e:aI l=aI m):l.length=m.length:=by rw[<-cY,<-cY m,e]
def AK{l m:List (Int×α)}(e:aI l=aI m):l.Perm m:=(fL l).symm.trans (e▸fL m)
def wW(h:Nk l)(h':Nk m)(e:aI l=aI m)(k:Int)(x:α):aI (put l k x)=aI (put m k x):=
 K5 (ku h _ _) (ku h' _ _) λj=>by rw[gc,gc,uL h h' e]
noncomputable def CZ(p:Int):List Int->List Int
 |[]=>[p]
 |q::l=>if p<=q then p::q::l else q::CZ p l
def K6(p q:Int)(l:List Int):CZ p (q::l)=if p<=q then p::q::l else q::CZ p l:=rfl
def d7(l:List Int):List Int:=l.foldr CZ []
def F0(p:Int)(l:List Int):(CZ p l).Perm (p::l):=by
 induction l with
 |nil=>exact .refl _
 |cons a l ih=>
  rw[K6];split
  .exact .refl _
  exact(PZ a ih).trans (.swap p a l)
def ji(l:List Int):(d7 l).Perm l:=by
 induction l with
 |nil=>exact .refl _
 |cons p l ih=>exact(F0 p (d7 l)).trans (.cons p ih)
def Q8(p:Int×α)(l:List (Int×α)):(AJ p l).map (·.1)=CZ p.1 (l.map (·.1)):=by
 induction l with
 |nil=>rfl
 |cons q l ih=>
  rw[K4,gx,K6];split
  .rfl
  rw[gx,ih]
def Q9(l:List (Int×α)):(aI l).map (·.1)=d7 (l.map (·.1)):=by
 induction l with
 |nil=>rfl
 |cons p l ih=>show(AJ p (aI l)).map (·.1)=CZ p.1 (d7 (l.map (·.1)));rw[Q8,ih]
def K7(h:l.Pairwise (·<=·)):(CZ p l).Pairwise (·<=·):=by
 induction l with
 |nil=>exact JK _ _
 |cons a l ih=>
  rw[mR] at h;rw[K6];split
  .rename_i zA;rw[mR,mR];refine⟨λq hq=>?_,h⟩;rcases bZ.mp hq with e|hq
   .subst e;exact zA
   have:=h.1 q hq;exact cN ‹_› ‹_›
  rename_i zA;rw[mR];refine⟨λq hq=>?_,ih h.2⟩;rcases bZ.mp ((F0 p l).mem_iff.mp hq) with e|hq
  .subst e;exact jR (qQ.1 zA)
  exact h.1 q hq
def nC(l:List Int):(d7 l).Pairwise (·<=·):=by
 induction l with
 |nil=>exact J9
 |cons p l ih=>exact K7 ih
def K8{l m:List Int}(h:l.Pairwise (·<=·))(h':m.Pairwise (·<=·))(p:l.Perm m):l=m:=p.eq_of_pairwise (λz z z z=>uc) h h'
def F3(p:l.Perm m):d7 l=d7 m:=K8 (nC l) (nC m) ((ji l).trans (p.trans (ji m).symm))
def Ra(l:List Int):d7 (d7 l)=d7 l:=F3 (ji l)
def xU:x∈d7 l↔x∈l:=(ji l).mem_iff
def qt(l:List Int):(d7 l).length=l.length:=(ji l).length_eq
def wX{l m:List Int}(h:l.Nodup)(h':m.Nodup)(e:∀x,x∈l↔x∈m):l.Perm m:=(WR h h').mpr e
end
open Mine.Nk renaming perm->K9
noncomputable def j3(ns:List Int):List Int:=ns.foldl (λσ k=>if σ.any (·==k) then σ else σ++[k]) []
abbrev bg:=Int×Int
noncomputable def fV(a b:bg):Bool:=decide (a.1<b.1)||(decide (a.1=b.1)&&decide (a.2<b.2))
abbrev bf:=Int×(bg×Option Str)
inductive cR where
 |prepare (b:bg) (f t:Int)
 |promise (b:bg) (f t:Int) (ks:List bf)
 |refuse (b:bg) (f t:Int) (p:bg)
 |accept (b:bg) (f t:Int) (s:Int) (v:Option Str)
 |accepted (b:bg) (f t:Int) (s:Int)
 |ak (b:bg) (f t:Int) (s:Int) (v:Option Str)
inductive eZ where
 |run
 |aO (v:Option Str)
 |again
 |d8
 |msg (m:cR)
structure cA where
 me:Int
 size:Nat
 promised:bg
 acc:List bf
 ak:List (Int×Option Str)
 phase:Nat
 af:bg
 prom:List (Int×List bf)
 props:List (Int×(Option Str×List Int))
 out:List cR
structure Node where
 me:Int
 size:Nat
 promised:bg
 acc:List bf
 ak:List (Int×Option Str)
 phase:Nat
 af:bg
 hp:List (Int×List bf)
 hl:List (Int×(Option Str×List Int))
instance:Nonempty cR:=⟨.prepare (0,0) 0 0⟩
instance:Nonempty eZ:=⟨.run⟩
instance:Nonempty cA:=⟨⟨0,0,(0,0),[],[],0,(0,0),[],[],[]⟩⟩
instance:Nonempty Node:=⟨⟨0,0,(0,0),[],[],0,(0,0),[],[]⟩⟩
noncomputable def b9(n:Nat):List Int:=(lX n).map λ(i:Nat)=>(i:Int)
def mO(size:Nat)(me:Int):List Int:=(b9 size).filter λj=>decide (j≠me)
noncomputable def dI:List Int->Int
 |[]=>0
 |k::ks=>ks.foldl max k
noncomputable def slots(top:Int):List Int:=(lX top.toNat).map λ(i:Nat)=>(i:Int)+1
section
def cA.of(n:Node):cA:=⟨n.me,n.size,n.promised,aS [] n.acc,aS [] n.ak,n.phase,n.af,if n.phase=1 then aS [] n.hp else[],if n.phase=2 then aS [] (n.hl.map λx=>(x.1,(x.2.1,j3 x.2.2))) else[],[]⟩
def se(l:List (Int×(Option Str×List Int))):List (Int×(Option Str×List Int)):=(aI l).map λx=>(x.1,(x.2.1,d7 x.2.2))
def cA.tup(p:cA):Node:=⟨p.me,p.size,p.promised,aI p.acc,aI p.ak,p.phase,p.af,if p.phase=1 then aI p.prom else[],if p.phase=2 then se p.props else[]⟩
def cA.all(p:cA)(mk:Int->cR):cA:={p with out:=p.out++(mO p.size p.me).map mk}
noncomputable def cA.dF(p:cA)(b:bg):cA:=if b.2≠p.me then{p with promised:=b,phase:=0,prom:=[],props:=[]} else{p with promised:=b}
def cA.check(p:cA)(s:Int):cA:=match look p.props s with
 |some (v,ns)=>if decide (p.size<2*ns.length)&&(look p.ak s).isNone then({p with ak:=put p.ak s v}).all (λj=>.ak p.af p.me j s v) else p
 |none=>p
def cA.aO(p:cA)(s:Int)(v:Option Str):cA:=
 (({p with props:=put p.props s (v,[p.me]),acc:=put p.acc s (p.af,v)}).all (λj=>.accept p.af p.me j s v)).check s
def gu(best:List bf)(it:bf):List bf:=match look best it.1 with
 |none=>put best it.1 it.2
 |some x=>if fV x.1 it.2.1 then put best it.1 it.2 else best
def dG(items:List bf):List bf:=items.foldl gu []
def cA.lead(p:cA):cA:=if 2*p.prom.length<=p.size then p else
 (slots (dI ((dG (p.prom.map (·.2)).flatten).map (·.1)))).foldl (λq s=>q.aO s ((look (dG (p.prom.map (·.2)).flatten) s).elim none (·.2))) {p with phase:=2,prom:=[]}
def cA.message(p:cA):cR->cA
 |.prepare b f _=>if fV b p.promised then{p with out:=p.out++[.refuse b p.me f p.promised]} else
  let q:=p.dF b
  {q with out:=q.out++[.promise b q.me f (aI q.acc)]}
 |.accept b f _ s v=>if fV b p.promised then{p with out:=p.out++[.refuse b p.me f p.promised]} else
  let q:=p.dF b
  {q with acc:=put q.acc s (b,v),out:=q.out++[.accepted b q.me f s]}
 |.ak _ _ _ s v=>{p with ak:=if(look p.ak s).isSome then p.ak else put p.ak s v}
 |.refuse b _ _ r=>if b=p.af/\p.phase≠0/\fV p.af r=true then{p with af:=(r.1,p.me),phase:=0,prom:=[],props:=[]} else p
 |.promise b f _ ks=>if b=p.af/\p.phase=1/\look p.prom f=none then({p with prom:=put p.prom f ks}).lead else p
 |.accepted b f _ s=>if b=p.af/\p.phase=2 then
  match look p.props s with
  |some (v,ns)=>({p with props:=put p.props s (v,if ns.contains f then ns else ns++[f])}).check s
  |none=>p
  else p
def cA.uM(p:cA):List cR:=
 if p.phase=1 then(b9 p.size).filter (λj=>(look p.prom j).isNone)|>.map λj=>.prepare p.af p.me j
 else if p.phase=2 then(aI p.props).flatMap λx=>if(look p.ak x.1).isSome then(mO p.size p.me).map λj=>.ak p.af p.me j x.1 x.2.1
  else((b9 p.size).filter λj=>!x.2.2.contains j).map λj=>.accept p.af p.me j x.1 x.2.1
 else[]
def cA.event(p:cA):eZ->cA
 |.run=>
  let b:bg:=(max p.promised.1 p.af.1+1,p.me)
  (({p with af:=b,promised:=b,phase:=1,props:=[],prom:=[(p.me,aI p.acc)]}).all (λj=>.prepare b p.me j)).lead
 |.aO v=>if p.phase=2 then p.aO (dI (p.props.map (·.1))+1) v else p
 |.again=>{p with out:=p.out++p.uM}
 |.d8=>p
 |.msg m=>p.message m
def fM(n:Node)(e:eZ):Node×List cR:=(((cA.of n).event e).tup,((cA.of n).event e).out)
inductive Ent where
 |fq (b:bg)
 |is (ph:Nat) (b:bg)
 |eV (i:bf)
 |bL (s:Int) (v:Option Str)
 |cL (b:bg) (j:Int) (ks:List bf)
 |aL (b:bg) (s:Int) (v:Option Str)
 |yes (b:bg) (s:Int) (j:Int)
instance:Nonempty Ent:=⟨.fq (0,0)⟩
abbrev aY:=List Ent
noncomputable def fN(l:aY):List bg:=l.filterMap λe=>match e with|.fq b=>some b|.is _ _=>none|.eV _=>none|.bL _ _=>none|.cL _ _ _=>none|.aL _ _ _=>none|.yes _ _ _=>none
noncomputable def iN(l:aY):List (Nat×bg):=l.filterMap λe=>match e with|.fq _=>none|.is p b=>some (p,b)|.eV _=>none|.bL _ _=>none|.cL _ _ _=>none|.aL _ _ _=>none|.yes _ _ _=>none
noncomputable def cB(l:aY):List bf:=l.filterMap λe=>match e with|.fq _=>none|.is _ _=>none|.eV i=>some i|.bL _ _=>none|.cL _ _ _=>none|.aL _ _ _=>none|.yes _ _ _=>none
noncomputable def bL(l:aY):List (Int×Option Str):=l.filterMap λe=>match e with|.fq _=>none|.is _ _=>none|.eV _=>none|.bL s v=>some (s,v)|.cL _ _ _=>none|.aL _ _ _=>none|.yes _ _ _=>none
noncomputable def cE(l:aY):List (bg×(Int×List bf)):=l.filterMap λe=>match e with|.fq _=>none|.is _ _=>none|.eV _=>none|.bL _ _=>none|.cL b j ks=>some (b,(j,ks))|.aL _ _ _=>none|.yes _ _ _=>none
noncomputable def aL(l:aY):List (bg×(Int×Option Str)):=l.filterMap λe=>match e with|.fq _=>none|.is _ _=>none|.eV _=>none|.bL _ _=>none|.cL _ _ _=>none|.aL b s v=>some (b,(s,v))|.yes _ _ _=>none
noncomputable def f9(l:aY):List (bg×(Int×Int)):=l.filterMap λe=>match e with|.fq _=>none|.is _ _=>none|.eV _=>none|.bL _ _=>none|.cL _ _ _=>none|.aL _ _ _=>none|.yes b s j=>some (b,(s,j))
def az(l:aY)(b:bg):List (Int×List bf):=((cE l).filter λx=>decide (x.1=b)).map (·.2)
def aQ(l:aY)(b:bg):List (Int×Option Str):=((aL l).filter λx=>decide (x.1=b)).map (·.2)
def cZ(l:aY)(b:bg)(s:Int):List Int:=j3 (((f9 l).filter λy=>decide (y.1=b/\y.2.1=s)).map (·.2.2))
def kP:List bg->bg
 |[]=>(0,0)
 |b::bs=>bs.foldl (λm x=>if fV m x then x else m) b
def jj(l:aY)(size:Nat)(b:bg)(s:Int)(v:Option Str):aY×List cR:=
 if decide (2*(cZ l b s).length<=size)||(look (aS [] (bL l)) s).isSome then(l,[]) else(l++[.bL s v],(mO size b.2).map λj=>.ak b b.2 j s v)
def uN(l:aY)(size:Nat)(b:bg)(s:Int)(v:Option Str)(j:Int):aY×List cR:=jj (l++[.yes b s j]) size b s v
def eE(l:aY)(size:Nat)(b:bg)(s:Int)(v:Option Str):aY×List cR:=
 let r:=uN (l++[.aL b s v,.eV (s,(b,v))]) size b s v b.2
 (r.1,(mO size b.2).map (λj=>.accept b b.2 j s v)++r.2)
def qw(a b:bf):Bool:=decide (a.1<b.1)||(decide (a.1=b.1)&&fV a.2.1 b.2.1)
def IJ(p:bf):List bf->List bf
 |[]=>[p]
 |q::l=>if qw q p then q::IJ p l else p::q::l
def AL(l:List bf):List bf:=l.foldr IJ []
def iA(items:List bf):List (Int×Option Str):=aS [] ((AL items).map λit=>(it.1,it.2.2))
def dB(size:Nat)(b:bg)(best:List (Int×Option Str))(ss:List Int)(r:aY×List cR):aY×List cR:=
 ss.foldl (λr s=>let q:=eE r.1 size b s ((look best s).getD none);(q.1,r.2++q.2)) r
def j4(l:aY)(size:Nat)(b:bg)(j:Int)(ks:List bf):aY×List cR:=
 let l:=l++[.cL b j ks];let jG:=(az l b).map (·.2)
 if 2*jG.length<=size then(l,[]) else
  let best:=iA jG.flatten
  dB size b best (slots (dI (best.map (·.1)))) (l++[.is 2 b],[])
def ao(l:aY)(me:Int)(size:Nat):Node:=
 let pb:=(iN l).getLastD (0,(0,0))
 ⟨me,size,kP (fN l),aI (aS [] (cB l)),aI (bL l),pb.1,pb.2,if pb.1=1 then aI (az l pb.2) else[],
  if pb.1=2 then(aQ l pb.2).map λx=>(x.1,(x.2,d7 (cZ l pb.2 x.1))) else[]⟩
def Node.again(n:Node):List cR:=
 if n.phase=1 then(b9 n.size).filter (λj=>(look (aS [] n.hp) j).isNone)|>.map λj=>.prepare n.af n.me j
 else n.hl.flatMap λx=>if(look (aS [] n.ak) x.1).isSome then(mO n.size n.af.2).map λj=>.ak n.af n.af.2 j x.1 x.2.1
  else((b9 n.size).filter λj=>!x.2.2.contains j).map λj=>.accept n.af n.me j x.1 x.2.1
def aH(l:aY)(n:Node):eZ->aY×List cR
 |.run=>
  let b:bg:=(max n.promised.1 n.af.1+1,n.me);let r:=j4 (l++[.fq b,.is 1 b]) n.size b n.me n.acc
  (r.1,(mO n.size b.2).map (λj=>.prepare b b.2 j)++r.2)
 |.aO v=>if n.phase=2 then eE l n.size n.af (n.hl.length+1) v else(l,[])
 |.again=>(l,n.again)
 |.d8=>(l++[.is 0 n.af],[])
 |.msg (.prepare b f _)=>if fV b n.promised then(l,[.refuse b n.me f n.promised]) else
  (l++[.fq b,.is (if b.2≠n.me then 0 else n.phase) n.af],[.promise b n.me f n.acc])
 |.msg (.accept b f _ s v)=>if fV b n.promised then(l,[.refuse b n.me f n.promised]) else
  (l++[.fq b,.is (if b.2≠n.me then 0 else n.phase) n.af,.eV (s,(b,v))],[.accepted b n.me f s])
 |.msg (.ak _ _ _ s v)=>(if(look (aS [] n.ak) s).isSome then l else l++[.bL s v],[])
 |.msg (.refuse b _ _ r)=>(if b=n.af/\n.phase≠0/\fV n.af r=true then l++[.is 0 (r.1,n.me)] else l,[])
 |.msg (.promise b f _ ks)=>if b=n.af/\n.phase=1/\look (aS [] n.hp) f=none then j4 l n.size n.af f ks else(l,[])
 |.msg (.accepted b f _ s)=>if b=n.af/\n.phase=2/\s<=n.hl.length then
  uN l n.size n.af s ((n.hl[(s-1).toNat]?).elim none (·.2.1)) f else(l,[])
end
open Mine.cA renaming of->iJ,message->mD,event->F4,check->Lb,lead->Lc,uM->Ld,aO->Zz
open Mine.Node renaming again->Cy
open Mine.Ent renaming aL->Le,yes->Lf,cL->Rb
open Mine.cR renaming prepare->ZA,accept->ZD
def wY(l:List Int)(k:Int):j3 (l++[k])=if k∈j3 l then j3 l else j3 l++[k]:=by
 unfold j3;rw[t9,zb,O8]
 by_cases h:k∈WT (λσ k=>if(σ.any λx=>x==k)=true then σ else σ++[k]) [] l
 .rw[aq h,aq];rw[BH];exact⟨k,h,by simp⟩
 rw[ay h,ay];rw[BH];intro z2;let ⟨x,hx,e⟩:=z2;rw[beq_iff_eq] at e;exact h (e▸hx)
def rD{α:Type}{P:List α->Prop}(h0:P [])(h1:∀l a,P l->P (l++[a]))(l:List α):P l:=by
 have:∀m:List α,P m.reverse:=by
  intro m
  induction m with
  |nil=>exact h0
  |cons a m ih=>rw[BG];exact h1 _ _ ih
 simpa using this l.reverse
def rE:x∈j3 l↔x∈l:=by
 induction l using rD with
 |h0=>rfl
 |h1 l a ih=>
  rw[wY,dY,eO];split
  .rename_i h;constructor
   .exact λy=>.inl (ih.mp y)
   rintro(y|y)
   .exact ih.mpr y
   subst y;exact h
  rw[dY,eO,ih]
def kB(l:List Int):(j3 l).Nodup:=by
 induction l using rD with
 |h0=>exact qM
 |h1 l a ih=>
  rw[wY];split
  .exact ih
  rename_i h;rw[kX];exact⟨ih,by simp,λx hx y hy e=>h (by simp at hy;rw[<-hy,<-e];exact hx)⟩
def M9{l:List Int}(h:l.Nodup):j3 l=l:=by
 induction l using rD with
 |h0=>rfl
 |h1 l a ih=>
  rw[kX] at h;have e:=ih h.1;rw[wY,e,ay];exact λhm=>h.2.2 a hm a (by simp) aa
section
structure View where
 fN:List bg
 iN:List (Nat×bg)
 cB:List bf
 bL:List (Int×Option Str)
 cE:List (bg×(Int×List bf))
 aL:List (bg×(Int×Option Str))
 f9:List (bg×(Int×Int))
instance:Nonempty View:=⟨⟨[],[],[],[],[],[],[]⟩⟩
def view(l:aY):View:=⟨fN l,iN l,cB l,bL l,cE l,aL l,f9 l⟩
def View.az(V:View)(b:bg):List (Int×List bf):=(V.cE.filter λx=>decide (x.1=b)).map (·.2)
def View.aQ(V:View)(b:bg):List (Int×Option Str):=(V.aL.filter λx=>decide (x.1=b)).map (·.2)
def View.cZ(V:View)(b:bg)(s:Int):List Int:=j3 ((V.f9.filter λy=>decide (y.1=b/\y.2.1=s)).map (·.2.2))
variable (l:aY)
theorem IK(b:bg):view (l++[.fq b])={view l with fN:=(view l).fN++[b]}:=by
 simp[view,fN,iN,cB,bL,cE,aL,f9]
theorem wZ(p:Nat)(b:bg):view (l++[.is p b])={view l with iN:=(view l).iN++[(p,b)]}:=by
 simp[view,fN,iN,cB,bL,cE,aL,f9]
theorem F7(i:bf):view (l++[.eV i])={view l with cB:=(view l).cB++[i]}:=by
 simp[view,fN,iN,cB,bL,cE,aL,f9]
theorem C0(s:Int)(v:Option Str):view (l++[.bL s v])={view l with bL:=(view l).bL++[(s,v)]}:=by
 simp[view,fN,iN,cB,bL,cE,aL,f9]
theorem C1(b:bg)(j:Int)(ks:List bf):view (l++[.cL b j ks])={view l with cE:=(view l).cE++[(b,(j,ks))]}:=by
 simp[view,fN,iN,cB,bL,cE,aL,f9]
theorem Lg(b:bg)(s:Int)(v:Option Str):view (l++[.aL b s v])={view l with aL:=(view l).aL++[(b,(s,v))]}:=by
 simp[view,fN,iN,cB,bL,cE,aL,f9]
theorem IL(b:bg)(s j:Int):view (l++[.yes b s j])={view l with f9:=(view l).f9++[(b,(s,j))]}:=by
 simp[view,fN,iN,cB,bL,cE,aL,f9]
end
section
variable {me:Int}{size:Nat}{p:cA}{V:View}
structure WF(me:Int)(V:View)(ph:Nat)(b:bg):Prop where
 is:V.iN.getLast?=some (ph,b)
 nk:Nk V.bL
 own:ph≠0->b.2=me
 hb:∀x∈V.cE,x.1.1<=b.1
 ob:∀x∈V.aL,x.1.1<=b.1/\x.1.2=me
 yb:∀x∈V.f9,x.1.1<=b.1
 yK:ph=1->Nk (V.az b)/\V.aQ b=[]/\(∀y∈V.f9,y.1≠b)
 lead:ph=2->(V.aQ b).map (·.1)=slots (V.aQ b).length/\∀y∈V.f9,y.1=b->1<=y.2.1/\y.2.1<=(V.aQ b).length
 yk:∀b',Nk (V.aQ b')
def ql(l:List (Int×(Option Str×List Int))):List (Int×(Option Str×List Int)):=l.map λx=>(x.1,(x.2.1,d7 x.2.2))
def View.lst(V:View)(b:bg):List (Int×(Option Str×List Int)):=(V.aQ b).map λx=>(x.1,(x.2,d7 (V.cZ b x.1)))
structure fC(me:Int)(size:Nat)(p:cA)(V:View):Prop where
 wf:WF me V p.phase p.af
 me:p.me=me
 size:p.size=size
 fq:p.promised=kP V.fN
 Cz:V.fN≠[]
 n7:Nk p.acc
 acc:aI p.acc=aI (aS [] V.cB)
 zS:Nk p.ak
 ch:aI p.ak=aI V.bL
 prom:p.phase=1->Nk p.prom/\aI p.prom=aI (V.az p.af)
 w5:p.phase≠1->p.prom=[]
 props:p.phase=2->ql p.props=V.lst p.af
 pn:∀x∈p.props,x.2.2.Nodup
 lU:p.phase≠2->p.props=[]
def qF{γ δ:Type}(f:Int->γ->δ)(l:List (Int×γ))(k:Int):look (l.map λx=>(x.1,f x.1 x.2)) k=(look l k).map (f k):=by
 induction l with
 |nil=>rfl
 |cons a l ih=>
  rw[gx,fK,fK,ih]
  by_cases h:a.1=k
  .simp[h]
  simp[h]
def yL(n:Nat):(slots (n:Int)).length=n:=by simp[slots]
def sj(n:Nat):slots ((n:Int)+1)=slots n++[(n:Int)+1]:=by
 unfold slots;have:((n:Int)+1).toNat=n+1:=rfl;rw[this,BI,eB];simp
def jk:k∈slots n↔1<=k/\k<=n:=cg.trans
 ⟨
  λh=>h.elim λi h=>h.2▸⟨JU (iS i),Int.add_one_le_iff.mpr (Xm.mp (O9.mp h.1))⟩,
  λh=>have e:=BP (JT h.1);⟨(k-1).toNat,O9.mpr (Xm.mpr (vJ (vK e) (BN (Xn k Xo) h.2))),(cj (·+1) e).trans (Ph k 1)⟩⟩
def HT(n:Int):(slots n).Pairwise (·<·):=zd.mpr (List.pairwise_lt_range.imp λh=>Int.add_lt_add_right (kG.mpr h) 1)
def Na(n:Nat):dI (slots (n:Int))=n:=by
 have hf:∀(l:List Int) (a m:Int),(∀x∈l,x<=m)->a<=m->(a=m\/m∈l)->l.foldl max a=m:=by
  intro l
  induction l with
  |nil=>exact λa m z h1 h2=>h2.elim id λh=>nomatch h
  |cons y l ih=>
   intro a m h h1 h2;rw[zb];have hy:=h y (.head _);refine ih _ m (λx hx=>h x (.tail _ hx)) (Xp.mpr ⟨h1,hy⟩) ?_;rcases h2 with e|hm
   .exact .inl (e▸JV (e▸hy))
   rcases bZ.mp hm with e|hm
   .exact .inl (e▸zg (e▸h1))
   exact .inr hm
 cases n with
 |zero=>rfl
 |succ n=>
  have e:slots ((n+1:Nat):Int)≠[]:=λh=>by have:=yL (n+1);rw[h] at this;cases this
  cases h:slots ((n+1:Nat):Int) with
  |nil=>exact aK h e
  |cons a l=>
   show l.foldl max a=_;have hm:∀x,x∈a::l↔1<=x/\x<=((n+1:Nat):Int):=λx=>by rw[<-h];exact jk
   refine hf l a _ (λx hx=>((hm x).mp (.tail _ hx)).2) ((hm a).mp (.head _)).2 ?_;have:=(hm ((n+1:Nat):Int)).mpr ⟨gE.mpr (iQ 1 n),eS _⟩;rcases bZ.mp this with e|e
   .exact .inl e.symm
   exact .inr e
def F8(l:List (Int×(Option Str×List Int))):(ql l).map (·.1)=l.map (·.1):=by simp[ql]
def IM(b:bg):(V.lst b).map (·.1)=(V.aQ b).map (·.1):=by simp[View.lst]
def fC.keys(S:fC me size p V)(h:p.phase=2):p.props.map (·.1)=slots p.props.length/\p.props.length=(V.aQ p.af).length:=by
 have e:=S.props h
 have hl:p.props.length=(V.aQ p.af).length:=by
  have:=cj ua e;simpa [ql,View.lst] using this
 refine⟨?_,hl⟩;rw[<-F8,e,IM,(S.wf.lead h).1,hl]
def w6{α:Type}{l:List (Int×α)}{n:Int}(h:l.map (·.1)=slots n):Sk l:=by
 have:=HT n;rw[<-h,zd] at this;exact this
def uO{α:Type}{l:List α}{a d:α}(h:l.getLast?=some a):l.getLastD d=a:=by
 rw[Pa,h];rfl
def Node.eq(h1:a=a')(h2:b=b')(h3:c=c')(h4:d=d')(h5:e=e')(h6:f=f')(h7:g=g'):Node.mk a b c d e i j f g=Node.mk a' b' c' d' e' i j f' g':=h1▸h2▸h3▸h4▸h5▸h6▸h7▸rfl
theorem fC.tup{l:aY}(S:fC me size p (view l)):p.tup=ao l me size:=by
 intros me size p l _ S;have hi:(iN l).getLastD (0,(0,0))=(p.phase,p.af):=uO S.wf.is;unfold cA.tup ao;rw[hi];refine Node.eq S.me S.size S.fq S.acc S.ch ?_ ?_
 .split
  .rename_i h;exact(S.prom h).2
  rfl
 split
 .rename_i h;unfold se;rw[mC (w6 (S.keys h).1)];exact S.props h
 rfl
def fC.F9(S:fC me size p V)(h:p.phase=2){ns:List Int}(hs:look p.props s=some (v,ns)):look (V.aQ p.af) s=some v/\d7 ns=d7 (V.cZ p.af s):=by
 intros me size p V s v ns _ S h hs;have e:look (ql p.props) s=look (V.lst p.af) s:=by rw[S.props h]
 have e1:=qF (λ_ (x:Option Str×List Int)=>(x.1,d7 x.2)) p.props s;have e2:=qF (λk (x:Option Str)=>(x,d7 (V.cZ p.af k))) (V.aQ p.af) s;replace e:=e1.symm.trans (e.trans e2);rw[hs] at e;cases h':look (V.aQ p.af) s with
 |none=>rw[h'] at e;cases e
 |some w=>
  rw[h'] at e;simp only[zu,zj,Yw] at e;exact⟨by rw[e.1],e.2⟩
def fC.ZE(S:fC me size p V)(h:p.phase=2)(s:Int):(look p.props s).isSome=decide (1<=s/\s<=(p.props.length:Int)):=by
 have k:=(S.keys h).1
 by_cases hs:1<=s/\s<=(p.props.length:Int)
 .rw[decide_eq_true hs,XI];intro e;rw[gB,k] at e;exact e (jk.mpr hs)
 rw[decide_eq_false hs];cases e:look p.props s with
 |none=>rfl
 |some x=>
  have:=gY e;exact aK (jk.mp (k▸jQ (f:=(·.1)) this)) hs
def fC.Rc(S:fC me size p V)(s:Int):look p.ak s=look V.bL s:=uL S.zS S.wf.nk S.ch s
theorem fC.check(S:fC me size p (view l))(h:p.phase=2){ns:List Int}(hs:look p.props s=some (v,ns)):
 ∃q l' o,p.check s=q/\jj l size p.af s v=(l',o)/\fC me size q (view l')/\q.out=p.out++o/\q.phase=2/\q.af=p.af/\q.props=p.props/\q.acc=p.acc/\q.promised=p.promised:=by
 intros me size p l s v ns _ S h hs;let ⟨h1,h2⟩:=S.F9 h hs;have cG:ns.length=(cZ l p.af s).length:=by rw[<-qt,h2,qt];rfl
 have hk:look (aS [] (bL l)) s=look p.ak s:=by rw[gZ (l:=bL l) S.wf.nk,S.Rc];rfl
 have hb:p.af.2=p.me:=(S.wf.own (λe=>aK (h.symm.trans e) (by decide))).trans S.me.symm;unfold Lb jj;rw[hs,<-cG,hk,<-S.size];dsimp only
 by_cases hc:decide (p.size<2*ns.length)=true/\look p.ak s=none
 .have cu:(decide (2*ns.length<=p.size)||(look p.ak s).isSome)=false:=by
   have:=hc.1;simp at this;simp[hc.2];assumption
  rw[aq (by rw[hc.1,hc.2];rfl),cu];refine⟨_,_,_,rfl,rfl,?_,?_,h,rfl,rfl,rfl,rfl⟩
  .rw[C0];have hn:look (bL l) s=none:=(S.Rc s).symm.trans hc.2;have pF:Nk (bL l++[(s,v)]):=by rw[<-i9 hn];exact ku S.wf.nk _ _
   refine⟨⟨S.wf.is,pF,S.wf.own,S.wf.hb,S.wf.ob,S.wf.yb,S.wf.yK,S.wf.lead,S.wf.yk⟩,S.me,rfl,S.fq,S.Cz,S.n7,S.acc,ku S.zS _ _,?_,S.prom,S.w5,S.props,S.pn,S.lU⟩;show aI (put p.ak s v)=aI (bL l++[(s,v)]);rw[<-i9 hn];exact wW S.zS S.wf.nk S.ch _ _
  show p.out++(mO p.size p.me).map _=_;rw[hb]
 have e1:(decide (p.size<2*ns.length)&&(look p.ak s).isNone)=false:=by
  cases e:look p.ak s with
  |none=>rw[e] at hc;simp at hc;simp;assumption
  |some _=>simp
 have cu:(decide (2*ns.length<=p.size)||(look p.ak s).isSome)=true:=by
  cases e:look p.ak s with
  |none=>rw[e] at hc;simp at hc;simp;assumption
  |some _=>simp
 rw[e1,cu];refine⟨_,_,_,rfl,rfl,?_,(iW _).symm,h,rfl,rfl,rfl,rfl⟩;rw[S.size];exact S
end
open Mine.View renaming aQ->sZ,cZ->Ga,az->Rd
def ZF{x y:Int}{A B:Prop}(hab:¬A↔B):¬(x<y\/(x=y/\A))↔y<x\/(y=x/\B):=
 ⟨
  λn=>dite (y<x) .inl λe=>have q:y=x:=uc (lz.mp λx=>n (.inl x)) (lz.mp e);.inr ⟨q,hab.mp λx=>n (.inr ⟨q.symm,x⟩)⟩,
  λh n=>h.elim (λh=>n.elim (λx=>lY _ (sG h x)) λx=>lY _ (x.1▸h)) λh=>n.elim (λx=>lY _ (h.1▸x)) λx=>hab.mpr h.2 x.2⟩
def Rf{x y z:Int}{A B C:Prop}(t:A->B->C)(h:x<y\/(x=y/\A))(h':y<z\/(y=z/\B)):x<z\/(x=z/\C):=
 h.elim (λh=>.inl (h'.elim (sG h) λq=>q.1▸h)) λh=>h'.elim (λq=>.inl (h.1▸q)) λq=>.inr ⟨h.1.trans q.1,t h.2 q.2⟩
def ZG{x y:Int}{A B:Prop}(h:x<y\/(x=y/\A))(h':y<x\/(y=x/\B)):x=y/\A/\B:=
 h.elim (λh=>h'.elim (λq=>aK (sG h q) (lY _)) λq=>aK (q.1▸h) (lY _)) λh=>h'.elim (λq=>aK (h.1▸q) (lY _)) λq=>⟨h.1,h.2,q.2⟩
def tL:fV a b=true↔a.1<b.1\/(a.1=b.1/\a.2<b.2):=by simp[fV]
def j5{a b:bg}:fV a b=false↔b.1<a.1\/(b.1=a.1/\b.2<=a.2):=(iff_of_eq (JX _)).symm.trans ((not_congr tL).trans (ZF lz))
def Rh{a b c:bg}(h:fV b a=false)(h':fV c b=false):fV c a=false:=j5.mpr (Rf cN (j5.mp h) (j5.mp h'))
def uP(h:fV a b=true):fV b a=false:=j5.mpr ((tL.mp h).imp id (And.imp id jR))
def Lh{x y z:bg}(h1:fV x y=false)(h:fV x z=true):fV y z=true:=tL.mpr (Rf vJ (j5.mp h1) (tL.mp h))
def tM{x y:bg}(h:fV x y=false)(h':fV y x=false):x=y:=have q:=ZG (j5.mp h') (j5.mp h);qW q.1 (uc q.2.1 q.2.2)
section
def IP:qw a b=true↔a.1<b.1\/(a.1=b.1/\fV a.2.1 b.2.1=true):=by
 unfold qw;simp
def jl{a b:bf}:qw a b=false↔b.1<a.1\/(b.1=a.1/\fV a.2.1 b.2.1=false):=(iff_of_eq (JX _)).symm.trans ((not_congr IP).trans (ZF (iff_of_eq (JX _))))
def Gb{a b c:bf}(h:qw b a=false)(h':qw c b=false):qw c a=false:=jl.mpr (Rf Rh (jl.mp h) (jl.mp h'))
def Gd(h:qw a b=true):qw b a=false:=jl.mpr ((IP.mp h).imp id (And.imp id uP))
def UH{x y:bf}(h:qw x y=false)(h':qw y x=false):x.1=y.1/\x.2.1=y.2.1:=have q:=ZG (jl.mp h') (jl.mp h);⟨q.1,tM q.2.2 q.2.1⟩
def Ge(p:bf)(l:List bf):(IJ p l).Perm (p::l):=by
 induction l with
 |nil=>exact .refl _
 |cons a l ih=>
  unfold IJ;split
  .exact(PZ a ih).trans (.swap p a l)
  exact .refl _
def rF(l:List bf):(AL l).Perm l:=by
 induction l with
 |nil=>exact .refl _
 |cons p l ih=>exact(Ge p (AL l)).trans (.cons p ih)
def Li(h:l.Pairwise λx y=>qw y x=false):(IJ p l).Pairwise λx y=>qw y x=false:=by
 induction l with
 |nil=>exact JK _ _
 |cons a l ih=>
  rw[mR] at h;unfold IJ;split
  .rename_i eG;rw[mR];refine⟨λq hq=>?_,ih h.2⟩;rcases bZ.mp ((Ge p l).mem_iff.mp hq) with e|hq
   .subst e;exact Gd eG
   exact h.1 q hq
  rename_i zA;rw[mR,mR];refine⟨λq hq=>?_,h⟩;have zA:qw a p=false:=by simpa using zA
  rcases bZ.mp hq with e|hq
  .subst e;exact zA
  exact Gb zA (h.1 q hq)
def AM(l:List bf):(AL l).Pairwise λx y=>qw y x=false:=by
 induction l with
 |nil=>exact J9
 |cons p l ih=>exact Li ih
def Lj(items:List bf)(s:Int)(o:Option (bg×Option Str)):Prop:=match o with
 |none=>∀it∈items,it.1≠s
 |some x=>(s,x)∈items/\∀it∈items,it.1=s->fV x.1 it.2.1=false
def mK(b:bg):fV b b=false:=j5.mpr (.inr ⟨rfl,eS _⟩)
def AN(items:List bf)(s:Int):Lj items s (look (dG items) s):=by
 induction items using rD with
 |h0=>exact λit h=>by cases h
 |h1 l a ih=>
  have e:dG (l++[a])=gu (dG l) a:=by simp[dG]
  rw[e]
  have wC:∀o,Lj l s o->a.1≠s->Lj (l++[a]) s o:=by
   intro o ho dg;cases o with
   |none=>exact λit h=>(dY.mp h).elim (ho it) λh=>by simp at h;rw[h];exact dg
   |some x=>exact⟨pN _ ho.1,λit h hs=>(dY.mp h).elim (λh=>ho.2 it h hs) λh=>by simp at h;rw[h] at hs;exact aK hs dg⟩
  by_cases hs:a.1=s
  .unfold gu;subst hs;cases e2:look (dG l) a.1 with
   |none=>
    rw[e2] at ih;dsimp only;rw[gc,aq aa];refine⟨by simp,λit h hs=>?_⟩;rcases dY.mp h with h|h
    .exact aK hs (ih it h)
    simp at h;rw[h];exact mK _
   |some x=>
    rw[e2] at ih;dsimp only
    by_cases hb:fV x.1 a.2.1=true
    .rw[aq hb,gc,aq aa];refine⟨by simp,λit h hs=>?_⟩;rcases dY.mp h with h|h
     .exact uP (Lh (ih.2 it h hs) hb)
     simp at h;rw[h];exact mK _
    rw[ay hb,e2];refine⟨pN _ ih.1,λit h hs=>?_⟩;rcases dY.mp h with h|h
    .exact ih.2 it h hs
    simp at h;rw[h];simpa using hb
  have:look (gu (dG l) a) s=look (dG l) s:=by
   unfold gu;cases look (dG l) a.1 with
   |none=>dsimp only;rw[gc,ay hs]
   |some x=>
    dsimp only;split
    .rw[gc,ay hs]
    rfl
  rw[this];exact wC _ ih hs
def Nb(items:List bf)(s:Int)(o:Option (Option Str)):Prop:=match o with
 |none=>∀it∈items,it.1≠s
 |some v=>∃b,(s,(b,v))∈items/\∀it∈items,it.1=s->fV b it.2.1=false
def UI(L:List bf)(s:Int):(L.Pairwise λx y=>qw y x=false)->Nb L s (look (aS [] (L.map λit=>(it.1,it.2.2))) s):=by
 induction L using rD with
 |h0=>exact λz it h=>by cases h
 |h1 l a ih=>
  intro hp;rw[List.pairwise_append] at hp;have ih:=ih hp.1;rw[eB,gx,JL,zR,gc];split
  .rename_i h;dsimp only at h;subst h;refine⟨a.2.1,by simp,λit h hs=>?_⟩;rcases dY.mp h with h|h
   .have:=hp.2.2 it h a (by simp);rw[jl] at this;rcases this with h|h
    .exact aK hs (Xq h)
    exact h.2
   simp at h;rw[h];exact mK _
  rename_i h;dsimp only at h;cases e:look (aS [] (l.map λit=>(it.1,it.2.2))) s with
  |none=>rw[e] at ih;exact λit hi=>(dY.mp hi).elim (ih it) λhi=>by simp at hi;rw[hi];exact h
  |some v=>
   rw[e] at ih;let ⟨b,h1,h2⟩:=ih;exact⟨b,pN _ h1,λit hi hs=>(dY.mp hi).elim (λhi=>h2 it hi hs) λhi=>by simp at hi;rw[hi] at hs;exact aK hs h⟩
def C2(items:List bf)(s:Int):Nb items s (look (iA items) s):=by
 have:=UI (AL items) s (AM items);unfold iA;cases e:look (aS [] ((AL items).map λit=>(it.1,it.2.2))) s with
 |none=>rw[e] at this;exact λit h=>this it ((rF items).mem_iff.mpr h)
 |some v=>
  rw[e] at this;let ⟨b,h1,h2⟩:=this;exact⟨b,(rF items).mem_iff.mp h1,λit hi hs=>h2 it ((rF items).mem_iff.mpr hi) hs⟩
def kC(items:List bf):Prop:=∀x∈items,∀y∈items,x.1=y.1->x.2.1=y.2.1->x.2.2=y.2.2
def Gf(hc:kC items)(hm:∀x,x∈items↔x∈sr)(s:Int):
 (look (dG items) s).elim none (·.2)=(look (iA sr) s).getD none/\(look (dG items) s).isSome=(look (iA sr) s).isSome:=by
 intros items sr s _ hc hm;have h1:=AN items s;have h2:=C2 sr s;cases e1:look (dG items) s with
 |none=>
  rw[e1] at h1;cases e2:look (iA sr) s with
  |none=>exact⟨rfl,rfl⟩
  |some v=>rw[e2] at h2;let ⟨b,hb,_⟩:=h2;exact aK aa (h1 _ ((hm _).mpr hb))
 |some x=>
  rw[e1] at h1;cases e2:look (iA sr) s with
  |none=>rw[e2] at h2;exact aK aa (h2 _ ((hm _).mp h1.1))
  |some v=>
   rw[e2] at h2;let ⟨b,hb,fD⟩:=h2;have hb':=(hm _).mpr hb;have a1:=h1.2 _ hb' aa;have a2:=fD _ ((hm _).mp h1.1) aa;have:x.1=b:=tM a1 a2;exact⟨hc _ h1.1 _ hb' aa this,rfl⟩
def tN:∀{l:List Int},l≠[]->dI l∈l/\∀x∈l,x<=dI l:=by
 have go:∀(l:List Int) (a:Int),(l.foldl max a=a\/l.foldl max a∈l)/\a<=l.foldl max a/\∀x∈l,x<=l.foldl max a:=by
  intro l
  induction l with
  |nil=>exact λa=>⟨.inl aa,eS _,λx h=>by cases h⟩
  |cons b l ih=>
   intro a;rw[zb];let ⟨h1,h2,h3⟩:=ih (max a b);refine⟨?_,cN (EA a b) h2,λx hx=>?_⟩
   .rcases h1 with h|h
    .rw[h];rcases Int.le_total a b with hab|hab
     .right;rw[zg hab];exact .head _
     left;exact JV hab
    right;exact .tail _ h
   rcases bZ.mp hx with e|hx
   .subst e;exact cN (vM a x) h2
   exact h3 x hx
 intro l hl;cases l with
 |nil=>exact aK aa hl
 |cons a l=>
  let ⟨h1,h2,h3⟩:=go l a;refine⟨?_,λx hx=>?_⟩
  .rcases h1 with h|h
   .show l.foldl max a∈_;rw[h];exact .head _
   exact .tail _ h
  rcases bZ.mp hx with e|hx
  .subst e;exact h2
  exact h3 x hx
def Nc(h:∀x,x∈l↔x∈m):dI l=dI m:=by
 cases l with
 |nil=>
  cases m with
  |nil=>rfl
  |cons b m=>have:=(h b).mpr (.head _);cases this
 |cons a l=>
  have hm:m≠[]:=λe=>by have:=(h a).mp (.head _);(first|exact ns (e) this|exact ns this (e)|(rw[e] at this;cases this))
  let ⟨h1,h2⟩:=tN (l:=a::l) (by simp);let ⟨h3,h4⟩:=tN hm;exact uc (h4 _ ((h _).mp h1)) (h2 _ ((h _).mpr h3))
def AO{α:Type}{l:List (Int×α)}{k:Int}:k∈l.map (·.1)↔(look l k).isSome=true:=by
 rw[XI];have:=@gB α l k;constructor
 .exact λh e=>this.mp e h
 intro h;exact aM λhn=>h (this.mpr hn)
def UJ(hc:kC items)(hm:∀x,x∈items↔x∈sr):dI ((dG items).map (·.1))=dI ((iA sr).map (·.1)):=
 Nc λx=>by rw[AO,AO,(Gf hc hm x).2]
end
section
variable {me:Int}{size:Nat}{p:cA}{V:View}
def Nd{ps:List (Int×(Option Str×List Int))}{b:bg}{n m:Int}(h1:ps.map (·.1)=slots n)(h2:(V.aQ b).map (·.1)=slots m)
 (h:∀k,(look ps k).map (λx=>(x.1,d7 x.2))=(look (V.aQ b) k).map (λv=>(v,d7 (V.cZ b k)))):ql ps=V.lst b:=by
 refine(w6 (by rw[F8];exact h1)).ext (w6 (by rw[IM];exact h2)) λk=>?_
 have e1:=qF (λ_ (x:Option Str×List Int)=>(x.1,d7 x.2)) ps k;have e2:=qF (λk (x:Option Str)=>(x,d7 (V.cZ b k))) (V.aQ b) k;exact e1.trans ((h k).trans e2.symm)
def fC.ZH(S:fC me size p V)(h:p.phase=2)(k:Int):(look p.props k).map (λx=>(x.1,d7 x.2))=(look (V.aQ p.af) k).map (λv=>(v,d7 (V.cZ p.af k))):=by
 have e:look (ql p.props) k=look (V.lst p.af) k:=by rw[S.props h]
 have e1:=qF (λ_ (x:Option Str×List Int)=>(x.1,d7 x.2)) p.props k;have e2:=qF (λk (x:Option Str)=>(x,d7 (V.cZ p.af k))) (V.aQ p.af) k;exact e1.symm.trans (e.trans e2)
def Gg{α:Type}{l:List (Int×α)}{k:Int}(h:(look l k).isSome=true)(x:α):(put l k x).map (·.1)=l.map (·.1):=by rw[Cx,aq h]
def Gh{α:Type}{l:List (Int×α)}{k:Int}{x:α}{y:Int×α}(h:y∈put l k x):y∈l\/y.2=x:=by
 unfold put at h;split at h
 .let ⟨z,hz,e⟩:=cg.mp h;split at e
  .rw[<-e];exact .inr aa
  rw[<-e];exact .inl hz
 rcases dY.mp h with h|h
 .exact .inl h
 simp at h;rw[h];exact .inr aa
def C3(b b':bg)(s s' j:Int):Ga {V with f9:=V.f9++[(b,(s,j))]} b' s'=if b=b'/\s=s' then j3 (((V.f9.filter λy=>decide (y.1=b'/\y.2.1=s')).map (·.2.2))++[j]) else V.cZ b' s':=by
 unfold Ga;dsimp only;rw[oh,eB]
 by_cases h:b=b'/\s=s'
 .rw[aq h,h.1,h.2];simp
 rw[ay h]
 have:Pb (λy:bg×Int×Int=>decide (y.1=b'/\y.2.1=s')) [(b,(s,j))]=[]:=by
  rw[vF (by simpa using h)];rfl
 rw[this];simp
def fC.afd{l:aY}(S:fC me size p (view l))(h:p.phase=2){s:Int}{v:Option Str}{ns:List Int}(hs:look p.props s=some (v,ns))(j:Int):
 fC me size {p with props:=put p.props s (v,if ns.contains j then ns else ns++[j])} (view (l++[.yes p.af s j])):=by
 intros me size p l s v ns j _ S h hs;let ⟨hk,cG⟩:=S.keys h;have kh:(look p.props s).isSome=true:=by rw[hs];rfl
 have hsr:1<=s/\s<=(p.props.length:Int):=by have:=S.ZE h s;rw[kh] at this;simpa using this
 let ⟨ho,hv⟩:=S.F9 h hs;have mu:ns.Nodup:=S.pn _ (gY hs);have kH:∀x,x∈ns↔x∈(view l).cZ p.af s:=λx=>by rw[<-xU,hv,xU]
 rw[IL];refine⟨⟨S.wf.is,S.wf.nk,S.wf.own,S.wf.hb,S.wf.ob,?_,λh1=>aK (h.symm.trans h1) (show ¬(2:Nat)=1 by decide),λh2=>⟨(S.wf.lead h).1,?_⟩,S.wf.yk⟩,S.me,S.size,S.fq,S.Cz,S.n7,S.acc,S.zS,S.ch,λh1=>aK (h.symm.trans h1) (show ¬(2:Nat)=1 by decide),S.w5,λz=>?_,?_,λh1=>aK h h1⟩
 .exact Cw (S.wf.yb) (eS _)
 .intro y hy e;rcases dY.mp hy with hy|hy
  .exact(S.wf.lead h).2 y hy e
  simp at hy;rw[hy];have:(p.props.length:Int)=(((view l).aQ p.af).length:Int):=by rw[cG]
  exact⟨hsr.1,this▸hsr.2⟩
 .refine Nd (n:=p.props.length) (by rw[Gg kh];exact hk) (S.wf.lead h).1 λk=>?_
  rw[gc];have Lk:=C3 (V:=view l) p.af p.af s k j
  by_cases nU:s=k
  .subst nU;rw[aq aa];show _=(look ((view l).aQ p.af) s).map _;rw[ho];show some (v,_)=some (v,_)
   congr 2
   rw[aq ⟨rfl,rfl⟩] at Lk;rw[Lk];refine F3 (wX ?_ (kB _) λx=>?_)
   .split
    .exact mu
    rename_i hc;rw[kX];exact⟨mu,by simp,λx hx y hy e=>hc (by simp at hy;rw[t8,<-hy,<-e];exact hx)⟩
   have UK:=kH x;unfold Ga at UK;rw[rE] at UK;rw[rE,dY,<-UK,eO];split
   .rename_i hc;rw[t8] at hc;exact⟨.inl,λh=>h.elim id λe=>e▸hc⟩
   rw[dY,eO]
  rw[ay nU];rw[ay (λh=>nU h.2)] at Lk;rw[Lk];exact S.ZH h k
 intro x hx;rcases Gh hx with hx|hx
 .exact S.pn x hx
 rw[hx];show(if ns.contains j then ns else ns++[j]).Nodup;split
 .exact mu
 rename_i hc;rw[kX];exact⟨mu,by simp,λx hx y hy e=>hc (by simp at hy;rw[t8,<-hy,<-e];exact hx)⟩
def HU(b b':bg)(s:Int)(v:Option Str):sZ {V with aL:=V.aL++[(b,(s,v))]} b'=if b=b' then V.aQ b'++[(s,v)] else V.aQ b':=by
 unfold sZ;dsimp only;rw[oh,eB]
 by_cases h:b=b'
 .rw[aq h,h];simp
 rw[ay h,vF (by simpa using h)];simp
def fC.adP{l:aY}(S:fC me size p (view l))(h:p.phase=2)(v:Option Str):
 fC me size {p with props:=put p.props ((p.props.length:Int)+1) (v,[p.me]),acc:=put p.acc ((p.props.length:Int)+1) (p.af,v)} (view (l++[.aL p.af ((p.props.length:Int)+1) v,.eV ((p.props.length:Int)+1,(p.af,v))]++[.yes p.af ((p.props.length:Int)+1) p.af.2])):=by
 intros me size p l v _ S h;let ⟨hk,cG⟩:=S.keys h;have hb:p.af.2=p.me:=(S.wf.own (h▸by decide)).trans S.me.symm;have hbm:p.af.2=me:=S.wf.own (h▸by decide)
 have CA:look p.props ((p.props.length:Int)+1)=none:=by
  rw[gB,hk,jk];exact λq=>qQ.mpr (vN (eS _)) q.2
 have k7:((view l).aQ p.af).map (·.1)=slots p.props.length:=by rw[(S.wf.lead h).1,cG]
 have SO:look ((view l).aQ p.af) ((p.props.length:Int)+1)=none:=by
  rw[gB,k7,jk];exact λq=>qQ.mpr (vN (eS _)) q.2
 have hl3:l++[Le p.af ((p.props.length:Int)+1) v,.eV ((p.props.length:Int)+1,(p.af,v))]=(l++[.aL p.af ((p.props.length:Int)+1) v])++[.eV ((p.props.length:Int)+1,(p.af,v))]:=by simp
 rw[IL,hl3,F7,Lg];have wj:∀b',sZ {view l with aL:=(view l).aL++[(p.af,((p.props.length:Int)+1,v))]} b'=if p.af=b' then(view l).aQ b'++[((p.props.length:Int)+1,v)] else(view l).aQ b':=λb'=>HU (V:=view l) p.af b' _ v
 have afe:∀y∈(view l).f9,¬(y.1=p.af/\y.2.1=(p.props.length:Int)+1):=λy hy e=>by
  have:=(S.wf.lead h).2 y hy e.1;rw[<-cG,e.2] at this;exact qQ.mpr (vN (eS _)) this.2
 refine⟨⟨S.wf.is,S.wf.nk,S.wf.own,S.wf.hb,?_,?_,λh1=>aK (h.symm.trans h1) (show ¬(2:Nat)=1 by decide),λh2=>⟨?_,?_⟩,?_⟩,S.me,S.size,S.fq,S.Cz,ku S.n7 _ _,?_,S.zS,S.ch,λh1=>aK (h.symm.trans h1) (show ¬(2:Nat)=1 by decide),S.w5,λz=>?_,?_,λh1=>aK h h1⟩
 .exact Cw (S.wf.ob) (⟨eS _,hbm⟩)
 .exact Cw (S.wf.yb) (eS _)
 .have e:=wj p.af;rw[aq aa] at e;show(sZ {view l with aL:=(view l).aL++[(p.af,((p.props.length:Int)+1,v))]} p.af).map (·.1)=slots ((sZ {view l with aL:=(view l).aL++[(p.af,((p.props.length:Int)+1,v))]} p.af).length:Int);rw[e,eB,k7,bU,<-cG];exact(sj p.props.length).symm
 .have e:=wj p.af;rw[aq aa] at e;intro y hy ey;show 1<=y.2.1/\y.2.1<=((sZ {view l with aL:=(view l).aL++[(p.af,((p.props.length:Int)+1,v))]} p.af).length:Int);rw[e,bU,<-cG];rcases dY.mp hy with hy|hy
  .have:=(S.wf.lead h).2 y hy ey;rw[<-cG] at this;exact⟨this.1,cN this.2 (gE.mpr (iE _ _))⟩
  rw[eO.mp hy];exact⟨JU (iS _),eS _⟩
 .intro b';show Nk (sZ {view l with aL:=(view l).aL++[(p.af,((p.props.length:Int)+1,v))]} b');rw[wj b'];split
  .rename_i e;subst e;rw[<-i9 SO];exact ku (S.wf.yk _) _ _
  exact S.wf.yk b'
 .show aI (put p.acc _ _)=aI (aS [] ((view l).cB++[_]));rw[zR];exact wW S.n7 (gH g7) S.acc _ _
 .refine Nd (n:=(p.props.length:Int)+1) (m:=(p.props.length:Int)+1) ?_ ?_ λk=>?_
  .rw[Cx,CA];show p.props.map (·.1)++_=_;rw[hk,sj]
  .show(sZ {view l with aL:=(view l).aL++[(p.af,((p.props.length:Int)+1,v))]} p.af).map (·.1)=_;rw[wj,aq aa,eB,k7,sj];rfl
  rw[gc]
  have e1:look (sZ {view l with aL:=(view l).aL++[(p.af,((p.props.length:Int)+1,v))]} p.af) k=if(p.props.length:Int)+1=k then some v else look ((view l).aQ p.af) k:=by
   rw[wj,aq aa,<-i9 SO,gc]
  have Lk:=C3 (V:=view l) p.af p.af ((p.props.length:Int)+1) k p.af.2;show _=qS _ (look (sZ {view l with aL:=(view l).aL++[(p.af,((p.props.length:Int)+1,v))]} p.af) k);rw[e1]
  by_cases nU:(p.props.length:Int)+1=k
  .subst nU;rw[aq aa,aq aa];rw[aq ⟨rfl,rfl⟩] at Lk;show some (v,d7 [p.me])=some (v,d7 (Ga {view l with f9:=(view l).f9++[(p.af,((p.props.length:Int)+1,p.af.2))]} p.af ((p.props.length:Int)+1)));rw[Lk]
   have:((view l).f9.filter λy=>decide (y.1=p.af/\y.2.1=(p.props.length:Int)+1))=[]:=by
    rw[JM];intro y hy;simpa using afe y hy
   rw[this,hb];rfl
  rw[ay nU,ay nU];rw[ay (λh=>nU h.2)] at Lk;show _=qS (λv=>(v,d7 (Ga {view l with f9:=(view l).f9++[(p.af,((p.props.length:Int)+1,p.af.2))]} p.af k))) _;rw[Lk];exact S.ZH h k
 intro x hx;rcases Gh hx with hx|hx
 .exact S.pn x hx
 rw[hx];simp
end
section
variable {me:Int}{size:Nat}{p:cA}{V:View}{l:aY}
theorem fC.out(S:fC me size p V)(x:List cR):fC me size {p with out:=x} V:=
 ⟨S.wf,S.me,S.size,S.fq,S.Cz,S.n7,S.acc,S.zS,S.ch,S.prom,S.w5,S.props,S.pn,S.lU⟩
theorem fC.aO(S:fC me size p (view l))(h:p.phase=2)(v:Option Str):
 ∃l' o,eE l size p.af ((p.props.length:Int)+1) v=(l',o)/\fC me size (p.aO ((p.props.length:Int)+1) v) (view l')/\(p.aO ((p.props.length:Int)+1) v).out=p.out++o/\
  (p.aO ((p.props.length:Int)+1) v).phase=2/\(p.aO ((p.props.length:Int)+1) v).af=p.af/\(p.aO ((p.props.length:Int)+1) v).props.length=p.props.length+1:=by
 intros me size p l v _ S h;have hb:p.af.2=p.me:=(S.wf.own (λe=>aK (h.symm.trans e) (by decide))).trans S.me.symm;have hk:=(S.keys h).1;have CA:look p.props ((p.props.length:Int)+1)=none:=by rw[gB,hk,jk];exact λh=>lz.2 h.2 (Pj _)
 have S1:=(S.adP h v).out (p.out++(mO p.size p.me).map λj=>.accept p.af p.me j ((p.props.length:Int)+1) v);let ⟨q,l',o,e1,e2,S2,e3,e4,e5,e6,z2,z3⟩:=S1.check h (s:=(p.props.length:Int)+1) (v:=v) (ns:=[p.me]) (by show look (put p.props _ _) _=_;rw[gc,aq aa]);clear z2;clear z3;refine⟨l',(mO size p.af.2).map (λj=>.accept p.af p.af.2 j ((p.props.length:Int)+1) v)++o,?_,?_,?_,?_,?_,?_⟩
 .unfold eE uN;dsimp only;dsimp only at e2;rw[e2]
 .have:p.aO ((p.props.length:Int)+1) v=q:=e1;rw[this];exact S2
 .have:p.aO ((p.props.length:Int)+1) v=q:=e1;rw[this,e3,hb,<-S.size];simp
 .have:p.aO ((p.props.length:Int)+1) v=q:=e1;rw[this];exact e4
 .have:p.aO ((p.props.length:Int)+1) v=q:=e1;rw[this];exact e5
 have:p.aO ((p.props.length:Int)+1) v=q:=e1;rw[this,e6];show(put p.props _ _).length=_;rw[i9 CA,bU];rfl
def UL(f:Int->Option Str)(S:fC me size p (view l))(h:p.phase=2)(h0:p.props=[]):∀n:Nat,∃q l' o,(slots (n:Int)).foldl (λq s=>q.aO s (f s)) p=q/\
 (slots (n:Int)).foldl (λr s=>let q:=eE r.1 size p.af s (f s);(q.1,r.2++q.2)) (l,[])=(l',o)/\fC me size q (view l')/\q.phase=2/\q.af=p.af/\q.props.length=n/\q.out=p.out++o:=by
 intros me size p l f _ S h h0;intro n
 induction n with
 |zero=>exact⟨p,l,[],rfl,rfl,S,h,rfl,by rw[h0];rfl,by simp⟩
 |succ n ih=>
  let ⟨q,l',o,e1,e2,Sq,e3,e4,e5,e6⟩:=ih;let ⟨l2,o2,f1,S2,f2,f3,f4,f5⟩:=Sq.aO e3 (f ((n:Int)+1));have hs:slots ((n+1:Nat):Int)=slots (n:Int)++[(n:Int)+1]:=sj n;rw[e5] at f1 f2 f3 f4 f5 S2;refine⟨_,l2,o++o2,rfl,?_,?_⟩
  .rw[hs,t9,e2,zb,O8];dsimp only;rw[<-e4,f1]
  rw[hs,t9,e1,zb,O8];exact⟨S2,f3,f4.trans e4,f5,by rw[f2,e6,jJ]⟩
def qx(k:Int):slots k=slots ((k.toNat:Nat):Int):=by unfold slots;congr 2
theorem fC.lead(S:fC me size p (view l))(h:p.phase=1)(hc:kC (p.prom.map (·.2)).flatten):
 ∃l' o,(if 2*((az l p.af).map (·.2)).length<=size then(l,[]) else dB size p.af (iA ((az l p.af).map (·.2)).flatten) (slots (dI ((iA ((az l p.af).map (·.2)).flatten).map (·.1)))) (l++[.is 2 p.af],[]))=(l',o)/\
  fC me size p.lead (view l')/\p.lead.out=p.out++o:=by
 intros me size p l _ S h hc;let ⟨h1,h2⟩:=S.prom h;have hp:p.prom.Perm (az l p.af):=AK h2;have cG:((az l p.af).map (·.2)).length=p.prom.length:=by rw[aR,hp.length_eq]
 unfold Lc;rw[cG,S.size]
 by_cases hm:2*p.prom.length<=size
 .rw[aq hm,aq hm];exact⟨l,[],rfl,S,by simp⟩
 rw[ay hm,ay hm];have kH:∀x,x∈(p.prom.map (·.2)).flatten↔x∈((az l p.af).map (·.2)).flatten:=λx=>((hp.map _).flatten).mem_iff
 have Nf:=(S.wf.yK h)
 have S1:fC me size {p with phase:=2,prom:=[]} (view (l++[.is 2 p.af])):=by
  rw[wZ];refine⟨⟨?_,S.wf.nk,λz=>S.wf.own (λe=>aK (h.symm.trans e) (by decide)),S.wf.hb,S.wf.ob,S.wf.yb,λh=>aK h (show ¬(2:Nat)=1 by decide),λz=>⟨?_,λy hy e=>aK e (Nf.2.2 y hy)⟩,S.wf.yk⟩,S.me,S.size,S.fq,S.Cz,S.n7,S.acc,S.zS,S.ch,λh=>aK h (show ¬(2:Nat)=1 by decide),λz=>rfl,λz=>?_,S.pn,λh=>aK aa h⟩
  .exact JN
  .show((view l).aQ p.af).map (·.1)=slots (((view l).aQ p.af).length:Int);rw[Nf.2.1];rfl
  show ql p.props=qN _ ((view l).aQ p.af);rw[Nf.2.1,S.lU (λe=>aK (h.symm.trans e) (by decide))];rfl
 let ⟨q,l',o,e1,e2,S2,z2,z3,z4,e3⟩:=UL (λs=>(look (dG (p.prom.map (·.2)).flatten) s).elim none (·.2)) S1 aa (S.lU (λe=>aK (h.symm.trans e) (by decide))) (dI ((dG (p.prom.map (·.2)).flatten).map (·.1))).toNat;clear z2;clear z3;clear z4;rw[<-qx] at e1 e2;rw[S.size] at e1;refine⟨l',o,?_,?_,?_⟩
 .rw[<-e2,UJ hc kH];unfold dB
  congr 1
  funext r s;rw[(Gf hc kH s).1]
 .rw[e1];exact S2
 rw[e1,e3]
def uQ(h:vs≠[])(x:bg):kP (vs++[x])=if fV (kP vs) x then x else kP vs:=by
 cases vs with
 |nil=>exact aK aa h
 |cons a vs=>show(vs++[x]).foldl _ a=_;rw[t9];rfl
def zT{l:List bf}(h:Nk l):kC l:=λx hx y hy e z=>by
 have h1:=h.look hx;have h2:=h.look hy;rw[e,h2] at h1;rw[eF h1]
def Ng{l m:List bf}(h:kC l)(hs:∀x∈m,x∈l):kC m:=λx hx y hy=>h x (hs x hx) y (hs y hy)
def CB(h:(iN l).getLast?=some (ph,b)):(iN l).getLastD (0,(0,0))=(ph,b):=uO h
def fC.abD(h:WF me (view l) ph b)(hv:fN l≠[]):fC me size (iJ (ao l me size)) (view l)/\(ao l me size).phase=ph/\(ao l me size).af=b:=by
 intros me size l ph b _ h hv;have hi:=CB h.is
 have e:ao l me size=⟨me,size,kP (fN l),aI (aS [] (cB l)),aI (bL l),ph,b,if ph=1 then aI (az l b) else[],if ph=2 then(aQ l b).map λx=>(x.1,(x.2,d7 (cZ l b x.1))) else[]⟩:=by
  unfold ao;rw[hi]
 rw[e];refine⟨?_,rfl,rfl⟩;have nt:Nk (aS [] (cB l)):=gH g7;refine⟨h,rfl,rfl,rfl,hv,gH g7,?_,gH g7,?_,?_,?_,?_,?_,?_⟩
 .show aI (aS [] (aI (aS [] (cB l))))=_;rw[gZ (gr nt),mC (nB nt)];rfl
 .show aI (aS [] (aI (bL l)))=_;rw[gZ (gr (l:=bL l) h.nk),mC (nB (l:=bL l) h.nk)];rfl
 .intro h1;have h1:ph=1:=h1;have hk:Nk (az l b):=(h.yK h1).1;show Nk (if ph=1 then aS [] (if ph=1 then aI (az l b) else[]) else[])/\aI (if ph=1 then aS [] (if ph=1 then aI (az l b) else[]) else[])=aI (az l b);rw[aq h1,aq h1];rw[gZ (gr hk),mC (nB hk)];exact⟨gr hk,rfl⟩
 .intro h1;exact ay h1
 .intro h2;have h2:ph=2:=h2;show ql (if ph=2 then aS [] ((if ph=2 then(aQ l b).map λx=>(x.1,(x.2,d7 (cZ l b x.1))) else[]).map λx=>(x.1,(x.2.1,j3 x.2.2))) else[])=_;rw[aq h2,aq h2,gZ]
  .unfold ql View.lst;rw[cV,cV];apply vE;intro x hx;simp only[EJ];have hn:(d7 (cZ l b x.1)).Nodup:=(ji _).nodup_iff.mpr (kB _);rw[M9 hn,Ra];rfl
  unfold Nk;rw[cV,cV];exact h.yk b
 .intro x hx;replace hx:x∈(if ph=2 then aS [] ((if ph=2 then(aQ l b).map λx=>(x.1,(x.2,d7 (cZ l b x.1))) else[]).map λx=>(x.1,(x.2.1,j3 x.2.2))) else[]):=hx;split at hx
  .have:∀(L acc:List (Int×(Option Str×List Int))),(∀x∈acc,x.2.2.Nodup)->(∀x∈L,x.2.2.Nodup)->∀x∈aS acc L,x.2.2.Nodup:=by
    intro L
    induction L with
    |nil=>exact λacc h z=>h
    |cons a L ih=>exact λacc h h'=>ih _ (λx hx=>(Gh hx).elim (h x) λe=>e▸h' a (.head _)) λx hx=>h' x (.tail _ hx)
   refine this _ [] (by simp) ?_ x hx;intro x hx;let ⟨y,hy,e⟩:=cg.mp hx;rw[<-e];exact kB _
  cases hx
 intro h2;exact ay h2
end
def n0{α:Type}{p:α->Prop}:∀x∈([]:List α),p x:=WU _
def n1{α:Type}{p:α->Prop}{a:α}(h:p a):∀x∈[a],p x:=List.forall_mem_singleton.mpr h
def nA{α:Type}{p:α->Prop}{l m:List α}(h:∀x∈l,p x)(k:∀x∈m,p x):∀x∈l++m,p x:=vG.mpr ⟨h,k⟩
section
variable {me:Int}{size:Nat}{p:cA}{V:View}{l:aY}{ph:Nat}{b x:bg}{n:Node}{s f t:Int}{v:Option Str}{ks:List bf}
def w7(me:Int)(l:aY)(ph:Nat)(b:bg):Prop:=WF me (view l) ph b/\fN l≠[]
structure vf(p:cA)(n:Node):Prop where
 me:n.me=p.me
 size:n.size=p.size
 pr:n.promised=p.promised
 acc:n.acc=aI p.acc
 cho:aS [] n.ak=p.ak
 ph:n.phase=p.phase
 Dw:n.af=p.af
 hp:p.phase=1->aS [] n.hp=p.prom
 hl:n.hl=if p.phase=2 then ql p.props else[]
 out:p.out=[]
abbrev HV(me:Int)(size:Nat)(l:aY)(p:cA)(n:Node)(e:eZ):Prop:=∃l',aH l n e=(l',(p.event e).out)/\fC me size (p.event e) (view l')
theorem vf.of(S:fC me size (iJ n) (view l))(h:(iJ n).tup=n):vf (iJ n) n:=
 ⟨rfl,rfl,rfl,(cj Node.acc h).symm,rfl,rfl,rfl,λq=>(aq q).symm,by
  refine(cj Node.hl h).symm.trans ?_;show(if _ then se _ else _)=_;split
  .rename_i q;unfold se;rw[mC (w6 (S.keys q).1)];rfl
  rfl,rfl⟩
theorem fC.own(S:fC me size p V)(h:p.phase≠0):p.af.2=p.me:=(S.wf.own h).trans S.me.symm
def IQ(x y:Ent):l++[x,y]=(l++[x])++[y]:=(jJ l [x] [y]).symm
def AP(b b':bg)(j:Int)(ks:List bf):Rd {V with cE:=V.cE++[(b,(j,ks))]} b'=if b=b' then V.az b'++[(j,ks)] else V.az b':=by
 unfold Rd;dsimp only;rw[oh,eB]
 by_cases h:b=b'
 .rw[aq h,ze (by exact decide_eq_true h)];rfl
 rw[ay h,vF (by exact λq=>h (fG q))];exact iW _
def Gi{α:Type}{xs:List (bg×α)}(h:∀x∈xs,x.1≠b):(xs.filter λx=>decide (x.1=b)).map (·.2)=[]:=by
 rw[JM.mpr λx hx q=>h x hx (fG q)];rfl
def yM(h:∀x∈V.cE,x.1≠b):V.az b=[]:=Gi h
def Gj(h:∀x∈V.aL,x.1≠b):V.aQ b=[]:=Gi h
def nk1{α:Type}(p:Int×α):Nk [p]:=ir.mpr ⟨pK,qM⟩
def fC.run(S:fC me size p (view l))(h1:p.af.1<x.1)(h2:p.promised.1<x.1)(h3:x.2=me)(o:List cR):
 fC me size {p with af:=x,promised:=x,phase:=1,props:=[],prom:=[(p.me,aI p.acc)],out:=o} (view (l++[.fq x,.is 1 x]++[.cL x p.me (aI p.acc)])):=by
 intros me size p l x o _ S h1 h2 h3
 have hv:view (l++[.fq x,.is 1 x]++[.cL x p.me (aI p.acc)])={view l with fN:=(view l).fN++[x],iN:=(view l).iN++[(1,x)],cE:=(view l).cE++[(x,(p.me,aI p.acc))]}:=by
  rw[C1,IQ,wZ,IK]
 have lt:∀{y:bg},y.1<=p.af.1->y≠x:=λh e=>lY _ (BN h1 (e▸h))
 have hh:Rd {view l with fN:=(view l).fN++[x],iN:=(view l).iN++[(1,x)],cE:=(view l).cE++[(x,(p.me,aI p.acc))]} x=[(p.me,aI p.acc)]:=by
  refine(AP (V:=view l) x x ..).trans ?_;rw[aq aa,yM λy hy=>lt (S.wf.hb y hy)];rfl
 have le:∀{a:Int},a<=p.af.1->a<=x.1:=λh=>cN h (jR h1)
 rw[hv];exact⟨⟨JN,S.wf.nk,λz=>h3,nA (λy hy=>le (S.wf.hb y hy)) (n1 (eS _)),λy hy=>⟨le (S.wf.ob y hy).1,(S.wf.ob y hy).2⟩,λy hy=>le (S.wf.yb y hy),λz=>⟨hh▸nk1 _,Gj λy hy=>lt (S.wf.ob y hy).1,λy hy=>lt (S.wf.yb y hy)⟩,λh=>(nomatch h),S.wf.yk⟩,S.me,S.size,
  by rw[uQ S.Cz,aq (tL.mpr (.inl (S.fq▸h2)))],WV _ (n9 _ _),S.n7,S.acc,S.zS,S.ch,λz=>⟨nk1 _,by rw[hh]⟩,λh=>aK aa h,λh=>(nomatch h),n0,λz=>rfl⟩
def Ri(S:fC me size p (view l))(N:vf p n):HV me size l p n .run:=by
 intros me size p l n _ S N;obtain⟨x,hx,h1,h2⟩:∃x:bg,x=(max p.promised.1 p.af.1+1,p.me)/\p.af.1<x.1/\p.promised.1<x.1:=⟨_,rfl,vN (vM _ _),vN (EA _ _)⟩;have MU:x.2=p.me:=hx▸rfl
 let ⟨l',o,f1,S2,f2⟩:=(S.run h1 h2 (MU.trans S.me) (p.out++(mO p.size p.me).map λj=>.prepare x p.me j)).lead aa (by
  show kC (aI p.acc++[]);rw[iW];exact zT (gr S.n7))
 have fO:p.event .run=Lc {p with af:=x,promised:=x,phase:=1,props:=[],prom:=[(p.me,aI p.acc)],out:=p.out++(mO p.size p.me).map λj=>.prepare x p.me j}:=by rw[hx];rfl
 have rH:aH l n .run=((j4 (l++[.fq x,.is 1 x]) size x p.me (aI p.acc)).1,(mO size x.2).map (λj=>.prepare x x.2 j)++(j4 (l++[.fq x,.is 1 x]) size x p.me (aI p.acc)).2):=by
  unfold aH;rw[N.pr,N.Dw,N.me,N.size,N.acc,S.size,<-hx]
 have f1:j4 (l++[.fq x,.is 1 x]) size x p.me (aI p.acc)=(l',o):=f1;exact⟨l',by rw[rH,f1,fO,f2,N.out,S.size,MU];rfl,fO▸S2⟩
def Gk(S:fC me size p (view l))(N:vf p n):HV me size l p n (.aO v):=by
 intros me size p l n v _ S N
 by_cases h2:p.phase=2
 .have hk:=S.keys h2;let ⟨l',o,f1,S1,f2,_⟩:=S.aO h2 v
  have fO:p.event (.aO v)=p.aO ((p.props.length:Int)+1) v:=by
   refine(aq h2).trans ?_;rw[hk.1,Na]
  have rH:aH l n (.aO v)=eE l size p.af ((p.props.length:Int)+1) v:=by
   refine(aq (N.ph.trans h2)).trans ?_;rw[N.hl,aq h2,N.size,S.size,N.Dw,ql,aR]
  exact⟨l',by rw[rH,fO,f1,f2,N.out];rfl,fO▸S1⟩
 have fO:p.event (.aO v)=p:=ay h2;exact⟨l,by rw[fO,N.out];exact ay (N.ph▸h2),fO.symm▸S⟩
def Gl(l:List Int)(j:Int):(d7 l).contains j=l.contains j:=by
 rw[Pu,t8,t8,xU]
def Ll(S:fC me size p (view l))(N:vf p n):HV me size l p n .again:=by
 intros me size p l n _ S N
 have key:n.again=p.uM:=by
  unfold Ld Cy;rw[N.ph,N.Dw,N.me,N.size,N.cho]
  by_cases h1:p.phase=1
  .rw[aq h1,aq h1,N.hp h1]
  rw[ay h1,ay h1,N.hl]
  by_cases h2:p.phase=2
  .rw[aq h2,aq h2,mC (w6 (S.keys h2).1),S.own (by rw[h2];decide),ql,List.flatMap_map]
   congr 1
   funext y;show(if _ then _ else qN _ (Pb (λj=>!(d7 y.2.2).contains j) _))=_;rw[funext (Gl y.2.2)]
  rw[ay h2,ay h2];rfl
 exact⟨l,by rw[show p.event .again={p with out:=p.out++p.uM} from rfl,N.out,<-key];rfl,S.out _⟩
def UM(h:vs≠[])(hx:fV x (kP vs)=false):kP (vs++[x])=x:=by
 rw[uQ h];split
 .rfl
 rename_i hn;exact tM (zk.mpr hn) hx
def fC.idle(S:fC me size p (view l)){b:bg}(hb:p.af.1<=b.1):fC me size {p with phase:=0,af:=b,prom:=[],props:=[]} {view l with iN:=(view l).iN++[(0,b)]}:=
 ⟨⟨JN,S.wf.nk,λh=>aK aa h,λy hy=>cN (S.wf.hb y hy) hb,λy hy=>⟨cN (S.wf.ob y hy).1 hb,(S.wf.ob y hy).2⟩,λy hy=>cN (S.wf.yb y hy) hb,λh=>(nomatch h),λh=>(nomatch h),S.wf.yk⟩,S.me,S.size,S.fq,S.Cz,S.n7,S.acc,S.zS,S.ch,λh=>(nomatch h),λz=>rfl,λh=>(nomatch h),n0,λz=>rfl⟩
def fC.ZJ(S:fC me size p (view l))(hx:fV x p.promised=false):fC me size (p.dF x) (view (l++[.fq x,.is (if x.2≠p.me then 0 else p.phase) p.af])):=by
 intros me size p l x _ S hx;have hv:kP ((view l).fN++[x])=x:=UM S.Cz (S.fq▸hx);rw[IQ,wZ,IK];unfold cA.dF;have dg:(view l).fN++[x]≠[]:=WV _ (n9 _ _);split
 .have T:=S.idle (eS p.af.1);exact⟨⟨T.wf.is,T.wf.nk,T.wf.own,T.wf.hb,T.wf.ob,T.wf.yb,T.wf.yK,T.wf.lead,T.wf.yk⟩,T.me,T.size,hv.symm,dg,T.n7,T.acc,T.zS,T.ch,T.prom,T.w5,T.props,T.pn,T.lU⟩
 exact⟨⟨JN,S.wf.nk,S.wf.own,S.wf.hb,S.wf.ob,S.wf.yb,S.wf.yK,S.wf.lead,S.wf.yk⟩,S.me,S.size,hv.symm,dg,S.n7,S.acc,S.zS,S.ch,S.prom,S.w5,S.props,S.pn,S.lU⟩
def kD(x:bg):(p.dF x).out=p.out/\(p.dF x).me=p.me/\(p.dF x).acc=p.acc/\(p.dF x).af=p.af:=by
 unfold cA.dF;split<;>exact⟨rfl,rfl,rfl,rfl⟩
def Gm(S:fC me size p (view l))(N:vf p n):HV me size l p n (.msg (.prepare x f t)):=by
 intros me size p l x n f t _ S N;cases hb:fV x p.promised with
 |true=>
  have fO:p.event (.msg (.prepare x f t))={p with out:=p.out++[.refuse x p.me f p.promised]}:=aq hb;exact⟨l,by rw[fO,N.out];refine(aq (N.pr▸hb)).trans ?_;rw[N.me,N.pr];rfl,fO▸S.out _⟩
 |false=>
  have hb':¬fV x p.promised=true:=zk.mp hb;let ⟨q1,q2,q3,z2⟩:=kD (p:=p) x;clear z2
  have fO:p.event (.msg (.prepare x f t))={p.dF x with out:=[.promise x p.me f (aI p.acc)]}:=by
   refine(ay hb').trans ?_;dsimp only;rw[q1,q2,q3,N.out];rfl
  exact⟨_,by rw[fO];refine(ay (N.pr▸hb')).trans ?_;rw[N.me,N.ph,N.Dw,N.acc],fO▸(S.ZJ hb).out _⟩
def HW(S:fC me size p (view l))(N:vf p n):HV me size l p n (.msg (.accept x f t s v)):=by
 intros me size p l x n s f t v _ S N;cases hb:fV x p.promised with
 |true=>
  have fO:p.event (.msg (.accept x f t s v))={p with out:=p.out++[.refuse x p.me f p.promised]}:=aq hb;exact⟨l,by rw[fO,N.out];refine(aq (N.pr▸hb)).trans ?_;rw[N.me,N.pr];rfl,fO▸S.out _⟩
 |false=>
  have hb':¬fV x p.promised=true:=zk.mp hb;let ⟨q1,q2,q3,z2⟩:=kD (p:=p) x;clear z2
  have fO:p.event (.msg (.accept x f t s v))={p.dF x with acc:=put (p.dF x).acc s (x,v),out:=[.accepted x p.me f s]}:=by
   refine(ay hb').trans ?_;dsimp only;rw[q1,q2,N.out];rfl
  have T:=S.ZJ hb;refine⟨l++[.fq x,.is (if x.2≠p.me then 0 else p.phase) p.af]++[.eV (s,(x,v))],by rw[fO,jJ];refine(ay (N.pr▸hb')).trans ?_;rw[N.me,N.ph,N.Dw];rfl,?_⟩;rw[fO,F7];exact⟨⟨T.wf.is,T.wf.nk,T.wf.own,T.wf.hb,T.wf.ob,T.wf.yb,T.wf.yK,T.wf.lead,T.wf.yk⟩,T.me,T.size,T.fq,T.Cz,ku T.n7 _ _,by
   show aI (put _ _ _)=aI (aS [] (_++[(s,(x,v))]));rw[zR];exact wW T.n7 (gH g7) T.acc _ _,T.zS,T.ch,T.prom,T.w5,T.props,T.pn,T.lU⟩
def HX(S:fC me size p (view l))(N:vf p n):HV me size l p n (.msg (.ak x f t s v)):=by
 intros me size p l x n s f t v _ S N;have rH:aH l n (.msg (.ak x f t s v))=(if(look (aS [] n.ak) s).isSome then l else l++[.bL s v],[]):=rfl;have fO:p.event (.msg (.ak x f t s v))={p with ak:=if(look p.ak s).isSome then p.ak else put p.ak s v}:=rfl;rw[N.cho] at rH;cases hc:look p.ak s with
 |some w=>
  rw[hc] at rH fO;have fO:p.event (.msg (.ak x f t s v))=p:=fO;exact⟨l,by rw[rH,fO,N.out];rfl,fO.symm▸S⟩
 |none=>
  rw[hc] at rH fO;have hn:look (bL l) s=none:=(S.Rc s).symm.trans hc;have fO:p.event (.msg (.ak x f t s v))={p with ak:=put p.ak s v}:=fO;refine⟨l++[.bL s v],by rw[rH,fO];exact cj _ N.out.symm,?_⟩;rw[fO,C0];have e:bL l++[(s,v)]=put (bL l) s v:=(i9 hn v).symm;exact⟨⟨S.wf.is,e▸ku S.wf.nk _ _,S.wf.own,S.wf.hb,S.wf.ob,S.wf.yb,S.wf.yK,S.wf.lead,S.wf.yk⟩,S.me,S.size,S.fq,S.Cz,S.n7,S.acc,ku S.zS _ _,e▸wW S.zS S.wf.nk S.ch _ _,S.prom,S.w5,S.props,S.pn,S.lU⟩
def HY(S:fC me size p (view l))(N:vf p n):HV me size l p n (.msg (.refuse x f t r)):=by
 intros me size p l x n f t r _ S N;have rH:aH l n (.msg (.refuse x f t r))=(if x=n.af/\n.phase≠0/\fV n.af r=true then l++[.is 0 (r.1,n.me)] else l,[]):=rfl;rw[N.Dw,N.ph,N.me] at rH
 by_cases hc:x=p.af/\p.phase≠0/\fV p.af r=true
 .have fO:p.event (.msg (.refuse x f t r))={p with af:=(r.1,p.me),phase:=0,prom:=[],props:=[]}:=aq hc;rw[aq hc] at rH;refine⟨_,by rw[rH,fO];exact cj _ N.out.symm,?_⟩;rw[fO,wZ];exact S.idle (b:=(r.1,p.me)) ((tL.mp hc.2.2).elim jR λh=>vK h.1)
 have fO:p.event (.msg (.refuse x f t r))=p:=ay hc;rw[ay hc] at rH;exact⟨l,by rw[rH,fO,N.out],fO.symm▸S⟩
def Gn(S:fC me size p (view l))(N:vf p n)(hc:p.phase=1->x=p.af->kC (((az l p.af).map (·.2)).flatten++ks)):HV me size l p n (.msg (.promise x f t ks)):=by
 intros me size p l x n f t ks _ S N hc
 by_cases Gp:x=p.af/\p.phase=1/\look p.prom f=none
 .have fO:p.event (.msg (.promise x f t ks))=({p with prom:=put p.prom f ks}).lead:=aq Gp;let ⟨hx,h1,qX⟩:=Gp
  have rH:aH l n (.msg (.promise x f t ks))=j4 l size p.af f ks:=by
   refine(aq ⟨hx.trans N.Dw.symm,N.ph.trans h1,N.hp h1▸qX⟩).trans ?_;rw[N.Dw,N.size,S.size]
  let ⟨n1',n2⟩:=S.prom h1;have Rj:Nk ((view l).az p.af):=(S.wf.yK h1).1;have hhn:look ((view l).az p.af) f=none:=(uL n1' Rj n2 f).symm.trans qX;have hh:=AP (V:=view l) p.af p.af f ks;rw[aq aa,<-i9 hhn] at hh;have h2:¬p.phase=2:=λh=>nomatch h1.symm.trans h
  have S1:fC me size {p with prom:=put p.prom f ks} (view (l++[.cL p.af f ks])):=by
   rw[C1];exact⟨⟨S.wf.is,S.wf.nk,S.wf.own,nA S.wf.hb (n1 (eS _)),S.wf.ob,S.wf.yb,λy=>⟨by rw[hh];exact ku Rj _ _,(S.wf.yK h1).2⟩,λh=>aK h h2,S.wf.yk⟩,S.me,S.size,S.fq,S.Cz,S.n7,S.acc,S.zS,S.ch,λy=>⟨ku n1' _ _,by rw[hh];exact wW n1' Rj n2 _ _⟩,λh=>aK h1 h,λh=>aK h h2,S.pn,S.lU⟩
  let ⟨l',o,f1,S2,f2⟩:=S1.lead h1 (Ng (hc h1 hx) λy hy=>by
   rw[i9 qX,eB,vD] at hy;exact dY.mpr ((dY.mp hy).imp ((((AK n2).map _).flatten).mem_iff.mp) λh=>(iW ks)▸h))
  have f1:j4 l size p.af f ks=(l',o):=f1;exact⟨l',by rw[rH,f1,fO,f2];exact cj (λz=>(l',z++o)) N.out.symm,fO▸S2⟩
 have fO:p.event (.msg (.promise x f t ks))=p:=ay Gp;exact⟨l,by rw[fO,N.out];exact ay λh:x=n.af/\n.phase=1/\look (aS [] n.hp) f=none=>Gp ⟨h.1.trans N.Dw,N.ph.symm.trans h.2.1,N.hp (N.ph.symm.trans h.2.1)▸h.2.2⟩,fO.symm▸S⟩
def UN{α:Type}{ps:List (Int×α)}{n:Int}(h:ps.map (·.1)=slots n){s:Int}{x:α}(hs:look ps s=some x):ps[(s-1).toNat]?=some (s,x):=by
 refine aM λhN=>?_;obtain⟨i,hi,e⟩:_:=Pc (gY hs);refine hN ?_
 have hk:(ps.map (·.1))[i]?=some s:=by rw[dh,iF hi,e];rfl
 have hn:i<n.toNat:=by have:=cj ua h;rw[aR,slots,aR,pM] at this;exact this▸hi
 rw[h,slots,dh,BD hn] at hk;have hs:(i:Int)+1=s:=eF hk;rw[<-hs,show((i:Int)+1-1).toNat=i from cj Int.toNat (Xi _ 1),iF hi,e,hs]
def Dy(S:fC me size p (view l))(N:vf p n)(h1s:1<=s):HV me size l p n (.msg (.accepted x f t s)):=by
 intros me size p l x n s f t _ S N h1s
 by_cases Gp:x=p.af/\p.phase=2
 .have fO:p.event (.msg (.accepted x f t s))=(match look p.props s with
   |some (v,ns)=>({p with props:=put p.props s (v,if ns.contains f then ns else ns++[f])}).check s
   |none=>p):=aq Gp
  let ⟨hx,h2⟩:=Gp;have oj:=S.ZE h2 s;have hl:n.hl=ql p.props:=N.hl.trans (aq h2);have cG:n.hl.length=p.props.length:=by rw[hl,ql,aR]
  cases ng:look p.props s with
  |none=>
   rw[ng] at fO oj;have fO:p.event (.msg (.accepted x f t s))=p:=fO;exact⟨l,by rw[fO,N.out];exact ay λh:x=n.af/\n.phase=2/\s<=(n.hl.length:Int)=>of_decide_eq_false oj.symm ⟨h1s,cG▸h.2.2⟩,fO.symm▸S⟩
  |some vn=>
   rw[ng] at fO oj;let ⟨q,l',o,g1,g2,S2,g3,_⟩:=(S.afd h2 ng f).check h2 (s:=s) (v:=vn.1) (ns:=if vn.2.contains f then vn.2 else vn.2++[f]) (by show look (put p.props _ _) _=_;rw[gc,aq aa]);have fO:p.event (.msg (.accepted x f t s))=q:=fO.trans g1
   have rH:aH l n (.msg (.accepted x f t s))=(l',o):=by
    refine(aq ⟨hx.trans N.Dw.symm,N.ph.trans h2,cG▸(fG oj.symm).2⟩).trans ?_;rw[hl,ql,dh,UN (S.keys h2).1 ng,N.Dw,N.size,S.size];exact g2
   exact⟨l',by rw[rH,fO,g3];exact cj (λz=>(l',z++o)) N.out.symm,fO▸S2⟩
 have fO:p.event (.msg (.accepted x f t s))=p:=ay Gp;exact⟨l,by rw[fO,N.out];exact ay λh:x=n.af/\n.phase=2/\s<=(n.hl.length:Int)=>Gp ⟨h.1.trans N.Dw,N.ph.symm.trans h.2.1⟩,fO.symm▸S⟩
end
section
def nE(size:Nat)(j:Int):Prop:=0<=j/\j<size
def qy(R:Int)(b:bg):Prop:=0<=b.1/\b.1<=R
def qa(size:Nat)(R P:Int)(led:bf->Prop):cR->Prop
 |.prepare b f t=>qy R b/\nE size f/\nE size t
 |.promise b f t ks=>qy R b/\nE size f/\nE size t/\Nk ks/\∀it∈ks,led it
 |.refuse b f t r=>qy R b/\nE size f/\nE size t/\qy R r
 |.accept b f t s v=>qy R b/\nE size f/\nE size t/\led (s,(b,v))
 |.accepted b f t s=>qy R b/\nE size f/\nE size t/\1<=s/\s<=P
 |.ak b f t s v=>qy R b/\nE size f/\nE size t/\1<=s/\s<=P
noncomputable def cR.dH:cR->Bool
 |.promise ..=>true
 |_=>false
structure EL(size:Nat)(R P:Int)(led:bf->Prop)(l:aY):Prop where
 fq:∀v∈fN l,qy R v
 is:∀v∈iN l,v.1<=2/\qy R v.2/\(v.1≠0->1<=v.2.1)
 eV:∀v∈cB l,led v
 know:∀v∈bL l,1<=v.1/\v.1<=P
 cL:∀v∈cE l,Nk v.2.2/\∀it∈v.2.2,led it
 off:∀v∈aL l,1<=v.1.1/\1<=v.2.1/\v.2.1<=P
 yes:∀v∈f9 l,nE size v.2.2
def rI(l:aY):Nat×bg:=(iN l).getLastD (0,(0,0))
structure LH(size:Nat)(R P:Int)(led:bf->Prop)(l:aY):Prop extends EL size R P led l where
 pF:∀b',Nk (az l b')
 maj:∀x∈aL l,size<2*(az l x.1).length
structure LG(size:Nat)(R P:Int)(led:bf->Prop)(l:aY):Prop extends LH size R P led l where
 few:(rI l).1=1->2*(az l (rI l).2).length<=size
 many:(rI l).1=2->size<2*(az l (rI l).2).length
def qy.mono(hR:R<=R')(h:qy R b):qy R' b:=⟨h.1,cN h.2 hR⟩
section
variable {size:Nat}{R R' P P':Int}{led Gq:bf->Prop}(hR:R<=R')(hP:P<=P')(hl:∀it,led it->Gq it)
include hR hP hl
theorem qa.mono{m:cR}:qa size R P led m->qa size R' P' Gq m:=
 m.rec (λz z z h=>⟨h.1.mono hR,h.2⟩) (λz z z z h=>⟨h.1.mono hR,h.2.1,h.2.2.1,h.2.2.2.1,λit hi=>hl it (h.2.2.2.2 it hi)⟩) (λz z z z h=>⟨h.1.mono hR,h.2.1,h.2.2.1,h.2.2.2.mono hR⟩) (λz z z z z h=>⟨h.1.mono hR,h.2.1,h.2.2.1,hl _ h.2.2.2⟩) (λz z z z h=>⟨h.1.mono hR,h.2.1,h.2.2.1,h.2.2.2.1,cN h.2.2.2.2 hP⟩) (λz z z z z h=>⟨h.1.mono hR,h.2.1,h.2.2.1,h.2.2.2.1,cN h.2.2.2.2 hP⟩)
theorem EL.mono(h:EL size R P led l):EL size R' P' Gq l:=
 ⟨λx hx=>(h.fq x hx).mono hR,λx hx=>let k:=h.is x hx;⟨k.1,k.2.1.mono hR,k.2.2⟩,λx hx=>hl x (h.eV x hx),λx hx=>let k:=h.know x hx;⟨k.1,cN k.2 hP⟩,λx hx=>let k:=h.cL x hx;⟨k.1,λit hi=>hl it (k.2 it hi)⟩,λx hx=>let k:=h.off x hx;⟨k.1,k.2.1,cN k.2.2 hP⟩,h.yes⟩
theorem LG.mono(h:LG size R P led l):LG size R' P' Gq l:=⟨⟨h.toEL.mono hR hP hl,h.pF,h.maj⟩,h.few,h.many⟩
end
variable {size:Nat}{R P yF pB:Int}{led kE:bf->Prop}{l:aY}{b:bg}{s:Int}{v:Option Str}{ph:Nat}{me:Int}
def CC(h:j∈b9 n):nE n j:=by
 let ⟨i,hi,zy⟩:=cg.mp h;exact⟨iS i,kG.mpr (O9.mp hi)⟩
def AQ{me j:Int}(h:j∈mO size me):nE size j:=CC (sE.mp h).1
def uR(n:Nat):(b9 n).length=n:=(aR _).trans pM
def Nh(me:Int):(mO size me).length<=size:=aG (sD _ _) (fF (uR size))
def Lm{α:Type}{f:Ent->Option α}{p:α->Prop}{l m:aY}(h:∀x∈l.filterMap f,p x)(k:∀x∈m.filterMap f,p x):∀x∈(l++m).filterMap f,p x:=by
 rw[mS];exact vG.mpr ⟨h,k⟩
def EL.cat{m:aY}(h:EL size R P led l)(k:EL size R P led m):EL size R P led (l++m):=
 ⟨Lm h.fq k.fq,Lm h.is k.is,Lm h.eV k.eV,Lm h.know k.know,Lm h.cL k.cL,Lm h.off k.off,Lm h.yes k.yes⟩
def EL.v1(h:qy R b):EL size R P led [.fq b]:=⟨n1 h,n0,n0,n0,n0,n0,n0⟩
def EL.i1(h:ph<=2/\qy R b/\(ph≠0->1<=b.1)):EL size R P led [.is ph b]:=⟨n0,n1 h,n0,n0,n0,n0,n0⟩
def EL.t1{it:bf}(h:led it):EL size R P led [.eV it]:=⟨n0,n0,n1 h,n0,n0,n0,n0⟩
def EL.k1(h:1<=s/\s<=P):EL size R P led [.bL s v]:=⟨n0,n0,n0,n1 h,n0,n0,n0⟩
def EL.h1{j:Int}{ks:List bf}(h:Nk ks/\∀it∈ks,led it):EL size R P led [.cL b j ks]:=⟨n0,n0,n0,n0,n1 h,n0,n0⟩
def EL.o1(h:1<=b.1/\1<=s/\s<=P):EL size R P led [.aL b s v]:=⟨n0,n0,n0,n0,n0,n1 h,n0⟩
def EL.y1{j:Int}(h:nE size j):EL size R P led [.yes b s j]:=⟨n0,n0,n0,n0,n0,n0,n1 h⟩
def qz(l xs:aY)(b:bg):az (l++xs) b=az l b++az xs b:=by
 unfold az cE;rw[mS,oh,eB]
def tO(l:aY)(h:iN xs=[x]):rI (l++xs)=x:=by
 unfold rI iN;rw[mS,show xs.filterMap _=_ from h,List.getLastD_concat]
def DK(l:aY){xs:aY}(h:iN xs=[]):rI (l++xs)=rI l:=by
 unfold rI iN;rw[mS,show xs.filterMap _=_ from h,iW]
def UO(l:aY)(h0:cE xs=[])(b:bg):az (l++xs) b=az l b:=by
 rw[qz,show az xs b=[] by unfold az;rw[h0];rfl,iW]
theorem LH.cat(h:LH size R P led l){xs:aY}(h0:cE xs=[])(hx:EL size R P led xs)(ho:∀x∈aL xs,size<2*(az l x.1).length):LH size R P led (l++xs):=
 have e:=UO l h0
 ⟨h.toEL.cat hx,λb=>(e b).symm▸h.pF b,Lm (λx hx=>(e x.1).symm▸h.maj x hx) λx hx=>(e x.1).symm▸ho x hx⟩
def LH.lg(h:LH size R P led l)(hc:rI l=c)(hf:c.1=1->2*(az l c.2).length<=size)(hm:c.1=2->size<2*(az l c.2).length):LG size R P led l:=
 ⟨h,hc.symm▸hf,hc.symm▸hm⟩
def LG.app(h:LG size R P led l)(hc:rI (l++xs)=c)(h0:cE xs=[])(hx:EL size R P led xs)(ho:∀x∈aL xs,size<2*(az l x.1).length)
 (hf:c.1=1->2*(az l c.2).length<=size) (hm:c.1=2->size<2*(az l c.2).length):LG size R P led (l++xs):=
 (h.toLH.cat h0 hx ho).lg hc (by rw[UO l h0];exact hf) (by rw[UO l h0];exact hm)
def LG.add(h:LG size R P led l){xs:aY}(hi:iN xs=[])(h0:cE xs=[])(hx:EL size R P led xs)(ho:∀x∈aL xs,size<2*(az l x.1).length):LG size R P led (l++xs):=
 h.app (DK l hi) h0 hx ho h.few h.many
structure zU(size:Nat)(R P:Int)(led:bf->Prop)(l:aY)(nl no:Nat)(hs:List (bg×(Int×List bf)))(pr:Prop)(r:aY×List cR):Prop where
 lg:LG size R P led r.1
 ok:∀m∈r.2,qa size R P led m
 np:∀m∈r.2,m.dH=true->pr
 pre:∃x,r.1=l++x/\x.length<=nl/\cE x=hs
 few:r.2.length<=no
def zU.nil{nl no:Nat}(h:LG size R P led l):zU size R P led l nl no [] pr (l,[]):=⟨h,n0,n0,⟨[],(iW l).symm,b8 _,rfl⟩,b8 _⟩
def zU.wide{nl no ZK ZL:Nat}(h:zU size R P led l nl no hs pr r)(h1:nl<=ZK)(h2:no<=ZL)(h3:pr->pr'):zU size R P led l ZK ZL hs pr' r:=
 ⟨h.lg,h.ok,λm hm q=>h3 (h.np m hm q),(let ⟨x,e,z,k⟩:=h.pre;⟨x,e,aG z h1,k⟩),aG h.few h2⟩
def zU.Ni{xs:aY}{o:List cR}{r:aY×List cR}{nl no ZK ZL:Nat}{hs kh:List (bg×(Int×List bf))}{pr:Prop}(h:zU size R P led (l++xs) nl no hs pr r)(hx:xs.length+nl<=ZK)(hh:cE xs++hs=kh)(ho:∀m∈o,qa size R P led m)(hp:∀m∈o,m.dH=true->pr)(hn:o.length+no<=ZL):zU size R P led l ZK ZL kh pr (r.1,o++r.2):=
 ⟨h.lg,vG.mpr ⟨ho,h.ok⟩,vG.mpr ⟨hp,h.np⟩,(let ⟨x,e,z,k⟩:=h.pre;⟨xs++x,e.trans (jJ ..),by rw[bU];exact aG (ff z _) hx,by rw[<-hh,<-k];exact mS⟩),by rw[bU];exact aG (ff h.few _) hn⟩
def lJ{Q:cR->Prop}{f:Int->cR}{js:List Int}(h:∀j∈js,Q (f j)):∀m∈js.map f,Q m:=λm hm=>let ⟨j,hj,e⟩:=cg.mp hm;e▸h j hj
def AR{f:Int->cR}(me:Int):((mO size me).map f).length<=size:=aG (fF (aR _)) (Nh me)
def Gr{pr:Prop}(h:LG size R P led l)(hs:1<=s/\s<=P)(hb:qy R b)(fD:nE size b.2):zU size R P led l 1 size [] pr (jj l size b s v)/\rI (jj l size b s v).1=rI l:=by
 unfold jj;split
 .exact⟨.nil h,rfl⟩
 exact⟨⟨h.add aa aa (.k1 hs) n0,lJ λj hj=>⟨hb,fD,AQ hj,hs⟩,lJ λz z q=>(nomatch q),⟨_,rfl,bW _,rfl⟩,AR _⟩,DK l aa⟩
theorem LG.hc(h:LG size R P led l){p:Nat}(hc:rI l=(p,b))(hp:p≠0):qy R b/\1<=b.1:=by
 intros size R P led l b p _ h hc hp
 have hm:(p,b)∈iN l:=by
  unfold rI at hc;rw[Pa] at hc;cases e:(iN l).getLast? with
  |none=>rw[e] at hc;cases hc;exact aK aa hp
  |some x=>rw[e] at hc;cases hc;exact WX e
 exact⟨(h.is _ hm).2.1,(h.is _ hm).2.2 hp⟩
def Gs{pr:Prop}(h:LG size R P led l)(hs:1<=s/\s<=P)(fD:nE size b.2)(hc:rI l=(2,b))(hl:led (s,(b,v))):zU size R P led l 4 (2*size) [] pr (eE l size b s v)/\rI (eE l size b s v).1=(2,b):=by
 have hb:=h.hc hc (by decide);have hm:size<2*(az l b).length:=by have:=h.many;rw[hc] at this;exact this aa
 have h3:LG size R P led (l++[.aL b s v,.eV (s,(b,v)),.yes b s b.2]):=h.add aa aa (((EL.o1 ⟨hb.2,hs⟩).cat (.t1 hl)).cat (.y1 fD)) (n1 hm);have h4:=Gr (pr:=pr) (v:=v) h3 hs hb.1 fD;have e:l++[Le b s v,.eV (s,(b,v))]++[.yes b s b.2]=l++[.aL b s v,.eV (s,(b,v)),.yes b s b.2]:=jJ ..;unfold eE uN;rw[e];exact⟨h4.1.Ni (bW 4) aa (lJ λj hj=>⟨hb.1,fD,AQ hj,hl⟩) (lJ λz z q=>(nomatch q)) (Wm size▸kU (AR (size:=size) (f:=λj=>.accept b b.2 j s v) b.2) size),h4.2.trans ((DK l aa).trans hc)⟩
def su(h:∃x,l'=l++x)(hy:y∈aL l):y∈aL l':=by
 let ⟨x,zy⟩:=h;unfold aL;rw[mS];exact pN _ hy
def Nj(l:aY)(size:Nat)(b:bg)(s:Int)(v:Option Str):∃x,(jj l size b s v).1=l++x:=by
 unfold jj;split
 .exact⟨[],(iW l).symm⟩
 exact⟨_,rfl⟩
def w9(l:aY)(b:bg)(s:Int)(v:Option Str):(∃x,(eE l size b s v).1=l++x)/\(b,(s,v))∈aL (eE l size b s v).1:=by
 intros size l b s v;let ⟨x,e⟩:=Nj (l++[.aL b s v,.eV (s,(b,v))]++[.yes b s b.2]) size b s v;have e:(eE l size b s v).1=_:=e;refine⟨⟨[.aL b s v,.eV (s,(b,v))]++([.yes b s b.2]++x),by rw[e,jJ,jJ]⟩,su ⟨_,e⟩ (su ⟨_,rfl⟩ ?_)⟩;unfold aL;rw[mS];exact Ep _ (.head _)
def oX(b:bg)(best:List (Int×Option Str))(s:Int)(ss:List Int)(r:aY×List cR):dB size b best (s::ss) r=dB size b best ss ((eE r.1 size b s ((look best s).getD none)).1,r.2++(eE r.1 size b s ((look best s).getD none)).2):=rfl
theorem AS(b:bg)(best:List (Int×Option Str)):∀(ss:List Int) (r:aY×List cR),∃x,(dB size b best ss r).1=r.1++x
 |[],r=>⟨[],(iW _).symm⟩
 |s::ss,r=>by
  let ⟨x,e⟩:=(w9 (size:=size) r.1 b s ((look best s).getD none)).1;let ⟨y,e'⟩:=AS b best ss ((eE r.1 size b s ((look best s).getD none)).1,r.2++(eE r.1 size b s ((look best s).getD none)).2);exact⟨x++y,by rw[oX,e',e,jJ]⟩
theorem uS(b:bg)(best:List (Int×Option Str)):∀(ss:List Int) (r:aY×List cR),dB size b best ss r=((dB size b best ss (r.1,[])).1,r.2++(dB size b best ss (r.1,[])).2)
 |[],r=>by rw[show dB size b best [] (r.1,[])=(r.1,[]) from rfl,iW];rfl
 |s::ss,r=>by
  rewrite [oX,oX,uS b best ss,uS b best ss ((eE r.1 size b s ((look best s).getD none)).1,[]++_),WY,jJ];rfl
def Nl(fD:nE size b.2):∀(ss:List Int) (l:aY),(∀s∈ss,1<=s/\s<=P)->LG size R P led l->rI l=(2,b)->
 (∀x∈aL (dB size b best ss (l,[])).1,led (x.2.1,(x.1,x.2.2)))->zU size R P led l (4*ss.length) (2*size*ss.length) [] pr (dB size b best ss (l,[])):=by
 intro ss;induction ss with
 |nil=>exact λl y h y y=>.nil h
 |cons s ss ih=>
  intro l hs h hc hl;let ⟨p1,p2⟩:=w9 (size:=size) l b s ((look best s).getD none);rw[oX,uS,WY] at hl⊢;let ⟨o1,c1⟩:=Gs (pr:=pr) (v:=(look best s).getD none) h (hs s (.head _)) fD hc (hl _ (su (AS ..) p2));have o2:=ih _ (λs h=>hs s (.tail _ h)) o1.lg c1 hl;generalize eE l size b s ((look best s).getD none)=q at*;refine aM λhN=>?_;obtain⟨q,o⟩:_:=q;refine hN ?_
  let ⟨x,zy,z,k⟩:=o1.pre;exact o2.Ni (by rw[jL,Ei,pJ];exact ff z _) (by rw[k];rfl) o1.ok o1.np (by rw[jL,Ei,pJ];exact ff o1.few _)
end
open Mine.qa renaming mono->ZM
section
variable {size:Nat}{R P yF pB:Int}{led kE:bf->Prop}{l:aY}{b:bg}{s:Int}{v:Option Str}{ph:Nat}{me j:Int}{ks:List bf}
def AU(b b':bg)(j:Int)(ks:List bf):az [.cL b j ks] b'=if b=b' then[(j,ks)] else[]:=by
 show qN _ (Pb _ [(b,(j,ks))])=_
 by_cases h:b=b'
 .rw[aq h,ze (by exact decide_eq_true h)];rfl
 rw[ay h,vF (by exact λq=>h (fG q))];rfl
def uT(l:aY)(b:bg)(j:Int)(ks:List bf):az (l++[.cL b j ks]) b=az l b++[(j,ks)]:=by rw[qz,AU,aq aa]
def LH.afg(h:LH size R P led l)(hk:Nk ks/\∀it∈ks,led it)(qX:look (az l b) j=none):LH size R P led (l++[.cL b j ks]):=by
 refine⟨h.toEL.cat (.h1 hk),λb'=>?_,Lm (λx hx=>?_) n0⟩
 .rw[qz,AU]
  by_cases e:b=b'
  .subst e;rw[aq aa,<-i9 qX];exact ku (h.pF b) _ _
  rw[ay e,iW];exact h.pF b'
 rw[qz,bU];exact jD (h.maj x hx) (jI 2 (iE _ _))
def ZN{l:List Int}{P:Int}(h:∀x∈l,x<=P)(h0:0<=P):dI l<=P:=by
 cases l with
 |nil=>exact h0
 |cons a l=>exact h _ (tN (l:=a::l) (n9 _ _)).1
def Gu(h:k∈(iA items).map (·.1)):∃it∈items,it.1=k:=by
 rw[AO,EG] at h;let ⟨v,hv⟩:=h;have:=C2 items k;rw[hv] at this;let ⟨b,hb,z2⟩:=this;clear z2;exact⟨_,hb,rfl⟩
def IT(h:LG size R P led l)(hP:0<=P)(sQ:∀x∈az l b,∀it∈x.2,it.1<=P)(hsk:∀it∈ks,it.1<=P)(fD:nE size b.2)(hc:rI l=(1,b))(hk:Nk ks/\∀it∈ks,led it)(qX:look (az l b) j=none)
 (hl:∀x∈aL (j4 l size b j ks).1,led (x.2.1,(x.1,x.2.2))):zU size R P led l (2+4*P.toNat) (2*size*P.toNat) [(b,(j,ks))] pr (j4 l size b j ks):=by
 have hb:=h.hc hc (by decide);have h1:=h.toLH.afg hk qX
 by_cases hm:2*((az (l++[.cL b j ks]) b).map (·.2)).length<=size
 .have e:j4 l size b j ks=(l++[.cL b j ks],[]):=aq hm;rw[aR] at hm;rw[e];exact⟨h1.lg ((DK l aa).trans hc) (λz=>hm) (λq=>nomatch q),n0,n0,⟨_,rfl,aG (jr 1) (iE 2 _),rfl⟩,b8 _⟩
 generalize gq:((az (l++[.cL b j ks]) b).map (·.2)).flatten=items;have e2:l++[Rb b j ks]++[.is 2 b]=l++[.cL b j ks,.is 2 b]:=jJ ..
 have e:j4 l size b j ks=dB size b (iA items) (slots (dI ((iA items).map (·.1)))) (l++[.cL b j ks,.is 2 b],[]):=by
  rw[<-e2,<-gq];exact ay hm
 rw[e] at hl⊢;rw[aR] at hm
 have abE:∀it∈items,it.1<=P:=λit hi=>by
  rw[<-gq,uT] at hi;let ⟨q,hq,hi⟩:=Eo.mp hi;let ⟨y,hy,zy⟩:=cg.mp hq;rcases dY.mp hy with hy|hy
  .exact sQ y hy it hi
  rw[eO.mp hy] at hi;exact hsk it hi
 have qm:dI ((iA items).map (·.1))<=P:=ZN (λx hx=>let ⟨it,hi,e⟩:=Gu hx;e▸abE it hi) hP;have h2:LG size R P led (l++[.cL b j ks,.is 2 b]):=e2▸(h1.cat aa (.i1 ⟨bW 2,hb.1,λz=>hb.2⟩) n0).lg (tO _ aa) (λq=>nomatch q) λz=>by rw[UO _ aa];exact Nat.lt_of_not_le hm
 have cG:(slots (dI ((iA items).map (·.1)))).length<=P.toNat:=by
  unfold slots;rw[aR,pM];exact Int.toNat_le_toNat qm
 exact((Nl fD _ _ (λs hs=>let k:=jk.mp hs;⟨k.1,cN k.2 qm⟩) h2 (tO l aa) hl).wide (jI 4 cG) (jI _ cG) id).Ni (o:=[]) (bW _) aa n0 n0 (fF (qJ _))
def mL(h:vs≠[]):kP vs∈vs:=by
 induction vs using rD with
 |h0=>exact aK aa h
 |h1 l a ih=>
  by_cases hl:l=[]
  .subst hl;exact .head _
  rw[uQ hl];split
  .exact Ep _ (.head _)
  exact pN _ (ih hl)
def UP{α:Type}{acc:List (Int×α)}{p x:Int×α}(h:x∈put acc p.1 p.2):x∈acc\/x=p:=by
 unfold put at h;split at h
 .let ⟨z,hz,e⟩:=cg.mp h;split at e
  .rename_i e1;right;rw[<-e,e1]
  left;rw[<-e];exact hz
 exact(dY.mp h).imp id eO.mp
def CD{α:Type}{kvs:List (Int×α)}:∀{acc:List (Int×α)} {x:Int×α},x∈aS acc kvs->x∈acc\/x∈kvs:=by
 induction kvs with
 |nil=>exact λh=>.inl h
 |cons p kvs ih=>exact λh=>(ih h).elim (λh=>(UP h).imp id λe:_=p=>e▸.head _) λh=>.inr (.tail _ h)
def Gv(h:EL size R P led l):Nk (aI (aS [] (cB l)))/\∀it∈aI (aS [] (cB l)),led it:=
 ⟨gr (gH g7),λit hi=>(CD (jB.mp hi)).elim (λh=>nomatch h) λhi=>h.eV it hi⟩
def xV(h:WF me (view l) ph b):rI l=(ph,b):=uO h.is
def C4(hk:(aQ l b).map (·.1)=slots (aQ l b).length)(ho:∀x∈aL l,x.2.1<=pB)(h0:0<=pB):((aQ l b).length:Int)<=pB:=by
 by_cases h:(aQ l b).length=0
 .rw[h];exact h0
 have:((aQ l b).length:Int)∈(aQ l b).map (·.1):=by rw[hk,jk];exact⟨gE.2 (Wr ‹_›),eS _⟩
 let ⟨x,hx,e⟩:=cg.mp this;let ⟨y,hy,zy⟩:=cg.mp hx;exact e▸ho y (sE.mp hy).1
def SP{α:Type}{xs:List (bg×α)}{x:α}(h:x∈(xs.filter λx=>decide (x.1=b)).map (·.2)):(b,x)∈xs:=by
 let ⟨y,hy,zy⟩:=cg.mp h;have h:=sE.mp hy;have e:y.1=b:=fG h.2;rw[<-e];exact h.1
def s6(h:x∈aQ l b):(b,x)∈aL l:=SP h
def nF(h:x∈az l b):(b,x)∈cE l:=SP h
def nH(l:aY)(ph:Nat)(b:bg):List (Int×(Option Str×List Int)):=if ph=2 then(aQ l b).map λx=>(x.1,(x.2,d7 (cZ l b x.1))) else[]
def vg(l:aY)(ph:Nat)(b:bg):List (Int×List bf):=if ph=1 then aI (az l b) else[]
def iB(h:WF me (view l) ph b):ao l me size=⟨me,size,kP (fN l),aI (aS [] (cB l)),aI (bL l),ph,b,vg l ph b,nH l ph b⟩:=by
 unfold ao;rw[CB h.is];rfl
def gO(size:Nat)(R P:Int)(led:bf->Prop):eZ->Prop
 |.msg m=>qa size R P led m
 |_=>True
theorem gO.mono{size:Nat}{R R' P P':Int}{led Gq:bf->Prop}(hR:R<=R')(hP:P<=P')(hl:∀it,led it->Gq it){e:eZ}:gO size R P led e->gO size R' P' Gq e:=
 e.rec id (λz=>id) id id λz=>ZM hR hP hl
noncomputable def eZ.dH:eZ->Bool
 |.msg m=>m.dH
 |_=>false
noncomputable def eZ.iO:eZ->Bool
 |.msg (.prepare ..)=>true
 |_=>false
def eZ.cQ:eZ->Bool
 |.aO _=>true
 |_=>false
theorem nJ{α γ:Type}(f:α->List γ)(n:Nat):∀(l:List α),(∀x∈l,(f x).length<=n)->(l.flatMap f).length<=n*l.length
 |[],_=>b8 _
 |a::l,h=>by
  rw[vH,bU,jL,Ei,pJ];exact ig (nJ f n l λx hx=>h x (.tail _ hx)) (h a (.head _))
abbrev qo(size:Nat)(R P:Int)(led:bf->Prop)(l:aY)(me:Int)(e:eZ)(r:aY×List cR):Prop:=
 ∃hs,zU size R P led l (5+4*P.toNat) (2*size+2*size*P.toNat) hs (e.iO=true) r/\hs.length<=1/\(e.dH=false->∀x∈hs,x.2.1=me)
def qo.of{nl no:Nat}(h:zU size R P led l nl no [] (e.iO=true) r)(h1:nl<=5)(h2:no<=2*size):qo size R P led l me e r:=
 ⟨[],h.wide (aG h1 (iE _ _)) (aG h2 (iE _ _)) id,b8 _,λz=>n0⟩
def nE.pos(h:nE size me):1<=2*size:=aG (kG.mp (vJ h.1 h.2)) (Ej size Jz)
def ZO(ZP:rI l=(ph,b))(h:LG size R P led l)(hc:c=(ph,b)\/c.1=0):(c.1=1->2*(az l c.2).length<=size)/\(c.1=2->size<2*(az l c.2).length):=
 hc.elim (λe=>e▸ZP▸⟨h.few,h.many⟩) λe=>⟨λq=>(nomatch e.symm.trans q),λq=>(nomatch e.symm.trans q)⟩
section
variable (hw:w7 me l ph b)(h:LG size R P led l)(iK:nE size me)
include hw h
theorem LG.bb:qy R b/\ph<=2/\(ph≠0->1<=b.1):=have k:=h.is _ (WX hw.1.is);⟨k.2.1,k.1,k.2.2⟩
theorem LG.vi(hx:qy R x)(hp:p=ph\/p=0):LG size R P led (l++[.fq x,.is p b]):=
 have hb:=h.bb hw;have hf:=ZO (c:=(p,b)) (xV hw.1) h (hp.imp (λe:p=ph=>e▸rfl) id)
 h.app (tO l aa) aa ((EL.v1 hx).cat (.i1 ⟨hp.elim (λe=>e▸hb.2.1) λe=>e▸b8 _,hb.1,hp.elim (λe=>e▸hb.2.2) λe q=>aK e q⟩)) n0 hf.1 hf.2
omit hw in
theorem LG.i0(hx:qy R x):LG size R P led (l++[.is 0 x]):=
 h.app (tO l aa) aa (.i1 ⟨b8 _,hx,λq=>aK aa q⟩) n0 (λq=>nomatch q) λq=>nomatch q
end
section
variable (hw:w7 me l ph b)(h:LG size yF pB kE l)(fW:∀it,kE it->led it)(iK:nE size me)(h0:0<=pB)(hP:pB<=P)(hR:yF+1<=R)(nK:∀it,kE it->1<=it.1/\it.1<=P)
include h fW hP hR
theorem LG.up:LG size R P led l:=h.mono (cN (BQ (eS yF)) hR) hP fW
include hw iK
theorem LG.two(hx:qy R x)(hp:p=ph\/p=0)(h1:EL size R P led xs)(h2:cE xs=[])(h3:iN xs=[])(h4:aL xs=[])(h5:xs.length<=1)(hm:qa size R P led m)(hm':qa size R P led m')(hq:m.dH=true->e.iO=true)(hq':m'.dH=true->e.iO=true)[Decidable c]
 (hr:aH l (ao l me size) e=if c then(l,[m']) else(l++[.fq x,.is p b]++xs,[m])):qo size R P led l me e (aH l (ao l me size) e):=by
 have h':=h.up fW hP hR;have hz:=iK.pos;rw[hr];split
 .exact .of ⟨h',n1 hm',n1 hq',⟨[],(iW l).symm,b8 5,rfl⟩,bW 1⟩ (bW 5) hz
 exact .of ⟨(h'.vi hw hx hp).add h3 h2 h1 (h4▸n0),n1 hm,n1 hq,⟨_,jJ ..,by rw[bU];exact ff h5 2,h2⟩,bW 1⟩ (by decide:3<=5) hz
theorem Gw(he:gO size R P kE (.msg (.prepare x f t))):qo size R P led l me (.msg (.prepare x f t)) (aH l (ao l me size) (.msg (.prepare x f t))):=by
 have hv:=(h.mono (cN (BQ (eS yF)) hR) hP λz q=>q).fq _ (mL (vs:=fN l) hw.2);refine h.two hw fW iK hP hR (xs:=[]) (p:=if x.2≠me then 0 else ph) (c:=fV x (kP (fN l))=true) (m:=.promise x me f _) (m':=.refuse x me f _) he.1 (by split;exact .inr aa;exact .inl aa) ⟨n0,n0,n0,n0,n0,n0,n0⟩ rfl aa aa (b8 _) ⟨he.1,iK,he.2.1,Gv (h.up fW hP hR).toEL⟩ ⟨he.1,iK,he.2.1,hv⟩ (λz=>rfl) (λq=>nomatch q) ?_;rw[iB hw.1,iW];rfl
include nK
theorem HZ(he:gO size R P kE (.msg (.accept x f t s v))):qo size R P led l me (.msg (.accept x f t s v)) (aH l (ao l me size) (.msg (.accept x f t s v))):=by
 have hv:=(h.mono (cN (BQ (eS yF)) hR) hP λz q=>q).fq _ (mL (vs:=fN l) hw.2);refine h.two hw fW iK hP hR (xs:=[.eV (s,(x,v))]) (p:=if x.2≠me then 0 else ph) (c:=fV x (kP (fN l))=true) (m:=.accepted x me f s) (m':=.refuse x me f _) he.1 (by split;exact .inr aa;exact .inl aa) (.t1 (fW _ he.2.2.2)) aa aa aa (bW _) ⟨he.1,iK,he.2.1,nK _ he.2.2.2⟩ ⟨he.1,iK,he.2.1,hv⟩ (λq=>nomatch q) (λq=>nomatch q) ?_;rw[iB hw.1,jJ];rfl
omit h fW hP hR hw nK iK in
theorem Rk(h':LG size R P led l)(l':aY){no nl:Nat}(e:l'=l++xs)(h1:xs.length<=nl)(h2:cE xs=[])(hl:LG size R P led l'):zU size R P led l nl no [] pr (l',[]):=
 ⟨hl,n0,n0,⟨xs,e,h1,h2⟩,b8 _⟩
include h0
theorem Rl(hl:∀x∈aL (aH l (ao l me size) .run).1,led (x.2.1,(x.1,x.2.2))):qo size R P led l me .run (aH l (ao l me size) .run):=by
 intros size R P yF pB led kE l b ph me _ hw h fW iK h0 hP hR nK hl;have h':=h.up fW hP hR;have hv:=h.fq _ (mL (vs:=fN l) hw.2);have hb:=(h.bb hw).1;obtain⟨nb,e1,e2,er⟩:∃nb:bg,nb.1=max (kP (fN l)).1 b.1+1/\nb.2=me/\aH l (ao l me size) .run=((j4 (l++[.fq nb,.is 1 nb]) size nb me (aI (aS [] (cB l)))).1,(mO size nb.2).map (λj=>.prepare nb nb.2 j)++(j4 (l++[.fq nb,.is 1 nb]) size nb me (aI (aS [] (cB l)))).2):=
  ⟨_,rfl,rfl,by rw[iB hw.1];rfl⟩
 have uU:qy R nb:=⟨by rw[e1];exact BQ (cN hb.1 (vM _ _)),by rw[e1];exact cN (Xf (Xp.mpr ⟨hv.2,hb.2⟩) 1) hR⟩;have hp:1<=nb.1:=by rw[e1];exact JU (cN hb.1 (vM _ _))
 have hh0:az l nb=[]:=yM (V:=view l) λx hx q=>by have:=hw.1.hb x hx;rw[q,e1] at this;exact aK (BN (vN (vM _ _)) this) (lY _)
 have hh1:az (l++[.fq nb,.is 1 nb]) nb=[]:=(UO l aa nb).trans hh0;have h1:LG size R P led (l++[.fq nb,.is 1 nb]):=h'.app (tO l aa) aa ((EL.v1 uU).cat (.i1 ⟨by decide,uU,λz=>hp⟩)) n0 (λz=>by rw[hh0];exact b8 _) (λq=>nomatch q);rw[er] at hl⊢;have o:=IT (pr:=eZ.iO .run=true) h1 (cN h0 hP) (by rw[hh1];exact n0) (λit hi=>(nK it ((Gv h.toEL).2 it hi)).2) (e2▸iK) (tO l aa) (Gv h'.toEL) (by rw[hh1];rfl) hl;have hn:=AR (size:=size) (f:=λj=>.prepare nb nb.2 j) nb.2;exact⟨_,o.Ni (BA 2 2 _▸kU (show 4<=5 by decide) _) aa (lJ λj hj=>⟨uU,e2▸iK,AQ hj⟩) (lJ λz z q=>(nomatch q)) (kU (aG hn (Ej _ (by decide))) _),bW 1,λz=>n1 aa⟩
theorem Gx(he:gO size R P kE (.msg (.promise x f t ks)))(hl:∀y∈aL (aH l (ao l me size) (.msg (.promise x f t ks))).1,led (y.2.1,(y.1,y.2.2))):qo size R P led l me (.msg (.promise x f t ks)) (aH l (ao l me size) (.msg (.promise x f t ks))):=by
 have h':=h.up fW hP hR
 by_cases c:x=b/\ph=1/\look (aS [] (vg l ph b)) f=none
 .have e:aH l (ao l me size) (.msg (.promise x f t ks))=j4 l size b f ks:=by rw[iB hw.1];exact aq c
  rw[e] at hl⊢;let ⟨z2,zy,c3⟩:=c;clear z2;have hk:=h.pF b;have c4:look (az l b) f=none:=by rw[<-oJ hk,<-gZ (gr hk)];exact c3
  exact⟨_,(IT h' (cN h0 hP) (λx hx it hi=>(nK it ((h.cL _ (nF hx)).2 it hi)).2) (λit hi=>(nK it (he.2.2.2.2 it hi)).2) ((hw.1.own (by decide)).symm▸iK) (xV hw.1) ⟨he.2.2.2.1,λit hi=>fW it (he.2.2.2.2 it hi)⟩ c4 hl).wide (kU (by decide) _) (iQ _ _) id,bW 1,λq=>nomatch q⟩
 have e:aH l (ao l me size) (.msg (.promise x f t ks))=(l,[]):=by rw[iB hw.1];exact ay c
 rw[e];exact .of (.nil h') (b8 _) (b8 _)
omit nK in
theorem Gy(hp:pB+1<=P)(hl:∀y∈aL (aH l (ao l me size) (.aO v)).1,led (y.2.1,(y.1,y.2.2))):qo size R P led l me (.aO v) (aH l (ao l me size) (.aO v)):=by
 have h':=h.up fW hP hR
 by_cases c:ph=2
 .subst c
  have e:aH l (ao l me size) (.aO v)=eE l size b (((aQ l b).length:Int)+1) v:=by
   rw[iB hw.1,<-aR (as:=aQ l b) λx=>(x.1,(x.2,d7 (cZ l b x.1)))];rfl
  rw[e] at hl⊢;have hn:=C4 (hw.1.lead aa).1 (λx hx=>(h.off x hx).2.2) h0;have hn:((aQ l b).length:Int)<=pB:=hn;exact .of (Gs (s:=((aQ l b).length:Int)+1) h' ⟨JU (iS _),by exact vJ ‹_› ‹_›⟩ ((hw.1.own (by decide)).symm▸iK) (xV hw.1) (hl _ (w9 l b _ v).2)).1 (by decide) (bW _)
 have e:aH l (ao l me size) (.aO v)=(l,[]):=by rw[iB hw.1];exact ay c
 rw[e];exact .of (.nil h') (b8 _) (b8 _)
omit nK h0 in
theorem Dz(he:gO size R P kE (.msg (.accepted x f t s))):qo size R P led l me (.msg (.accepted x f t s)) (aH l (ao l me size) (.msg (.accepted x f t s))):=by
 have h':=h.up fW hP hR
 by_cases c:x=b/\ph=2/\s<=((nH l ph b).length:Int)
 .have e:aH l (ao l me size) (.msg (.accepted x f t s))=jj (l++[.yes b s f]) size b s (((nH l ph b)[(s-1).toNat]?).elim none (·.2.1)):=by rw[iB hw.1];exact aq c
  rw[e];let ⟨z2,zy,z3⟩:=c;clear z2;clear z3;exact .of ((Gr (h'.add aa aa (.y1 he.2.1) n0) he.2.2.2 (h'.bb hw).1 ((hw.1.own (by decide)).symm▸iK)).1.Ni (o:=[]) (bW 2) aa n0 n0 (fF (qJ _))) (by decide) (Ej _ (by decide))
 have e:aH l (ao l me size) (.msg (.accepted x f t s))=(l,[]):=by rw[iB hw.1];exact ay c
 rw[e];exact .of (.nil h') (b8 _) (b8 _)
omit nK h0 iK hw in
theorem H6(he:gO size R P kE (.msg (.ak x f t s v))):qo size R P led l me (.msg (.ak x f t s v)) (aH l (ao l me size) (.msg (.ak x f t s v))):=by
 have h':=h.up fW hP hR;show qo _ _ _ _ _ _ _ (if _ then _ else _,_);split
 .exact .of (.nil h') (b8 _) (b8 _)
 exact .of (Rk h' _ aa (bW 1) aa (h'.add aa aa (.k1 he.2.2.2) n0)) (by decide) (b8 _)
omit nK h0 iK hw in
theorem H7(he:gO size R P kE (.msg (.refuse x f t r))):qo size R P led l me (.msg (.refuse x f t r)) (aH l (ao l me size) (.msg (.refuse x f t r))):=by
 have h':=h.up fW hP hR;show qo _ _ _ _ _ _ _ (if _ then _ else _,_);split
 .exact .of (Rk h' _ aa (bW 1) aa (h'.i0 he.2.2.2)) (by decide) (b8 _)
 exact .of (.nil h') (b8 _) (b8 _)
omit nK in
theorem Ln(hl:∀x∈aL (aH l (ao l me size) .again).1,led (x.2.1,(x.1,x.2.2))):qo size R P led l me .again (aH l (ao l me size) .again):=by
 intros size R P yF pB led kE l b ph me _ hw h fW iK h0 hP hR hl;have h':=h.up fW hP hR;have hb:=(h'.bb hw).1;have er:aH l (ao l me size) .again=(l,Cy ⟨me,size,kP (fN l),aI (aS [] (cB l)),aI (bL l),ph,b,vg l ph b,nH l ph b⟩):=by rw[iB hw.1];rfl
 rw[er];generalize aI (bL l)=ch
 by_cases c:ph=1
 .have e:Cy ⟨me,size,kP (fN l),aI (aS [] (cB l)),ch,ph,b,vg l ph b,nH l ph b⟩=((b9 size).filter λj=>(look (aS [] (vg l ph b)) j).isNone).map λj=>.prepare b me j:=aq c
  rw[e];exact .of ⟨h',lJ λj hj=>⟨hb,iK,CC (sE.mp hj).1⟩,lJ λz z q=>(nomatch q),⟨[],(iW l).symm,b8 5,rfl⟩,by rw[aR];exact aG (sD _ _) (fF (uR size))⟩ (bW 5) (Ej _ (by decide))
 have e:Cy ⟨me,size,kP (fN l),aI (aS [] (cB l)),ch,ph,b,vg l ph b,nH l ph b⟩=(nH l ph b).flatMap λx=>if(look (aS [] ch) x.1).isSome then(mO size b.2).map λj=>.ak b b.2 j x.1 x.2.1 else((b9 size).filter λj=>!x.2.2.contains j).map λj=>.accept b me j x.1 x.2.1:=ay c
 rw[e]
 by_cases c2:ph=2
 .subst c2;have fD:b.2=me:=hw.1.own (by decide)
  have key:∀x∈nH l 2 b,∀m∈(if(look (aS [] ch) x.1).isSome then(mO size b.2).map (λj=>cR.ak b b.2 j x.1 x.2.1) else((b9 size).filter λj=>!x.2.2.contains j).map λj=>.accept b me j x.1 x.2.1),qa size R P led m/\(m.dH=true->eZ.iO .again=true):=λx hx=>by
   let ⟨y,hy,zy⟩:=cg.mp hx;split
   .exact lJ λj hj=>⟨⟨hb,fD▸iK,AQ hj,(h'.off _ (s6 hy)).2⟩,λq=>nomatch q⟩
   exact lJ λj hj=>⟨⟨hb,iK,CC (sE.mp hj).1,hl _ (s6 hy)⟩,λq=>nomatch q⟩
  have hn:(aQ l b).length<=P.toNat:=by
   have:=C4 (hw.1.lead aa).1 (λx hx=>(h.off x hx).2.2) h0;exact gE.mp (cN (cN (show((aQ l b).length:Int)<=pB from this) hP) (Int.self_le_toNat P))
  refine⟨[],⟨h',λm hm=>?_,λm hm=>?_,⟨[],(iW l).symm,b8 _,rfl⟩,?_⟩,b8 _,λz=>n0⟩
  .let ⟨x,hx,hm⟩:=je.mp hm;exact(key x hx m hm).1
  .let ⟨x,hx,hm⟩:=je.mp hm;exact(key x hx m hm).2
  refine aG (nJ _ size _ λx z=>?_) ?_
  .split
   .exact AR _
   rw[aR];exact aG (sD _ _) (fF (uR size))
  refine aG (JE (Ej size (by decide:0<2)) ?_) (iQ _ _);show(qN _ _).length<=_;rw[aR];exact hn
 rw[show nH l ph b=[] from ay c2];exact .of (.nil h') (b8 5) (b8 _)
omit nK h0 iK in
theorem Lp:qo size R P led l me .d8 (aH l (ao l me size) .d8):=by
 have h':=h.up fW hP hR;have er:aH l (ao l me size) .d8=(l++[.is 0 b],[]):=by rw[iB hw.1];rfl
 rw[er];exact .of (Rk h' _ aa (bW 1) aa (h'.i0 (h'.bb hw).1)) (by decide) (b8 _)
theorem IU(e:eZ):gO size R P kE e->(∀v,e=.aO v->pB+1<=P)->(∀x∈aL (aH l (ao l me size) e).1,led (x.2.1,(x.1,x.2.2)))->qo size R P led l me e (aH l (ao l me size) e):=
 e.rec (λz z hl=>Rl hw h fW iK h0 hP hR nK hl) (λv z UQ hl=>Gy hw h fW iK h0 hP hR (UQ v aa) hl) (λz z hl=>Ln hw h fW iK h0 hP hR hl) (λz z z=>Lp hw h fW hP hR)
  λm=>m.rec (λz z z he z z=>Gw hw h fW iK hP hR he) (λz z z z he z hl=>Gx hw h fW iK h0 hP hR nK he hl) (λz z z z he z z=>H7 h fW hP hR he) (λz z z z z he z z=>HZ hw h fW iK hP hR nK he) (λz z z z he z z=>Dz hw h fW iK hP hR he) (λz z z z z he z z=>H6 h fW hP hR he)
end
end
open Mine.gO renaming mono->ZQ
section
noncomputable def cR.to:cR->Int
 |.prepare _ _ t|.promise _ _ t _|.refuse _ _ t _|.accept _ _ t _ _|.accepted _ _ t _|.ak _ _ t _ _=>t
noncomputable def Node.d8(n:Node):Node:={n with phase:=0,hp:=[],hl:=[]}
def rJ(n:Node)(e:eZ):Node×List cR:=match e with
 |.d8=>(n.d8,[])
 |e=>fM n e
def nh(i:Nat)(l:aY):Nat:=((cE l).filter λx=>decide (x.2.1≠(i:Int))).length
def abF(i:Nat)(l x:aY):nh i (l++x)=nh i l+nh i x:=by
 unfold nh cE;rw[mS,oh,bU]
def acC(l:aY)(ph:Nat)(b:bg):eZ->Prop
 |.msg (.promise x _ _ ks)=>ph=1->x=b->kC (((az l b).map (·.2)).flatten++ks)
 |.msg (.accepted _ _ _ s)=>1<=s
 |_=>True
abbrev ZR(me:Int)(size:Nat)(l:aY)(e:eZ):Prop:=∃AV b',w7 me (aH l (ao l me size) e).1 AV b'/\rJ (ao l me size) e=(ao (aH l (ao l me size) e).1 me size,(aH l (ao l me size) e).2)
def Lq{me:Int}{size:Nat}{l:aY}{p:cA}(S:fC me size p (view l)):ZR me size l .d8:=by
 intros me size l p _ S;have T:fC me size {p with phase:=0,af:=p.af,prom:=[],props:=[]} (view (l++[.is 0 p.af])):=by rw[wZ];exact S.idle (eS _)
 unfold ZR;rw[<-S.tup];exact⟨0,p.af,⟨T.wf,T.Cz⟩,qW T.tup aa⟩
def SQ{me:Int}{size:Nat}{l:aY}{ph:Nat}{b:bg}(hw:w7 me l ph b)(e:eZ):acC l ph b e->ZR me size l e:=by
 let ⟨S,e1,e2⟩:=fC.abD (size:=size) hw.1 hw.2;have e1:(iJ (ao l me size)).phase=ph:=e1;have e2:(iJ (ao l me size)).af=b:=e2;have N:=vf.of S S.tup
 have fin:∀{e},rJ (ao l me size) e=fM (ao l me size) e->HV me size l (iJ (ao l me size)) (ao l me size) e->ZR me size l e:=λhe q1=>by
  let ⟨l',q,T⟩:=q1;unfold ZR;rw[he,q];exact⟨_,_,⟨T.wf,T.Cz⟩,qW T.tup aa⟩
 exact e.rec (λz=>fin aa (Ri S N)) (λv z=>fin aa (Gk S N)) (λz=>fin aa (Ll S N)) (λz=>Lq S)
  λm=>m.rec (λz z z z=>fin aa (Gm S N)) (λz z z z he=>fin aa (Gn S N λh1 h2=>by rw[e2];exact he (e1▸h1) (h2.trans e2))) (λz z z z z=>fin aa (HY S N)) (λz z z z z z=>fin aa (HW S N)) (λz z z z he=>fin aa (Dy S N he)) (λz z z z z z=>fin aa (HX S N))
def yl(aX:List aY)(it:bf):Prop:=∃(i:Nat) (l:aY),aX[i]?=some l/\it.2.1.2=(i:Int)/\(it.2.1,(it.1,it.2.2))∈aL l
def NH(aX:List aY):Nat:=(aX.mapIdx λi l=>nh i l).sum
structure NI(size:Nat)(R P:Int)(led:bf->Prop)(i n:Nat)(l:aY):Prop where
 ok:∃ph b,w7 (i:Int) l ph b
 lg:LG size R P led l
 ll:l.length<=n
structure GI(size:Nat)(aX:List aY)(cU:List cR)(t:Nat)(P aa_:Nat):Prop where
 len:aX.length=size
 nd:∀(i:Nat) l,aX[i]?=some l->NI size t P (yl aX) i (2+500*t) l
 msg:∀m∈cU,qa size t P (yl aX) m
 wl:cU.length<=500*t
 cnt:NH aX+1<=aa_\/(NH aX=0/\∀m∈cU,m.dH=false)
section
variable {size:Nat}{aX:List aY}{cU:List cR}{t P aa_:Nat}(G:GI size aX cU t P aa_)
include G
theorem GI.compat{items:List bf}(h:∀it∈items,yl aX it):kC items:=λx hx y hy e1 e2=>by
 let ⟨i,l,h1,h2,h3⟩:=h x hx;let ⟨j,l',g1,g2,g3⟩:=h y hy;obtain rfl:i=j:=PW (h2.symm.trans (e2▸g2));obtain rfl:l=l':=eF (h1.symm.trans g1);let ⟨ph,b,hw⟩:=(G.nd i l h1).ok;have at':∀{z:bf},(z.2.1,(z.1,z.2.2))∈aL l->look (aQ l z.2.1) z.1=some z.2.2:=λ{z} hz=>(hw.1.yk z.2.1).look (p:=(z.1,z.2.2)) (cg.mpr ⟨_,sE.mpr ⟨hz,decide_eq_true aa⟩,rfl⟩)
 have k1:=at' h3;have k2:=at' g3;rw[<-e1,<-e2,k1] at k2;exact eF k2
theorem GI.led{it:bf}(h:yl aX it):1<=it.1/\it.1<=(P:Int):=
 let ⟨i,l,h1,_,h3⟩:=h;((G.nd i l h1).lg.off _ h3).2
end
theorem Nn:∀(xs:List Nat) (i:Nat) (x y:Nat),xs[i]?=some x->(xs.set i y).sum+x=xs.sum+y
 |[],i,x,y,h=>by simp at h
 |a::xs,0,x,y,h=>by simp at h;subst h;simp;lia
 |a::xs,i+1,x,y,h=>by
  have:=Nn xs i x y (by simpa using h);simp only[List.set_cons_succ,Er];rw[BA,this,BA]
theorem AW:∀(xs:List Nat) (i:Nat) (x:Nat),xs[i]?=some x->x<=xs.sum
 |[],i,x,h=>by simp at h
 |a::xs,0,x,h=>by simp at h;subst h;simp
 |a::xs,i+1,x,h=>by
  have:=AW xs i x (by simpa using h);simp only[Er];exact aG ‹_› (iQ _ _)
theorem Np:∀(xs:List Nat) (i j:Nat) (x y:Nat),i≠j->xs[i]?=some x->xs[j]?=some y->x+y<=xs.sum
 |[],i,j,x,y,_,h,_=>by simp at h
 |a::xs,0,0,x,y,h,_,_=>aK aa h
 |a::xs,0,j+1,x,y,_,h1,h2=>by
  have:=AW xs j y (by simpa using h2);simp at h1;subst h1;simp only[Er];exact ff ‹_› _
 |a::xs,i+1,0,x,y,_,h1,h2=>by
  have:=AW xs i x (by simpa using h1);simp at h2;subst h2;simp only[Er];rw[pJ];exact ff ‹_› _
 |a::xs,i+1,j+1,x,y,h,h1,h2=>by
  have:=Np xs i j x y (λe=>h (cj (·+1) e)) (by simpa using h1) (by simpa using h2);simp only[Er];exact aG ‹_› (iQ _ _)
def abG{aX:List aY}{i:Nat}{l l':aY}(h:aX[i]?=some l):NH (aX.set i l')+nh i l=NH aX+nh i l':=by
 intros aX i l l' _ h
 have e:(aX.set i l').mapIdx (λi l=>nh i l)=(aX.mapIdx λi l=>nh i l).set i (nh i l'):=by
  apply zc;intro k;rw[sF,Es,Es,JO,sF]
  by_cases hk:i=k
  .subst hk;rw[aq aa,aq aa];split<;>rfl
  rw[ay hk,ay hk]
 unfold NH;rw[e];exact Nn _ _ _ _ (by rw[sF,h];rfl)
def ZU{α:Type}{xs:List α}{i k:Nat}{x y:α}(h:(xs.set i x)[k]?=some y):(k=i/\y=x)\/(k≠i/\xs[k]?=some y):=by
 rw[Es] at h;split at h
 .rename_i e;split at h
  .left;exact⟨e.symm,(eF h).symm⟩
  cases h
 rename_i e;right;exact⟨λh=>e h.symm,h⟩
noncomputable def DA(b:Bool):Nat:=if b then 1 else 0
def abH(b:Bool):DA b<=1:=by cases b<;>decide
def GI.event{size:Nat}{aX:List aY}{cU xd:List cR}{t P aa_ Gz:Nat}(G:GI size aX cU t P aa_)(nV:size<=4)(hP:P+1<=30){i:Nat}{l:aY}(hi:aX[i]?=some l)(e:eZ)(he:gO size t P (yl aX) e)(Nq:∀m∈xd,m∈cU)(UR:xd.length<=cU.length)
 (hd:aa_<=Gz) (Rm:(e.dH=true\/e.iO=true)->aa_+1<=Gz) (Nf:e.dH=true->∃m∈cU,m.dH=true):
 GI size (aX.set i (aH l (ao l i size) e).1) (xd++(aH l (ao l i size) e).2) (t+1) (P+DA e.cQ) Gz/\rJ (ao l i size) e=(ao (aH l (ao l i size) e).1 i size,(aH l (ao l i size) e).2):=by
 intros size aX cU xd t P aa_ Gz i l e _ G nV hP hi he Nq UR hd Rm Nf;have N:=G.nd i l hi;let ⟨ph,b,hw⟩:=N.ok;have acD:i<aX.length:=(iR.mp hi).1;have iK:nE size (i:Int):=⟨iS i,kG.mpr (G.len▸acD)⟩
 have hcp:acC l ph b e:=by
  revert he;exact e.rec (λz=>trivial) (λz z=>trivial) (λz=>trivial) (λz=>trivial)
   λm=>m.rec (λz z z z=>trivial) (λz z z z he z z=>G.compat (vG.mpr ⟨λit ER=>by
    let ⟨q,hq,ER⟩:=Eo.mp ER;let ⟨y,hy,zy⟩:=cg.mp hq;exact(N.lg.cL _ (nF hy)).2 it ER,he.2.2.2.2⟩)) (λz z z z z=>trivial) (λz z z z z z=>trivial) (λz z z z he=>he.2.2.2.1) (λz z z z z z=>trivial)
 let ⟨AV,b',Rn,hag⟩:=SQ (size:=size) hw e hcp;have Ro:(P:Int)<=((P+DA e.cQ:Nat):Int):=gE.mpr (iE _ _);have HF:(t:Int)<=((t+1:Nat):Int):=gE.mpr (jr t);refine⟨?_,hag⟩;clear hag;have get:(aX.set i (aH l (ao l i size) e).1)[i]?=some (aH l (ao l i size) e).1:=WZ acD;have adQ:∀x∈aL (aH l (ao l i size) e).1,yl (aX.set i (aH l (ao l i size) e).1) (x.2.1,(x.1,x.2.2)):=λx hx=>⟨i,_,get,(Rn.1.ob x hx).2,hx⟩
 have nN:=λled h1=>IU (led:=led) (R:=((t+1:Nat):Int)) (P:=((P+DA e.cQ:Nat):Int)) hw N.lg h1 iK (iS P) Ro (eS _) (λit ER=>⟨(G.led ER).1,cN (G.led ER).2 Ro⟩) e
  (ZQ HF (gE.mpr (iE _ _)) (λz h=>h) he) (λv hv=>hv▸eS _)
 generalize aH l (ao l i size) e=r at*;let ⟨_,o,_⟩:=nN (λz=>True) (λz z=>trivial) λz z=>trivial
 have fW:∀it,yl aX it->yl (aX.set i r.1) it:=λit ⟨k,lk,h1,h2,h3⟩=>by
  by_cases hk:i=k
  .subst hk;rw[hi] at h1;cases h1;exact⟨i,_,get,h2,su (let ⟨x,q,_⟩:=o.pre;⟨x,q⟩) h3⟩
  exact⟨k,lk,(W0 hk).trans h1,h2,h3⟩
 clear o;let ⟨hs,o,hs1,hs2⟩:=nN _ fW adQ;have hi1:=abH e.cQ;have hPn:((P+DA e.cQ:Nat):Int).toNat=P+DA e.cQ:=iX _;let ⟨x,ex,hx,hh⟩:=o.pre
 have hnx:nh i x<=1/\(e.dH=false->nh i x=0):=by
  unfold nh;rw[hh];exact⟨aG (sD _ _) hs1,λq=>by rw[JM.mpr λy hy=>by rw[hs2 q y hy];simp];rfl⟩
 have hNH:=abG (l':=r.1) hi;rw[ex,abF,<-ex] at hNH;have hN2:=aez hNH;refine⟨(W2 ..).trans G.len,λk lk hk=>?_,vG.mpr ⟨λm hm=>(G.msg m (Nq m hm)).mono HF Ro fW,o.ok⟩,?_,?_⟩
 .rcases ZU hk with⟨rfl,rfl⟩|⟨h1,h2⟩
  .refine⟨⟨AV,b',Rn⟩,o.lg,?_⟩;rw[ex,bU];exact adm N.ll (aG hx (aG (ff (jI 4 (aG (fF hPn) (aG (ff hi1 P) hP))) 5) (bz aa)))
  have M:=G.nd k lk h2;exact⟨M.ok,M.lg.mono HF Ro fW,aG M.ll (ff (jI 500 (jr t)) 2)⟩
 .rw[bU];have:=G.wl;have:=o.few;rw[hPn] at this;have h4:2*size*(P+DA e.cQ)<=8*30:=JE (jI 2 nV) (aG (ff hi1 P) hP);exact ig (aG UR G.wl) (aG this (aG (ig (jI 2 nV) h4) (bz aa)))
 rcases G.cnt with hc|⟨gv,oi⟩
 .left;cases hp:e.dH with
  |true=>rw[hN2];exact aG (gw (ff hnx.1 _)) (aG (gw hc) (Rm (.inl hp)))
  |false=>rw[hN2,hnx.2 hp];exact aG hc hd
 cases hp:e.dH with
 |true=>let ⟨m,hm,hmp⟩:=Nf hp;rw[oi m hm] at hmp;cases hmp
 |false=>
  have:=hnx.2 hp;cases hpp:e.iO with
  |true=>left;rw[hN2,gv,this];exact aG (iQ 1 aa_) (Rm (.inr hpp))
  |false=>exact .inr ⟨by rw[hN2,gv,this],vG.mpr ⟨λm hm=>oi m (Nq m hm),λm hm=>zk.mpr λq=>by have:=o.np m hm q;rw[hpp] at this;cases this⟩⟩
end
section
def Rp{α:Type}(i:Int){L:List (Int×α)}(h:Nk L):L.length<=(L.filter λx=>decide (x.1≠i)).length+1:=by
 induction L with
 |nil=>exact b8 _
 |cons a L ih=>
  by_cases e:a.1=i
  .rw[vF (by exact λq=>fG q e),vI.mpr λx hx=>decide_eq_true (p:=x.1≠i) λe2=>gB.mp h.head (e.trans e2.symm▸jQ hx)];exact bW _
  rw[ze (by exact decide_eq_true e)];exact gw (ih h.tail)
def Nr{α:Type}{p q r:α->Bool}(h:∀x,q x=true->p x=true/\r x=false)(h':∀x,r x=true->p x=true)(l:List α):(l.filter q).length+(l.filter r).length<=(l.filter p).length:=by
 induction l with
 |nil=>exact bW 0
 |cons a l ih=>
  cases hq:q a with
  |true=>rw[ze hq,vF (by rw[(h a hq).2];decide),ze (h a hq).1,jL,OW];exact gw ih
  |false=>
   rw[vF (by rw[hq];decide)];cases hr:r a with
   |true=>rw[ze hr,ze (h' a hr)];exact gw ih
   |false=>rw[vF (by rw[hr];decide)];exact aG ih (PV ((List.sublist_cons_self a l).filter p))
def Rq(i:Nat)(l:aY)(b:bg):Nat:=((cE l).filter λx=>decide (x.2.1≠(i:Int))&&decide (x.1=b)).length
def SR(i:Nat)(l:aY)(b:bg):Rq i l b<=nh i l:=by
 unfold Rq nh;rw[<-W3];exact(List.filter_sublist.filter _).length_le
def ZV(i:Nat)(l:aY){b b':bg}(h:b≠b'):Rq i l b+Rq i l b'<=nh i l:=
 Nr (λx q=>have k:=(iT _ _).mp q;⟨k.1,zk.mpr λq'=>h ((fG k.2).symm.trans (fG ((iT _ _).mp q').2))⟩) (λx q=>((iT _ _).mp q).1) _
def ZW(i:Nat)(l:aY)(b:bg)(hk:Nk (az l b)):(az l b).length<=Rq i l b+1:=by
 have h:=Rp (i:Int) hk;unfold az at h;rw[Pd,aR,aR,W3] at h;unfold az;rw[aR];exact h
def zV{l:List Int}:∀{u:List Int},l.Nodup->(∀x∈l,x∈u)->l.length<=u.length:=by
 induction l with
 |nil=>exact λz z=>b8 _
 |cons a l ih=>
  intro u h hs;rw[ir] at h;have hm:a∈u:=hs a (.head _);have:=ih (u:=u.erase a) h.2 λx hx=>(WN (λe:x=a=>h.1 (e▸hx))).mpr (hs x (.tail _ hx))
  rw[WO hm] at this;exact aG (gw this) (fF (Nat.succ_pred_eq_of_pos (WQ hm)))
def AX{α:Type}{l:List (Int×α)}{P:Nat}(hk:Nk l)(h:∀x∈l,1<=x.1/\x.1<=(P:Int)):l.length<=P:=by
 have:=zV hk λx hx=>let ⟨y,hy,e⟩:=cg.mp hx;e▸jk.mpr (h y hy)
 rwa [aR,yL] at this
def US{α:Type}(n:Nat){L:List (List α)}(h:∀q∈L,q.length<=n):L.flatten.length<=n*L.length:=by
 induction L with
 |nil=>exact b8 _
 |cons q L ih=>
  rw[BF,bU,jL,Ei,pJ];exact ig (ih λx hx=>h x (.tail _ hx)) (h q (.head _))
def Lr{aX:List aY}(hi:aX[i]?=some l):(aX.mapIdx λi l=>nh i l)[i]?=some (nh i l):=by rw[sF,hi];rfl
section
variable {size:Nat}{aX:List aY}{cU:List cR}{t P aa_:Nat}(G:GI size aX cU t P aa_){i:Nat}{l:aY}(hi:aX[i]?=some l)
include G hi
theorem GI.cL(h:it∈((az l b).map (·.2)).flatten):yl aX it:=by
 let ⟨q,hq,h⟩:=Eo.mp h;let ⟨y,hy,zy⟩:=cg.mp hq;exact((G.nd i l hi).lg.cL _ (nF hy)).2 it h
theorem GI.flat(b:bg):((az l b).map (·.2)).flatten.length<=P*(az l b).length:=by
 have:=US P (L:=(az l b).map (·.2)) λq hq=>by
  let ⟨y,hy,zy⟩:=cg.mp hq;have:=(G.nd i l hi).lg.cL _ (nF hy);exact AX this.1 λit h=>G.led (this.2 it h)
 rwa [aR] at this
theorem GI.none(hs:size=4)(zC:aa_<=3){b:bg}(hc:rI l=(1,b))(h2:(az l b).length=2)(it:bf):¬yl aX it:=by
 intros size aX cU t P aa_ i l b it _ G hi hs zC hc h2;exact λq1=>by
  let ⟨j,lj,g1,g2,g3⟩:=q1;have Nt:=(G.nd i l hi).lg;have hlj:=(G.nd j lj g1).lg;have hm:size<2*(az lj it.2.1).length:=hlj.maj _ g3;have c1:=ZW j lj it.2.1 (hlj.pF _);have c2:=ZW i l b (Nt.pF _)
  have hNH:Rq j lj it.2.1+Rq i l b<=NH aX:=by
   by_cases l8:i=j
   .subst l8;obtain rfl:l=lj:=eF (hi.symm.trans g1);let ⟨ph,b',hw⟩:=(G.nd i l hi).ok;have ZP:=(xV hw.1).symm.trans hc;cases ZP;refine aG (ZV i l λe:it.2.1=b=>?_) (AW _ i _ (Lr hi));have hm:(it.1,it.2.2)∈aQ l b:=cg.mpr ⟨_,sE.mpr ⟨g3,decide_eq_true e⟩,rfl⟩;rw[show aQ l b=[] from(hw.1.yK aa).2.1] at hm;cases hm
   exact aG (ig (SR ..) (SR ..)) (Np _ j i _ _ (dJ l8) (Lr g1) (Lr hi))
  have h3:=no3 (hs▸hm) h2 c1 c2 hNH;rcases G.cnt with h|⟨h,-⟩
  .exact aK (aG (gw h3) (aG h zC)) (by decide)
  .rw[h] at h3;exact aK h3 (by decide)
theorem GI.fit(nV:size<=4)(hP:P<=24)(hd:4<=aa_->P<=20){b:bg}(hc:rI l=(1,b)){ks:List bf}(hk:Nk ks)(hkl:∀it∈ks,yl aX it):(((az l b).map (·.2)).flatten++ks).length<64:=by
 have ZX:2*(az l b).length<=size:=by have:=(G.nd i l hi).lg.few;rw[hc] at this;exact this aa
 have nU:ks.length<=P:=AX hk λit h=>G.led (hkl it h)
 have nS:=G.flat hi b;rw[bU]
 by_cases h1:(az l b).length<=1
 .exact f6 (ig (aG nS (JE hP h1)) (aG nU hP)) (by decide)
 have h2:(az l b).length=2:=pI (Nat.le_of_mul_le_mul_left (aG ZX nV) (by decide)) (vz.mp h1);rw[h2] at nS
 by_cases ZY:P<=20
 .exact f6 (ig (aG nS (OX 2 ZY)) (aG nU ZY)) (by decide)
 have none:=G.none hi (pI nV (aG (fF (cj (2*·) h2.symm)) ZX)) (mQ (vz.mp (mt hd ZY))) hc h2;rw[W4.mpr λit h=>none it (G.cL hi h),W4.mpr λit h=>none it (hkl it h)];decide
end
inductive Mv where
 |at(i:Nat) (e:eZ)
 |deliver (k:Int)
 |drop (k:Int)
 |double (k:Int)
instance:Nonempty Mv:=⟨.drop 0⟩
noncomputable def ai(k:Int)(n:Nat):Nat:=(k.fmod (n:Int)).toNat
def cS(k:Int)(h:0<n):ai k n<n:=
 (BO (JW k (kG.mpr h))).mpr (Pk k (kG.mpr h))
def fP(size:Nat)(aX:List aY):List Node:=aX.mapIdx λi l=>ao l (i:Int) size
def nP{size:Nat}{aX:List aY}{i:Nat}{l:aY}(h:aX[i]?=some l):(fP size aX)[i]?=some (ao l (i:Int) size):=by
 unfold fP;rw[sF,h];rfl
def Nu{α γ:Type}{f:Nat->α->γ}{xs:List α}{i:Nat}{x:α}:(xs.set i x).mapIdx f=(xs.mapIdx f).set i (f i x):=by
 apply zc;intro k;rw[sF,Es,Es,JO,sF]
 by_cases hk:i=k
 .subst hk;rw[aq aa,aq aa];split<;>rfl
 rw[ay hk,ay hk]
def AY{size:Nat}{aX:List aY}{i:Nat}{l':aY}:fP size (aX.set i l')=(fP size aX).set i (ao l' (i:Int) size):=Nu
def j6(size:Nat)(S:List aY×List cR):Mv->List aY×List cR
 |.at i e=>match S.1[i]? with
  |some l=>(S.1.set i (aH l (ao l i size) e).1,S.2++(aH l (ao l i size) e).2)
  |none=>S
 |.deliver k=>match S.2[ai k S.2.length]? with
  |some m=>match S.1[m.to.toNat]? with
   |some l=>(S.1.set m.to.toNat (aH l (ao l m.to.toNat size) (.msg m)).1,S.2.take (ai k S.2.length)++S.2.drop (ai k S.2.length+1)++(aH l (ao l m.to.toNat size) (.msg m)).2)
   |none=>S
  |none=>S
 |.drop k=>(S.1,S.2.take (ai k S.2.length)++S.2.drop (ai k S.2.length+1))
 |.double k=>(S.1,S.2++(S.2[ai k S.2.length]?).toList)
def lq(S:List Node×List cR):Mv->List Node×List cR
 |.at i e=>match S.1[i]? with
  |some n=>(S.1.set i (rJ n e).1,S.2++(rJ n e).2)
  |none=>S
 |.deliver k=>match S.2[ai k S.2.length]? with
  |some m=>match S.1[m.to.toNat]? with
   |some n=>(S.1.set m.to.toNat (fM n (.msg m)).1,S.2.take (ai k S.2.length)++S.2.drop (ai k S.2.length+1)++(fM n (.msg m)).2)
   |none=>S
  |none=>S
 |.drop k=>(S.1,S.2.take (ai k S.2.length)++S.2.drop (ai k S.2.length+1))
 |.double k=>(S.1,S.2++(S.2[ai k S.2.length]?).toList)
noncomputable def Mv.cQ:Mv->Bool
 |.at _ e=>e.cQ
 |_=>false
noncomputable def Mv.j7:Mv->Bool
 |.deliver _=>true
 |_=>false
def ZZ(size:Nat):Mv->Prop
 |.at i e=>i<size/\match e with|.msg _=>False|_=>True
 |_=>True
def cR.Z0:∀{m:cR},qa size R P led m->nE size m.to
 |.prepare ..,h=>h.2.2
 |.promise ..,h|.refuse ..,h|.accept ..,h|.accepted ..,h|.ak ..,h=>h.2.2.1
def Nv{α:Type}{xs:List α}{a:Nat}{x:α}(h:x∈xs.take a++xs.drop (a+1)):x∈xs:=
 (dY.mp h).elim List.mem_of_mem_take List.mem_of_mem_drop
def xe{α:Type}(xs:List α)(a:Nat):(xs.take a++xs.drop (a+1)).length<=xs.length:=by
 rw[<-O1];exact WH xs a
def GI.GA(G:GI size aX cU t P aa_)(h:∀m∈xd,m∈cU)(hl:xd.length<=cU.length+1)(hP:P<=P')(hd:aa_<=Gz):GI size aX xd (t+1) P' Gz:=
 have HF:(t:Int)<=((t+1:Nat):Int):=gE.mpr (jr t);have Ro:(P:Int)<=(P':Int):=gE.mpr hP
 ⟨G.len,λi l hi=>have N:=G.nd i l hi;⟨N.ok,N.lg.mono HF Ro λz h=>h,aG N.ll (ff (jI 500 (jr t)) 2)⟩,λm hm=>(G.msg m (h m hm)).mono HF Ro λz h=>h,aG hl (aG (gw G.wl) (ff (by decide:1<=500) _)),G.cnt.imp (λq=>aG q hd) λq=>⟨q.1,λm hm=>q.2 m (h m hm)⟩⟩
def GI.both(G:GI size aX cU t P aa_)(nV:size<=4)(hP:P+1<=30)(hi:aX[i]?=some l)(e:eZ)(he:gO size t P (yl aX) e)(Nq:∀m∈xd,m∈cU)(UR:xd.length<=cU.length)
 (hd:aa_<=Gz) (Rm:(e.dH=true\/e.iO=true)->aa_+1<=Gz) (Nf:e.dH=true->∃m∈cU,m.dH=true)
 (hS:S=(aX.set i (aH l (ao l i size) e).1,xd++(aH l (ao l i size) e).2)) (hT:T=((fP size aX).set i (rJ (ao l i size) e).1,xd++(rJ (ao l i size) e).2)):
 GI size S.1 S.2 (t+1) (P+DA e.cQ) Gz/\T=(fP size S.1,S.2):=by
 let ⟨G',e2⟩:=G.event nV hP hi e he Nq UR hd Rm Nf;rw[hS,hT,e2,AY];exact⟨G',rfl⟩
def GI.move{size:Nat}{aX:List aY}{cU:List cR}{t P aa_:Nat}(G:GI size aX cU t P aa_)(nV:size<=4)(hP:P+1<=30)(mv:Mv)(hm:ZZ size mv):
 GI size (j6 size (aX,cU) mv).1 (j6 size (aX,cU) mv).2 (t+1) (P+DA mv.cQ) (aa_+DA mv.j7)/\lq (fP size aX,cU) mv=(fP size (j6 size (aX,cU) mv).1,(j6 size (aX,cU) mv).2):=by
 intros size aX cU t P aa_ mv _ G nV hP hm;cases mv with
 |«at» i e=>
  have hi:=iF (by rw[G.len];exact hm.1:i<aX.length)
  have hn:gO size t P (yl aX) e/\e.dH=false/\e.iO=false:=by
   have h:=hm.2;clear hi hm;cases e<;>first|exact⟨trivial,rfl,rfl⟩|exact h.elim
  exact G.both (Gz:=aa_) nV hP hi e hn.1 (λz h=>h) (bW _) (bW _) (λh=>h.elim (λh=>nomatch hn.2.1.symm.trans h) λh=>nomatch hn.2.2.symm.trans h) (λh=>nomatch hn.2.1.symm.trans h) (by unfold j6;dsimp only;rw[hi]) (by unfold lq;dsimp only;rw[nP hi])
 |deliver k=>
  by_cases hw:cU=[]
  .subst hw;exact⟨G.GA (λz h=>h) (b8 _) (iE _ _) (iE _ _),rfl⟩
  have Z1:=iF (cS k (BJ.mpr hw));have kH:=BC (cS k (BJ.mpr hw));generalize cU[ai k cU.length]'(cS k (BJ.mpr hw))=m at Z1 kH;have Rr:=G.msg m kH;have Nx:=cR.Z0 Rr;have hi:=iF (by rw[G.len];exact(BO Nx.1).mpr Nx.2:m.to.toNat<aX.length);exact G.both (Gz:=aa_+1) nV hP hi (.msg m) Rr (λz h=>Nv h) (xe cU (ai k cU.length)) (jr _) (λz=>bW _) (λh=>⟨m,kH,h⟩) (by unfold j6;dsimp only;rw[Z1];dsimp only;rw[hi]) (by unfold lq;dsimp only;rw[Z1];dsimp only;rw[nP hi];rfl)
 |drop k=>exact⟨G.GA (λz h=>Nv h) (aG (xe _ _) (jr _)) (iE _ _) (iE _ _),rfl⟩
 |double k=>
  refine⟨G.GA (λm h=>(dY.mp h).elim id λh=>jK (XJ.mp h)) ?_ (iE _ _) (iE _ _),rfl⟩;show(cU++(cU[ai k cU.length]?).toList).length<=_;rw[bU];exact ff (by cases cU[ai k cU.length]?<;>exact bz aa) _
noncomputable def C5:aY:=[.fq (0,0),.is 0 (0,0)]
def GI.start(size:Nat):GI size (JP size C5) [] 0 0 0:=by
 have b0:qy 0 (0,0):=⟨eS 0,eS 0⟩;refine⟨List.length_replicate,λi l hi=>?_,n0,bW 0,.inr ⟨?_,n0⟩⟩
 .obtain rfl:=List.eq_of_mem_replicate (jK hi);exact⟨⟨0,(0,0),⟨rfl,qM,λh=>aK aa h,n0,n0,n0,λh=>(nomatch h),λh=>(nomatch h),λz=>qM⟩,n9 _ _⟩,⟨⟨(EL.v1 b0).cat (.i1 ⟨by decide,b0,λh=>aK aa h⟩),λz=>qM,n0⟩,λh=>(nomatch h),λh=>(nomatch h)⟩,bW 2⟩
 have:(JP size C5).mapIdx (λi l=>nh i l)=JP size 0:=by
  apply zc;intro k;rw[sF,Et,Et];split<;>rfl
 unfold NH;rw[this,List.sum_replicate_nat];exact Nat.mul_zero _
end
section
variable {prog:Program}{w:World}{A:Around}{R:vq->Shared->Prop}{I:Addr}{fp wr:List Addr}{n:Nat}{P:Nat->aA->Prop}{St:Nat->cC->Prop}{G:cC->Prop}{kw:List (Str×aA)}
def Z2(W:Walks prog w A.in1 I fp wr n P St)(bt:Nat->Nat->Bool)(S:Addr)(vX:S∉fp)(hG:∀h h',G h->(∀b o,b∉wr->b≠S->h.get? b=some o->h'.get? b=some o)->G h')
 (AZ:∀i j vi vj (s:Shared) (Q:aA->Shared->Prop) (E:aA->Shared->Prop),G s.heap->P i vi->P j vj->Q (.bool (bt i j)) s->wpAny (model prog w) A.in1 (richCompare .Gt vi vj) Q E s):
 ∀(k j:Nat) (s:Shared) (vb:aA) (c:Nat),n-(j+1)=k->j+1<=n->St (j+1) s.heap->G s.heap->P (argBest bt j) vb->
 s.heap.get? S=some {cls:=.type "list",dict:=none,data:=.seq #[vb,vb] c,slots:=#[]}->
 (∀v h' tk,P (argBest bt (n-1)) v->(∀b o,b∉wr->b≠S->s.heap.get? b=some o->h'.get? b=some o)->R (.ok (.ret v)) {s with heap:=h',toks:=tk})->
 codeAny (model prog w) A (.builtin "max.loop" ⟨[.ref I,.none,.ref S],kw⟩) R s:=by
 intros prog w A R I fp wr _ n P St G kw W bt S vX hG AZ;intros n P St G kw bt S _ W vX hG AZ;have Kn:S∉wr:=λh=>vX (W.sub _ h)
 have xg:(toString "max"++toString ".loop":String)="max.loop":=by decide
 intro k
 induction k with
 |zero=>
  intro j s vb c hk hj cW hg hPb hS hR;have oj:j+1=n:=Ae hk hj;refine tW PF ?_;rw[vR vU _];show wpAny _ A.in1 (seqItems? (.ref S)>>=_) _ _ s;refine aF (Ju hS aa ?_);show wpAny _ A.in1 (tryCatch (pyNext (.ref I)) _>>=_) _ _ s;refine aF (Bx (W.done s _ _ (oj▸cW) λh' tk pD=>?_));have uo:=pD S _ Kn hS;show wpAny _ A.in1 (updateSeq S (λz=>#[])>>=_) _ _ _;refine aF ?_;refine wpAny_updateSeq uo aa (aF (Jv (bx ?_)));refine hR vb _ tk (by rw[<-oj];exact hPb) λb o A0 Ls e=>(zh _ _ (dJ Ls)).trans (pD b o A0 e)
 |succ k ih=>
  intro j s vb c hk hj cW hg hPb hS hR;have eG:j+1<n:=zw hk;refine tW PF ?_;rw[vR vU _];show wpAny _ A.in1 (seqItems? (.ref S)>>=_) _ _ s;refine aF (Ju hS aa ?_);show wpAny _ A.in1 (tryCatch (pyNext (.ref I)) _>>=_) _ _ s;refine aF (Bx (W.item (j+1) s _ _ eG cW λv h' tk hP EU pD=>?_));have uo:=pD S _ Kn hS;have DB:G h':=hG _ _ hg λb o h1 h2 e=>pD b o h1 e
  show wpAny _ A.in1 (tryCatch (holding [v,v] (richCompare .Gt v vb>>=_)) _>>=_) _ _ _;refine aF (Bx (e9 (aF (AZ (j+1) (argBest bt j) v vb _ _ _ DB hP hPb ?_))));refine aF (e9 (D4 ?_));refine aF (Jv (bx ?_));cases hb:bt (j+1) (argBest bt j) with
  |true=>
   simp only[if_true];refine aF ?_;refine wpAny_updateSeq uo aa (aF (Jv ?_));rw[xg];refine bx ⟨tX vU _,ih (j+1) _ v _ (xM hk) eG (W.frame _ _ _ EU λb Rt o e=>?_) (hG _ _ DB λb o h1 h2 e=>(zh _ _ (dJ h2)).trans e) (by simp only[argBest,hb,if_true];exact hP) (EB _ uo aa)
    λv' Ny Nz tP NB=>?_⟩
   .exact(zh _ _ (λh:S=b=>vX (by rw[h];exact Rt))).trans e
   exact hR v' Ny Nz tP λb o A0 Ls e=>NB b o A0 Ls ((zh _ _ (dJ Ls)).trans (pD b o A0 e))
  |false=>
   simp only[sH,if_false];refine aF (Jv ?_);rw[xg];refine bx ⟨tX vU _,ih (j+1) _ vb c (xM hk) eG EU DB (by simp only[argBest,hb,sH,if_false];exact hPb) uo λv' Ny Nz tP NB=>?_⟩;exact hR v' Ny Nz tP λb o A0 Ls e=>NB b o A0 Ls (pD b o A0 e)
def IV(W:Walks prog w A.in1 I fp wr n P St)(bt:Nat->Nat->Bool)(S:Addr)(vX:S∉fp)(hG:∀h h',G h->(∀b o,b∉wr->b≠S->h.get? b=some o->h'.get? b=some o)->G h')
 (AZ:∀i j vi vj (s:Shared) (Q:aA->Shared->Prop) (E:aA->Shared->Prop),G s.heap->P i vi->P j vj->Q (.bool (bt i j)) s->wpAny (model prog w) A.in1 (richCompare .Gt vi vj) Q E s)
 {s:Shared} {c:Nat} (cW:St 0 s.heap) (hg:G s.heap) (hS:s.heap.get? S=some {cls:=.type "list",dict:=none,data:=.seq #[] c,slots:=#[]})
 (hR:∀v h' tk,0<n->P (argBest bt (n-1)) v->(∀b o,b∉wr->b≠S->s.heap.get? b=some o->h'.get? b=some o)->R (.ok (.ret v)) {s with heap:=h',toks:=tk})
 (hR0:∀h' tk,n=0->(∀b o,b∉wr->b≠S->s.heap.get? b=some o->h'.get? b=some o)->∃nm d r,kw=(nm,d)::r/\R (.ok (.ret d)) {s with heap:=h',toks:=tk}):
 codeAny (model prog w) A (.builtin "max.loop" ⟨[.ref I,.none,.ref S],kw⟩) R s:=by
 intros prog w A R I fp wr n _ P St G kw W bt S vX hG AZ s c cW hg hS hR hR0;intros P St G kw bt S s c _ W vX hG AZ cW hg hS hR hR0;have Kn:S∉wr:=λh=>vX (W.sub _ h)
 have xg:(toString "max"++toString ".loop":String)="max.loop":=by decide
 refine tW PF ?_;rw[vR vU _];show wpAny _ A.in1 (seqItems? (.ref S)>>=_) _ _ s;refine aF (Ju hS aa ?_);show wpAny _ A.in1 (tryCatch (pyNext (.ref I)) _>>=_) _ _ s
 by_cases hn:0<n
 .refine aF (Bx (W.item 0 s _ _ hn cW λv h' tk hP EU pD=>?_));intros v h' tk _ hP EU pD;have uo:=pD S _ Kn hS;have DB:G h':=hG _ _ hg λb o h1 h2 e=>pD b o h1 e
  show wpAny _ A.in1 (updateSeq S (λz=>#[v,v])>>=_) _ _ _;refine aF ?_;refine wpAny_updateSeq uo aa ?_;rw[xg];refine bx ⟨tX vU _,Z2 (G:=G) W bt S vX hG AZ _ 0 _ v _ aa hn (W.frame _ _ _ EU λb Rt o e=>?_) (hG _ _ DB λb o h1 h2 e=>(zh _ _ (dJ h2)).trans e) hP (EB _ uo aa) λv' Ny Nz tP NB=>?_⟩
  .exact(zh _ _ (λh:S=b=>vX (by rw[h];exact Rt))).trans e
  exact hR v' Ny Nz hn tP λb o A0 Ls e=>NB b o A0 Ls ((zh _ _ (dJ Ls)).trans (pD b o A0 e))
 have HS:n=0:=Wy ‹_›;refine aF (Bx (W.done s _ _ (HS▸cW) λh' tk pD=>?_));let ⟨nm,d,r,e,hr⟩:=hR0 h' tk HS λb o h1 h2 e=>pD b o h1 e
 subst e;show wpAny _ A.in1 (rule _>>=_) _ _ _;refine aF (yR ?_);exact bx hr
end
theorem uV(f:Nat->Int):∀n,argBest (λi j=>decide (f i>f j)) n<=n/\∀i,i<=n->f i<=f (argBest (λi j=>decide (f i>f j)) n)
 |0=>⟨bW _,λi hi=>vK (cj f (Wn.mp hi))⟩
 |n+1=>by
  have ih:=uV f n;have e:argBest (λi j=>decide (f i>f j)) (n+1)=if decide (f (n+1)>f (argBest (λi j=>decide (f i>f j)) n)) then n+1 else argBest (λi j=>decide (f i>f j)) n:=rfl
  rw[e];generalize argBest (λi j=>decide (f i>f j)) n=m at ih;split
  .rename_i hc;exact⟨bW _,λi hi=>(tZ hi).elim (λh=>cN (ih.2 i (mQ h)) (jR (fG hc))) λh=>h▸eS _⟩
  rename_i hc;exact⟨vA ih.1,λi hi=>(tZ hi).elim (λh=>ih.2 i (mQ h)) λh=>h▸lz.mp λh=>hc (decide_eq_true h)⟩
def NC(a d:aA):argsOk "max" ⟨[a],[("default",d)]⟩:=by unfold argsOk;kernel_rfl
def CE:bootBuiltins "max"=some (.builtin "max"):=by first|rfl|decide+kernel
section
variable {c:C}{ρ:Nm}{e o e₁ e₂:aU}{v:V}{p pos apos kp:Pos}{a:Addr}{ds:List D}
def Lu{prog:Program}{w:World}{A:Around}{s:Shared}{x d:aA}{Q:aA->Shared->Prop}{G:cC->Prop}
 (h:wpAny (model prog w) A.in1 (pyIter x) (λit aB=>∃I fp wr n P St bt,it=.ref I/\Walks prog w A.in1 I fp wr n P St/\St 0 aB.heap/\(∀b∈fp,b<aB.heap.objs.size)/\
  (∀i j vi vj (s:Shared) (Q:aA->Shared->Prop) (E:aA->Shared->Prop),P i vi->P j vj->Q (.bool (bt i j)) s->wpAny (model prog w) A.in1 (richCompare .Gt vi vj) Q E s)/\
  (∀v h' tk,0<n->P (argBest bt (n-1)) v->(∀b o,b∉wr->aB.heap.get? b=some o->h'.get? b=some o)->Q v {aB with heap:=h',toks:=tk})/\
  (∀h' tk,n=0->(∀b o,b∉wr->aB.heap.get? b=some o->h'.get? b=some o)->Q d {aB with heap:=h',toks:=tk})) no s):
 wpAny (model prog w) A (call (.builtin "max") [x] [("default",d)]) Q no s:=by
 intros prog w A s x d Q G _ h;have xg:(toString "max"++toString ".loop":String)="max.loop":=by decide
 refine yS (VS X8 Yb ?_);have ha:=NC x d;simp only[checkBuiltinCall,Yc]
 have main:wpAny (model prog w) A.in1 (kF.«max» ⟨[x],[("default",d)]⟩) (λfin s'=>match fin with
  |.done f=>(match (Except.ok f:vq) with|.ok (.ret v)=>Q v s'|.ok _=>False|.error e=>no e s')
  |.again c'=>c'.quiet=true/\codeAny (model prog w) A c' (λr s'=>match r with|.ok (.ret v)=>Q v s'|.ok _=>False|.error e=>no e s') s') no s:=by
  show wpAny _ A.in1 (Ka "max" ["key","default"] 0 ⟨[],[("default",d)]⟩>>=_) _ _ s;refine aF (sy (show Ka "max" ["key","default"] 0 ⟨[],[("default",d)]⟩=pure [none,some d] from rfl) ?_);refine aF (bx ?_);refine aF (mP h (λit aB bN=>?_) λz z e=>e);intros it aB _ bN;refine aM λhN=>?_;obtain⟨I,fp,wr,n,P,St,bt,rfl,W,cW,hfp,AZ,hQ,hQ0⟩:_:=bN;refine hN ?_
  refine aF (wpAny_newObj_type ?_);have vX:aB.heap.objs.size∉fp:=λhm=>Jw _ (hfp _ hm)
  rw[xg];refine bx ⟨tX vU _,IV (G:=λz=>True) W bt aB.heap.objs.size vX (λz z z z=>trivial) (λi j vi vj s Q E z=>AZ i j vi vj s Q E) (W.frame _ _ _ cW λb z o e=>dS _ e) trivial (fh _ aa) (λv h' tk hn hP hk=>?_) λh' tk hn hk=>?_⟩
  .exact hQ v h' tk hn hP λb o A0 e=>hk b o A0 (ie (gP e)) (dS _ e)
  exact⟨_,d,[],rfl,hQ0 h' tk hn λb o A0 e=>hk b o A0 (ie (gP e)) (dS _ e)⟩
 cases afh:Manifest.signature? "max" with
 |none=>exact bx main
 |some sig=>
  have ha':Bind.checkArgs "max" sig ⟨[x],[("default",d)]⟩=pure ():=by simpa only[argsOk,afh] using ha
  simp only[ha'];exact bx main
def Ev.Z3{kvs:List (Int×V)}{d:Int}(h:Ev c ρ e (.r a))(hs:c.σ a=some (.i kvs))(bN:Ev c ρ e₂ (.d (.int d)))(kq:autoParam (c.env.kindOf "max"=some .globalImplicit) bu)(cW:autoParam (bJ e=false) bu):
 Ev c ρ (.Call (.Name "max" p) [e] [⟨some "default",e₂,kp⟩] pos) (.d (.int (if kvs=[] then d else dI (kvs.map (·.1))))):=by
 intros c ρ e e₂ p pos kp a kvs d _ h hs bN kq cW;exact λs S=>by
  have he:eval (.Call (.Name "max" p) [e] [⟨some "default",e₂,kp⟩] pos) c.env=(do callWith pos (<-eval (.Name "max" p) c.env) [] (backTo pos (starEach [e] c.env)) (backToKw pos (keywordEach [⟨some "default",e₂,kp⟩] c.env))):=rfl;rw[he];refine aF (S.E4 kq (by decide) CE (by decide) (by decide) ?_);have tG:(backToKw pos (keywordEach [⟨some "default",e₂,kp⟩] c.env)).all (·.1.isSome)=true:=rfl;have hkw:(backToKw pos (keywordEach [⟨some "default",e₂,kp⟩] c.env)).any (·.1.isNone)=false:=rfl;have hse:backTo pos (starEach [e] c.env)=(false,eval e c.env)::backTo pos (starEach [] c.env):=by rw[bO _ cW];rfl
  refine callWith_kw (e:=e) (rest:=[]) (kws:=[⟨some "default",e₂,kp⟩]) (M:=c.m) (env:=c.env) ?_ hse (eU (es:=[e]) (Qn cW) pos c.env) tG hkw;rw[bO _ cW];refine sM (bk (h s S) (λx ah o1=>vQ ?_));refine kws_cons (bk (bN ah (S.kp o1.k)) (λy aB o2=>kws_nil ?_));obtain rfl:x=.ref a:=o1.r;have kk:=o1.k.trans o2.k;let ⟨us,dd,z,r,ns⟩:=(S.bs.kp kk).dict hs;let ⟨ep,da⟩:=dd.dictAt;have hl:=r.length;let ⟨td,zy⟩:=jV o2.r;refine Lu (G:=λu=>True) (wpAny_pyIter_dict ns da ?_);let f:Nat->Int:=λi=>(kvs.map (·.1)).getD i 0
  refine⟨aB.heap.objs.size,_,_,us.length,_,_,λi j=>decide (f i>f j),rfl,Walks.dictKeys (A:=c.A.in1) (knd:=intKind c.prog c.w) S.bs.room.hh _ a (ie da.lt_size) us ep,⟨⟨_,fh _ aa,rfl,rfl⟩,da.push _⟩,λb hb=>?_,?_,?_,?_⟩
  .show b<(aB.heap.push _).objs.size;rw[BZ];rcases bZ.mp hb with e|hb
   .rw[e];exact qK _
   rw[eO.mp hb];exact JB da.lt_size
  .intro i j vi vj s Q E z2 z3 hQ;let ⟨k,x,e,q⟩:=z2;let ⟨k',x',e',q'⟩:=z3;let ⟨t,zy⟩:=nq q;let ⟨t',zy⟩:=nq q';let ⟨y,ey,_⟩:=r.get e;let ⟨y',ey',_⟩:=r.get e';have f1:f i=k:=by show(kvs.map (·.1)).getD i 0=k;rw[kW,dh,ey];rfl
   have f2:f j=k':=by show(kvs.map (·.1)).getD j 0=k';rw[kW,dh,ey'];rfl
   have Z4:Q (.bool (decide (f i>f j))) s:=hQ;rw[f1,f2] at Z4;exact qi.int (op:=.Gt) aa _ _ _ _ Z4
  .intro v h' tk hn z2 keep;let ⟨k,x,e,q⟩:=z2;let ⟨t,zy⟩:=nq q;let ⟨y,ey,_⟩:=r.get e;have dg:kvs≠[]:=λh=>by rw[hl,h] at hn;exact Jw _ hn
   have iK:kvs.map (·.1)≠[]:=λh=>dg (List.map_eq_nil_iff.mp h)
   let ⟨b1,b2⟩:=uV f (us.length-1);let ⟨m1,m2⟩:=tN iK;have fk:f (argBest (λi j=>decide (f i>f j)) (us.length-1))=k:=by show(kvs.map (·.1)).getD _ 0=k;rw[kW,dh,ey];rfl
   have hkt:k=dI (kvs.map (·.1)):=by
    have g1:k<=dI (kvs.map (·.1)):=m2 k (cg.mpr ⟨_,jK ey,rfl⟩);refine aM λhN=>?_;obtain⟨i,hi,ei⟩:_:=Pc m1;refine hN ?_
    rw[aR] at hi;have g2:=b2 i (yW (hl▸hi));have:f i=dI (kvs.map (·.1)):=by show(kvs.map (·.1)).getD i 0=_;rw[<-ei];simp[kW,hi]
    rw[fk,this] at g2;exact uc g1 g2
   rw[ay dg,<-hkt];refine⟨kk.trans ⟨rfl,rfl,λb o e=>keep b o (λhI=>?_) (dS _ e)⟩,.int k t⟩;rw[eO.mp hI,bC] at e;cases e
  intro h' tk hn keep;have he:kvs=[]:=yZ.mp (by rw[<-hl];exact hn);rw[aq he];refine⟨kk.trans ⟨rfl,rfl,λb o e=>keep b o (λhI=>?_) (dS _ e)⟩,.int d td⟩;rw[eO.mp hI,bC] at e;cases e
def Ev.afi{kf:D->Int}{out:D}(h:Ev c ρ e v)(ha:vm c v ds)(hk:∀x∈ds,∀y∈ds,D.ord .Gt x y=some (decide (kf x>kf y)))(ho:out∈ds)(hm:∀x∈ds,kf x<=kf out)(inj:∀x∈ds,kf x=kf out->x=out)(SN:D.dK ds<=400)
 (kq:autoParam (c.env.kindOf "max"=some .globalImplicit) bu) (cW:autoParam (bJ e=false) bu):Ev c ρ (.Call (.Name "max" p) [e] [] pos) (.d out):=by
 intros c ρ e v p pos ds kf out _ h ha hk ho hm inj SN kq cW;exact λs S=>by
  refine rC S kq (by decide) CE (by decide) (by decide) cW (bk (h s S) (λx ah o1=>?_));let ⟨l,vs,zy,z2,z,r⟩:=uv o1.r (S.bs.kp o1.k) ha;let ⟨m,i⟩:=z2;have hl:=r.size;have xg:(toString "max"++toString ".loop":String)="max.loop":=by decide
  refine call_function_tree Yc X8 Yb (PySem.F.args_max1 _) ?_;show wpAny _ c.A.in1 (Ka "max" ["key","default"] 0 ⟨[],[]⟩>>=_) _ _ ah;refine aF (sy (show Ka "max" ["key","default"] 0 ⟨[],[]⟩=pure [k6,k6] from rfl) ?_);refine aF (bx ?_);have Z5:ah.heap.IsList l vs:=PL.isList ⟨m,i⟩;refine aF (D3 Z5 ?_);have hlI:l≠ah.heap.objs.size:=ie (gP i);refine aF (wpAny_newObj_type ?_);rw[xg];let f:Nat->Int:=λi=>kf (ds.getD i jg)
  generalize hI:ah.heap.objs.size=I at hlI;have hS:(ah.heap.push {cls:=.type "list_iterator",data:=.fields #[.ref l,.int 0 0]}).objs.size=I+1:=by rw[BZ,hI]
  have hnI:ah.heap.get? I=k6:=by rw[<-hI];exact bC _
  have hnS:ah.heap.get? (I+1)=k6:=Xs (by rw[hI];exact jr _);have adR:(ah.heap.push {cls:=.type "list_iterator",data:=.fields #[.ref l,.int 0 0]}).get? I=some {cls:=.type "list_iterator",data:=.fields #[.ref l,.int 0 0]}:=by rw[<-hI];exact fh _ aa
  have rG:aC ah.heap (λb=>c.M b\/b=I\/b=I+1) vs.toList ds:=r.mono λb o nb t e=>⟨e,λh=>h.elim nb λh=>h.elim (λe'=>by rw[e',hnI] at e;cases e) λe'=>by rw[e',hnS] at e;cases e⟩
  rw[hS];have W:=Yp (prog:=c.prog) (w:=c.w) (A:=c.A.in1) S.bs.room.hh I l hlI vs;refine bx ⟨tX vU _,IV (G:=λh=>aC h (λb=>c.M b\/b=I\/b=I+1) vs.toList ds) W (λi j=>decide (f i>f j)) (I+1) (by simp;exact λh=>by rw[h] at hnS;have i':ah.heap.get? l=some _:=i;exact ns hnS i') ?_ ?_ ⟨⟨_,dS _ adR,rfl,rfl⟩,(Z5.push _).push _⟩ ?_ (by have:=fh (ah.heap.push {cls:=.type "list_iterator",data:=.fields #[.ref l,.int 0 0]}) (o:={cls:=.type "list",data:=.seq #[]}) aa;rw[hS] at this;exact this) ?_ ?_⟩
  .intro h h' g pD;exact g.mono λb o nb t e=>⟨pD b o (λhb=>nb (.inr (.inl (eO.mp hb)))) (λhb=>nb (.inr (.inr hb))) e,nb⟩
  .intro i j vi vj s Q E g hi hj hQ;let ⟨di,ei,ri⟩:=g.get' (by rw[lC];exact hi);let ⟨dj,ej,rj⟩:=g.get' (by rw[lC];exact hj);have f1:f i=kf di:=by show kf (ds.getD i jg)=_;rw[kW,ei];rfl
   have f2:f j=kf dj:=by show kf (ds.getD j jg)=_;rw[kW,ej];rfl
   have Z4:Q (.bool (decide (f i>f j))) s:=hQ;rw[f1,f2] at Z4;have Q2:=jK ei;have:=Ky Q2;exact qi.rep (op:=.Gt) aa di.dep di dj c.A.in1 vi vj _ (bW _) ri rj (hk di Q2 dj (jK ej)) (xN (k:=1) (aG (Ky Q2) SN) S.bs.room.u aa) _ _ _ _ Z4
  .exact rG.keep λb o e=>dS _ (dS _ e)
  .intro v h' tk hn hP keep;have kp:Kp ah {ah with heap:=h',toks:=tk}:=⟨rfl,rfl,λb o e=>keep b o (λhb=>by rw[eO.mp hb,hnI] at e;cases e) (λhb=>by rw[hb,hnS] at e;cases e) (dS _ (dS _ e))⟩;let ⟨d,ed,rd⟩:=r.get' (by rw[lC];exact hP);have KN:=jK ed;let ⟨b1,b2⟩:=uV f (vs.size-1);have fd:f (argBest (λi j=>decide (f i>f j)) (vs.size-1))=kf d:=by show kf (ds.getD _ jg)=_;rw[kW,ed];rfl
   have hdo:d=out:=by
    refine inj d KN ?_;have g1:=hm d KN;refine aM λhN=>?_;obtain⟨i,hi,ei⟩:_:=Pc ho;refine hN ?_
    have g2:=b2 i (yW (hl▸hi));have:f i=kf out:=by show kf (ds.getD i jg)=_;rw[<-ei];simp[kW,hi]
    rw[fd,this] at g2;exact uc g1 g2
   subst hdo;exact⟨o1.k.trans kp,rd.keep kp.keep⟩
  intro h' tk hn keep;have:ds=[]:=yZ.mp (by lia);rw[this] at ho;cases ho
def Ev.max2(bF:Ev c ρ e₁ (.d (.int x)))(bN:Ev c ρ e₂ (.d (.int y)))(kq:autoParam (c.env.kindOf "max"=some .globalImplicit) bu)(gh:autoParam (bJ e₁=false) bu)(gk:autoParam (bJ e₂=false) bu):Ev c ρ (.Call (.Name "max" p) [e₁,e₂] [] pos) (.d (.int (max x y))):=by
 intros c ρ e₁ e₂ p pos x y _ bF bN kq gh gk;exact λs S=>by
  refine yy S kq (by decide) CE (by decide) (by decide) (br bF (br bN fj gk) gh) (by simp[bP,gh,gk]) (n9 _ _) λah xs aE cT=>?_
  apply EZ cT;intro u u' ru Z6;let ⟨t,zy⟩:=jV ru;let ⟨t',zy⟩:=jV Z6;refine call_max_two ?_;have ht:(ah.heap.push {cls:=.type "tuple",data:=.seq #[.int x t,.int y t']}).IsTuple ah.heap.objs.size #[.int x t,.int y t']:=⟨_,fh _ aa,rfl,0,rfl⟩;refine wpAny_pyIter_tuple ht ?_;have jt:(ah.heap.push {cls:=.type "tuple",data:=.seq #[l7 x t,l7 y t']}).objs.size=ah.heap.objs.size+1:=by rw[BZ]
  have dg:ah.heap.objs.size≠(ah.heap.push {cls:=.type "tuple",data:=.seq #[l7 x t,l7 y t']}).objs.size:=by rw[BZ];exact ie (qK _)
  refine⟨_,_,_,_,_,_,λi j=>decide ((if i=0 then x else y)>(if j=0 then x else y)),rfl,Walks.tuple (A:=c.A.in1) S.bs.room.hh _ ah.heap.objs.size dg #[.int x t,.int y t'],⟨⟨_,fh _ aa,rfl,rfl⟩,ht.push _⟩,λb hb=>?_,by simp,?_,λv h' tk hP keep=>?_⟩
  .have afj:b<(ah.heap.push {cls:=.type "tuple",data:=.seq #[l7 x t,l7 y t']}).objs.size+1:=by
    rcases bZ.mp hb with e|hb
    .rw[e];exact qK _
    rw[eO.mp hb,jt];exact JB (qK _)
   show b<((ah.heap.push _).push _).objs.size;rw[BZ];exact afj
  .have two:∀(i:Nat) v,(#[l7 x t,l7 y t']:Array aA)[i]?=some v->∃tk,v=.int (if i=0 then x else y) tk:=λi v h=>by
    match i,h with
    |0,h=>simp at h;exact⟨t,h.symm⟩
    |1,h=>simp at h;exact⟨t',h.symm⟩
    |n+2,h=>simp at h
   intro i j vi vj s Q E hi hj hQ;let ⟨a1,zy⟩:=two i vi hi;let ⟨a2,zy⟩:=two j vj hj;exact qi.int (op:=.Gt) aa _ _ _ _ hQ
  have tP:(#[l7 x t,l7 y t']:Array aA)[argBest (λi j=>decide ((if i=0 then x else y)>(if j=0 then x else y))) 1]?=some v:=hP
  have hb:argBest (λi j=>decide ((if i=0 then x else y)>(if j=0 then x else y))) 1=if y>x then 1 else 0:=by
   show(if decide ((if 0+1=0 then x else y)>(if 0=0 then x else y)) then 0+1 else 0)=_;simp
  rw[hb] at tP
  have hv:∃tk,v=.int (max x y) tk:=by
   by_cases UT:y>x
   .rw[aq UT] at tP;simp at tP;exact⟨t',by rw[<-tP,zg (jR UT)]⟩
   rw[ay UT] at tP;simp at tP;exact⟨t,by rw[<-tP,JV (lz.mp UT)]⟩
  let ⟨YI,zy⟩:=hv;refine⟨aE.trans ⟨rfl,rfl,λb o e=>keep b o (λhI=>?_) (dS _ (dS _ e))⟩,.int _ _⟩;rw[eO.mp hI] at e;have:=gP e;rw[jt] at this;exact aK this (Nat.not_lt_of_le (jr _))
end
open Mine.Ev renaming Z3->Ru,max2->Rv
def afk(ns:List Int):kO ns=j3 ns:=rfl
def UU:∀m<16,(gF m).toList.Nodup:=by decide+kernel
noncomputable def GB(e:Int×aA):Int:=match e.2 with|.int k _=>k|_=>0
def UW(x:Ao prog w h a ks):∃o es ep t,h.get? a=some o/\o.ExactSet/\o.data=.set es ep t/\Dj (ju w) es t/\t.fits es.size=true/\es.size<scanBound/\(es.toList.map GB).Perm ks/\∀e∈es.toList,∃tok,e.2=.int (GB e) tok:=by
 intros prog w h a ks _ x;refine aM λhN=>?_;obtain⟨⟨o,es,ep,t,ho,hex,hd,T6,kH,hb,hf,hn⟩,nd,o',P5,ep',t',tH,rU,hT⟩:_:=x;refine hN ?_
 rw[ho] at tH;cases tH;rw[hd] at rU;cases rU
 have Io:∀e∈es.toList,∃tok,e.2=.int (GB e) tok:=λe he=>by
  let ⟨j,hj⟩:=WB he;let ⟨k,tok,_,e2⟩:=hT.2.2.2.2.2.2 j e (by rw[<-lC];exact hj);exact⟨tok,by unfold GB;rw[e2]⟩
 refine⟨o,es,ep,t,ho,hex,hd,hT,hf,hb,?_,Io⟩;refine wX ?_ nd λk=>?_
 .let ⟨m,hm,hp⟩:=hT.2.2.2.2.1
  have afl:es.toList.map GB=t.place.toList.map (λ(k:Nat)=>(k:Int)):=by
   apply zc;intro j;rw[dh,dh]
   by_cases hj:j<es.size
   .have e1:es.toList[j]?=some es[j]:=by rw[lC];exact ED hj
    let ⟨k,tok,e2,e3⟩:=hT.2.2.2.2.2.2 j es[j] (ED hj);rw[e1,lC,e2];show some (GB es[j])=some (k:Int);unfold GB;rw[e3]
   rw[qL (by simp;exact jb.mp ‹_›),qL (by have:=hT.2.2.2.2.2.1;simp;exact aG (fF (Eq.symm ‹_›)) (jb.mp ‹_›))];rfl
  rw[afl,hp];have:=UU m hm;rw[List.Nodup,zd];exact Yl (λh e=>h (PW e)) this
 have h1:=kH k;rw[t8] at h1;rw[h1,cg];constructor
 .intro z2;let ⟨e,he,e2⟩:=z2;let ⟨tok,e3⟩:=Io e he;exact⟨e,he,by rw[e3,<-e2];exact jd _ _ _ _⟩
 intro z2;let ⟨e,he,e2⟩:=z2;let ⟨tok,e3⟩:=nq e2;exact⟨e,he,by unfold GB;rw[e3]⟩
def A4(hh:A.handled=none)(x:Ao prog w s.heap a ks)
 (hq:∀aB vs ds',Kp s aB->aC aB.heap M vs ds'->ds'.Perm (bA ks)->Q vs aB):wpAny (model prog w) A (collect (.ref a)) Q no s:=by
 let ⟨o,es,ep,t,ho,hex,hd,hT,hf,hb,hp,hv⟩:=UW x;refine Px (A:=A) (YN (prog:=prog) (w:=w) (a:=a) hex hT hf hd) hh ho (VQ hb) λh' tk acc keep r8=>?_
 have hsp:=Am w a ep es;refine hq _ acc.toList ((lP w a ep es).toList.map λe=>.int (GB e)) ⟨rfl,rfl,keep⟩ ?_ ?_
 .refine uK (by rw[l6,r8.1,aR,l6,An]) λj v hj=>?_
  let ⟨e,e1,e2⟩:=r8.2 j v (by rw[<-lC];exact hj);subst e2;have e1':(lP w a ep es).toList[j]?=some e:=by rw[lC];exact e1
  let ⟨tok,e3⟩:=hv e (hsp.mem_iff.mp (jK e1'));refine⟨.int (GB e),by rw[dh,e1'];rfl,?_⟩;rw[e3];exact .int _ tok
 have h1:=(hsp.map GB).trans hp;have:=h1.map jF;rw[cV] at this;exact this
section
variable {c:C}{ρ:Nm}{e o e₁ e₂ Mz:aU}{v:V}{p pos apos A5 kp:Pos}{a:Addr}{ds:List D}{ks:List Int}{kvs:List (Int×V)}{i:Int}
def uJ.set(h:Ev c ρ e (.r a))(hs:c.σ a=some (.s ks)):uJ c ρ e (bA ks):=λs S=>by
 refine bk (h s S) (λx ah o1=>⟨o1.k,λA' Q hh hq=>?_⟩);obtain rfl:x=.ref a:=o1.r;let ⟨_,_,so⟩:=(S.bs.kp o1.k).gg a _ hs;exact A4 hh so hq
def uJ.abI(h:jP c ρ e (.s ks)):uJ c ρ e (bA ks):=λs S=>by
 refine bk (h s S) (λx ah ⟨aE,b,ex,_,so⟩=>⟨aE,λA' Q hh hq=>?_⟩);subst ex;exact A4 hh so hq
def iG.get{M:Addr->Prop}{h:cC}{xs:List aA}{vs:List V}(r:iG M h xs vs){j:Nat}{v:V}(e:vs[j]?=some v):∃x,xs[j]?=some x/\VR M h v x:=
 iG.rec (motive:=λxs vs z=>∀(j:Nat) (v:V),vs[j]?=some v->∃x,xs[j]?=some x/\VR M h v x) (λz z e=>nomatch JG.symm.trans e) (λa z ih j v=>JC (λe=>⟨_,rfl,eF e▸a⟩) (λn z=>ih n v) j) r j v e
def Ev.adS{vs:List V}{k:Int}{j:Nat}(bF:Ev c ρ e₁ (.r a))(hs:c.σ a=some (.v vs))(bN:Ev c ρ e₂ (.d (.int k)))(hk:seqIndex? k vs.length=some j)(hx:vs[j]?=some v)(sQ:autoParam (CT e₂=false) bu):Ev c ρ (.Subscript e₁ e₂ pos) v:=bF.sub bN λs u w B r q=>by
 obtain rfl:u=.ref a:=r;refine aM λhN=>?_;obtain⟨_,_,xs,i,z,r'⟩:_:=B.gg a _ hs;refine hN ?_
 let ⟨t,zy⟩:=q.cX;let ⟨y,hy,ry⟩:=r'.get hx;have hl:=r'.size;have b:=ko hk;have hz:=qq z;refine zv i.isList.typeIs slot_list_getitem.lookup ?_ (gX sQ _ _)
 by_cases h0:0<=k
 .exact V3 i.isList h0 (sG b.2.1 hz) (by rw[<-b.2.2.2.1 h0,<-lC];exact hy) ⟨jM s,ry⟩
 exact V4 i.isList (qQ.mp h0) (hl.symm▸b.1) (cN (JS (jR hz)) b.1) (by rw[hl,<-b.2.2.2.2 (qQ.mp h0),<-lC];exact hy) ⟨jM s,ry⟩
def Ev.afm(h:Ev c ρ o (.r a))(hs:c.σ a=some (.i kvs))(bF:Ev c ρ e₁ (.d (.int i)))(bS:autoParam (attributeBase o "get" c.env (eval o c.env)=eval o c.env) bu)(hline:autoParam ((apos.endLine==pos.line)=true) bu)(cW:autoParam (bJ e₁=false) bu):
 Ev c ρ (.Call (.Attribute o "get" apos) [e₁] [] pos) ((look kvs i).getD (.d .none)):=by
 intros c ρ o e₁ pos apos a kvs i _ h hs bF bS hline cW;exact λs S=>
  mq S h (.cons bF .nil cW) BW BX PG (λs ov B r=>zM hs B r) bS hline (Qn cW) (bz aa) λah ov xs aE cT mV=>by
   obtain rfl:ov=.ref a:=cT;apply qZ mV;intro u ru;let ⟨t,zy⟩:=jV ru;let ⟨us,d,z,dr,hn⟩:=(S.bs.kp aE).dict hs;refine By BX d.typeIs PJ (PySem.F.args_dict_get_2 _ _) (meets_dict_get (intKind c.prog c.w) a (jd _ _ i t) hn) ⟨_,d.mapOf,?_⟩;have kt:Kp ah {ah with toks:=ah.toks+1}:=jv ah _;rcases dr.look i with⟨h1,h2⟩|⟨u,y,h1,h2,h3⟩
   .rw[h1,h2];exact⟨aE.trans kt,Rep.none⟩
   rw[h1,h2];exact⟨aE.trans kt,h3⟩
def Rw:bootBuiltins "list"=some (.type "list"):=by first|rfl|decide+kernel
end
open Mine.Ev renaming adS->zW
section
variable {c:C}{ρ:Nm}{e o e₁ e₂ Mz:aU}{v:V}{p pos apos A5 kp:Pos}{a:Addr}{ds:List D}{ks:List Int}{kvs:List (Int×V)}{i:Int}
def jf.copy(h:Ev c ρ e v)(ha:vm c v ds)(hk:autoParam (c.env.kindOf "list"=some .globalImplicit) bu)(hs:autoParam (bJ e=false) bu):jf c ρ (.Call (.Name "list" p) [e] [] pos) ds:=λs S=>by
 refine l9 S hk (by decide) Rw (by decide) (by decide) (br h fj hs) (by simp[bP,hs]) (n9 _ _) λah xs aE cT=>?_
 apply qZ cT;intro x rx;have B:=S.bs.kp aE;let ⟨l,vs,zy,z2,z,r⟩:=uv rx B ha;let ⟨n,i⟩:=z2;have hl:=r.size;refine call_list_seq l (.inl aa) i aa aa (λh' c' keep g=>?_) (by rw[hl];exact eH z);have kp:Kp ah {ah with heap:=h'}:=⟨rfl,rfl,keep⟩;exact⟨aE.trans kp,ah.heap.objs.size,vs,rfl,dQ aE (bC _),⟨c',g⟩,z,r.fresh (bC _) keep⟩
def Rep.GC{M:Addr->Prop}{h h':cC}{a:Addr}{o:Obj}{u:aA}{d:D}(r:Rep h M u d)(ho:h.get? a=some o)(hn:¬o6 o)(sb:kY a h h'):Rep h' M u d:=
 r.mono λb ob nb sq e=>⟨(sb.2 b λe'=>by rw[e',ho] at e;cases e;exact hn sq).trans e,nb⟩
def fQ{prog:Program}{w:World}{K:Type}[DecidableEq K]{knd:KeyKind prog w K}{h:cC}{a:Addr}{us:List (K×aA)}(d:h.DictOf knd a us):∃o,h.get? a=some o/\¬o6 o:=by
 let ⟨o,es,ep,g,_,dd,_⟩:=d;exact⟨o,g,λq1=>by let ⟨a,b,e⟩:=q1;exact by rw[dd] at e;cases e⟩
def jP.adT(bF:Ev c ρ e₁ (.d (.int i)))(bN:Ev c ρ e₂ (.d x)):jP c ρ (.Dict [some e₁] [e₂] pos) (.i [(i,.d x)]):=by
 intros c ρ e₁ e₂ pos i x _ bF bN;exact λs S=>by
  have kp:Kp s {s with heap:=s.heap.push {cls:=.type "dict",data:=.dict #[]}}:=jw s _;refine OS (knd:=intKind c.prog c.w) aa aa (by simp) (by simp) ?_;show wpAny _ _ (evalPairs [(eval e₁ c.env,do let x<-eval e₂ c.env;standAt pos;pure x)]) _ _ _;refine Wh (bk (bF _ (S.kp kp)) (λu ah ⟨aE,cT⟩=>aF (bk (bN ah ((S.kp kp).kp aE)) (λy aB ⟨aV,mV⟩=>aF (jC (bx (evalPairs_nil ?_)))))));let ⟨t,zy⟩:=jV cT;have d0:aB.heap.DictOf (intKind c.prog c.w) s.heap.objs.size []:=dN (dN (EM s.heap) (aE.keep _)) (aV.keep _);refine⟨[(i,y)],⟨jd _ _ i t,rfl,trivial⟩,d0,λh' d' sb=>?_⟩;let ⟨o0,g0,n0⟩:=fQ d0;let ⟨o1,g1,n1⟩:=fQ d';refine⟨⟨(kp.trans (aE.trans aV)).gens,(kp.trans (aE.trans aV)).os,λb o e=>(sb.2 b λq=>by rw[q,bC] at e;cases e).trans ((kp.trans (aE.trans aV)).keep b o e)⟩,s.heap.objs.size,rfl,bC _,[(i,y)],d',(show 1<=ck by decide),.cons ?_ .nil⟩;exact(Rep.GC (show Rep aB.heap c.M y x from mV) g0 n0 sb).DJ g1 n1
inductive A6(c:C)(ρ:Nm):List (Option aU)->List aU->List (Str×D)->Prop
 |nil:A6 c ρ [] [] []
 |cons {k v:aU} {ks:List (Option aU)} {vs:List aU} {x:Str} {d:D} {r:List (Str×D)}:Ev c ρ k (.d (.str x))->Ev c ρ v (.d d)->A6 c ρ ks vs r->A6 c ρ (some k::ks) (v::vs) ((x,d)::r)
def A6.acE{ks:List (Option aU)}{vs:List aU}{r:List (Str×D)}(h:A6 c ρ ks vs r):ks.all (·.isSome)=true/\ks.length=vs.length/\ks.length=r.length:=by
 induction h with
 |nil=>exact⟨rfl,rfl,rfl⟩
 |cons _ _ _ ih=>exact⟨by simp[ih.1],by simp[ih.2.1],by simp[ih.2.2]⟩
def xh(prog:Program)(w:World)(x:Str)(t:Tok):(strKind prog w).is x (.str x t)=true:=by simp[PySem.strKind,Value.isStrOf]
def A6.run{ks:List (Option aU)}{vs:List aU}{r:List (Str×D)}(h:A6 c ρ ks vs r):∀{s:Shared} {Q:List (aA×aA)->Shared->Prop},St c ρ s->
 (∀s' ps us,Kp s s'->Carries (strKind c.prog c.w) ps us->DR (Rep s'.heap c.M) us r->Q ps s')->wpAny c.m c.A (evalPairs (pairTrees ks vs c.env pos)) Q no s:=by
 intros c ρ pos ks vs r _ h
 induction h with
 |nil=>exact λS q=>evalPairs_nil (q _ [] [] (jM _) trivial .nil)
 |@cons k v ks vs x d r hk hv _ ih=>
  intro s Q S q;show wpAny _ _ (evalPairs ((eval k c.env,do let x<-eval v c.env;standAt pos;pure x)::pairTrees ks vs c.env pos)) _ _ _;refine Wh (bk (hk s S) (λu ah o1=>aF (bk (hv ah (S.kp o1.k)) (λy aB o2=>aF (jC (bx (ih ((S.kp o1.k).kp o2.k) λc8 ps us dP cr dr=>?_)))))));let ⟨t,zy⟩:=Ku o1.r;exact q c8 _ ((x,y)::us) (o1.k.trans (o2.k.trans dP)) ⟨xh _ _ x t,rfl,cr⟩ (.cons (zD o2.r dP.keep) dr)
def DR.Z7{R:aA->D->Prop}{us:List (Str×aA)}{kvs:List (Str×D)}(r:DR R us kvs)(k:Str):(valueAt us k=none/\kvs.lookup k=none)\/∃u x,valueAt us k=some u/\kvs.lookup k=some x/\R u x:=by
 induction r with
 |nil=>exact .inl ⟨rfl,rfl⟩
 |@cons k' u x us kvs h _ ih=>
  rw[lu]
  by_cases e:k'=k
  .subst e;exact .inr ⟨u,x,Zn,by simp,h⟩
  have e':(k==k')=false:=by simp;exact λh=>e h.symm
  rw[e'];rcases ih with⟨h1,h2⟩|⟨u',x',h1,h2,h3⟩
  .exact .inl ⟨(KW e).trans h1,h2⟩
  exact .inr ⟨u',x',(KW e).trans h1,h2,h3⟩
def Ev.pick{ks:List (Option aU)}{vs:List aU}{r:List (Str×D)}{x:Str}{d:D}(h:A6 c ρ ks vs r)(mu:(r.map (·.1)).Nodup)(hz:r≠[])(UX:r.length<=15)(bF:Ev c ρ e₁ (.d (.str x)))(bN:Ev c ρ e₂ (.d d))
 (bS:autoParam (attributeBase (.Dict ks vs A5) "get" c.env (eval (.Dict ks vs A5) c.env)=eval (.Dict ks vs A5) c.env) bu) (hline:autoParam ((apos.endLine==pos.line)=true) bu) (gh:autoParam (bJ e₁=false) bu) (gk:autoParam (bJ e₂=false) bu):
 Ev c ρ (.Call (.Attribute (.Dict ks vs A5) "get" apos) [e₁,e₂] [] pos) (.d ((r.lookup x).getD d)):=by
 intros c ρ e₁ e₂ pos apos A5 ks vs r x d _ h mu hz UX bF bN bS hline gh gk;exact λs S=>by
  let ⟨l1,l2,l3⟩:=h.acE;have kp:Kp s {s with heap:=s.heap.push {cls:=.type "dict",data:=.dict #[]}}:=jw s _;refine Cv BW BX PG bS hline (ns2 gh gk) (bz aa) ?_;refine OS (knd:=strKind c.prog c.w) l1 l2 (λe=>hz (by rw[e] at l3;exact yZ.mp l3.symm)) (by exact aG (fF ‹_›) ‹_›) (h.run (S.kp kp) λah ps us aE cr dr=>?_);have d0:ah.heap.DictOf (strKind c.prog c.w) s.heap.objs.size []:=dN (EM s.heap) (aE.keep _);refine⟨us,cr,d0,λh' d' sb=>?_⟩;let ⟨o0,g0,n0⟩:=fQ d0;have qb:=dr.keys;rw[Wi us (by rw[qb];exact mu)] at d';have hk2:Kp s {ah with heap:=h',toks:=ah.toks+ps.length}:=⟨(kp.trans aE).gens,(kp.trans aE).os,λb o e=>(sb.2 b λq=>by rw[q,bC] at e;cases e).trans ((kp.trans aE).keep b o e)⟩;have Uy:DR (Rep h' c.M) us r:=dr.mono λu y q=>q.GC g0 n0 sb
  have qY:Yq {ah with heap:=h',toks:=ah.toks+ps.length} (.ref s.heap.objs.size) "dict":=d'.typeIs;refine⟨qY,λb e=>by cases e;let ⟨o,_,_,ho,z2,_⟩:=d';let ⟨_,hd,_⟩:=z2;exact⟨o,ho,hd⟩,?_⟩;refine Yi (e:=e₁) (rest:=[e₂]) ?_ (bO _ gh [e₂]) (eU (es:=[e₂]) (Qn gk) pos c.env);refine bk (br bF (br bN fj gk) gh _ pos (S.kp hk2)) (λxs c8 q1=>?_);refine aM λhN=>?_;obtain⟨dP,ra⟩:_:=q1;refine hN ?_
  apply EZ ra;intro u u' ru Z6;let ⟨t,zy⟩:=Ku ru
  have HS:c.h₀.get? s.heap.objs.size=k6:=by
   cases e0:c.h₀.get? s.heap.objs.size with
   |none=>rfl
   |some o=>have:=S.bs.keep _ _ e0;rw[bC] at this;cases this
  have ns:(s.heap.objs.size==sysModules)=false:=S.bs.uq HS;have d3:=dN d' (dP.keep _);refine By BX (d3.typeIs) PJ (Yd _ _ _) (Wj (strKind c.prog c.w) _ (xh _ _ x t) ns u') ⟨_,d3.mapOf,?_⟩;have kt:Kp c8 {c8 with toks:=c8.toks+1}:=jv c8 _;rcases Uy.Z7 x with⟨e1,e2⟩|⟨y,z,e1,e2,e3⟩
  .rw[e1,e2];exact⟨(hk2.trans dP).trans kt,Z6⟩
  rw[e1,e2];exact⟨(hk2.trans dP).trans kt,zD e3 dP.keep⟩
def C6(c:C)(op:kT)(v₁:V)(cn:Cn)(b:Bool):Prop:=∀s x y a,Bs c s->gf c s.heap x v₁->y=.ref a->c.h₀.get? a=none->CR c.toG0 (λb=>c.M b\/b=a) s.heap a cn->wpAny c.m c.A (compareOp op x y) (Ud s (EI b)) no s
def C6.inI:C6 c .In (.d (.int i)) (.i kvs) (look kvs i).isSome:=λs x y a B r ey hn qP=>by
 let ⟨us,d,z,dr⟩:=qP;subst ey;let ⟨t,zy⟩:=jV r;refine wpAny_in_of (jd _ _ i t) (B.uq hn) d.mapOf ⟨jv s _,?_⟩;rcases dr.look i with⟨h1,h2⟩|⟨u,x,h1,h2,_⟩<;>rw[h1,h2]<;>rfl
def C6.KY:C6 c .NotIn (.d (.int i)) (.i kvs) (!(look kvs i).isSome):=λs x y a B r ey hn qP=>by
 let ⟨us,d,z,dr⟩:=qP;subst ey;let ⟨t,zy⟩:=jV r;refine Wf (jd _ _ i t) (B.uq hn) d.mapOf ⟨jv s _,?_⟩;rcases dr.look i with⟨h1,h2⟩|⟨u,x,h1,h2,_⟩<;>rw[h1,h2]<;>rfl
def iH.afn(bF:Ev c ρ e₁ v₁)(bN:jP c ρ e₂ cn)(ho:C6 c op v₁ cn b)(hm:behindInMarks op e₂=false:=by with_unfolding_all rfl):iH c ρ (.Compare e₁ [op] [e₂] pos) b:=λs S=>
 OH (bk (bF s S) (λx ah ⟨aE,cT⟩=>bk (bN ah (S.kp aE)) (λy aB qP=>by
  refine aM λhN=>?_;obtain⟨aV,a,ey,new,cr⟩:_:=qP;refine hN ?_
  have hn:c.h₀.get? a=k6:=by
   cases e0:c.h₀.get? a with
   |none=>rfl
   |some o=>have:=(S.bs.kp aE).keep _ _ e0;exact ns new this
  exact bk (ho aB x y a (S.bs.kp (aE.trans aV)) (cT.keep aV.keep) ey hn cr) (λz z q2=>by refine aM λhN=>?_;obtain⟨dP,r⟩:_:=q2;refine hN ?_;exact by subst r;exact D4 ⟨(aE.trans aV).trans dP,rfl⟩)))) hm
end
open Mine.iH renaming afn->GD
open Mine.jf renaming copy->Rx
open Mine.C6 renaming KY->Ry
open Mine.Ev renaming pick->Rz
section
variable {c:C}{ρ:Nm}{k:List (List Stmt)}{rest:List Stmt}{P:C->Nm->Prop}{R:C->D->Prop}{e e₁ e₂ o:aU}{v:V}{pos p apos:Pos}{x:Str}{Q:C->V->Prop}{a:Addr}{ds:List D}
def Dq.vals(hh:A.handled=none)(I d:Addr)(dg:d≠I)(us:List (Int×aA))(kvs:List (Int×D))(ep:Nat)(hl:us.length=kvs.length):
 Dq prog w A I [I,d] [I] (kvs.map (·.2)) (λM i h=>h.IsValIter I d i us.length ep/\h.DictAt (intKind prog w) d us ep/\DR (Rep h M) us kvs) where
 sub:=λb hb=>by simp at hb;simp[hb]
 has:=λM i h qP y hy=>by
  let ⟨a,b,r⟩:=qP;simp at hy;rcases hy with rfl|rfl
  .let ⟨o,e,_⟩:=a;exact⟨o,e⟩
  let ⟨o,es,e,_⟩:=b;exact⟨_,e⟩
 frame:=λM i h h' q1 hk=>by let ⟨a,b,r⟩:=q1;exact⟨a.at λo e=>hk I o (.inl (by simp)) e,b.at' λo e=>hk d o (.inl (by simp)) e,r.mono λu x q=>q.mono λa o n q e=>⟨hk a o (.inr ⟨n,q⟩) e,n⟩⟩
 up:=λM M' i h q2 hk=>by let ⟨a,b,r⟩:=q2;exact⟨a,b,r.mono λu x q=>q.mono λa o n q e=>⟨e,λm=>n (hk a o e m)⟩⟩
 off:=λM i h qP b hb o' e'=>by
  let ⟨z2,_,_⟩:=qP;let ⟨o,e,_,d⟩:=z2;simp at hb;subst hb;rw[e] at e';cases e';exact⟨_,d⟩
 item:=λM i x tg s Q hd qP md hQ=>by
  let ⟨a,b,r⟩:=qP;rw[dh] at hd;cases M8:kvs[i]? with
  |none=>rw[M8] at hd;cases hd
  |some kv=>
   rw[M8] at hd;simp only[zu,zj] at hd;subst hd
   have hi:i<us.length:=by
    rw[hl];rcases Ef i kvs.length with h|h
    .exact h
    exact ns (qL h) M8
   obtain⟨⟨k',u⟩,hu⟩:∃p,us[i]?=some p:=⟨us[i],iF hi⟩;let ⟨y,ey,ry⟩:=r.get hu;rw[M8] at ey;cases ey
   have wj:∀b∈[I],∀o,s.heap.get? b=some o->gp o:=λb hb o' e'=>by
    let ⟨o,e,_,d⟩:=a;simp at hb;subst hb;rw[e] at e';cases e';exact⟨_,d⟩
   refine wpAny_pyNext_values_item a b hu λh' CU kh=>⟨u,rfl,?_⟩
   let ⟨o,e,c,dd⟩:=id CU;have hk:∀b o,b∉[I]->s.heap.get? b=some o->h'.get? b=some o:=λb o hb e=>kh.extBut b o (by simpa using hb) e
   exact uz (s:={s with heap:=h'}) e c (by decide) (hQ u _ (ry.off hk wj) ⟨CU,b.at' λo e=>hk d o (by simpa using dg) e,r.mono λz z q=>q.off hk wj⟩ ⟨rfl,rfl,λb o n e=>hk b o n e⟩)
 done:=λM s Q qP hQ=>by
  let ⟨a,b,r⟩:=qP;rw[aR,<-hl] at a;exact wpAny_pyNext_values_end hh a b (by simp) λh' Qa=>⟨rfl,hQ _ ⟨rfl,rfl,λb o n e=>Qa b o (by simpa using n) e⟩⟩
 self:=λM i s Q q3 q=>by let ⟨a,_⟩:=q3;exact wpAny_pyIter_valiter a q
theorem DR.ofV:∀{us:List (Int×aA)} {kvs:List (Int×D)},DR (λu x=>VR M h x u) us (cJ kvs)->DR (Rep h M) us kvs
 |_,[],r=>by cases r;exact .nil
 |_,(k,x)::kvs,r=>by
  cases r with
  |cons a r=>exact .cons a (DR.ofV r)
theorem Ze.vals(h:Ev c ρ o (.r a))(hs:c.σ a=some (.i (cJ kvs)))(hw:¬c.wr a)(bS:autoParam (attributeBase o "values" c.env (eval o c.env)=eval o c.env) bu)(hline:autoParam ((apos.endLine==pos.line)=true) bu):Ze c ρ (.Call (.Attribute o "values" apos) [] [] pos) (kvs.map (·.2)):=by
 intros c ρ o pos apos a kvs _ h hs hw bS hline;exact λs S=>by
  refine Cv BW J2 X5 bS hline aa (by decide) (bk (h s S) (λx ah q1=>?_));refine aM λhN=>?_;obtain⟨aE,cT⟩:_:=q1;refine hN ?_
  obtain rfl:x=.ref a:=cT;let ⟨us,d,z,r,ns⟩:=(S.bs.kp aE).dict hs;let ⟨t1,t2⟩:=zM hs (S.bs.kp aE) (show gf c ah.heap (.ref a) (.r a) from rfl);refine⟨t1,t2,?_⟩;refine Yj (By J2 t1 X6 (X7 _) (Wg (intKind c.prog c.w) a ns) ⟨⟨us,d⟩,?_⟩);have kp:Kp ah {ah with heap:=ah.heap.push {cls:=.type "dict_values",data:=.fields #[.ref a]}}:=jw ah _;let ⟨ep,da⟩:=(dN d (kp.keep a)).dictAt;refine wpAny_pyIter_values (knd:=intKind c.prog c.w) ⟨_,fh _ aa,rfl,rfl⟩ da ?_;have Uu:=kp.trans (jw {ah with heap:=ah.heap.push {cls:=.type "dict_values",data:=.fields #[.ref a]}} {cls:=.type "dict_valueiterator",data:=.fields #[.ref a,.int 0 0,.int us.length 0,.int ep 0]});have hl:us.length=kvs.length:=by have:=r.length;simpa [cJ] using this
  have hI:(ah.heap.push {cls:=.type "dict_values",data:=.fields #[.ref a]}).objs.size=ah.heap.objs.size+1:=by rw[BZ]
  have hIn:ah.heap.get? (ah.heap.push {cls:=.type "dict_values",data:=.fields #[.ref a]}).objs.size=k6:=Xs (by rw[hI];exact jr _);refine⟨aE.trans Uu,by rw[aR];have:(cJ kvs).length<=ck:=z;simpa [cJ] using this,_,_,_,_,rfl,?_,?_,?_,Dq.vals S.bs.room.hh (ah.heap.push {cls:=.type "dict_values",data:=.fields #[.ref a]}).objs.size a (ie da.lt_size) us kvs ep hl,?_⟩
  .intro b hb;rw[eO.mp hb];exact dQ aE hIn
  .intro b hb;rcases bZ.mp hb with e|hb
   .rw[e];exact λh=>(S.bs.new (dQ aE hIn)) (h.elim (λh=>(S.bs.oq _ h).1) (S.bs.xm _))
   rw[eO.mp hb];exact λh=>h.elim hw ((S.bs.gg a _ hs).2.1)
  .intro b hb;rcases bZ.mp hb with e|hb
   .rw[e];exact⟨_,fh _ aa⟩
   rw[eO.mp hb];let ⟨o,es,e,_⟩:=da;exact⟨o,dS _ e⟩
  exact⟨⟨_,fh _ aa,rfl,rfl⟩,da.push _,(DR.ofV r).mono λu x q=>q.keep Uu.keep⟩
theorem g9.afo(bF:Ev c ρ e₁ (.d (.lst ds)))(bN:g9 c ρ e₂ Q)(hq:∀c' v,Q c' v->∃es,v=.d (.lst es)/\(ds++es).length<=ck):g9 c ρ (.BinOp e₁ .Add e₂ pos) (λc' v=>∃es,Q c' (.d (.lst es))/\v=.d (.lst (ds++es))):=by
 intros c ρ e₁ e₂ pos Q ds _ bF bN hq;exact λs S L=>
  OG (bk (bF s S) (λx ah o1=>bk (bN ah (S.kp o1.k) (L.kp o1.k.keep)) (λy aB qP=>by
   refine aM λhN=>?_;obtain⟨c',v,X,b7,cO,mV,SE⟩:_:=qP;refine hN ?_
   let ⟨es,ev,hz⟩:=hq c' v SE;subst ev;have adU:gf c' aB.heap x (.d (.lst ds)):=X.rep (S.kp o1.k) (L.kp o1.k.keep) o1.r;let ⟨a,vs,zy,z2,z,r'⟩:=uv (ds:=ds) adU b7.bs aa;let ⟨n,i⟩:=z2;let ⟨b,ws,zy,z2,z',q'⟩:=uv (ds:=es) mV b7.bs aa;let ⟨m,j⟩:=z2
   have jt:vs.size+ws.size<=sizeLine:=by
    have h1:=r'.size;have h2:=q'.size;rw[h1,h2,<-bU];exact eH hz
   have kp:Kp aB {aB with heap:=aB.heap.push {cls:=.type "list",data:=.seq (vs++ws)}}:=jw aB _;refine P.add_list i j ⟨c',.d (.lst (ds++es)),(kL o1.k).trans (X.trans (.u9 kp)),b7.kp kp,cO.kp kp.keep,?_,es,SE,rfl⟩ jt;refine .lst ⟨0,fh _ aa⟩ b7.bs.size hz ?_;rw[EE];exact(r'.append q').keep kp.keep)))
def MK.pre(h:MK c ρ Q ah y aB)(k:Kp s ah):MK c ρ Q s y aB:=let ⟨c',v,X,S,L,r,q⟩:=h;⟨c',v,(kL k).trans X,S,L,r,q⟩
def g9.ite(ht:iH c ρ e b)(bF:b=true->g9 c ρ e₁ Q)(bN:b=false->g9 c ρ e₂ Q):g9 c ρ (.IfExp e e₁ e₂ pos) Q:=λs S L=>by
 show wpAny c.m c.A (do if<-isTrue e c.env (eval e c.env) then eval e₁ c.env else eval e₂ c.env) _ _ s;refine aF (bk (ht s S) (λx ah q1=>?_));refine aM λhN=>?_;obtain⟨k,q⟩:_:=q1;refine hN ?_
 subst q;cases x with
 |true=>exact bk (bF aa ah (S.kp k) (L.kp k.keep)) (λy aB h=>h.pre k)
 |false=>exact bk (bN aa ah (S.kp k) (L.kp k.keep)) (λy aB h=>h.pre k)
def Ex.ND(h:Ev c ρ e (.r a))(kh:c.σ a=some (.v [v₁,v₂]))(t:wL c ρ jx [v₁,v₂] c' ρ')(r:Ex c' ρ' (rest::k) P R)
 (hs:autoParam (swapsWithSole [.Tuple jx n tp] e pos.line c.env=pure false) bu) (hw:autoParam (swappedStores [.Tuple jx n tp] e c.env=pure none) bu):Ex c ρ ((.Assign [.Tuple jx n tp] e pos::rest)::k) P R:=
 pW λs S L=>PN (bk (h s S) (λu ah o1=>by
  obtain rfl:u=.ref a:=o1.r;refine aM λhN=>?_;obtain⟨_,_,vs,i,z,r'⟩:_:=(S.bs.kp o1.k).gg a _ kh;refine hN ?_
  have tl:=t.len c.env;let ⟨acF,l₁,e₁⟩:=W5 r'.length;let ⟨acG,l₂,e₂⟩:=W5 (EO ((cj ua e₁).symm.trans r'.length));have ev:vs.toList=[acF,acG]:=e₁.trans (cj _ (e₂.trans (cj _ (List.eq_nil_of_length_eq_zero (EO ((cj ua e₂).symm.trans (EO ((cj ua e₁).symm.trans r'.length))))))));have ea:vs=#[acF,acG]:=XC.mp ev;subst ea;show wpAny c.m c.A (yV (.Tuple jx n tp) c.env (.ref a)) _ _ _;rw[arm_assign_Tuple];refine aF (jC ?_);refine HP S.bs.room.hh i tl.1 tl.2 λaB aV=>?_
  have kk:=o1.k.trans aV;exact bk (t.run (S.kp kk) (L.kp kk.keep) (r'.keep aV.keep)) (λy c8 q1=>by let ⟨gy,b7,cO⟩:=q1;exact⟨_,_,rfl,(kL kk).trans gy,b7,cO,r⟩))) hs hw
end
open Mine.g9 renaming afo->Lv
def uW(d:Ao prog w h a ks):∃o,h.get? a=some o/\¬o6 o:=by
 let ⟨z2,_⟩:=d;let ⟨o,es,ep,t,ho,_,hd,_⟩:=z2;exact⟨o,ho,λq1=>by let ⟨x,y,e⟩:=q1;exact by rw[hd] at e;cases e⟩
structure PE where
 k:Int
 la:Addr
 sa:Addr
 d:D
 ks:List Int
instance:Nonempty PE:=⟨⟨0,0,0,.none,[]⟩⟩
def IW(prog:Program)(w:World)(M:Addr->Prop)(h:cC)(x:PE):Prop:=∃u,PL h x.la #[u,.ref x.sa]/\Rep h M u x.d/\Ao prog w h x.sa x.ks
def peD(x:PE):D:=.tup [.int x.k,x.d,.lst (bA x.ks)]
noncomputable def bB(xs:List PE):List Addr:=xs.flatMap λx=>[x.la,x.sa]
def NF(H:Addr->Prop)(GF:World)(c:C)(Da:Addr)(s:Shared)(done:List D):Prop:=∃xs:List PE,done=xs.map peD/\(∃us,s.heap.DictOf (intKind c.prog c.w) Da us/\us=xs.map λx=>(x.k,ug x.la))/\
 (∀x∈xs,IW c.prog GF c.M s.heap x)/\(Da::bB xs).Nodup/\(∀a∈bB xs,¬c.M a/\¬H a)/\(∀a,H a->∃o,s.heap.get? a=some o)/\done.length<=ck
def IW.wC(e:IW prog w M h x)(h1:¬M x.la)(h2:¬M x.sa)(hk:∀a o,¬M a->¬gp o->h.get? a=some o->h'.get? a=some o):IW prog w M h' x:=by
 intros prog w M h h' x _ e h1 h2 hk;let ⟨u,z2,r,so⟩:=e;let ⟨n,i⟩:=z2;refine⟨u,⟨n,hk _ _ h1 (λq1=>by let ⟨_,e⟩:=q1;exact by cases e) i⟩,r.mono λa o n q e=>⟨hk a o n (λf=>gR q f) e,n⟩,v8 so λo e=>hk _ o h2 (λf=>?_) e⟩;intros o _ e f;let ⟨z2,_⟩:=so;let ⟨o',es,ep,t,ho,_,hd,_⟩:=z2;rw[ho] at e;cases e;let ⟨_,z2⟩:=f;revert z2;intro f;rw[hd] at f;cases f
def NF.ok(hx:c.X Da)(hy:¬c.Y Da):wB c Da (NF H GF c Da) H:=
 ⟨λs s' done q1 h1 h2 h3=>by let ⟨xs,e,z2,pe,nd,nn,o7,z⟩:=q1;let ⟨us,d,eu⟩:=z2;exact⟨xs,e,⟨us,dN d h1,eu⟩,λx hx=>(pe x hx).wC (nn _ (je.mpr ⟨x,hx,by simp⟩)).1 (nn _ (je.mpr ⟨x,hx,by simp⟩)).1 h2,nd,nn,λa ha=>let ⟨o,e⟩:=o7 a ha;⟨o,h3 a o ha e⟩,z⟩,hx,hy⟩
def NG(c:C)(ρ:Nm)(e:aU)(d:D)(ks:List Int):Prop:=∀s,St c ρ s->wpAny c.m c.A (eval e c.env) (λx s'=>Kp s s'/\∃la sa u,x=.ref la/\la≠sa/\s.heap.get? la=none/\s.heap.get? sa=none/\PL s'.heap la #[u,.ref sa]/\Rep s'.heap c.M u d/\Ao c.prog c.w s'.heap sa ks) no s
section
variable {c:C}{ρ:Nm}{e e₁ e₂:aU}{pos:Pos}{d:D}{ks:List Int}
def NG.pair(bF:Ev c ρ e₁ (.d d))(bN:jP c ρ e₂ (.s ks))(wo:autoParam (bJ e₁=false) bu)(wu:autoParam (bJ e₂=false) bu):NG c ρ (.List [e₁,e₂] pos) d ks:=by
 intros c ρ e₁ e₂ pos d ks _ bF bN wo wu;exact λs S=>by
  refine OF ?_;rw[bO _ wo,bO _ wu];refine sM (bk (bF s S) (λu ah q1=>?_));refine aM λhN=>?_;obtain⟨aE,cT⟩:_:=q1;refine hN ?_
  refine sM (bk (bN ah (S.kp aE)) (λx aB ⟨aV,sa,ex,SK,cr⟩=>vQ ⟨?_,?_⟩))
  .simp;rw[qI];decide
  subst ex;have kp:Kp aB {aB with heap:=aB.heap.push {cls:=.type "list",data:=.seq #[u,.ref sa]}}:=jw aB _;let ⟨o,go,_⟩:=uW cr;refine⟨(aE.trans aV).trans kp,aB.heap.objs.size,sa,u,rfl,(λe=>by rw[<-e,bC] at go;cases go),dQ (aE.trans aV) (bC _),dQ aE SK,⟨0,fh _ aa⟩,zD (zD cT aV.keep) kp.keep,v8 cr (kp.keep sa)⟩
end
def afp:D->Int
 |.tup (.int k::_)=>k
 |_=>0
noncomputable def tQ(xs:List PE):List (Addr×Cn):=xs.flatMap λx=>[(x.la,.v [.d x.d,.r x.sa]),(x.sa,.s x.ks)]
noncomputable def oK(L:List (Addr×Cn)):Sg:=λb=>(L.find? λp=>p.1=b).map (·.2)
def NJ{us:List (Int×aA)}(h:k∉us.map (·.1))(v:aA):stored us k v=us++[(k,v)]:=by
 unfold stored;rw[ay];rw[BH];intro z2;let ⟨p,hp,e⟩:=z2;exact h (cg.mpr ⟨p,hp,fG e⟩)
def uE.adV{c:C}{ρ:Nm}{Da:Addr}{ke ve:aU}{gens:List yU}{scope:ia}{pos:Pos}{i:Int}{d:D}{ks:List Int}{H:Addr->Prop}{GF:World}{done:List D}(hx:c.X Da)(hy:¬c.Y Da)(hw:c.w=GF)(iY:i∉done.map afp)(hk:Ev c ρ ke (.d (.int i)))(hv:NG c ρ ve d ks):
 uE c ρ Da (NF H GF c Da) (lQ (.DictComp ke ve gens scope pos) (.ref Da) c.env) done [.tup [.int i,d,.lst (bA ks)]]:=by
 intros c ρ Da ke ve gens scope _ pos i d ks H GF done hx hy hw iY hk hv;intros pos i d ks H GF done _ hx hy hw iY hk hv;exact λs S L qP hz=>by
  let ⟨xs,ed,z2,pe,nd,nn,o7,z⟩:=qP;let ⟨us,dd,eu⟩:=z2;subst hw;show wpAny c.m c.A (eval ke c.env>>=λkv=>holding [kv] (eval ve c.env)>>=λvv=>_) _ _ s;refine aF (bk (hk s S) (λu ah o1=>aF (e9 (bk (hv ah (S.kp o1.k)) (λw aB q1=>?_)))));refine aM λhN=>?_;obtain⟨aV,la,sa,uu,ew,dg,nla,Zq,pl,rr,so⟩:_:=q1;refine hN ?_
  subst ew;let ⟨t,zy⟩:=jV o1.r;have kk:=o1.k.trans aV;have b7:=S.kp kk;have cO:=L.kp kk.keep;have yH:aB.heap.DictOf (intKind c.prog c.w) Da us:=dN dd (kk.keep Da);have hlx:us.length=xs.length:=by rw[eu,aR]
  have zC:done.length=xs.length:=by rw[ed,aR]
  refine aF (jC (e9 (OR (jd _ _ i t) yH (λh' d' sb=>?_) (by rw[hlx,<-zC];exact eH z))));have dP:Kx (·=Da) aB {aB with heap:=h',toks:=aB.toks+1}:=⟨rfl,rfl,λb o n e=>(sb.2 b n).trans e⟩;let ⟨i8,jc⟩:=b7.SM cO hx hy (lT yH) (let ⟨o,e,_⟩:=lT d';⟨o,e⟩) dP
  have qb:i∉us.map (·.1):=by
   intro hm;apply iY;rw[ed,cV];rw[eu,cV] at hm;exact hm
  rw[NJ qb] at d';let ⟨oD,gD,nD⟩:=fQ yH;have mDa:c.M Da:=S.bs.xm Da hx;have acH:¬c.M la:=(S.kp o1.k).bs.new nla;have acI:¬c.M sa:=(S.kp o1.k).bs.new Zq;have Z8:∀a o,¬c.M a->¬gp o->aB.heap.get? a=some o->h'.get? a=some o:=λa o n y e=>(sb.2 a λe'=>n (e'▸mDa)).trans e
  have abJ:∀a o,¬c.M a->¬gp o->s.heap.get? a=some o->h'.get? a=some o:=λa o n f e=>Z8 a o n f (kk.keep a o e)
  have afq:IW c.prog c.w c.M h' ⟨i,la,sa,d,ks⟩:=IW.wC (h:=aB.heap) ⟨uu,pl,rr,so⟩ acH acI Z8
  have afr:∀a∈bB xs,∃o,s.heap.get? a=some o:=λa ha=>by
   let ⟨x,hx',hm⟩:=je.mp ha;let ⟨u',z2,_,Du⟩:=pe x hx';let ⟨n',p'⟩:=z2;simp at hm;rcases hm with rfl|rfl
   .exact⟨_,p'⟩
   let ⟨o,e,_⟩:=uW Du;exact⟨o,e⟩
  have fresh:∀b,ah.heap.get? b=none->b∉Da::bB xs:=λb nb hm=>by
   rcases bZ.mp hm with e|hm
   .rw[e] at nb;let ⟨o,e,_⟩:=fQ dd;exact ns nb (o1.k.keep _ _ e)
   let ⟨o,e⟩:=afr b hm;exact ns nb (o1.k.keep _ _ e)
  refine⟨kk.kx.trans (dP.mono λb e=>.inr e),i8,jc,xs++[⟨i,la,sa,d,ks⟩],by rw[ed,eB];rfl,⟨_,d',by rw[eu,eB];rfl⟩,λx hx'=>?_,?_,λa ha=>?_,λa ha=>?_,hz⟩
  .rcases dY.mp hx' with hx'|hx'
   .exact(pe x hx').wC (nn _ (je.mpr ⟨x,hx',by simp⟩)).1 (nn _ (je.mpr ⟨x,hx',by simp⟩)).1 abJ
   rw[eO.mp hx'];exact afq
  .have e1:Da::bB (xs++[⟨i,la,sa,d,ks⟩])=(Da::bB xs)++[la,sa]:=by simp[bB]
   rw[e1,kX];refine⟨nd,by simp[dg],λa ha b hb e=>?_⟩;simp at hb;rcases hb with rfl|rfl
   .exact fresh _ nla (e▸ha)
   exact fresh _ Zq (e▸ha)
  .have:a∈bB xs\/a=la\/a=sa:=by simpa [bB] using ha
   rcases this with h|rfl|rfl
   .exact nn a h
   .exact⟨acH,λhH=>by let ⟨o,e⟩:=o7 _ hH;exact ns nla (o1.k.keep _ _ e)⟩
   exact⟨acI,λhH=>by let ⟨o,e⟩:=o7 _ hH;exact ns Zq (o1.k.keep _ _ e)⟩
  let ⟨o,e⟩:=o7 a ha
  by_cases h:a=Da
  .subst h;let ⟨o',e',_⟩:=fQ d';exact⟨o',e'⟩
  exact⟨o,(sb.2 a h).trans (kk.keep a o e)⟩
def GG(h:oK L b=some cn):(b,cn)∈L:=by
 unfold oK at h;cases e:L.find? (λp=>p.1=b) with
 |none=>rw[e] at h;cases h
 |some p=>
  rw[e] at h;simp at h;have h1:=O3 e;have h2:=O2 e;have:p=(b,cn):=qW (fG h1) h;rw[<-this];exact h2
def xj(hn:(L.map (·.1)).Nodup)(h:p∈L):oK L p.1=some p.2:=by
 intros L p _ hn h
 induction L with
 |nil=>cases h
 |cons q L ih=>
  rw[gx,ir] at hn;unfold oK;rw[za];rcases bZ.mp h with e|h
  .subst e;simp
  have dg:¬q.1=p.1:=λe=>hn.1 (e▸jQ h)
  simp only[dg,decide_false];exact ih hn.2 h
def mE(xs:List PE):(tQ xs).map (·.1)=bB xs:=by
 induction xs with
 |nil=>rfl
 |cons x xs ih=>
  have e1:tQ (x::xs)=[(x.la,.v [.d x.d,.r x.sa]),(x.sa,.s x.ks)]++tQ xs:=by simp[tQ]
  have e2:bB (x::xs)=[x.la,x.sa]++bB xs:=by simp[bB]
  rw[e1,e2,eB,ih];rfl
def CF(h:cC)(a:Addr):Prop:=(∃o,h.get? a=some o/\¬o6 o)\/∃us b o,PL h a us/\ug b∈us.toList/\h.get? b=some o/\¬o6 o
def CF.tup{h:cC}{a:Addr}{vs:Array aA}(x:CF h a)(i:PT h a vs):False:=i.elim λm e=>x.elim (λy=>y.elim λo y=>y.2 (eF (e.symm.trans y.1)▸⟨_,m,rfl⟩)) λy=>y.elim λus y=>y.elim λb y=>y.elim λo y=>y.1.elim λm' e'=>aK (cj Obj.cls (eF (e.symm.trans e'))) (by simp)
def Rep.adW(r:Rep h M v d):∀b o,v=.ref b->h.get? b=some o->o6 o:=
 Rep.rec (motive_1:=λv z z=>∀b o,v=.ref b->h.get? b=some o->o6 o) (motive_2:=λz z z=>True) (λz z e=>nomatch e) (λz z z e=>nomatch e) (λz z z z e=>nomatch e) (λz z z z z e=>nomatch e)
  (λi z z z z b o e g=>i.elim λm e'=>eF (e'.symm.trans (Yx e▸g))▸⟨_,m,rfl⟩) (λi z z z z b o e g=>i.elim λm e'=>eF (e'.symm.trans (Yx e▸g))▸⟨_,m,rfl⟩) trivial (λz z z z=>trivial) r
def CF.lst(x:CF h a)(i:PL h a vs)(r:aC h M vs.toList ds):False:=i.elim λm e=>x.elim (λy=>y.elim λo y=>y.2 (eF (e.symm.trans y.1)▸⟨_,m,rfl⟩)) λy=>y.elim λus y=>y.elim λb y=>y.elim λo y=>y.1.elim λm' e'=>
 have q:us=vs:=by have q:=eF (e'.symm.trans e);injection q with _ _ q;injection q
 (r.mem (q▸y.2.1)).elim λd z=>y.2.2.2 (z.2.adW b o aa y.2.2.1)
def Rep.afs(L:List Addr)(hb:∀a∈L,CF h a)(r:Rep h M v d):Rep h (λx=>M x\/x∈L) v d:=
 Rep.rec (motive_1:=λv d y=>Rep h (λx=>M x\/x∈L) v d) (motive_2:=λvs ds y=>aC h (λx=>M x\/x∈L) vs ds) .none .bool .int .str (λi n z y=>.tup i (λh=>h.elim n λh=>(hb _ h).tup i) z) (λi n z r=>.lst i (λh=>h.elim n λh=>(hb _ h).lst i r) z) .nil (λy y=>.cons) r
def A7(x:Int×(D×List Int)):D:=.tup [.int x.1,x.2.1,.lst (bA x.2.2)]
theorem GH:∀{a b:List Int},bA a=bA b->a=b
 |[],[],_=>rfl
 |[],_::_,h=>by simp[bA] at h
 |_::_,[],h=>by simp[bA] at h
 |x::a,y::b,h=>by
  simp only[bA,gx] at h;let ⟨h1,h2⟩:=EN h;rw[GH h2,jF.inj h1]
def UY(h:A7 x=A7 y):x=y:=by
 unfold A7 at h;simp only[ou.injEq,List.cons.injEq,jF.injEq,kJ.injEq,and_true] at h;exact qW h.1 (qW h.2.1 (GH h.2.2))
theorem NK{α Str:Type}{f:α->Str}(hf:∀x y,f x=f y->x=y):∀{l m:List α},l.map f=m.map f->l=m
 |[],[],_=>rfl
 |[],_::_,h=>by simp at h
 |_::_,[],h=>by simp at h
 |x::l,y::m,h=>by
  rw[gx,gx] at h;let ⟨h1,h2⟩:=EN h;rw[hf _ _ h1,NK hf h2]
noncomputable def PE.v(x:PE):Int×(D×List Int):=(x.k,(x.d,x.ks))
def adX(tot:List (Int×(D×List Int)))(a:Addr)(τ:Sg):Prop:=∃xs:List PE,xs.map PE.v=tot/\(a::bB xs).Nodup/\τ=oK ((a,.i (xs.map λx=>(x.k,.r x.la)))::tQ xs)
section
variable {c:C}{ρ:Nm}{e:aU}{pos:Pos}
def HQ.adY{ke ve tg iter:aU}{scope:ia}{ds:List D}(tot:List (Int×(D×List Int)))(hl:tot.length=ds.length)(mu:(tot.map (·.1)).Nodup)(hz:tot.length<=ck)(gq:It c ρ iter ds)
 (hb:∀La cs M X (i:Nat) d x,ds[i]?=some d->tot[i]?=some x->∃tb,wA (c.into scope La cs M X) tg d tb/\(∀p∈tb,(pU scope ρ).lookup p.1=none)/\Ev (c.into scope La cs M X) (tb++pU scope ρ) ke (.d (.int x.1))/\NG (c.into scope La cs M X) (tb++pU scope ρ) ve x.2.1 x.2.2)
 (mj:r9 c.env.kindOf (λx=>(ρ.lookup x).isSome) scope=true) (hs:autoParam (∀x,foldedSetIterable iter c.env x=pure x) HE):HQ c ρ (.DictComp ke ve [⟨tg,iter,[],0⟩] scope pos) (adX tot):=by
 intros c ρ pos ke ve tg iter scope ds tot _ hl mu hz gq hb mj hs;exact λs S=>by
  let ⟨h1,h2,h3,h4⟩:=oA mj
  have nS:((tot.map λx=>[A7 x]).flatten)=tot.map A7:=by
   clear hl mu hz hb
   induction tot with
   |nil=>rfl
   |cons x t ih=>simp only[gx,BF,ih];rfl
  have htk:∀i,((tot.map λx=>[A7 x]).take i).flatten=(tot.take i).map A7:=λi=>by
   rw[<-Eu];generalize tot.take i=l
   induction l with
   |nil=>rfl
   |cons x t ih=>simp only[gx,BF,ih];rfl
  show wpAny c.m c.A (comprehension (.DictComp ke ve [⟨tg,iter,[],0⟩] scope pos) scope c.env (firstIterPos [⟨tg,iter,[],0⟩] pos) newDict false (eval iter c.env) none) _ _ s;refine qE (H:=λa=>∃o,s.heap.get? a=some o) (hH:=λj h=>h) (pV:=λc'=>NF (λa=>∃o,s.heap.get? a=some o) c.w c') (e:=.DictComp ke ve [⟨tg,iter,[],0⟩] scope pos) (inner:=λacc env=>lQ (.DictComp ke ve [⟨tg,iter,[],0⟩] scope pos) acc env) (yE:=λo=>o={cls:=.type "dict",data:=.dict #[]}) (tot.map λx=>[A7 x]) (by simpa using hl) .d aa (λj j j=>rfl) hs h1 h2 h3 h4 S gq
   (λah Q' q=>?_) (λo e=>by subst e;rfl) (λc' ah Da o e g o7=>by subst e;exact⟨[],rfl,⟨[],⟨_,#[],0,g,⟨rfl,rfl,rfl⟩,rfl,λj he=>by simp at he,Yv,qM⟩,rfl⟩,λx hx=>(by cases hx),by simp[bB],λa ha=>(by cases ha),o7,by decide⟩) (λc' Da hx hy=>NF.ok hx hy) ?_ (by rw[nS,aR];exact hz) ?_
  .show wpAny _ _ newDict _ _ _;simp only[newDict,newObj];exact aF (DZ (bx (q _ aa)))
  .intro La cs M X Da hx hy i d o hd ho;rw[dh] at ho;cases zQ:tot[i]? with
   |none=>rw[zQ] at ho;cases ho
   |some x=>
    rw[zQ] at ho;simp only[zu,zj] at ho;subst ho;let ⟨tb,t1,t2,t3,t4⟩:=hb La cs M X i d x hd zQ;refine⟨tb,true,t1,t2,.nil,λj=>?_,λe=>by cases e⟩;refine uE.adV hx hy aa ?_ t3 t4;rw[htk,cV];intro hm;have hm':x.1∈(tot.take i).map (·.1):=hm
    have hi:i<tot.length:=by
     rcases Ef i tot.length with h|h
     .exact h
     exact ns (qL h) zQ
    have hsp:tot.map (·.1)=(tot.take i).map (·.1)++x.1::(tot.drop (i+1)).map (·.1):=by
     have e1:tot=tot.take i++x::tot.drop (i+1):=by
      have:tot[i]=x:=by rw[iF hi] at zQ;exact eF zQ
      rw[<-this,W6,Em]
     conv=>lhs;rw[e1]
     rw[eB,gx]
    rw[hsp,kX] at mu;exact mu.2.2 _ hm' _ (.head _) aa
  intro c' Da La s' hp hw hm kp hD hL sV z2 hn Dt _ h' sb;let ⟨xs,ed,z3,pe,nd,nn,o7,z⟩:=z2;let ⟨us,dd,eu⟩:=z3;rw[nS] at ed
  have ex:xs.map PE.v=tot:=by
   refine NK (f:=A7) (λx y=>UY) ?_;rw[cV];exact ed.symm
  have QK:∀a∈Da::bB xs,a≠La:=λa ha e=>by
   rcases bZ.mp ha with e'|ha
   .exact sV (e'.symm.trans e)
   exact(nn a ha).1 (e▸Dt)
  have RA:∀a∈Da::bB xs,∀o,s'.heap.get? a=some o->h'.get? a=some o:=λa ha o e=>(sb.2 a (QK a ha)).trans e
  rw[hp,hw] at dd;have dd':h'.DictOf (intKind c.prog c.w) Da us:=dN dd (RA Da (.head _));have acJ:∀x∈xs,x.la∈bB xs/\x.sa∈bB xs:=λx hx=>⟨je.mpr ⟨x,hx,by simp⟩,je.mpr ⟨x,hx,by simp⟩⟩
  have pl':∀x∈xs,∃u,PL h' x.la #[u,.ref x.sa]/\Rep h' c.M u x.d/\Ao c.prog c.w h' x.sa x.ks:=λx hx=>by
   let ⟨u,pl,r,so⟩:=pe x hx;rw[hp] at so;have r1:Rep s'.heap (λa=>c.M a\/a=La) u x.d:=r.qh λa h=>h.elim (hm a) λe=>e▸Dt
   refine⟨u,pl.at (RA _ (.tail _ (acJ x hx).1)),r1.mono λa o n j e=>⟨(sb.2 a λe'=>n (.inr e')).trans e,λm=>n (.inl m)⟩,v8 so (RA _ (.tail _ (acJ x hx).2))⟩
  have bad:∀a∈Da::bB xs,CF h' a:=λa ha=>by
   rcases bZ.mp ha with e|ha
   .rw[e];let ⟨o,g,n⟩:=fQ dd';exact .inl ⟨o,g,n⟩
   let ⟨x,hx,hm'⟩:=je.mp ha;let ⟨u,pl,_,so⟩:=pl' x hx;let ⟨o,g,n⟩:=uW so;simp at hm';rcases hm' with rfl|rfl
   .exact .inr ⟨_,x.sa,o,pl,by simp,g,n⟩
   exact .inl ⟨o,g,n⟩
  have af1:(((Da,mU (xs.map λx=>(x.k,gn x.la)))::tQ xs).map (·.1)).Nodup:=by rw[gx,mE];exact nd
  have rX:∀b,oK ((Da,mU (xs.map λx=>(x.k,gn x.la)))::tQ xs) b≠none->b∈Da::bB xs:=λb hb'=>by
   cases e:oK ((Da,mU (xs.map λx=>(x.k,gn x.la)))::tQ xs) b with
   |none=>exact aK e hb'
   |some cn=>
    have:=jQ (f:=λp:Addr×Cn=>p.1) (GG e);rw[gx,mE] at this;exact this
  have adZ:∀{u:aA} {d:D},Rep h' c.M u d->Rep h' (λb=>c.M b\/oK ((Da,mU (xs.map λx=>(x.k,gn x.la)))::tQ xs) b≠none) u d:=λr=>(r.afs _ bad).qh λa h=>h.elim .inl λh=>.inr (rX a h)
  refine⟨⟨kp.gens,kp.os,λb o e=>(sb.2 b λq=>by subst q;exact ns hL e).trans (kp.keep b o e)⟩,Da,_,rfl,λb cn e=>?_,λb cn e=>?_,xs,ex,nd,rfl⟩
  .have hb':=rX b (by rw[e];simp);rcases bZ.mp hb' with e'|hb'
   .rw[e'];exact hD
   have:=(nn b hb').2;cases q:s.heap.get? b with
   |none=>rfl
   |some o=>exact aK ⟨o,q⟩ this
  rcases bZ.mp (GG e) with e'|hm'
  .cases e';refine⟨us,dd',by
    rw[aR];have:xs.length=tot.length:=by rw[<-ex,aR]
    rw[this];exact hz,?_⟩
   rw[eu]
   have:∀ys:List PE,DR (λu x=>VR (λb=>c.M b\/oK ((Da,mU (xs.map λx=>(x.k,gn x.la)))::tQ xs) b≠none) h' x u) (ys.map λx=>(x.k,ug x.la)) (ys.map λx=>(x.k,gn x.la)):=λys=>by
    induction ys with
    |nil=>exact .nil
    |cons y ys ih=>exact .cons aa ih
   exact this xs
  let ⟨x,hx,hm'⟩:=je.mp hm';let ⟨u,pl,r,so⟩:=pl' x hx;simp at hm';rcases hm' with⟨rfl,rfl⟩|⟨rfl,rfl⟩
  .exact⟨_,pl,show 2<=ck by decide,.cons (adZ r) (.cons aa .nil)⟩
  exact so
end
noncomputable def viewP:Program:={pw_sx_r018_2 with main:={pw_sx_r018_2.main with body:=(pw_sx_r018_2.main.body.drop 1).take 4++pw_sx_r018_2.main.body.drop 6}}
def Lw{h h':cC}{a:Addr}(x:(h.get? a).isSome=true)(k:∀b o,h.get? b=some o->h'.get? b=some o):(h'.get? a).isSome=true:=by
 obtain⟨o,e⟩:=EG.mp x;rw[k a o e];rfl
local macro_rules | `(tactic| o_law) => `(tactic| refine holds_law (by decide +kernel) fun said => ?_)
noncomputable def xT:Shared->Bool:=λs=>recOk (Yy (Yz (YA P0))) s&&(s.heap.get? sysModules).isSome
abbrev xP:(Str->Option aA)->cC->Prop:=λz h=>(h.get? sysModules).isSome=true
def xT1(s:Shared)(e:xT s=true):RecFacts (Yy (Yz (YA P0))) s.heap:=recFacts_of ((iT _ _).mp e).1
def xT2(s:Shared)(e:xT s=true):xP (s.heap.nsMap mainGlobals) s.heap:=((iT _ _).mp e).2
def xTk(mg:Str->Option aA)(h h':cC)(x:xP mg h)(k:∀b o,h.get? b=some o->h'.get? b=some o):xP mg h':=Lw x k
local macro_rules | `(tactic| o_head $H) => `(tactic| (
  refine holds_open (q := viewP) (loose := []) (Xt := xT) (XP := xP) (Yf := Hook.obs $H) (Ya := Hook.val $H) (YP := Hook.says $H) (N := 2058) ?hl (Hook.of $H) (Hook.keeps $H) xT2 xTk rfl rfl rfl xT1 rfl (by first | assumption | decide +kernel) (by decide +kernel) ⟨rfl, rfl, rfl, rfl, rfl, by decide +kernel⟩ ?hw ?hc
  (case hl => exact fun w => by kernel_rfl)))
open_top hd for P0
noncomputable def fB{K:Frag}{a:Addr}{o:Obj}{fd:FuncData}(h:K.lookup a=some o)(d:o.data=.func fd):FuncData:=fd
noncomputable def bodyPick{fd:FuncData}{b:List Stmt}(h:fd.body=.stmts b):List Stmt:=b
noncomputable def GJ(P:Params):FuncData:=by
 apply fB (K:=hd.heap_1 P) (a:=26)
 case h=>k_is
 case d=>rfl
def Z9(P:Params):(hd.heap_1 P).lookup 26=some {cls:=.type "function",data:=.func (GJ P)}:=by k_is
noncomputable def DM(P:Params):List Stmt:=bodyPick (fd:=GJ P) aa
noncomputable def xo(P:Params):FuncData:=by
 apply fB (K:=hd.heap_1 P) (a:=31)
 case h=>k_is
 case d=>rfl
def NL(P:Params):(hd.heap_1 P).lookup 31=some {cls:=.type "function",data:=.func (xo P)}:=by k_is
noncomputable def GK(P:Params):List Stmt:=bodyPick (fd:=xo P) aa
noncomputable def DN(P:Params):FuncData:=by
 apply fB (K:=hd.heap_1 P) (a:=36)
 case h=>k_is
 case d=>rfl
def abK(P:Params):(hd.heap_1 P).lookup 36=some {cls:=.type "function",data:=.func (DN P)}:=by k_is
noncomputable def Lx(P:Params):List Stmt:=bodyPick (fd:=DN P) aa
noncomputable def Ly(P:Params):FuncData:=by
 apply fB (K:=hd.heap_1 P) (a:=43)
 case h=>k_is
 case d=>rfl
def abL(P:Params):(hd.heap_1 P).lookup 43=some {cls:=.type "function",data:=.func (Ly P)}:=by k_is
noncomputable def aaa(P:Params):List Stmt:=bodyPick (fd:=Ly P) aa
noncomputable def oY(P:Params):FuncData:=by
 apply fB (K:=hd.heap_1 P) (a:=50)
 case h=>k_is
 case d=>rfl
def H8(P:Params):(hd.heap_1 P).lookup 50=some {cls:=.type "function",data:=.func (oY P)}:=by k_is
noncomputable def A8(P:Params):List Stmt:=bodyPick (fd:=oY P) aa
noncomputable def xW(P:Params):FuncData:=by
 apply fB (K:=hd.heap_1 P) (a:=57)
 case h=>k_is
 case d=>rfl
def UZ(P:Params):(hd.heap_1 P).lookup 57=some {cls:=.type "function",data:=.func (xW P)}:=by k_is
noncomputable def NN(P:Params):List Stmt:=bodyPick (fd:=xW P) aa
noncomputable def j8(P:Params):FuncData:=by
 apply fB (K:=hd.heap_1 P) (a:=64)
 case h=>k_is
 case d=>rfl
def NO(P:Params):(hd.heap_1 P).lookup 64=some {cls:=.type "function",data:=.func (j8 P)}:=by k_is
noncomputable def GL(P:Params):List Stmt:=bodyPick (fd:=j8 P) aa
noncomputable def GN(P:Params):FuncData:=by
 apply fB (K:=hd.heap_1 P) (a:=71)
 case h=>k_is
 case d=>rfl
def aab(P:Params):(hd.heap_1 P).lookup 71=some {cls:=.type "function",data:=.func (GN P)}:=by k_is
noncomputable def SS(P:Params):List Stmt:=bodyPick (fd:=GN P) aa
noncomputable def iC(P:Params):FuncData:=by
 apply fB (K:=hd.heap_1 P) (a:=78)
 case h=>k_is
 case d=>rfl
def U0(P:Params):(hd.heap_1 P).lookup 78=some {cls:=.type "function",data:=.func (iC P)}:=by k_is
noncomputable def xq(P:Params):List Stmt:=bodyPick (fd:=iC P) aa
noncomputable def fu(P:Params):FuncData:=by
 apply fB (K:=hd.heap_1 P) (a:=85)
 case h=>k_is
 case d=>rfl
def NP(P:Params):(hd.heap_1 P).lookup 85=some {cls:=.type "function",data:=.func (fu P)}:=by k_is
noncomputable def iP(P:Params):List Stmt:=bodyPick (fd:=fu P) aa
noncomputable def CG(P:Params):FuncData:=by
 apply fB (K:=hd.heap_1 P) (a:=99)
 case h=>k_is
 case d=>rfl
def U1(P:Params):(hd.heap_1 P).lookup 99=some {cls:=.type "function",data:=.func (CG P)}:=by k_is
noncomputable def NQ(P:Params):List Stmt:=bodyPick (fd:=CG P) aa
noncomputable def rK(P:Params):FuncData:=by
 apply fB (K:=hd.heap_1 P) (a:=106)
 case h=>k_is
 case d=>rfl
def aac(P:Params):(hd.heap_1 P).lookup 106=some {cls:=.type "function",data:=.func (rK P)}:=by k_is
noncomputable def SV(P:Params):List Stmt:=bodyPick (fd:=rK P) aa
noncomputable def gb(P:Params):FuncData:=by
 apply fB (K:=hd.heap_1 P) (a:=111)
 case h=>k_is
 case d=>rfl
def aad(P:Params):(hd.heap_1 P).lookup 111=some {cls:=.type "function",data:=.func (gb P)}:=by k_is
noncomputable def uX(P:Params):List Stmt:=bodyPick (fd:=gb P) aa
noncomputable def Lz(P:Params):FuncData:=by
 apply fB (K:=hd.heap_1 P) (a:=117)
 case h=>k_is
 case d=>rfl
def abM(P:Params):(hd.heap_1 P).lookup 117=some {cls:=.type "function",data:=.func (Lz P)}:=by k_is
noncomputable def aae(P:Params):List Stmt:=bodyPick (fd:=Lz P) aa
noncomputable def GO(P:Params):FuncData:=by
 apply fB (K:=hd.heap_1 P) (a:=122)
 case h=>k_is
 case d=>rfl
def aaf(P:Params):(hd.heap_1 P).lookup 122=some {cls:=.type "function",data:=.func (GO P)}:=by k_is
noncomputable def SW(P:Params):List Stmt:=bodyPick (fd:=GO P) aa
noncomputable def tR(P:Params):FuncData:=by
 apply fB (K:=hd.heap_1 P) (a:=127)
 case h=>k_is
 case d=>rfl
def aag(P:Params):(hd.heap_1 P).lookup 127=some {cls:=.type "function",data:=.func (tR P)}:=by k_is
noncomputable def SX(P:Params):List Stmt:=bodyPick (fd:=tR P) aa
noncomputable def xX(P:Params):FuncData:=by
 apply fB (K:=hd.heap_1 P) (a:=134)
 case h=>k_is
 case d=>rfl
def U3(P:Params):(hd.heap_1 P).lookup 134=some {cls:=.type "function",data:=.func (xX P)}:=by k_is
noncomputable def NR(P:Params):List Stmt:=bodyPick (fd:=xX P) aa
noncomputable def rL(P:Params):FuncData:=by
 apply fB (K:=hd.heap_1 P) (a:=139)
 case h=>k_is
 case d=>rfl
def aah(P:Params):(hd.heap_1 P).lookup 139=some {cls:=.type "function",data:=.func (rL P)}:=by k_is
noncomputable def SY(P:Params):List Stmt:=bodyPick (fd:=rL P) aa
noncomputable def rM(P:Params):FuncData:=by
 apply fB (K:=hd.heap_1 P) (a:=144)
 case h=>k_is
 case d=>rfl
def aai(P:Params):(hd.heap_1 P).lookup 144=some {cls:=.type "function",data:=.func (rM P)}:=by k_is
noncomputable def xY(P:Params):List Stmt:=bodyPick (fd:=rM P) aa
noncomputable def gW(P:Params):FuncData:=by
 apply fB (K:=hd.heap_1 P) (a:=149)
 case h=>k_is
 case d=>rfl
def U4(P:Params):(hd.heap_1 P).lookup 149=some {cls:=.type "function",data:=.func (gW P)}:=by k_is
noncomputable def gI(P:Params):List Stmt:=bodyPick (fd:=gW P) aa
noncomputable def gz(P:Params):FuncData:=by
 apply fB (K:=hd.heap_1 P) (a:=154)
 case h=>k_is
 case d=>rfl
def U5(P:Params):(hd.heap_1 P).lookup 154=some {cls:=.type "function",data:=.func (gz P)}:=by k_is
noncomputable def xr(P:Params):List Stmt:=bodyPick (fd:=gz P) aa
noncomputable def xu(P:Params):FuncData:=by
 apply fB (K:=hd.heap_1 P) (a:=161)
 case h=>k_is
 case d=>rfl
def aaj(P:Params):(hd.heap_1 P).lookup 161=some {cls:=.type "function",data:=.func (xu P)}:=by k_is
noncomputable def S0(P:Params):List Stmt:=bodyPick (fd:=xu P) aa
noncomputable def A9(P:Params):FuncData:=by
 apply fB (K:=hd.heap_1 P) (a:=168)
 case h=>k_is
 case d=>rfl
def aak(P:Params):(hd.heap_1 P).lookup 168=some {cls:=.type "function",data:=.func (A9 P)}:=by k_is
noncomputable def S3(P:Params):List Stmt:=bodyPick (fd:=A9 P) aa
noncomputable def iV(P:Params):FuncData:=by
 apply fB (K:=hd.heap_1 P) (a:=173)
 case h=>k_is
 case d=>rfl
def abN(P:Params):(hd.heap_1 P).lookup 173=some {cls:=.type "function",data:=.func (iV P)}:=by k_is
noncomputable def s7(P:Params):List Stmt:=bodyPick (fd:=iV P) aa
noncomputable def bl:Option Str->D
 |none=>.none
 |some x=>.str x
noncomputable def aD(b:bg):D:=.tup [.int b.1,.int b.2]
def bM(it:bf):D:=.tup [.int it.1,aD it.2.1,bl it.2.2]
noncomputable def j9:Nat->Str
 |0=>"idle"
 |1=>"preparing"
 |_=>"leading"
def bG:cR->D
 |.prepare b f t=>.tup [.str "prepare",aD b,.int f,.int t]
 |.promise b f t ks=>.tup [.str "promise",aD b,.int f,.int t,.lst (ks.map bM)]
 |.refuse b f t r=>.tup [.str "refuse",aD b,.int f,.int t,aD r]
 |.accept b f t s v=>.tup [.str "accept",aD b,.int f,.int t,.int s,bl v]
 |.accepted b f t s=>.tup [.str "accepted",aD b,.int f,.int t,.int s]
 |.ak b f t s v=>.tup [.str "chosen",aD b,.int f,.int t,.int s,bl v]
def kc(x:Int×List bf):D:=.tup [.int x.1,.lst (x.2.map bM)]
def kg(x:Int×(Option Str×List Int)):D:=.tup [.int x.1,bl x.2.1,.lst (bA x.2.2)]
def gJ(x:Int×Option Str):D:=.tup [.int x.1,bl x.2]
def fZ(n:Node):List D:=if n.phase=1 then n.hp.map kc else if n.phase=2 then n.hl.map kg else[]
def bK(n:Node):D:=.tup [.int n.me,.int n.size,aD n.promised,.lst (n.acc.map bM),.lst (n.ak.map gJ),.str (j9 n.phase),aD n.af,.lst (fZ n)]
structure PA where
 da:Addr
 acc:Addr
 ch:Addr
 pm:Addr
 pp:Addr
 out:Addr
 xs:List PE
instance:Nonempty PA:=⟨⟨0,0,0,0,0,0,[]⟩⟩
def PA.bI(q:PA):List Addr:=q.da::q.acc::q.ch::q.pm::q.pp::q.out::bB q.xs
def gK(l:List bf):List (Int×D):=l.map λit=>(it.1,.tup [aD it.2.1,bl it.2.2])
def fz(l:List (Int×Option Str)):List (Int×D):=l.map λx=>(x.1,bl x.2)
def dO(l:List (Int×List bf)):List (Int×D):=l.map λx=>(x.1,.lst (x.2.map bM))
def ja(l:List (Int×(Option Str×List Int))):List (Int×(D×List Int)):=l.map λx=>(x.1,(bl x.2.1,x.2.2))
def cM(p:cA)(q:PA):List (Str×V):=[("me",.d (.int p.me)),("size",.d (.int p.size)),("promised",.d (aD p.promised)),("phase",.d (.str (j9 p.phase))),("ballot",.d (aD p.af)),("acc",.r q.acc),("chosen",.r q.ch),("prom",.r q.pm),("props",.r q.pp),("out",.r q.out)]
structure bh(σ:Sg)(a:Addr)(p:cA)(q:PA):Prop where
 o:σ a=some (.o q.da)
 t:σ q.da=some (.t (cM p q))
 acc:σ q.acc=some (.i (cJ (gK p.acc)))
 ch:σ q.ch=some (.i (cJ (fz p.ak)))
 pm:σ q.pm=some (.i (cJ (dO p.prom)))
 pp:σ q.pp=some (.i (q.xs.map λx=>(x.k,.r x.la)))
 xs:∀x∈q.xs,σ x.la=some (.v [.d x.d,.r x.sa])/\σ x.sa=some (.s x.ks)
 props:q.xs.map PE.v=ja p.props
 out:σ q.out=some (.l (p.out.map bG))
 nd:(a::q.bI).Nodup
noncomputable def Sg.set(σ:Sg)(x:Addr)(cn:Cn):Sg:=λb=>if b=x then some cn else σ b
def Sg.xZ{σ:Sg}:σ.set x cn x=some cn:=by simp[Sg.set]
def Sg.S4{σ:Sg}(h:b≠x):σ.set x cn b=σ b:=by simp[Sg.set,h]
def afP(c:C)(x:Addr)(cn:Cn):(c.upd x cn).σ=Sg.set c.σ x cn:=rfl
def Sg.at{σ:Sg}(h:b≠x)(k:σ b=r):σ.set x cn b=r:=(Sg.S4 h).trans k
section
variable {q:PA}{b:Addr}
def PA.m1:q.da∈q.bI:=.head _
def PA.m2:q.acc∈q.bI:=.tail _ (.head _)
def PA.m3:q.ch∈q.bI:=.tail _ (.tail _ (.head _))
def PA.m4:q.pm∈q.bI:=.tail _ (.tail _ (.tail _ (.head _)))
def PA.m5:q.pp∈q.bI:=.tail _ (.tail _ (.tail _ (.tail _ (.head _))))
def PA.m6:q.out∈q.bI:=.tail _ (.tail _ (.tail _ (.tail _ (.tail _ (.head _)))))
def PA.m7(h:b∈bB q.xs):b∈q.bI:=.tail _ (.tail _ (.tail _ (.tail _ (.tail _ (.tail _ h)))))
def RB(hx:x∈xs):x.la∈bB xs:=je.mpr ⟨x,hx,.head _⟩
def RC(hx:x∈xs):x.sa∈bB xs:=je.mpr ⟨x,hx,.tail _ (.head _)⟩
end
structure ad0(a:Addr)(q:PA):Prop where
 n1:a≠q.da/\a≠q.acc/\a≠q.ch/\a≠q.pm/\a≠q.pp/\a≠q.out
 n2:q.da≠q.acc/\q.da≠q.ch/\q.da≠q.pm/\q.da≠q.pp/\q.da≠q.out
 n3:q.acc≠q.ch/\q.acc≠q.pm/\q.acc≠q.pp/\q.acc≠q.out
 n4:q.ch≠q.pm/\q.ch≠q.pp/\q.ch≠q.out
 n5:q.pm≠q.pp/\q.pm≠q.out
 n6:q.pp≠q.out
 xs:∀x∈q.xs,∀b,b=x.la\/b=x.sa->b≠a/\b≠q.da/\b≠q.acc/\b≠q.ch/\b≠q.pm/\b≠q.pp/\b≠q.out
def GP{l:List Addr}(h:(a::l).Nodup):(∀y∈l,a≠y)/\l.Nodup:=mR.mp h
def bh.apart(h:bh σ a p q):ad0 a q:=by
 intros σ a p q _ h;exact have d0:=GP h.nd
  have d1:=GP d0.2;have d2:=GP d1.2;have d3:=GP d2.2;have d4:=GP d3.2;have d5:=GP d4.2;have d6:=GP d5.2
  ⟨⟨d0.1 _ PA.m1,d0.1 _ PA.m2,d0.1 _ PA.m3,d0.1 _ PA.m4,d0.1 _ PA.m5,d0.1 _ PA.m6⟩,
   ⟨d1.1 _ (.head _),d1.1 _ (.tail _ (.head _)),d1.1 _ (.tail _ (.tail _ (.head _))),d1.1 _ (.tail _ (.tail _ (.tail _ (.head _)))),d1.1 _ (.tail _ (.tail _ (.tail _ (.tail _ (.head _)))))⟩,
   ⟨d2.1 _ (.head _),d2.1 _ (.tail _ (.head _)),d2.1 _ (.tail _ (.tail _ (.head _))),d2.1 _ (.tail _ (.tail _ (.tail _ (.head _))))⟩,
   ⟨d3.1 _ (.head _),d3.1 _ (.tail _ (.head _)),d3.1 _ (.tail _ (.tail _ (.head _)))⟩,⟨d4.1 _ (.head _),d4.1 _ (.tail _ (.head _))⟩,d5.1 _ (.head _),
   λx hx b hb=>have m:b∈bB q.xs:=hb.elim (λe=>e▸RB hx) λe=>e▸RC hx
    have m5:=Kc q.out m;have m4:=Kc q.pp m5;have m3:=Kc q.pm m4;have m2:=Kc q.ch m3
    ⟨dJ (d0.1 b (PA.m7 m)),dJ (d1.1 b (.tail _ m2)),dJ (d2.1 b m2),dJ (d3.1 b m3),dJ (d4.1 b m4),dJ (d5.1 b m5),dJ (d6.1 b m)⟩⟩
section
variable {σ:Sg}{a:Addr}{p:cA}{q:PA}
def bh.names(h:bh σ a p q)(e1:p'.acc=p.acc)(e2:p'.ak=p.ak)(e3:p'.prom=p.prom)(e4:p'.props=p.props)(e5:p'.out=p.out)(ea:bX=cM p' q):bh (σ.set q.da (.t bX)) a p' q:=by
 subst ea;have A:=h.apart;exact⟨Sg.at A.n1.1 h.o,Sg.xZ,Sg.at (dJ A.n2.1) (e1▸h.acc),Sg.at (dJ A.n2.2.1) (e2▸h.ch),Sg.at (dJ A.n2.2.2.1) (e3▸h.pm),Sg.at (dJ A.n2.2.2.2.1) h.pp,λy hy=>⟨Sg.at (A.xs y hy _ (.inl aa)).2.1 (h.xs y hy).1,Sg.at (A.xs y hy _ (.inr aa)).2.1 (h.xs y hy).2⟩,e4▸h.props,Sg.at (dJ A.n2.2.2.2.2) (e5▸h.out),h.nd⟩
def bh.IX(h:bh σ a p q)(n:Nat)(hy:y=j9 n):bh (σ.set q.da (.t (gT "phase" (.d (.str y)) (cM p q)))) a {p with phase:=n} q:=h.names (p':={p with phase:=n}) aa aa aa aa aa (by subst hy;rfl)
def bh.LA(h:bh σ a p q)(b:bg):bh (σ.set q.da (.t (gT "promised" (.d (aD b)) (cM p q)))) a {p with promised:=b} q:=h.names (p':={p with promised:=b}) aa aa aa aa aa (by rfl)
def bh.RD(h:bh σ a p q)(b:bg):bh (σ.set q.da (.t (gT "ballot" (.d (aD b)) (cM p q)))) a {p with af:=b} q:=h.names (p':={p with af:=b}) aa aa aa aa aa (by rfl)
def bh.S5(h:bh σ a p q)(e:l=ms.map bG):bh (σ.set q.out (.l l)) a {p with out:=ms} q:=by
 have A:=h.apart;exact⟨Sg.at A.n1.2.2.2.2.2 h.o,Sg.at A.n2.2.2.2.2 h.t,Sg.at A.n3.2.2.2 h.acc,Sg.at A.n4.2.2 h.ch,Sg.at A.n5.2 h.pm,Sg.at A.n6 h.pp,λy hy=>⟨Sg.at (A.xs y hy _ (.inl aa)).2.2.2.2.2.2 (h.xs y hy).1,Sg.at (A.xs y hy _ (.inr aa)).2.2.2.2.2.2 (h.xs y hy).2⟩,h.props,e▸Sg.xZ,h.nd⟩
def tS{α Str:Type}(f:α->Str)(l:List (Int×α))(k:Int)(x:α):put (l.map λy=>(y.1,f y.2)) k (f x)=(put l k x).map λy=>(y.1,f y.2):=by
 unfold put;have:(l.map λy=>(y.1,f y.2)).any (λp=>p.1=k)=l.any (λp=>p.1=k):=by rw[W7];rfl
 rw[this];split
 .rw[cV,cV];apply vE;intro y _;simp only[EJ];split<;>rfl
 rw[eB];rfl
def jm{α Str:Type}(f:α->Str)(l:List (Int×α))(k:Int):look (l.map λy=>(y.1,f y.2)) k=(look l k).map f:=by
 induction l with
 |nil=>rfl
 |cons y l ih=>rw[gx,fK,fK,ih];split<;>rfl
def oM(l:List (Int×D))(k:Int):look (cJ l) k=(look l k).map .d:=jm lF l k
def Ba(l:List (Int×D))(k:Int)(x:D):put (cJ l) k (.d x)=cJ (put l k x):=tS lF l k x
def bh.abO(h:bh σ a p q)(s:Int)(x:bg×Option Str):bh (σ.set q.acc (.i (put (cJ (gK p.acc)) s (.d (.tup [aD x.1,bl x.2]))))) a {p with acc:=put p.acc s x} q:=by
 have A:=h.apart
 have e:put (cJ (gK p.acc)) s (.d (.tup [aD x.1,bl x.2]))=cJ (gK (put p.acc s x)):=by
  rw[Ba];congr 1;exact tS (λy:bg×Option Str=>ou [aD y.1,bl y.2]) p.acc s x
 rw[e];exact⟨Sg.at A.n1.2.1 h.o,Sg.at A.n2.1 h.t,Sg.xZ,Sg.at (dJ A.n3.1) h.ch,Sg.at (dJ A.n3.2.1) h.pm,Sg.at (dJ A.n3.2.2.1) h.pp,λy hy=>⟨Sg.at (A.xs y hy _ (.inl aa)).2.2.1 (h.xs y hy).1,Sg.at (A.xs y hy _ (.inr aa)).2.2.1 (h.xs y hy).2⟩,h.props,Sg.at (dJ A.n3.2.2.2) h.out,h.nd⟩
def bh.RE(h:bh σ a p q)(s:Int)(v:Option Str):bh (σ.set q.ch (.i (put (cJ (fz p.ak)) s (.d (bl v))))) a {p with ak:=put p.ak s v} q:=by
 have A:=h.apart
 have e:put (cJ (fz p.ak)) s (.d (bl v))=cJ (fz (put p.ak s v)):=by
  rw[Ba];congr 1;exact tS bl p.ak s v
 rw[e];exact⟨Sg.at A.n1.2.2.1 h.o,Sg.at A.n2.2.1 h.t,Sg.at A.n3.1 h.acc,Sg.xZ,Sg.at (dJ A.n4.1) h.pm,Sg.at (dJ A.n4.2.1) h.pp,λy hy=>⟨Sg.at (A.xs y hy _ (.inl aa)).2.2.2.1 (h.xs y hy).1,Sg.at (A.xs y hy _ (.inr aa)).2.2.2.1 (h.xs y hy).2⟩,h.props,Sg.at (dJ A.n4.2.2) h.out,h.nd⟩
def bh.RG(h:bh σ a p q)(s:Int)(ks:List bf):bh (σ.set q.pm (.i (put (cJ (dO p.prom)) s (.d (.lst (ks.map bM)))))) a {p with prom:=put p.prom s ks} q:=by
 have A:=h.apart
 have e:put (cJ (dO p.prom)) s (.d (.lst (ks.map bM)))=cJ (dO (put p.prom s ks)):=by
  rw[Ba];congr 1;exact tS (λy:List bf=>kJ (y.map bM)) p.prom s ks
 rw[e];exact⟨Sg.at A.n1.2.2.2.1 h.o,Sg.at A.n2.2.2.1 h.t,Sg.at A.n3.2.1 h.acc,Sg.at A.n4.1 h.ch,Sg.xZ,Sg.at (dJ A.n5.1) h.pp,λy hy=>⟨Sg.at (A.xs y hy _ (.inl aa)).2.2.2.2.1 (h.xs y hy).1,Sg.at (A.xs y hy _ (.inr aa)).2.2.2.2.1 (h.xs y hy).2⟩,h.props,Sg.at (dJ A.n5.2) h.out,h.nd⟩
end
open Mine.PA renaming m1->kQ,bI->qc,m3->xw,m6->xx,m2->zX,m4->zY,m5->CH
open Mine.Sg renaming S4->kR,xZ->s8
section
variable {σ:Sg}{a b:Addr}{p:cA}{q:PA}{cn:Cn}
def PA.DO(hx:x∈q.xs):x.la∈q.bI/\x.sa∈q.bI:=⟨PA.m7 (RB hx),PA.m7 (RC hx)⟩
def GQ(h:(l₁++x::l₂).Nodup)(hb:b∉l₁++x::l₂):(l₁++b::l₂).Nodup:=
 zf.nodup_iff.mpr (ir.mpr ⟨λm=>hb (zf.mem_iff.mpr (.tail _ m)),(ir.mp (zf.nodup_iff.mp h)).2⟩)
def mF{l:List Addr}{y:Addr}(n:b∉l)(m:y∈l):b≠y:=λe=>n (e▸m)
def S6(hb:b≠a/\b∉q.bI):b∉a::q.bI:=λm=>(bZ.mp m).elim hb.1 hb.2
def bh.agree(h:bh σ a p q)(e:∀b,b=a\/b∈q.bI->σ' b=σ b):bh σ' a p q:=
 have m {b:Addr} (hb:b∈q.bI) {r:Option Cn} (k:σ b=r):σ' b=r:=(e b (.inr hb)).trans k
 ⟨(e a (.inl aa)).trans h.o,m kQ h.t,m zX h.acc,m xw h.ch,m zY h.pm,m CH h.pp,λx hx=>⟨m (PA.DO hx).1 (h.xs x hx).1,m (PA.DO hx).2 (h.xs x hx).2⟩,h.props,m xx h.out,h.nd⟩
def bh.other(h:bh σ a p q)(hb:b≠a/\b∉q.bI):bh (σ.set b cn) a p q:=h.agree λx hx=>kR λe=>by
 rcases hx with hx|hx
 .exact hb.1 (e.symm.trans hx)
 exact hb.2 (e▸hx)
def lM(hb:σ b=none)(e:σ y=some r):b≠y:=λh=>nomatch (h▸hb).symm.trans e
def eN{x y:Addr}{l:List Addr}(h:x≠y)(k:x∉l):x∉y::l:=λm=>(bZ.mp m).elim h k
def bh.fresh(h:bh σ a p q)(hb:σ b=none):b≠a/\b∉q.bI:=
 ⟨lM hb h.o,eN (lM hb h.t) (eN (lM hb h.acc) (eN (lM hb h.ch) (eN (lM hb h.pm) (eN (lM hb h.pp) (eN (lM hb h.out) λhm=>by
  let ⟨x,hx,hm⟩:=je.mp hm;exact eN (lM hb (h.xs x hx).1) (eN (lM hb (h.xs x hx).2) pK) hm)))))⟩
def bh.NS(h:bh σ a p q){l:List (Int×List bf)}(hs:σ b=some (.i (cJ (dO l))))(hb:b≠a/\b∉q.bI):bh (σ.set q.da (.t (gT "prom" (.r b) (cM p q)))) a {p with prom:=l} {q with pm:=b}:=
 have A:=h.apart
 ⟨Sg.at A.n1.1 h.o,s8,Sg.at (dJ A.n2.1) h.acc,Sg.at (dJ A.n2.2.1) h.ch,Sg.at (mF hb.2 kQ) hs,Sg.at (dJ A.n2.2.2.2.1) h.pp,
  λx hx=>⟨Sg.at (A.xs x hx _ (.inl aa)).2.1 (h.xs x hx).1,Sg.at (A.xs x hx _ (.inr aa)).2.1 (h.xs x hx).2⟩,h.props,Sg.at (dJ A.n2.2.2.2.2) h.out,GQ (l₁:=[a,q.da,q.acc,q.ch]) h.nd (S6 hb)⟩
def NT{l₁ l₂ aal:List Addr}(h:(l₁++l₂).Nodup)(k:aal.Nodup)(d:∀y∈aal,y∉l₁):(l₁++aal).Nodup:=kX.mpr ⟨(kX.mp h).1,k,λy hy z hz e=>d z hz (e▸hy)⟩
def bh.U6(h:bh σ a p q){xs:List PE}{l:List (Int×(Option Str×List Int))}(hs:σ b=some (.i (xs.map λx=>(x.k,.r x.la))))(hb:b≠a/\b∉q.bI)(hx:∀x∈xs,σ x.la=some (.v [.d x.d,.r x.sa])/\σ x.sa=some (.s x.ks))(hv:xs.map PE.v=ja l)(hn:(b::bB xs).Nodup)(hd:∀y∈bB xs,y≠a/\y∉q.bI):
 bh (σ.set q.da (.t (gT "props" (.r b) (cM p q)))) a {p with props:=l} {q with pp:=b,xs:=xs}:=
 have A:=h.apart;have n {y:Addr} (hy:y∈bB xs):y≠q.da:=mF (hd y hy).2 kQ
 ⟨Sg.at A.n1.1 h.o,s8,Sg.at (dJ A.n2.1) h.acc,Sg.at (dJ A.n2.2.1) h.ch,Sg.at (dJ A.n2.2.2.1) h.pm,Sg.at (mF hb.2 kQ) hs,
  λx hm=>⟨Sg.at (n (RB hm)) (hx x hm).1,Sg.at (n (RC hm)) (hx x hm).2⟩,hv,Sg.at (dJ A.n2.2.2.2.2) h.out,
  have N:=S6 hb
  have nd:=NT (l₁:=[a,q.da,q.acc,q.ch,q.pm,b,q.out]) (GQ (l₁:=[a,q.da,q.acc,q.ch,q.pm]) h.nd N) (ir.mp hn).2 λy hy=>
   have m:=(hd y hy).2
   eN (hd y hy).1 (eN (mF m kQ) (eN (mF m zX) (eN (mF m xw) (eN (mF m zY) (eN (λe=>(ir.mp hn).1 (e▸hy)) (eN (mF m xx) pK))))))
  nd⟩
def tT{xs:List PE}{l:List (Int×(Option Str×List Int))}(h:xs.map PE.v=ja l)(k:Int):(look l k=none/\look (xs.map λx=>(x.k,gn x.la)) k=none)\/∃x v ks,x∈xs/\x.k=k/\look l k=some (v,ks)/\look (xs.map λx=>(x.k,gn x.la)) k=some (.r x.la)/\x.d=bl v/\x.ks=ks:=by
 induction xs generalizing l with
 |nil=>
  cases l with
  |nil=>exact .inl ⟨rfl,rfl⟩
  |cons y l=>simp[ja] at h
 |cons x xs ih=>
  cases l with
  |nil=>simp[ja] at h
  |cons y l=>
   simp only[ja,gx] at h;let ⟨h1,h2⟩:=EN h;have hk:x.k=y.1:=cj (·.1) h1;have hd:x.d=bl y.2.1:=cj (·.2.1) h1;have nU:x.ks=y.2.2:=cj (·.2.2) h1;rw[gx,fK,fK]
   by_cases e:y.1=k
   .right;exact⟨x,y.2.1,y.2.2,.head _,hk.trans e,by rw[aq e],by rw[aq (hk.trans e)],hd,nU⟩
   have e':¬x.k=k:=λh=>e (hk.symm.trans h)
   rw[ay e,ay e'];rcases ih h2 with⟨a1,a2⟩|⟨x',v,ks,a1,a2⟩
   .exact .inl ⟨a1,a2⟩
   exact .inr ⟨x',v,ks,.tail _ a1,a2⟩
def bh.GR(h:bh σ a p q){s:Int}{v:Option Str}{la sa:Addr}{ks:List Int}(hn:look p.props s=none)(h1:σ la=some (.v [.d (bl v),.r sa]))(h2:σ sa=some (.s ks))(d1:la≠a/\la∉q.bI)(d2:sa≠a/\sa∉q.bI)(dg:la≠sa):
 bh (σ.set q.pp (.i (put (q.xs.map λx=>(x.k,gn x.la)) s (.r la)))) a {p with props:=put p.props s (v,ks)} {q with xs:=q.xs++[⟨s,la,sa,bl v,ks⟩]}:=by
 intros σ a p q s v la sa ks _ h hn h1 h2 d1 d2 dg;have A:=h.apart
 have qX:look (q.xs.map λx=>(x.k,gn x.la)) s=none:=by
  rcases tT h.props s with⟨_,e⟩|⟨x,v',ks',_,_,e,_⟩
  .exact e
  exact ns hn e
 rw[i9 qX];exact⟨Sg.at A.n1.2.2.2.2.1 h.o,Sg.at A.n2.2.2.2.1 h.t,Sg.at A.n3.2.2.1 h.acc,Sg.at A.n4.2.1 h.ch,Sg.at A.n5.1 h.pm,s8.trans (by rw[eB];rfl),λx hx=>(dY.mp hx).elim (λhx=>⟨Sg.at (A.xs x hx _ (.inl aa)).2.2.2.2.2.1 (h.xs x hx).1,Sg.at (A.xs x hx _ (.inr aa)).2.2.2.2.2.1 (h.xs x hx).2⟩) λhx=>by
  rw[eO.mp hx];exact⟨Sg.at (mF d1.2 CH) h1,Sg.at (mF d2.2 CH) h2⟩,
  by rw[i9 hn];show _=qN _ _;rw[eB,eB,h.props];rfl,Sg.at (dJ A.n6) h.out,by
  have e1:a::qc {q with xs:=q.xs++[⟨s,la,sa,bl v,ks⟩]}=(a::q.bI)++[la,sa]:=by simp[qc,bB]
  rw[e1];exact kX.mpr ⟨h.nd,ir.mpr ⟨eN dg pK,ir.mpr ⟨pK,qM⟩⟩,λy hy z hz e=>eN (dJ (mF (S6 d1) (e▸hy))) (eN (dJ (mF (S6 d2) (e▸hy))) pK) hz⟩⟩
def C7(hf:∀x,(f x).la=x.la/\(f x).sa=x.sa)(xs:List PE):bB (xs.map f)=bB xs:=by
 induction xs with
 |nil=>rfl
 |cons x xs ih=>
  have e1:bB ((x::xs).map f)=[(f x).la,(f x).sa]++bB (xs.map f):=by simp[bB]
  have e2:bB (x::xs)=[x.la,x.sa]++bB xs:=by simp[bB]
  rw[e1,e2,ih,(hf x).1,(hf x).2]
theorem s9:∀{xs:List PE},(bB xs).Nodup->∀{x y:PE},x∈xs->y∈xs->x.sa≠y.la/\(x.sa=y.sa->x=y)
 |[],_,_,_,hx,_=>by cases hx
 |z::xs,hn,x,y,hx,hy=>by
  have e2:bB (z::xs)=[z.la,z.sa]++bB xs:=by simp[bB]
  rw[e2,kX] at hn;let ⟨h1,h2,h3⟩:=hn;have ne:z.la≠z.sa:=by simpa using h1
  have mem:∀w∈xs,w.la∈bB xs/\w.sa∈bB xs:=λw hw=>⟨je.mpr ⟨w,hw,by simp⟩,je.mpr ⟨w,hw,by simp⟩⟩
  rcases bZ.mp hx with ex|hx'
  .rcases bZ.mp hy with ey|hy'
   .subst ex;subst ey;exact⟨dJ ne,λv=>rfl⟩
   subst ex;exact⟨λe=>h3 _ (by simp) _ (mem y hy').1 e,λe=>aK e (λe=>h3 _ (by simp) _ (mem y hy').2 e)⟩
  rcases bZ.mp hy with ey|hy'
  .subst ey;exact⟨λe=>h3 _ (by simp) _ (mem x hx').2 e.symm,λe=>aK e (λe=>h3 _ (by simp) _ (mem x hx').2 e.symm)⟩
  exact s9 h2 hx' hy'
theorem IY{α:Type}{f:α->Int}:∀{l:List α},(l.map f).Nodup->∀{x y:α},x∈l->y∈l->f x=f y->x=y
 |[],_,_,_,hx,_,_=>by cases hx
 |z::l,hn,x,y,hx,hy,e=>by
  rw[gx,ir] at hn;rcases bZ.mp hx with ex|hx'
  .rcases bZ.mp hy with ey|hy'
   .rw[ex,ey]
   exact aK (cg.mpr ⟨y,hy',by rw[<-e,ex]⟩) hn.1
  rcases bZ.mp hy with ey|hy'
  .exact aK (cg.mpr ⟨x,hx',by rw[e,ey]⟩) hn.1
  exact IY hn.2 hx' hy' e
def bh.GS(h:bh σ a p q)(pF:Nk p.props){s:Int}{v:Option Str}{ks ks':List Int}{x:PE}(hx:x∈q.xs)(hk:x.k=s)(hl:look p.props s=some (v,ks)):
 bh (σ.set x.sa (.s ks')) a {p with props:=put p.props s (v,ks')} {q with xs:=q.xs.map λy=>if y.k=s then{y with ks:=ks'} else y}:=by
 intros σ a p q s v ks ks' x _ h pF hx hk hl;have A:=h.apart;have X:=A.xs x hx _ (.inr aa)
 have ndx:(bB q.xs).Nodup:=by
  have:=h.nd;unfold qc at this;simp only[ir] at this;exact this.2.2.2.2.2.2.2
 have hf:∀y:PE,((λy:PE=>if y.k=s then{y with ks:=ks'} else y) y).la=y.la/\((λy:PE=>if y.k=s then{y with ks:=ks'} else y) y).sa=y.sa:=λy=>by dsimp only;split<;>exact⟨rfl,rfl⟩
 have kn:(q.xs.map (·.k)).Nodup:=by
  have e:q.xs.map (·.k)=p.props.map (·.1):=by
   have:=cj (qN (·.1)) h.props
   simpa [ja,PE.v,uh] using this
  rw[e];exact pF
 have e1:(q.xs.map λy:PE=>if y.k=s then{y with ks:=ks'} else y).map (λx=>(x.k,gn x.la))=q.xs.map λx=>(x.k,gn x.la):=by
  rw[cV];apply vE;intro y _;simp only[EJ];split<;>rfl
 refine⟨?_,?_,?_,?_,?_,?_,λy hy=>?_,?_,?_,?_⟩
 .show Sg.set σ x.sa _ a=_;rw[kR (dJ X.1)];exact h.o
 .show Sg.set σ x.sa _ q.da=_;rw[kR (dJ X.2.1)];exact h.t
 .show Sg.set σ x.sa _ q.acc=_;rw[kR (dJ X.2.2.1)];exact h.acc
 .show Sg.set σ x.sa _ q.ch=_;rw[kR (dJ X.2.2.2.1)];exact h.ch
 .show Sg.set σ x.sa _ q.pm=_;rw[kR (dJ X.2.2.2.2.1)];exact h.pm
 .show Sg.set σ x.sa _ q.pp=_;rw[kR (dJ X.2.2.2.2.2.1)];show σ q.pp=some (.i ((q.xs.map λy:PE=>if y.k=s then{y with ks:=ks'} else y).map _));rw[e1];exact h.pp
 .let ⟨z,hz,ez⟩:=cg.mp hy;have P1:=s9 ndx hx hz;let ⟨z1,z2⟩:=h.xs z hz
  by_cases hzs:z.k=s
  .have ezx:z=x:=IY kn hz hx (hzs.trans hk.symm);rw[aq hzs] at ez;subst ez;dsimp only;rw[ezx] at z1⊢;exact⟨by rw[kR (λe=>(s9 ndx hx hx).1 e.symm)];exact z1,s8⟩
  rw[ay hzs] at ez;subst ez;refine⟨by rw[kR (λe=>P1.1 e.symm)];exact z1,?_⟩;rw[kR (λe=>hzs (by rw[<-P1.2 e.symm];exact hk))];exact z2
 .have e2:(q.xs.map λy:PE=>if y.k=s then{y with ks:=ks'} else y).map PE.v=(q.xs.map PE.v).map λz=>if z.1=s then(z.1,(z.2.1,ks')) else z:=by
   rw[cV,cV];apply vE;intro y _;show PE.v (if y.k=s then{y with ks:=ks'} else y)=if(PE.v y).1=s then((PE.v y).1,((PE.v y).2.1,ks')) else PE.v y
   by_cases hy:y.k=s
   .rw[aq hy,aq (show(PE.v y).1=s from hy)];rfl
   rw[ay hy,ay (show ¬(PE.v y).1=s from hy)]
  show(q.xs.map λy:PE=>if y.k=s then{y with ks:=ks'} else y).map PE.v=ja (put p.props s (v,ks'));rw[e2,h.props];unfold put ja;rw[AI,hl];simp only[XH,if_true];rw[cV,cV];apply vE;intro y hy;intros y _ hy;simp only[EJ]
  by_cases Q3:y.1=s
  .have:=pF.look hy;rw[Q3,hl] at this;have hv:v=y.2.1:=cj (·.1) (eF this);rw[aq Q3,aq Q3,hv]
  rw[ay Q3,ay Q3]
 .show Sg.set σ x.sa _ q.out=_;rw[kR (dJ X.2.2.2.2.2.2)];exact h.out
 have e3:qc {q with xs:=q.xs.map λy=>if y.k=s then{y with ks:=ks'} else y}=q.bI:=by
  unfold qc;rw[C7 hf]
 rw[e3];exact h.nd
end
def bY{c c':C}(h:c'={c with M:=c'.M,σ:=c'.σ,wr:=c'.wr}):∃M σ wr,c'=c.set M σ wr:=⟨_,_,_,h⟩
def fR(ρ:Nm)(x:Str)(v:V):Prop:=ρ.lookup x=some v
theorem Ev.self{P:Params}{c:C}{ρ:Nm}{a:Addr}{p:cA}{q:PA}{n:Str}{v:V}{p1 p2:Pos}(Ck:oF c.toG0)(A:eK c.toG0 n)(h:bh c.σ a p q)(hs:fR ρ "self" (.r a))(hn:(cM p q).lookup n=some v):Ev c ρ (.Attribute (.Name "self" p1) n p2) v:=
 Fz Ck A (aj hs) h.o h.t hn
def xy(h:(dW 0 n)[i]?=some d):d=.int (i:Int)/\i<n:=by
 unfold dW at h;rw[dh] at h
 by_cases hi:i<n
 .rw[BD hi] at h;simp at h;exact⟨h.symm,hi⟩
 rw[qL (by simp;exact jb.mp ‹_›)] at h;cases h
def D.aam(i j:Int):eT (.int i) (.int j)=decide (i=j):=by
 show lE (.int i) (.int j)=_;simp only[lE]
 by_cases h:i=j
 .simp[h]
 simp[h]
noncomputable def qd(n:Nat)(me:Int):List Int:=((lX n).map λ(i:Nat)=>(i:Int)).filter λj=>decide (j≠me)
def C8(n:Nat)(me:Int):qd (n+1) me=qd n me++if(n:Int)≠me then[(n:Int)] else[]:=by
 unfold qd;rw[BI,eB,oh]
 congr 1
 by_cases h:(n:Int)=me
 .simp[h]
 simp[h]
def oN(n:Nat)(me:Int):(qd n me).length<=n:=by
 unfold qd;exact aG (sD _ _) (by simp)
def tu(a:Addr)(q:PA)(p':cA)(σ σ':Sg):Prop:=∃q',bh σ' a p' q'/\∀x∈q'.bI,x∈q.bI\/σ x=none
structure Inv(a:Addr)(bQ:PA)(aJ:Sg)(c:C)(p:cA)(q:PA):Prop where
 at':bh c.σ a p q
 wr:∀x∈q.bI,c.wr x
 old:∀x∈q.bI,x∈bQ.bI\/aJ x=none
 dm:∀x,aJ x≠none->x∉bQ.bI->c.σ x=aJ x
section
variable {a b:Addr}{bQ q q':PA}{aJ:Sg}{c c':C}{p p':cA}{cn:Cn}{ρ:Nm}{k:List (List Stmt)}{rest:List Stmt}{Pp:C->Nm->Prop}{R:C->D->Prop}{e:aU}{v:V}{n:Str}{p1 p2 p3 p4 pos:Pos}
def Inv.start(h:bh c.σ a p q):Inv a q c.σ (c.fn fd fa L (λx=>x∈q.bI)) p q:=⟨h,λx hx=>hx,λx hx=>.inl hx,λx z z=>rfl⟩
def Inv.done(I:Inv a bQ aJ c p q):tu a bQ p aJ c.σ:=⟨q,I.at',I.old⟩
theorem Inv.upd(I:Inv a bQ aJ c p q)(hb:b∈q.bI)(h:bh (Sg.set c.σ b cn) a p' q')(hs:∀x∈q'.bI,x∈q.bI\/(c.wr x/\(x∈bQ.bI\/aJ x=none))):Inv a bQ aJ (c.upd b cn) p' q':=by
 refine⟨h,λx hx=>(hs x hx).elim (I.wr x) (·.1),λx hx=>(hs x hx).elim (I.old x) (·.2),λx h1 h2=>?_⟩;show Sg.set c.σ b cn x=_;rw[kR]
 .exact I.dm x h1 h2
 intro e;rcases I.old b hb with h|h
 .exact h2 (e▸h)
 exact h1 (e▸h)
def Inv.C9(I:Inv a bQ aJ c p q)(hb:b∈q.bI)(h:bh (Sg.set c.σ b cn) a p' q):Inv a bQ aJ (c.upd b cn) p' q:=I.upd hb h λx hx=>.inl hx
def Inv.Bb(I:Inv a bQ aJ c p q)(hb:c.σ b=none):b∈bQ.bI\/aJ b=none:=by
 cases h:aJ b with
 |none=>exact .inr aa
 |some cn=>
  left;refine aM λhn=>?_
  have:=I.dm b (by rw[h];simp) hn;rw[hb,h] at this;cases this
theorem Inv.add(I:Inv a bQ aJ c p q)(hb:c.σ b=none):Inv a bQ aJ (c.add b cn) p q:=by
 refine⟨I.at'.other (I.at'.fresh hb),λx hx=>.inl (I.wr x hx),I.old,λx h1 h2=>?_⟩;show Sg.set c.σ b cn x=_;rw[kR]
 .exact I.dm x h1 h2
 intro e;have:=I.dm x h1 h2;rw[e,hb] at this;exact h1 (by rw[e];exact this.symm)
theorem Inv.adds(I:Inv a bQ aJ c p q)(hb:∀b,τ b≠none->c.σ b=none):Inv a bQ aJ (c.adds τ) p q:=by
 have hσ:∀x,c.σ x≠none->(c.adds τ).σ x=c.σ x:=λx hx=>by
  cases h:τ x with
  |none=>exact C.oG h
  |some cn=>exact aK (hb x (by rw[h];simp)) hx
 have hk:∀b,b=a\/b∈q.bI->c.σ b≠none:=λb h e=>by
  have:=I.at'.fresh e;rcases h with h|h
  .exact this.1 h
  exact this.2 h
 refine⟨I.at'.agree λb h=>hσ b (hk b h),λx hx=>.inl (I.wr x hx),I.old,λx h1 h2=>?_⟩;have:=I.dm x h1 h2;rw[hσ x (by rw[this];exact h1)];exact this
def Inv.call(I:Inv a bQ aJ c p q)(A:FE c (λx=>x∈q.bI) c')(h:tu a q p' c.σ c'.σ):∃q',Inv a bQ aJ c' p' q':=by
 let ⟨q',h1,h2⟩:=h;refine⟨q',h1,λx hx=>?_,λx hx=>?_,λx g1 g2=>?_⟩
 .rcases h2 x hx with h|h
  .exact A.ww x (I.wr x h)
  refine aM λhn=>?_
  cases e:c'.σ x with
  |none=>exact(h1.fresh e).2 hx
  |some cn=>
   let ⟨z2,_⟩:=A.nw x cn e hn;let ⟨eL,e'⟩:=z2;exact ns h e'
 .rcases h2 x hx with h|h
  .exact I.old x h
  exact I.Bb h
 have e:=I.dm x g1 g2;cases h:aJ x with
 |none=>exact aK h g1
 |some cn=>
  refine A.sg x cn (λhm=>?_) (by rw[e,h]);rcases I.old x hm with h'|h'
  .exact g2 h'
  exact g1 h'
def Ex.aan(I:Inv a bQ aJ c p q)(Ck:oF c.toG0)(A:eK c.toG0 n)(h:Ev c ρ e v)(hs:fR ρ "self" (.r a))(r:Ex (c.upd q.da (.t (gT n v (cM p q)))) ρ (rest::k) Pp R)
 (hsw:autoParam (swapsWithSole [.Attribute (.Name "self" p1) n p2] e pos.line c.env=pure false) bu) (hw:autoParam (swappedStores [.Attribute (.Name "self" p1) n p2] e c.env=pure none) bu):Ex c ρ ((.Assign [.Attribute (.Name "self" p1) n p2] e pos::rest)::k) Pp R:=by
 refine mY (h.m) (λc' v' z hq=>?_) aa hsw hw;let ⟨zy,zy⟩:=hq;exact⟨_,_,FA Ck A (aj hs) I.at'.o I.at'.t (I.wr _ kQ) (hz:=by show 10<=100;decide),r⟩
def Ex.U7(I:Inv a bQ aJ c p q)(Mk:jh c.toG0 m fa)(F:lH c.toG0 N fa (.r a::vs) (λx=>x∈q.bI) (λσ=>bh σ a p q) (tu a q p'))(hs:fR ρ "self" (.r a))(vY:(cM p q).lookup m=none)(ha:EvVs c ρ args vs)(hn:N<=c.n)
 (r:∀c' q',c'={c with M:=c'.M,σ:=c'.σ,wr:=c'.wr}->Inv a bQ aJ c' p' q'->Ex c' ρ (rest::k) Pp R)
 (hv:args=[]->vs=[]:=by intro h;first|rfl|cases h) (bS:autoParam (attributeBase (.Name "self" p1) m c.env (eval (.Name "self" p1) c.env)=eval (.Name "self" p1) c.env) bu) (hline:autoParam ((p2.endLine==p3.line)=true) bu) (cW:autoParam (bP args=true) bu) (hz:args.length<29:=by decide)
 (hi:autoParam (interactive c.env=false) bu) (hsw:autoParam (swapsWith (.Call (.Attribute (.Name "self" p1) m p2) args [] p3) none p4.line c.env=pure false) bu):
 Ex c ρ ((.Expr (.Call (.Attribute (.Name "self" p1) m p2) args [] p3) p4::rest)::k) Pp R:=by
 refine pX (QI F Mk (aj hs) I.at'.o I.at'.t vY ha hn I.wr I.at' hv bS hline cW hz) (λc' v hc hq=>?_) hi hsw;let ⟨A,_,_,hP⟩:=hq;let ⟨q',I'⟩:=I.call A hP;exact r c' q' hc I'
end
open Mine.Ev renaming self->jN
open Mine.D renaming aam->mG
open Mine.Inv renaming start->oO
open Mine.Ex renaming U7->qe,aan->LC
def Sub(ρ ρ':Nm):Prop:=∀x v,ρ.lookup x=some v->ρ'.lookup x=some v
def Sub.aft:Sub ρ ρ:=λz z h=>h
def Sub.skip(h:Sub ρ ρ')(hn:ρ.lookup x=none):Sub ρ ((x,v)::ρ'):=λy w e=>by
 rw[aW]
 .exact h y w e
 intro h';rw[h',hn] at e;cases e
def oQ(l:List (Int×Option Str))(s:Int):(look (cJ (fz l)) s).isSome=(look l s).isSome:=by
 rw[oM];unfold fz;rw[jm];cases look l s<;>rfl
def S7{α:Type}(n size:Nat)(o:Option α):(decide (2*(n:Int)>(size:Int))&&(!o.isSome&&true))=(decide (size<2*n)&&o.isNone):=by
 have:decide (2*(n:Int)>(size:Int))=decide (size<2*n):=by
  exact decide_eq_decide.mpr kG
 rw[this];cases o<;>rfl
section
variable {a b:Addr}{bQ q q':PA}{aJ:Sg}{c c':C}{p p':cA}{cn:Cn}{ρ:Nm}{k:List (List Stmt)}{rest:List Stmt}{Pp:C->Nm->Prop}{R:C->D->Prop}{e:aU}{v:V}{n:Str}{p1 p2 p3 p4 pos:Pos}
def Ev.aao(Ck:oF c.toG0)(A:eK c.toG0 n)(I:Inv a bQ aJ c p q)(hs:fR ρ "self" (.r a))(hn:(cM p q).lookup n=some v):Ev c ρ (.Attribute (.Name "self" p1) n p2) v:=
 Fz Ck A (aj hs) I.at'.o I.at'.t hn
theorem rV.self(Ck:oF c.toG0)(A:eK c.toG0 n)(I:Inv a bQ aJ c p q)(hs:fR ρ "self" (.r a)):rV c ρ (.Attribute (.Name "self" p1) n p2) v (c.upd q.da (.t (gT n v (cM p q)))) ρ:=
 FA Ck A (aj hs) I.at'.o I.at'.t (I.wr _ kQ) (hz:=by show 10<=100;decide)
theorem Inv.phase(I:Inv a bQ aJ c p q)(n:Nat)(hy:y=j9 n):Inv a bQ aJ (c.upd q.da (.t (gT "phase" (.d (.str y)) (cM p q)))) {p with phase:=n} q:=I.C9 kQ (I.at'.IX n hy)
theorem Inv.promised(I:Inv a bQ aJ c p q)(b:bg):Inv a bQ aJ (c.upd q.da (.t (gT "promised" (.d (aD b)) (cM p q)))) {p with promised:=b} q:=I.C9 kQ (I.at'.LA b)
theorem Inv.af(I:Inv a bQ aJ c p q)(b:bg):Inv a bQ aJ (c.upd q.da (.t (gT "ballot" (.d (aD b)) (cM p q)))) {p with af:=b} q:=I.C9 kQ (I.at'.RD b)
theorem Inv.out(I:Inv a bQ aJ c p q)(e:l=ms.map bG):Inv a bQ aJ (c.upd q.out (.l l)) {p with out:=ms} q:=I.C9 xx (I.at'.S5 e)
theorem Inv.acc(I:Inv a bQ aJ c p q)(s:Int)(x:bg×Option Str):Inv a bQ aJ (c.upd q.acc (.i (put (cJ (gK p.acc)) s (.d (.tup [aD x.1,bl x.2]))))) {p with acc:=put p.acc s x} q:=I.C9 zX (I.at'.abO s x)
theorem Inv.ak(I:Inv a bQ aJ c p q)(s:Int)(v:Option Str):Inv a bQ aJ (c.upd q.ch (.i (put (cJ (fz p.ak)) s (.d (bl v))))) {p with ak:=put p.ak s v} q:=I.C9 xw (I.at'.RE s v)
def Inv.abP(I:Inv a bQ aJ c p q)(s:Int)(ks:List bf):Inv a bQ aJ (c.upd q.pm (.i (put (cJ (dO p.prom)) s (.d (.lst (ks.map bM)))))) {p with prom:=put p.prom s ks} q:=I.C9 zY (I.at'.RG s ks)
def Nw(a:Addr)(bQ:PA)(aJ:Sg)(c:C)(q:PA)(b:Addr):Prop:=c.wr b/\(b∈bQ.bI\/aJ b=none)/\b≠a/\b∉q.bI
def Inv.nw(I:Inv a bQ aJ c p q)(hb:c.σ b=none):Nw a bQ aJ (c.add b cn) q b:=⟨.inr aa,I.Bb hb,(I.at'.fresh hb).1,(I.at'.fresh hb).2⟩
theorem Nw.add(h:Nw a bQ aJ c q b):Nw a bQ aJ (c.add x cn) q b:=⟨.inl h.1,h.2⟩
theorem Inv.prom(I:Inv a bQ aJ c p q)(N:Nw a bQ aJ c q b)(hs:c.σ b=some (.i (cJ (dO l)))):Inv a bQ aJ (c.upd q.da (.t (gT "prom" (.r b) (cM p q)))) {p with prom:=l} {q with pm:=b}:=
 I.upd kQ (I.at'.NS hs N.2.2) λx hx=>by
  unfold qc at hx⊢;simp only[bZ] at hx⊢;rcases hx with h|h|h|h|h|h|h
  .exact .inl (.inl h)
  .exact .inl (.inr (.inl h))
  .exact .inl (.inr (.inr (.inl h)))
  .subst h;exact .inr ⟨N.1,by have:=N.2.1;unfold qc at this;simpa using this⟩
  .exact .inl (.inr (.inr (.inr (.inr (.inl h)))))
  .exact .inl (.inr (.inr (.inr (.inr (.inr (.inl h))))))
  exact .inl (.inr (.inr (.inr (.inr (.inr (.inr h))))))
theorem Inv.props(I:Inv a bQ aJ c p q)(N:Nw a bQ aJ c q b)(hs:c.σ b=some (.i (xs.map λx=>(x.k,.r x.la))))(hx:∀x∈xs,c.σ x.la=some (.v [.d x.d,.r x.sa])/\c.σ x.sa=some (.s x.ks))(hv:xs.map PE.v=ja l)(hn:(b::bB xs).Nodup)(hd:∀y∈bB xs,Nw a bQ aJ c q y):
 Inv a bQ aJ (c.upd q.da (.t (gT "props" (.r b) (cM p q)))) {p with props:=l} {q with pp:=b,xs:=xs}:=by
 intros a b bQ q aJ c p xs l _ I N hs hx hv hn hd;exact I.upd kQ (I.at'.U6 hs N.2.2 hx hv hn λy hy=>(hd y hy).2.2) λx hx=>by
  unfold qc at hx;simp only[bZ] at hx;rcases hx with h|h|h|h|h|h|h
  .exact .inl (by subst h;exact kQ)
  .exact .inl (by subst h;exact zX)
  .exact .inl (by subst h;exact xw)
  .exact .inl (by subst h;exact zY)
  .subst h;exact .inr ⟨N.1,N.2.1⟩
  .exact .inl (by subst h;exact xx)
  exact .inr ⟨(hd x h).1,(hd x h).2.1⟩
def Inv.lU(I:Inv a bQ aJ c p q)(N:Nw a bQ aJ c q b)(hs:c.σ b=some (.i [])):Inv a bQ aJ (c.upd q.da (.t (gT "props" (.r b) (cM p q)))) {p with props:=[]} {q with pp:=b,xs:=[]}:=
 I.props N hs (λx hx=>by cases hx) aa (by simp[bB]) λy hy=>by cases hy
theorem Inv.GR(I:Inv a bQ aJ c p q){s:Int}{v:Option Str}{la sa:Addr}{ks:List Int}(hn:look p.props s=none)(h1:c.σ la=some (.v [.d (bl v),.r sa]))(h2:c.σ sa=some (.s ks))(N1:Nw a bQ aJ c q la)(N2:Nw a bQ aJ c q sa)(dg:la≠sa):
 Inv a bQ aJ (c.upd q.pp (.i (put (q.xs.map λx=>(x.k,gn x.la)) s (.r la)))) {p with props:=put p.props s (v,ks)} {q with xs:=q.xs++[⟨s,la,sa,bl v,ks⟩]}:=by
 intros a bQ q aJ c p s v la sa ks _ I hn h1 h2 N1 N2 dg;exact I.upd CH (I.at'.GR hn h1 h2 N1.2.2 N2.2.2 dg) λx hx=>by
  unfold qc bB at hx;simp only[bZ,W8,dY,vH,List.flatMap_nil,iW,pK,or_false] at hx;rcases hx with h|h|h|h|h|h|h|h|h
  .exact .inl (by subst h;exact kQ)
  .exact .inl (by subst h;exact zX)
  .exact .inl (by subst h;exact xw)
  .exact .inl (by subst h;exact zY)
  .exact .inl (by subst h;exact CH)
  .exact .inl (by subst h;exact xx)
  .exact .inl (by unfold qc bB;simp only[bZ];exact .inr (.inr (.inr (.inr (.inr (.inr h))))))
  .subst h;exact .inr ⟨N1.1,N1.2.1⟩
  subst h;exact .inr ⟨N2.1,N2.2.1⟩
theorem Inv.GS(I:Inv a bQ aJ c p q)(pF:Nk p.props){s:Int}{v:Option Str}{ks ks':List Int}{x:PE}(hx:x∈q.xs)(hk:x.k=s)(hl:look p.props s=some (v,ks)):
 Inv a bQ aJ (c.upd x.sa (.s ks')) {p with props:=put p.props s (v,ks')} {q with xs:=q.xs.map λy=>if y.k=s then{y with ks:=ks'} else y}:=
 I.upd (PA.DO hx).2 (I.at'.GS pF hx hk hl) λy hy=>by
  left;unfold qc at hy⊢
  rwa [C7 (λy=>by split<;>exact⟨rfl,rfl⟩)] at hy
theorem Nw.pm(h:Nw a bQ aJ c q d)(dg:d≠b):Nw a bQ aJ c {q with pm:=b} d:=by
 intros a b bQ q aJ c d _ h dg;exact⟨h.1,h.2.1,h.2.2.1,λhx=>by
  have hn:=h.2.2.2;unfold qc at hx hn;simp only[bZ,not_or] at hx hn;rcases hx with h|h|h|h|h|h|h
  .exact hn.1 h
  .exact hn.2.1 h
  .exact hn.2.2.1 h
  .exact dg h
  .exact hn.2.2.2.2.1 h
  .exact hn.2.2.2.2.2.1 h
  exact hn.2.2.2.2.2.2 h⟩
def Ex.idle{n1 n2:Nat}(I:Inv a bQ aJ c p q)(Ck:oF c.toG0)(A1:eK c.toG0 "phase")(A2:eK c.toG0 "prom")(A3:eK c.toG0 "props")(hs:fR ρ "self" (.r a))(hy:y=j9 ph)(k7:kZ y=true)
 (r:∀c' q',c'={c with M:=c'.M,σ:=c'.σ,wr:=c'.wr}->Inv a bQ aJ c' {p with phase:=ph,prom:=[],props:=[]} q'->Ex c' ρ (rest::k) Pp R)
 (hw:autoParam (swappedStores [.Tuple [.Attribute (.Name "self" cp1) "phase" cp2,.Attribute (.Name "self" cp3) "prom" cp4,.Attribute (.Name "self" U8) "props" U9] n1 u1] (.Tuple [.Constant (.str y) kk Va,.Dict [] [] cp8,.Dict [] [] Vb] n2 u2) c.env=pure none) bu):
 Ex c ρ ((.Assign [.Tuple [.Attribute (.Name "self" cp1) "phase" cp2,.Attribute (.Name "self" cp3) "prom" cp4,.Attribute (.Name "self" U8) "props" U9] n1 u1] (.Tuple [.Constant (.str y) kk Va,.Dict [] [] cp8,.Dict [] [] Vb] n2 u2) pos::rest)::k) Pp R:=by
 intros a bQ q aJ c p ρ k rest Pp _ R pos y ph u1 u2 n1 n2 cp1 cp2 cp3 cp4 U8 U9 Va cp8 Vb kk I Ck A1 A2 A3 hs hy k7 r hw;intros R pos y ph u1 u2 n1 n2 cp1 cp2 _ cp3 cp4 U8 U9 Va cp8 Vb kk I Ck A1 A2 A3 hs hy k7 r hw;intros cp3 cp4 U8 U9 Va cp8 Vb kk _ I Ck A1 A2 A3 hs hy k7 r hw;refine Ft (Q:=λc' vs=>∃b1 b2,c.σ b1=none/\(c.add b1 (.i [])).σ b2=none/\c'=(c.add b1 (.i [])).add b2 (.i [])/\vs=[.d (.str y),.r b1,.r b2]) ?_ (λc' vs hc hq=>?_) (by show 3<=100;decide) hw
 .refine oE (rz (dZ k7)) (λc1 v1 z h1=>?_);let ⟨zy,zy⟩:=h1;refine oE (mZ zN) (λc2 v2 z h2=>?_);let ⟨b1,_,gM,zy,zy⟩:=h2;refine oE (mZ zN) (λc3 v3 z h3=>?_);let ⟨b2,_,fD,zy,zy⟩:=h3;intro s pos S L;refine bk (Co s pos S L) (λxs s' ⟨c',vs,X,S',L',r',hc,hv⟩=>⟨c',vs,X,S',L',r',b1,b2,gM,fD,hc,?_⟩);rw[hv]
 let ⟨b1,b2,gM,fD,zy,zy⟩:=hq;intros b1 b2 _ gM fD hc
 have dg:b2≠b1:=by
  intro e;rw[e] at fD;have:(c.add b1 (.i [])).σ b1=some (.i []):=by show(if b1=b1 then _ else _)=_;rw[aq aa]
  exact ns fD this
 have I2:=(I.add (cn:=.i []) gM).add (cn:=.i []) fD;have N1:Nw a bQ aJ ((c.add b1 (.i [])).add b2 (.i [])) q b1:=(I.nw (cn:=.i []) gM).add;have N2:Nw a bQ aJ ((c.add b1 (.i [])).add b2 (.i [])) q b2:=(I.add (cn:=.i []) gM).nw fD
 have s1:((c.add b1 (.i [])).add b2 (.i [])).σ b1=some (.i []):=by
  show(if b1=b2 then _ else if b1=b1 then _ else _)=_;rw[ay (dJ dg),aq aa]
 have s2:((c.add b1 (.i [])).add b2 (.i [])).σ b2=some (.i []):=by
  show(if b2=b2 then _ else _)=_;rw[aq aa]
 have I3:=I2.phase ph hy;have d1:b1≠q.da:=λe=>N1.2.2.2 (e▸by exact kQ)
 have d2:b2≠q.da:=λe=>N2.2.2.2 (e▸by exact kQ)
 have I4:=I3.prom (b:=b1) (l:=[]) N1 (by show Sg.set _ _ _ _=_;rw[kR d1];exact s1);have I5:=I4.lU (b:=b2) (N2.pm dg) (by show Sg.set _ _ _ _=_;rw[kR d2];show Sg.set _ _ _ _=_;rw[kR d2];exact s2);refine⟨_,_,fJ (rV.self Ck A1 I2 hs) aa (fJ (rV.self Ck A2 I3 hs) aa (fJ (rV.self Ck A3 I4 hs) aa pY)),r _ _ aa I5⟩
def lH.mono{g:G0}{n:Nat}{fa:Addr}{vs:List V}{O:Addr->Prop}{pZ:Sg->Prop}{Po Po':Sg->Sg->Prop}(F:lH g n fa vs O pZ Po)(h:∀σ σ',Po σ σ'->Po' σ σ'):lH g n fa vs O pZ Po':=
 λc hg hn hO hp s xs Q B ha hQ=>F c hg hn hO hp s xs Q B ha λc' s' X B' hw po=>hQ c' s' X B' hw (h _ _ po)
end
open Mine.Sub renaming aft->xA
open Mine.rV renaming self->RH
def qA(x y:bg):D.ord .Lt (aD x) (aD y)=some (fV x y):=by
 intros x y;show(if eT (.int x.1) (.int y.1) then if eT (.int x.2) (.int y.2) then some (decide (2<2)) else some (decide (x.2<y.2)) else some (decide (x.1<y.1)))=_;simp only[mG,fV]
 by_cases h1:x.1=y.1
 .by_cases h2:x.2=y.2
  .simp[h1,h2]
  simp[h1,h2]
 simp[h1]
def DP(x y:bg):D.ord .Gt (aD x) (aD y)=some (fV y x):=by
 intros x y;show(if eT (.int x.1) (.int y.1) then if eT (.int x.2) (.int y.2) then some (decide (2>2)) else some (decide (x.2>y.2)) else some (decide (x.1>y.1)))=_;simp only[mG,fV]
 by_cases h1:x.1=y.1
 .by_cases h2:x.2=y.2
  .simp[h1,h2]
  simp[h1,h2]
 have:¬y.1=x.1:=λh=>h1 h.symm
 simp[h1,this]
def qp(x:bg):(aD x).dep<=400:=by
 unfold aD;simp[D.dep,D.dK]
def lH.ad1(F:lH g n fa vs O pZ Po)(h:∀a,O a->O' a):lH g n fa vs O' pZ Po:=
 λc hg hn hO hp s xs Q B ha hQ=>F c hg hn (λa o=>hO a (h a o)) hp s xs Q B ha λc' s' X B' hw po=>
  hQ c' s' ⟨X.eq,X.kx.mono λa o=>h a o,X.al,X.m,X.mm,X.w,X.ww,λa cn n=>X.sg a cn λo=>n (h a o),X.sn,X.nw⟩ B' hw po
section
variable {a b:Addr}{bQ q q':PA}{aJ:Sg}{c c':C}{p p':cA}{cn:Cn}{ρ:Nm}{k:List (List Stmt)}{rest:List Stmt}{Pp:C->Nm->Prop}{R:C->D->Prop}{e:aU}{v:V}{n:Str}{p1 p2 p3 p4 pos:Pos}
def Ex.RI(I:Inv a bQ aJ c p q)(Mk:jh c.toG0 m fa)(F:lH c.toG0 N fa (.r a::vs) (λx=>x∈q.bI) (λσ=>bh σ a p q) (tu a q p'))(hs:fR ρ "self" (.r a))(vY:(cM p q).lookup m=none)(ha:EvVs c ρ args vs)(hn:N<=c.n)
 (r:∀c' q',c'={c with M:=c'.M,σ:=c'.σ,wr:=c'.wr}->Inv a bQ aJ c' p' q'->(∀x cn,x∉q.bI->c.σ x=some cn->c'.σ x=some cn/\x∉q'.bI)->Ex c' ρ (rest::k) Pp R)
 (hv:args=[]->vs=[]:=by intro h;first|rfl|cases h) (bS:autoParam (attributeBase (.Name "self" p1) m c.env (eval (.Name "self" p1) c.env)=eval (.Name "self" p1) c.env) bu) (hline:autoParam ((p2.endLine==p3.line)=true) bu) (cW:autoParam (bP args=true) bu) (hz:args.length<29:=by decide)
 (hi:autoParam (interactive c.env=false) bu) (hsw:autoParam (swapsWith (.Call (.Attribute (.Name "self" p1) m p2) args [] p3) none p4.line c.env=pure false) bu):
 Ex c ρ ((.Expr (.Call (.Attribute (.Name "self" p1) m p2) args [] p3) p4::rest)::k) Pp R:=by
 refine pX (QI F Mk (aj hs) I.at'.o I.at'.t vY ha hn I.wr I.at' hv bS hline cW hz) (λc' v hc hq=>?_) hi hsw;let ⟨A,_,_,hP⟩:=hq;let ⟨q',h1,h2⟩:=hP;let ⟨q'',I'⟩:=I.call A ⟨q',h1,h2⟩
 have I2:Inv a bQ aJ c' p' q':=by
  refine⟨h1,λx hx=>?_,λx hx=>?_,I'.dm⟩
  .rcases h2 x hx with h|h
   .exact A.ww x (I.wr x h)
   refine aM λhn=>?_
   cases e:c'.σ x with
   |none=>exact(h1.fresh e).2 hx
   |some cn=>
    let ⟨z2,_⟩:=A.nw x cn e hn;let ⟨eL,e'⟩:=z2;exact ns h e'
  rcases h2 x hx with h|h
  .exact I.old x h
  exact I.Bb h
 refine r c' q' hc I2 λx cn hx e=>⟨A.sg x cn hx e,λhm=>?_⟩
 rcases h2 x hm with h|h
 .exact hx h
 exact ns h e
end
structure PB(p:cA)(i:Nat)(p':cA):Prop where
 me:p'.me=p.me
 size:p'.size=p.size
 out:p'.out.length<=p.out.length+8*i
 acc:p'.acc.length<=p.acc.length+i
 ch:p'.ak.length<=p.ak.length+i
 pl:p'.props.length<=p.props.length+i
def cA.IZ(p:cA)(s:Int)(h4:p.size<=4):(p.check s).me=p.me/\(p.check s).size=p.size/\(p.check s).out.length<=p.out.length+4/\(p.check s).acc=p.acc/\(p.check s).ak.length<=p.ak.length+1/\(p.check s).props=p.props:=by
 intros p s _ h4;unfold Lb;split
 .split
  .refine⟨rfl,rfl,?_,rfl,gU _ _ _,rfl⟩;show(p.out++(qd p.size p.me).map _).length<=_;have:=oN p.size p.me;rw[bU,aR];exact ff (aG ‹_› ‹_›) _
  exact⟨rfl,rfl,iE ..,rfl,jr _,rfl⟩
 exact⟨rfl,rfl,iE ..,rfl,jr _,rfl⟩
def cA.NU(p:cA)(s:Int)(v:Option Str)(h4:p.size<=4):PB p 1 (p.aO s v):=by
 intros p s v _ h4;unfold Zz;let ⟨h1,h2,h3,h5,h6,h7⟩:=cA.IZ (({p with props:=put p.props s (v,[p.me]),acc:=put p.acc s (p.af,v)}:cA).all (λj=>.accept p.af p.me j s v)) s h4;refine⟨h1,h2,aG h3 ?_,?_,h6,?_⟩
 .show(p.out++(qd p.size p.me).map _).length+4<=_;have:=oN p.size p.me;rw[bU,aR];exact aG (fF (BA ..)) (ff (kU (aG ‹_› ‹_›) 4) _)
 .rw[h5];exact gU _ _ _
 rw[h7];exact gU _ _ _
def cA.GU(p:cA)(s:Int)(v:Option Str)(h4:p.size<=4):(p.aO s v).props=put p.props s (v,[p.me]):=by
 unfold Zz;rw[(cA.IZ (({p with props:=put p.props s (v,[p.me]),acc:=put p.acc s (p.af,v)}:cA).all (λj=>.accept p.af p.me j s v)) s h4).2.2.2.2.2];rfl
theorem NV(f:Int->Option Str)(p:cA)(h4:p.size<=4)(h0:p.props=[]):∀n:Nat,PB p n ((slots (n:Int)).foldl (λq s=>q.aO s (f s)) p)/\∀k,(n:Int)<k->look ((slots (n:Int)).foldl (λq s=>q.aO s (f s)) p).props k=none
 |0=>⟨⟨rfl,rfl,bW _,bW _,bW _,bW _⟩,λk z=>by show look p.props k=none;rw[h0];rfl⟩
 |n+1=>by
  let ⟨B,L⟩:=NV f p h4 h0 n
  have e:slots ((n+1:Nat):Int)=slots (n:Int)++[(n:Int)+1]:=by
   unfold slots;simp only[iX];rw[BI,eB];rfl
  rw[e,t9];generalize(slots (n:Int)).foldl (λq s=>q.aO s (f s)) p=q at B L⊢;show PB p (n+1) (q.aO ((n:Int)+1) (f ((n:Int)+1)))/\∀k,_->look (q.aO ((n:Int)+1) (f ((n:Int)+1))).props k=none;have hq4:q.size<=4:=by rw[B.size];exact h4
  have B1:=cA.NU q ((n:Int)+1) (f ((n:Int)+1)) hq4;refine⟨⟨B1.me.trans B.me,B1.size.trans B.size,aG B1.out (kU B.out 8),aG B1.acc (gw B.acc),aG B1.ch (gw B.ch),aG B1.pl (gw B.pl)⟩,λk hk=>?_⟩;rw[cA.GU _ _ _ hq4,gc,ay (show ¬(n:Int)+1=k from Xq hk)];exact L k (sG (vN (eS _)) hk)
def D.Bc(x y:Str):eT (.str x) (.str y)=decide (x=y):=by
 show lE (.str x) (.str y)=_;simp only[lE]
 by_cases h:x=y
 .simp[h]
 simp[h]
def jy(n:Nat):eT (.str (j9 n)) (.str "preparing")=decide (n=1):=by
 rw[D.Bc]
 match n with
 |0=>decide+kernel
 |1=>decide+kernel
 |n+2=>rewrite [decide_eq_false (λh=>OY _ (EO h):¬n+2=1)];show decide (("leading":Str)="preparing")=false;decide+kernel
def g5(h:n<=2):eT (.str (j9 n)) (.str "leading")=decide (n=2):=by
 rw[D.Bc];exact(show ∀n<3,decide (j9 n="leading")=decide (n=2) by decide+kernel) n (JF h)
def rN(n:Nat):eT (.str (j9 n)) (.str "idle")=decide (n=0):=by
 rw[D.Bc]
 match n with
 |0=>decide+kernel
 |1=>decide+kernel
 |n+2=>rewrite [decide_eq_false (OY _:¬n+2=0)];show decide (("leading":Str)="idle")=false;decide+kernel
section
variable {c:C}{ρ:Nm}{e:aU}{p pos:Pos}{b:Addr}{α:Type}
def zF.ad2{kvs:List (Int×V)}{l:List (Int×α)}(h:Ev c ρ e (.r b))(hs:c.σ b=some (.i kvs))(hk:kvs.map (·.1)=l.map (·.1))(rW:l.length<64)(kq:autoParam (c.env.kindOf "sorted"=some .globalImplicit) bu)(cW:autoParam (bJ e=false) bu):
 zF c ρ (.Call (.Name "sorted" p) [e] [] pos) ((aI l).map λt=>.int t.1):=by
 have e1:(aI l).map (λt=>jF t.1)=bA (d7 (l.map (·.1))):=by rw[<-Q9];simp[bA,uh]
 rw[e1];have hc:=uJ.keys h hs;have e2:(kvs.map λq=>jF q.1)=bA (l.map (·.1)):=by rw[<-hk];simp[bA,uh]
 rw[e2] at hc;exact i6 (cH (Q5 hc (by simpa using rW) (ji _) (nC _) kq cW))
def Ev.ad3(h:Ev c ρ e (.r b))(hs:c.σ b=some (.s ks))(rW:ks.length<64)(kq:autoParam (c.env.kindOf "sorted"=some .globalImplicit) bu)(cW:autoParam (bJ e=false) bu):
 Ev c ρ (.Call (.Name "sorted" p) [e] [] pos) (.d (.lst (bA (d7 ks)))):=
 cH (Q5 (uJ.set h hs) rW (ji _) (nC _) kq cW)
end
section
variable {c:C}{ρ:Nm}{x t u:Str}{ds:List D}{p1 p2 p3 p4 p5 p6:Pos}{k0 k1:Nat}{body orelse rest:List Stmt}{k:List (List Stmt)}{P:C->Nm->Prop}{R:C->D->Prop}
def si0(n:Nat):seqIndex? 0 (n+1)=some 0:=by unfold seqIndex?;simp<;>omega
def iH.tag(hx:ρ.lookup x=some (.d (.tup (.str t::ds))))(hu:kZ u=true):
 iH c ρ (.Compare (.Subscript (.Name x p1) (.Constant (.int 0) k0 p2) p3) [.Eq] [.Constant (.str u) k1 p4] p5) (eT (.str t) (.str u)):=
 bR (bE (ds:=.str t::ds) (j:=0) (aj hx) aN (si0 _) aa) (dZ hu) (fX minZ)
def Ex.afu(hx:ρ.lookup x=some (.d (.tup (.str t::ds))))(he:(eT (.str t) (.str u)&&kZ u)=true)(r:Ex c ρ (body::rest::k) P R):
 Ex c ρ ((.If (.Compare (.Subscript (.Name x p1) (.Constant (.int 0) k0 p2) p3) [.Eq] [.Constant (.str u) k1 p4] p5) body orelse p6::rest)::k) P R:=
 have h:=(iT _ _).mp he
 cP (iH.tag hx h.2) (λz=>r) λe=>nomatch e.symm.trans h.1
def Ex.afv(hx:ρ.lookup x=some (.d (.tup (.str t::ds))))(he:(eT (.str t) (.str u)||!PyData.strOk u)=false)(r:Ex c ρ (orelse::rest::k) P R):
 Ex c ρ ((.If (.Compare (.Subscript (.Name x p1) (.Constant (.int 0) k0 p2) p3) [.Eq] [.Constant (.str u) k1 p4] p5) body orelse p6::rest)::k) P R:=
 have h:=(Xw).mp he
 cP (iH.tag hx (by simpa using h.2)) (λe=>nomatch e.symm.trans h.1) λz=>r
def iH.nm(hx:ρ.lookup x=some (.d (.str t)))(hu:kZ u=true):
 iH c ρ (.Compare (.Name x p1) [.Eq] [.Constant (.str u) k1 p4] p5) (eT (.str t) (.str u)):=
 bR (aj hx) (dZ hu) (fX minZ)
def Ex.nmT(hx:ρ.lookup x=some (.d (.str t)))(he:(eT (.str t) (.str u)&&kZ u)=true)(r:Ex c ρ (body::rest::k) P R):
 Ex c ρ ((.If (.Compare (.Name x p1) [.Eq] [.Constant (.str u) k1 p4] p5) body orelse p6::rest)::k) P R:=
 have h:=(iT _ _).mp he
 cP (iH.nm hx h.2) (λz=>r) λe=>nomatch e.symm.trans h.1
def Ex.nmF(hx:ρ.lookup x=some (.d (.str t)))(he:(eT (.str t) (.str u)||!PyData.strOk u)=false)(r:Ex c ρ (orelse::rest::k) P R):
 Ex c ρ ((.If (.Compare (.Name x p1) [.Eq] [.Constant (.str u) k1 p4] p5) body orelse p6::rest)::k) P R:=
 have h:=(Xw).mp he
 cP (iH.nm hx (by simpa using h.2)) (λe=>nomatch e.symm.trans h.1) λz=>r
end
open Mine.Ex renaming nmF->CI,afv->CJ,afu->LD
open Mine.zF renaming ad2->GV
open Mine.D renaming Bc->RJ
section
variable {a b:Addr}{bQ q q':PA}{aJ:Sg}{c c':C}{p p':cA}{cn:Cn}{ρ:Nm}{k:List (List Stmt)}{rest:List Stmt}{Pp:C->Nm->Prop}{R:C->D->Prop}{e:aU}{v:V}{n:Str}{p1 p2 p3 p4 p5 pos:Pos}
def EvVs.ms(h:EvVs c ρ es vs):AA c ρ es (λc' HJ=>c'=c/\HJ=vs):=λs pos S L=>
 bk (h s pos S) (λxs s' o1=>⟨c,vs,.u9 o1.k,S.kp o1.k,L.kp o1.k.keep,o1.r,rfl,rfl⟩)
def Ex.aap(I:Inv a bQ aJ c p q)(Ck:oF c.toG0)(A:eK c.toG0 "out")(hs:fR ρ "self" (.r a))(he:Ev c ρ e (.d (bG m)))(hz:p.out.length+1<=ck)
 (r:∀c',c'={c with M:=c'.M,σ:=c'.σ,wr:=c'.wr}->Inv a bQ aJ c' {p with out:=p.out++[m]} q->Ex c' ρ (rest::k) Pp R)
 (bS:autoParam (attributeBase (.Attribute (.Name "self" p1) "out" p2) "append" c.env (eval (.Attribute (.Name "self" p1) "out" p2) c.env)=eval (.Attribute (.Name "self" p1) "out" p2) c.env) bu) (hline:autoParam ((p3.endLine==p4.line)=true) bu) (cW:autoParam (bJ e=false) bu)
 (hi:autoParam (interactive c.env=false) bu) (hsw:autoParam (swapsWith (.Call (.Attribute (.Attribute (.Name "self" p1) "out" p2) "append" p3) [e] [] p4) none p5.line c.env=pure false) bu):
 Ex c ρ ((.Expr (.Call (.Attribute (.Attribute (.Name "self" p1) "out" p2) "append" p3) [e] [] p4) p5::rest)::k) Pp R:=by
 refine pX (Cj (Ev.aao Ck A I hs aa) I.at'.out (I.wr _ xx) he (by simpa using hz) bS hline cW) (λc' v hc hq=>?_) hi hsw;let ⟨zy,_⟩:=hq;exact r _ hc (I.out (by simp))
end
def abQ(a b c d:D)(rs:List D):iy ([a,b,c,d]++rs) (some 4) none=rs:=by
 have h:clipAt ([a,b,c,d]++rs).length 4=4:=(oz _ 4).trans (n8 (iQ 4 rs.length));unfold iy;show(([a,b,c,d]++rs).drop (clipAt ([a,b,c,d]++rs).length 4)).take (([a,b,c,d]++rs).length-clipAt ([a,b,c,d]++rs).length 4)=rs;rw[h];show rs.take (([a,b,c,d]++rs).length-4)=rs;apply pL;simp only[bU,jL,Ew];exact Ea (fF (pJ ..))
def Ev.sliceTo{c:C}{ρ:Nm}{e₁:aU}{ds out:List D}{lo hi:Option aU}{l u:Option Int}{p pos:Pos}(bF:Ev c ρ e₁ (.d (.tup ds)))(hl:Dp c ρ lo l)(hu:Dp c ρ hi u)(he:iy ds l u=out):Ev c ρ (.Subscript e₁ (.Slice lo hi k6 p) pos) (.d (.tup out)):=he▸Ev.abt bF hl hu
def nQ(x y:bg):eT (aD x) (aD y)=decide (x=y):=by
 intros x y
 have h:eT (aD x) (aD y)=(decide (x.1=y.1)&&decide (x.2=y.2)):=by
  rw[<-mG,<-mG];show lE (.tuple [.int x.1,.int x.2]) (.tuple [.int y.1,.int y.2])=_;simp[lE,EF,eT,D.py]
 rw[h]
 by_cases e:x=y
 .subst e;simp
 rw[decide_eq_false e];rw[Bool.and_eq_false_iff]
 by_cases h1:x.1=y.1
 .right;rw[decide_eq_false];intro h2;exact e (qW h1 h2)
 left;exact decide_eq_false h1
def Sg.set_same(h:σ x=some cn):Sg.set σ x cn=σ:=by
 funext b;unfold Sg.set;split
 .rename_i e;rw[e,h]
 rfl
structure LF(p:cA):Prop where
 it:(p.prom.map (·.2)).flatten.length<=1000
 lo:0<=dI ((dG (p.prom.map (·.2)).flatten).map (·.1))
 hi:dI ((dG (p.prom.map (·.2)).flatten).map (·.1))<=100
structure Bd(p:cA):Prop where
 me0:0<=p.me
 me4:p.me<4
 size:p.size<=4
 ph:p.phase<=2
 n7:Nk p.acc
 acc:p.acc.length<64
 ch:p.ak.length<=1000
 out:p.out.length<=1000
 S8:Nk p.props
 props:p.props.length<64
 vot:∀x∈p.props,x.2.2.length<=4
 p0:p.phase≠2->p.props=[]
 pm:p.prom.length<=3
def Be(p:cA):cR->Prop
 |.promise b f _ ks=>b=p.af->p.phase=1->look p.prom f=none->LF {p with prom:=put p.prom f ks}
 |.accepted _ f _ _=>0<=f/\f<4
 |_=>True
open Mine.EvVs renaming ms->zZ
open Mine.Ev renaming sliceTo->z8
open Mine.Ex renaming aap->CK
def dc:eZ->D
 |.run=>.tup [.str "run"]
 |.aO v=>.tup [.str "propose",bl v]
 |.again=>.tup [.str "again"]
 |.d8=>.tup [.str "crash"]
 |.msg m=>.tup [.str "message",bG m]
def LL(p:cA):eZ->Prop
 |.run=>LF {p with prom:=[(p.me,aI p.acc)]}
 |.msg m=>Be p m
 |.d8=>False
 |_=>True
def Bf(l:List Int):∀a:Int,a<=l.foldl max a/\∀x∈l,x<=l.foldl max a:=by
 induction l with
 |nil=>intro a;exact⟨eS _,λx hx=>by cases hx⟩
 |cons y l ih=>
  intro a;let ⟨h1,h2⟩:=ih (max a y);refine⟨cN (EA a y) h1,λx hx=>?_⟩;rcases bZ.mp hx with rfl|h
  .exact cN (vM a _) h1
  exact h2 x h
def aaq(h:x∈l):x<=dI l:=by
 cases l with
 |nil=>cases h
 |cons y l=>
  rcases bZ.mp h with rfl|h
  .exact(Bf l _).1
  exact(Bf l _).2 x h
def Vc{α:Type}(l:List (Int×α)):look l (dI (l.map (·.1))+1)=none:=gB.mpr λh=>qQ.2 (Pj _) (aaq h)
def Bg(n:Nat)(f:Int->Bool):(b9 (n+1)).filter f=(b9 n).filter f++if f (n:Int) then[(n:Int)] else[]:=by
 unfold b9;rw[BI,eB,oh]
 congr 1
 by_cases h:f (n:Int)=true
 .simp[h]
 simp[h]
def jn(n:Nat)(f:Int->Bool):((b9 n).filter f).length<=n:=aG (sD _ _) (by simp[b9])
section
variable {a b:Addr}{bQ q q':PA}{aJ:Sg}{c c':C}{p p':cA}{cn:Cn}{ρ:Nm}{k:List (List Stmt)}{rest:List Stmt}{Pp:C->Nm->Prop}{R:C->D->Prop}{e:aU}{v:V}{n:Str}{p1 p2 p3 p4 pos:Pos}
def Ex.abR{n1 n2:Nat}(I:Inv a bQ aJ c p q)(Ck:oF c.toG0)(A1:eK c.toG0 "phase")(A3:eK c.toG0 "props")(hs:fR ρ "self" (.r a))(hy:y=j9 ph)(k7:kZ y=true)
 (r:∀c' q',c'={c with M:=c'.M,σ:=c'.σ,wr:=c'.wr}->Inv a bQ aJ c' {p with phase:=ph,props:=[]} q'->Ex c' ρ (rest::k) Pp R)
 (hw:autoParam (swappedStores [.Tuple [.Attribute (.Name "self" cp1) "phase" cp2,.Attribute (.Name "self" U8) "props" U9] n1 u1] (.Tuple [.Constant (.str y) kk Va,.Dict [] [] Vb] n2 u2) c.env=pure none) bu):
 Ex c ρ ((.Assign [.Tuple [.Attribute (.Name "self" cp1) "phase" cp2,.Attribute (.Name "self" U8) "props" U9] n1 u1] (.Tuple [.Constant (.str y) kk Va,.Dict [] [] Vb] n2 u2) pos::rest)::k) Pp R:=by
 refine Ft (Q:=λc' vs=>∃b2,c.σ b2=none/\c'=c.add b2 (.i [])/\vs=[.d (.str y),.r b2]) ?_ (λc' vs hc hq=>?_) (by show 2<=100;decide) hw
 .refine oE (rz (dZ k7)) (λc1 v1 z h1=>?_);let ⟨zy,zy⟩:=h1;refine oE (mZ zN) (λc3 v3 z h3=>?_);let ⟨b2,_,fD,zy,zy⟩:=h3;intro s pos S L;refine bk (Co s pos S L) (λxs s' ⟨c',vs,X,S',L',r',hc,hv⟩=>⟨c',vs,X,S',L',r',b2,fD,hc,?_⟩);rw[hv]
 let ⟨b2,fD,zy,zy⟩:=hq;have I2:=I.add (cn:=.i []) fD;have N2:Nw a bQ aJ (c.add b2 (.i [])) q b2:=I.nw fD;have s2:(c.add b2 (.i [])).σ b2=some (.i []):=s8;have I3:=I2.phase ph hy;have d2:b2≠q.da:=λe=>N2.2.2.2 (e▸by exact kQ)
 have I5:=I3.lU (b:=b2) N2 (by show Sg.set _ _ _ _=_;rw[kR d2];exact s2);exact⟨_,_,fJ (RH Ck A1 I2 hs) aa (fJ (RH Ck A3 I3 hs) aa pY),r _ _ aa I5⟩
end
structure IS(x dx:Addr)(aJ:Sg)(c:C)(bX:List (Str×V))(l:List (Addr×Cn)):Prop where
 hx:c.σ x=some (.o dx)
 hd:c.σ dx=some (.t bX)
 wd:c.wr dx
 lm:∀p∈l,c.σ p.1=some p.2
 nd:(x::dx::l.map (·.1)).Nodup
 n0:∀p∈l,aJ p.1=none
 dm:∀b,aJ b≠none->b≠dx->c.σ b=aJ b
section
variable {x dx:Addr}{aJ:Sg}{c:C}{bX:List (Str×V)}{l:List (Addr×Cn)}{n:Str}{v:V}{b:Addr}{cn:Cn}{ρ:Nm}{p1 p2:Pos}
def IS.attr(I:IS x dx aJ c bX l)(n:Str)(v:V):IS x dx aJ (c.upd dx (.t (gT n v bX))) (gT n v bX) l:=by
 have nd:=I.nd;simp only[ir,bZ,not_or] at nd;refine⟨?_,s8,I.wd,λp hp=>?_,I.nd,I.n0,λb h1 h2=>?_⟩
 .show Sg.set c.σ dx _ x=_;rw[kR nd.1.1];exact I.hx
 .show Sg.set c.σ dx _ p.1=_;rw[kR (λe=>nd.2.1 (by rw[<-e];exact jQ hp))];exact I.lm p hp
 show Sg.set c.σ dx _ b=_;rw[kR h2];exact I.dm b h1 h2
def IS.tg(I:IS x dx aJ c bX l)(Ck:oF c.toG0)(A:eK c.toG0 n)(hs:fR ρ "self" (.r x))(hz:bX.length<=100):rV c ρ (.Attribute (.Name "self" p1) n p2) v (c.upd dx (.t (gT n v bX))) ρ:=
 FA Ck A (aj hs) I.hx I.hd I.wd (hz:=hz)
def IS.new(I:IS x dx aJ c bX l)(hb:c.σ b=none):b≠x/\b≠dx/\b∉l.map (·.1)/\aJ b=none:=by
 intros x dx aJ c bX l b _ I hb;have h1:b≠dx:=λe=>by rw[e,I.hd] at hb;cases hb
 refine⟨λe=>(by rw[e,I.hx] at hb;cases hb),h1,λh=>?_,?_⟩
 .let ⟨p,hp,zy⟩:=cg.mp h;exact ns hb (I.lm p hp)
 cases e:aJ b with
 |none=>rfl
 |some cn=>have:=I.dm b (by rw[e];simp) h1;rw[hb,e] at this;cases this
theorem IS.adds(I:IS x dx aJ c bX l)(rX:τ=oK m)(hm:(m.map (·.1)).Nodup)(hb:∀b,τ b≠none->c.σ b=none):IS x dx aJ (c.adds τ) bX (l++m):=by
 have oj:∀p∈m,c.σ p.1=none:=λp hp=>hb p.1 (by rw[rX,xj hm hp];simp)
 have qX:∀b,c.σ b≠none->(c.adds τ).σ b=c.σ b:=λb h=>by
  cases e:τ b with
  |none=>exact C.oG e
  |some cn=>exact aK (hb b (by rw[e];simp)) h
 refine⟨?_,?_,.inl I.wd,λp hp=>?_,?_,λp hp=>?_,λb h1 h2=>?_⟩
 .rw[qX x (by rw[I.hx];simp)];exact I.hx
 .rw[qX dx (by rw[I.hd];simp)];exact I.hd
 .rcases dY.mp hp with h|h
  .rw[qX p.1 (by rw[I.lm p h];simp)];exact I.lm p h
  exact Cs (by rw[rX];exact xj hm h)
 .have nd:=I.nd
  have dj:∀y∈m.map (·.1),y≠x/\y≠dx/\y∉l.map (·.1):=λy hy=>by
   let ⟨p,hp,zy⟩:=cg.mp hy;have:=I.new (oj p hp);exact⟨this.1,this.2.1,this.2.2.1⟩
  rw[eB];rw[ir] at nd⊢;let ⟨n1,n2⟩:=nd;rw[ir] at n2⊢;let ⟨z2,n3⟩:=n2;revert z2;intro n2;refine⟨λh=>?_,λh=>?_,?_⟩
  .rcases bZ.mp h with h|h
   .exact n1 (h▸vB)
   rcases dY.mp h with h|h
   .exact n1 (yY _ h)
   exact(dj x h).1 aa
  .rcases dY.mp h with h|h
   .exact n2 h
   exact(dj dx h).2.1 aa
  exact kX.mpr ⟨n3,hm,λa ha b hb' e=>(dj b hb').2.2 (e▸ha)⟩
 .rcases dY.mp hp with h|h
  .exact I.n0 p h
  exact(I.new (oj p h)).2.2.2
 have:=I.dm b h1 h2;rw[qX b (by rw[this];exact h1)];exact this
theorem IS.add(I:IS x dx aJ c bX l)(hb:c.σ b=none):IS x dx aJ (c.add b cn) bX (l++[(b,cn)]):=by
 have e:c.add b cn=c.adds (oK [(b,cn)]):=by
  unfold C.add C.adds oK
  have h1:∀y,(([(b,cn)]:List (Addr×Cn)).find? λp=>p.1=y).map (·.2)=if y=b then some cn else none:=λy=>by
   by_cases h:y=b
   .subst h;simp
   have:¬b=y:=λe=>h e.symm
   simp[h,this]
  congr 1
  .funext y;rw[h1];by_cases h:y=b<;>simp[h]
  .funext y;rw[h1];by_cases h:y=b<;>simp[h]
  funext y;rw[h1];by_cases h:y=b<;>simp[h]
 rw[e];refine I.adds aa (by simp) λy hy=>?_
 unfold oK at hy
 by_cases h:b=y
 .rw[<-h];exact hb
 simp[h] at hy
end
def Ex.ad4(h:c'={base with M:=c'.M,σ:=c'.σ,wr:=c'.wr})(I:IS x dx aJ c' bX l)
 (r:∀M σ wr,IS x dx aJ (jY (base) M σ wr) bX l->Ex (jY (base) M σ wr) ρ k P R):Ex c' ρ k P R:=by
 let ⟨M,σ,wr,zy⟩:=bY h;exact r M σ wr I
def IS.fin(I:IS x dx aJ c bX l)(ha:bX=cM p ⟨dx,a1,a2,pm,pp,po,xs⟩)(h1:(a1,mU (cJ (gK p.acc)))∈l)(h2:(a2,mU (cJ (fz p.ak)))∈l)(h3:(pm,mU (cJ (dO p.prom)))∈l)(h4:(pp,mU (xs.map λx=>(x.k,gn x.la)))∈l)(h5:(po,Cn.l (p.out.map bG))∈l)(h6:∀e∈tQ xs,e∈l)(hv:xs.map PE.v=ja p.props)(mu:(a1::a2::pm::pp::po::bB xs).Nodup):
 ∃q:PA,q.da=dx/\bh c.σ x p q/\∀b∈q.bI,b=dx\/aJ b=none:=by
 have inl:∀b∈a1::a2::pm::pp::po::bB xs,∃cn,(b,cn)∈l:=λb hb=>by
  simp only[bZ] at hb;rcases hb with rfl|rfl|rfl|rfl|rfl|hb
  .exact⟨_,h1⟩
  .exact⟨_,h2⟩
  .exact⟨_,h3⟩
  .exact⟨_,h4⟩
  .exact⟨_,h5⟩
  rw[<-mE] at hb;let ⟨e,he,zy⟩:=cg.mp hb;exact⟨e.2,h6 e he⟩
 have pe:∀y∈xs,(y.la,Cn.v [.d y.d,.r y.sa])∈l/\(y.sa,Cn.s y.ks)∈l:=λy hy=>⟨h6 _ (je.mpr ⟨y,hy,by simp⟩),h6 _ (je.mpr ⟨y,hy,by simp⟩)⟩
 have nd:=I.nd;rw[ir] at nd;let ⟨n1,n2⟩:=nd;rw[ir] at n2;refine⟨⟨dx,a1,a2,pm,pp,po,xs⟩,rfl,⟨I.hx,ha▸I.hd,I.lm _ h1,I.lm _ h2,I.lm _ h3,I.lm _ h4,λy hy=>⟨I.lm _ (pe y hy).1,I.lm _ (pe y hy).2⟩,hv,I.lm _ h5,?_⟩,λb hb=>?_⟩
 .show(x::dx::a1::a2::pm::pp::po::bB xs).Nodup;refine ir.mpr ⟨λh=>?_,ir.mpr ⟨λh=>?_,mu⟩⟩
  .rcases bZ.mp h with h|h
   .exact n1 (h▸vB)
   let ⟨cn,hm⟩:=inl x h;exact n1 (yY _ (cg.mpr ⟨_,hm,rfl⟩))
  let ⟨cn,hm⟩:=inl dx h;exact n2.1 (cg.mpr ⟨_,hm,rfl⟩)
 rcases bZ.mp hb with h|h
 .exact .inl h
 let ⟨cn,hm⟩:=inl b h;exact .inr (I.n0 _ hm)
theorem oR{α Str:Type}(f:α->Str):∀(l acc:List (Int×α)),aS (acc.map λx=>(x.1,f x.2)) (l.map λx=>(x.1,f x.2))=(aS acc l).map λx=>(x.1,f x.2)
 |[],acc=>rfl
 |x::l,acc=>by
  show aS (put (acc.map λx=>(x.1,f x.2)) x.1 (f x.2)) (l.map λx=>(x.1,f x.2))=(aS (put acc x.1 x.2) l).map _;rw[tS f,oR f l]
open Mine.Ex renaming ad4->LM
def RK:bootBuiltins "type"=some (.type "type"):=by first|rfl|decide+kernel
def Vd:bootBuiltins "int"=some (.type "int"):=by first|rfl|decide+kernel
section
variable {c:C}{ρ:Nm}{e o e₁ e₂:aU}{pos p p1 p2 p3 p4 apos A5:Pos}{a:Addr}
def jP.ad5(h:A6 c ρ ks vs r)(mu:(r.map (·.1)).Nodup)(hz:r≠[])(UX:r.length<=15):jP c ρ (.Dict ks vs A5) (.k r):=by
 intros c ρ A5 ks vs r _ h mu hz UX;exact λs S=>by
  let ⟨l1,l2,l3⟩:=h.acE;have kp:Kp s {s with heap:=s.heap.push {cls:=.type "dict",data:=.dict #[]}}:=jw s _;refine OS (knd:=strKind c.prog c.w) l1 l2 (λe=>hz (by rw[e] at l3;exact yZ.mp l3.symm)) (by exact aG (fF ‹_›) ‹_›) (h.run (S.kp kp) λah ps us aE cr dr=>?_);have d0:ah.heap.DictOf (strKind c.prog c.w) s.heap.objs.size []:=dN (EM s.heap) (aE.keep _);refine⟨us,cr,d0,λh' d' sb=>?_⟩;let ⟨o0,g0,n0⟩:=fQ d0;have qb:=dr.keys;rw[Wi us (by rw[qb];exact mu)] at d';let ⟨o1,g1,n1⟩:=fQ d';exact⟨⟨(kp.trans aE).gens,(kp.trans aE).os,λb o e=>(sb.2 b λq=>by rw[q,bC] at e;cases e).trans ((kp.trans aE).keep b o e)⟩,s.heap.objs.size,rfl,bC _,us,d',aG UX (by decide),dr.mono λu y q=>(q.GC g0 n0 sb).DJ g1 n1⟩
def Ev.afw(h:Ev c ρ o (.r a))(hs:c.σ a=some (.k r))(bF:Ev c ρ e₁ (.d (.str x)))(bN:Ev c ρ e₂ (.d d))
 (bS:autoParam (attributeBase o "get" c.env (eval o c.env)=eval o c.env) bu) (hline:autoParam ((apos.endLine==pos.line)=true) bu) (gh:autoParam (bJ e₁=false) bu) (gk:autoParam (bJ e₂=false) bu):
 Ev c ρ (.Call (.Attribute o "get" apos) [e₁,e₂] [] pos) (.d ((r.lookup x).getD d)):=by
 intros c ρ o e₁ e₂ pos apos a r x d _ h hs bF bN bS hline gh gk;exact λs S=>
  mq S h (.cons bF (.cons bN .nil gk) gh) BW BX PG (λs ov B r=>by
   obtain rfl:ov=.ref a:=r;refine aM λhN=>?_;obtain⟨_,_,us,d,_⟩:_:=B.gg a _ hs;refine hN ?_
   exact⟨d.typeIs,λb e=>by cases e;let ⟨o,_,_,ho,z2,_⟩:=d;let ⟨_,hd,_⟩:=z2;exact⟨o,ho,hd⟩⟩) bS hline (ns2 gh gk) (bz aa) λah ov xs aE cT mV=>by
   obtain rfl:ov=.ref a:=cT;apply EZ mV;intro u u' ru Z6;let ⟨t,zy⟩:=Ku ru;have B:=S.bs.kp aE;refine aM λhN=>?_;obtain⟨m,_,us,dd,z,dr⟩:_:=B.gg a _ hs;refine hN ?_
   refine By BX dd.typeIs PJ (Yd _ _ _) (Wj (strKind c.prog c.w) _ (xh _ _ x t) (B.uq (B.kI a m)) u') ⟨_,dd.mapOf,?_⟩;have kt:Kp ah {ah with toks:=ah.toks+1}:=jv ah _;rcases dr.Z7 x with⟨e1,e2⟩|⟨y,z,e1,e2,e3⟩
   .rw[e1,e2];exact⟨aE.trans kt,Z6⟩
   rw[e1,e2];exact⟨aE.trans kt,e3⟩
def Ev.ad6(hm:c.mg f=some v)(hr:Rep c.h₀ (λa=>c.h₀.get? a=k6) v d)(hk:autoParam (c.env.kindOf f=some .globalImplicit) bu)(hd:autoParam ((f==("__debug__":Str))=false) bu):Ev c ρ (.Name f p) (.d d):=λs S=>
 S.Zl hk hm hd ⟨jM s,hr.mono λa o n z e=>⟨S.bs.keep a o e,λm=>n (S.bs.kI a m)⟩⟩
def Ev.S9(bF:Ev c ρ e₁ (.d (.str x)))(bN:Ev c ρ e₂ (.d (.int i)))(hr:(decide (i< -(2^63:Int))||decide (i>=2^63))=false)(hc:(seqIndex? i x.length).bind (x.cps[·]?)=some k)(k7:kZ ⟨#[k]⟩=true)(hs:autoParam (CT e₂=false) bu):Ev c ρ (.Subscript e₁ e₂ pos) (.d (.str ⟨#[k]⟩)):=bF.sub bN λs u w B r q=>by
 let ⟨t,zy⟩:=Ku r;let ⟨t',zy⟩:=jV q;refine zv (typeIs_str s x t) PySem.F.slot_str_getitem.lookup ?_ (gX hs _ _);exact PySem.P.getItem_str hr hc ⟨jv s _,Rep.str _ _ k7⟩
def iH.aar(h:Ev c ρ e (.d (.int i)))(hk:autoParam (c.env.kindOf "type"=some .globalImplicit) bu)(pD:autoParam (c.env.kindOf "int"=some .globalImplicit) bu)(cW:autoParam (bJ e=false) bu):iH c ρ (.Compare (.Call (.Name "type" p1) [e] [] p2) [.Is] [.Name "int" p3] p4) true:=λs S=>
 OH (l9 S hk (by decide) RK (by decide) (by decide) (.cons h .nil cW) (by simp[bP,cW]) (n9 _ _) λah xs aE cT=>by
  apply qZ cT;intro u ru;let ⟨t,zy⟩:=jV ru;refine call_type_of (Tx:="int") (typeIs_int ah i t) (by decide) ?_;refine(S.kp aE).E4 pD (by decide) Vd (by decide) (by decide) ?_;exact wpAny_is_self aa (D4 ⟨aE,rfl⟩)) aa
end
open Mine.iH renaming aar->LN
mutual
noncomputable def D.nl:D->Bool
 |.tup ds=>D.nls ds
 |.lst _=>false
 |_=>true
noncomputable def D.nls:List D->Bool
 |[]=>true
 |d::ds=>d.nl&&D.nls ds
end
def aC.afx{h:cC}{M S:Addr->Prop}(hS:∀a,S a->∃vs,PL h a vs){vs:List aA}{ds:List D}(r:aC h M vs ds):D.nls ds=true->aC h (λa=>M a\/S a) vs ds:=
 aC.rec (motive_1:=λv d y=>d.nl=true->Rep h (λa=>M a\/S a) v d) (motive_2:=λvs ds y=>D.nls ds=true->aC h (λa=>M a\/S a) vs ds)
  (λy=>.none) (λb y=>.bool b) (λi t y=>.int i t) (λx t hx y=>.str x t hx)
  (λi n z y ih q=>.tup i (λh=>h.elim n λh=>(hS _ h).elim λvs e=>e.elim λm e=>i.elim λm' e'=>aK (cj Obj.cls (eF (e.symm.trans e'))) (by simp)) z (ih q))
  (λy y y y y q=>nomatch q) (λy=>.nil) (λy y a b q=>have q:=(iT _ _).mp q;.cons (a q.1) (b q.2)) r
def NW(ds₀:List D)(H:Addr->Prop)(c:C)(Da:Addr)(s:Shared)(done:List D):Prop:=∃ps:List Addr,done=ps.map (λz=>jg)/\PL s.heap Da (ps.map ug).toArray/\
 (∀p∈ps,∃vs,PL s.heap p vs/\aC s.heap c.M vs.toList ds₀)/\(Da::ps).Nodup/\(∀p∈ps,¬c.M p/\¬H p)/\(∀a,H a->∃o,s.heap.get? a=some o)/\done.length<=ck
def GW(i:PL h a vs):∀o,h.get? a=some o->¬gp o:=λo e f=>by
 let ⟨n,z2⟩:=i;revert z2;intro i;rw[i] at e;cases e;let ⟨_,z2⟩:=f;revert z2;intro f;cases f
def NW.ok(hx:c.X Da)(hy:¬c.Y Da):wB c Da (NW ds₀ H c Da) H:=
 ⟨
  λs s' done z2 h1 h2 h3=>by
  let ⟨ps,e,pl,pe,nd,nn,o7,z⟩:=z2;exact⟨ps,e,pl.at h1,λp hp=>by
   let ⟨vs,i,r⟩:=pe p hp;exact⟨vs,i.at λo e=>h2 p o (nn p hp).1 (GW i o e) e,r.mono λa o n q e=>⟨h2 a o n (λf=>gR q f) e,n⟩⟩,nd,nn,λa ha=>(o7 a ha).elim λo e=>⟨o,h3 a o ha e⟩,z⟩,hx,hy⟩
def uE.ad7{c:C}{ρ:Nm}{Da:Addr}{dw:aU}{gens:List yU}{scope:ia}{pos:Pos}{ds₀:List D}{H:Addr->Prop}{done:List D}(hx:c.X Da)(hy:¬c.Y Da)(h:jf c ρ dw ds₀):
 uE c ρ Da (NW ds₀ H c Da) (lQ (.ListComp dw gens scope pos) (.ref Da) c.env) done [.none]:=by
 intros c ρ Da dw gens scope pos ds₀ H done _ hx hy h;exact λs S L qP hz=>by
  let ⟨ps,ed,pl,pe,nd,nn,o7,z⟩:=qP;show wpAny c.m c.A (eval dw c.env>>=λv=>call (.builtin "list.append") [.ref Da,v]>>=λy=>pure ()) _ _ s;refine aF (bk (h s S) (λu ah q1=>?_));refine aM λhN=>?_;obtain⟨aE,p,vs,eu,new,ip,zp,rp⟩:_:=q1;refine hN ?_
  subst eu;have E8:=pl.at (aE.keep Da);have hl:done.length=ps.length:=by rw[ed,aR]
  refine aF (V7 E8 (λh' i' sb=>bx ?_) (by simp;rw[<-hl];exact eH z));have aV:Kx (·=Da) ah {ah with heap:=h'}:=⟨rfl,rfl,λb o n e=>(sb.2 b n).trans e⟩;have cF:=S.kp aE;have c9:=L.kp aE.keep;let ⟨b7,cO⟩:=cF.SM c9 hx hy (by obtain⟨n,e⟩:=E8;exact⟨_,e,λv q=>by cases q⟩) (by obtain⟨n,e⟩:=i';exact⟨_,e⟩) aV;have mDa:c.M Da:=S.bs.xm Da hx;have nMp:¬c.M p:=S.bs.new new;have cW:∀a o,¬c.M a->ah.heap.get? a=some o->h'.get? a=some o:=λa o n e=>(sb.2 a λq=>n (q▸mDa)).trans e
  have afy:∀{us:List aA} {es:List D},aC ah.heap c.M us es->aC h' c.M us es:=λr=>r.mono λa o n y e=>⟨cW a o n e,n⟩
  have old:∀q∈Da::ps,∃o,s.heap.get? q=some o:=λq hq=>by
   rcases bZ.mp hq with e|hq
   .rw[e];let ⟨n,e⟩:=pl;exact⟨_,e⟩
   let ⟨vs,z2,_⟩:=pe q hq;let ⟨n,e⟩:=z2;exact⟨_,e⟩
  have fr:p∉Da::ps:=λhq=>by let ⟨o,e⟩:=old p hq;exact ns new e
  refine⟨aE.kx.trans (aV.mono λb e=>.inr e),b7,cO,ps++[p],by rw[ed,eB];rfl,?_,λq hq=>?_,?_,λq hq=>?_,λa ha=>?_,hz⟩
  .rw[eB];rw[List.push_toArray] at i';exact i'
  .rcases dY.mp hq with hq|hq
   .let ⟨vs,i,r⟩:=pe q hq;exact⟨vs,(i.at (aE.keep q)).at λo e=>cW q o (nn q hq).1 e,afy (r.keep aE.keep)⟩
   rw[eO.mp hq];exact⟨vs,ip.at λo e=>cW p o nMp e,rp.mono λa o n y e=>have n:=λh=>n (.inl h);⟨cW a o n e,n⟩⟩
  .have:Da::(ps++[p])=(Da::ps)++[p]:=rfl;rw[this,kX];exact⟨nd,by simp,λa ha b hb e=>fr (by rw[eO.mp hb] at e;exact e▸ha)⟩
  .rcases dY.mp hq with hq|hq
   .exact nn q hq
   rw[eO.mp hq];exact⟨nMp,λhH=>by let ⟨o,e⟩:=o7 _ hH;exact ns new e⟩
  let ⟨o,e⟩:=o7 a ha
  by_cases h:a=Da
  .subst h;let ⟨n,e'⟩:=i';exact⟨_,e'⟩
  exact⟨o,(sb.2 a h).trans (aE.keep a o e)⟩
noncomputable def tU(a:Addr)(ps:List Addr)(ds₀:List D):Sg:=λb=>if b=a then some (.v (ps.map .r)) else if b∈ps then some (.l ds₀) else none
def iG.refs(ps:List Addr):iG M h (ps.map ug) (ps.map gn):=by
 induction ps with
 |nil=>exact .nil
 |cons p ps ih=>exact .cons aa ih
def Ex.aas{c:C}{ρ:Nm}{k:List (List Stmt)}{rest:List Stmt}{P:C->Nm->Prop}{R:C->D->Prop}{x:Str}{p pos Dc:Pos}{dw tg iter:aU}{scope:ia}{ds ds₀:List D}(vY:D.nls ds₀=true)(RL:ds₀.length<=ck)(gq:It c ρ iter ds)
 (hb:∀La cs M X (i:Nat) d,ds[i]?=some d->∃tb,wA (c.into scope La cs M X) tg d tb/\(∀p∈tb,(pU scope ρ).lookup p.1=none)/\jf (c.into scope La cs M X) (tb++pU scope ρ) dw ds₀)
 (hz:ds.length<=ck) (mj:r9 c.env.kindOf (λx=>(ρ.lookup x).isSome) scope=true) (hx:uD c x) (r:∀a ps,ps.length=ds.length->(a::ps).Nodup->(∀b∈a::ps,¬c.M b/\c.σ b=none)->Ex (c.adds (tU a ps ds₀)) ((x,.r a)::ρ) (rest::k) P R)
 (hs:autoParam (∀x,foldedSetIterable iter c.env x=pure x) HE) (hsw:autoParam (swapsWith (.ListComp dw [⟨tg,iter,[],0⟩] scope Dc) (some (.Name x p)) pos.line c.env=pure true) bu):
 Ex c ρ ((.Assign [.Name x p] (.ListComp dw [⟨tg,iter,[],0⟩] scope Dc) pos::rest)::k) P R:=by
 intros c ρ k rest P R x p _ pos Dc dw tg iter scope ds ds₀ vY RL gq hb hz mj hx r hs hsw;intros pos Dc dw tg iter scope ds ds₀ _ vY RL gq hb hz mj hx r hs hsw;exact pW λs S L=>by
  let ⟨h1,h2,h3,h4⟩:=oA mj;rw[We x p _ pos hsw];refine aF (jC (aF ?_))
  have nS:(ds.map λy=>[jg]).flatten=ds.map λy=>jg:=by
   clear gq hb hz r
   induction ds with
   |nil=>rfl
   |cons d ds ih=>rw[gx,BF,ih];rfl
  have main:wpAny c.m c.A (comprehension (.ListComp dw [⟨tg,iter,[],0⟩] scope Dc) scope c.env (firstIterPos [⟨tg,iter,[],0⟩] Dc) (newList []) false (eval iter c.env) (some (yV (.Name x p) c.env))) (λy s'=>∃c' ρ',Ext c s c' s'/\St c' ρ' s'/\Lo c' s'/\Ex c' ρ' (rest::k) P R) no s:=by
   refine qE (H:=λa=>∃o,s.heap.get? a=some o) (hH:=λy h=>h) (pV:=λc'=>NW ds₀ (λa=>∃o,s.heap.get? a=some o) c') (e:=.ListComp dw [⟨tg,iter,[],0⟩] scope Dc) (inner:=λacc env=>lQ (.ListComp dw [⟨tg,iter,[],0⟩] scope Dc) acc env) (yE:=λo=>o={cls:=.type "list",data:=.seq #[]}) (ds.map λy=>[jg]) (by simp) .l aa (λy y y=>rfl) hs h1 h2 h3 h4 S gq
    (λah Q' q=>D7 (q _ aa) (by decide)) (λo e=>by subst e;rfl) (λc' ah Da o e g o7=>by subst e;exact⟨[],rfl,⟨0,g⟩,λx hx=>(by cases hx),by simp,λa ha=>(by cases ha),o7,by decide⟩) (λc' Da hx hy=>NW.ok hx hy) ?_ (by rw[nS,aR];exact hz) ?_
   .intro La cs M X Da hx hy i d o hd ho;rw[dh,hd] at ho;cases ho;let ⟨tb,t1,t2,t3⟩:=hb La cs M X i d hd;exact⟨tb,true,t1,t2,.nil,λy=>uE.ad7 hx hy t3,λe=>by cases e⟩
   intro c' Da La s' hp hw hm kp hD hL sV z2 z3 Dt _;let ⟨ps,ed,pl,pe,nd,nn,o7,z⟩:=z2;let ⟨m,hn⟩:=z3;rw[nS] at ed;have wQ:ps.length=ds.length:=by have:=cj ua ed;rw[aR,aR] at this;exact this.symm
   have iY:∀b∈Da::ps,s.heap.get? b=none:=λb hb=>by
    rcases bZ.mp hb with e|hb
    .rw[e];exact hD
    cases q:s.heap.get? b with
    |none=>rfl
    |some o=>exact aK ⟨o,q⟩ (nn b hb).2
   have rX:∀b,tU Da ps ds₀ b≠none->b∈Da::ps:=λb hb=>by
    unfold tU at hb
    by_cases h1:b=Da
    .rw[h1];exact .head _
    rw[ay h1] at hb
    by_cases h2:b∈ps
    .exact .tail _ h2
    rw[ay h2] at hb;exact aK aa hb
   have afz:∀b,tU Da ps ds₀ b≠none->∃vs,PL s'.heap b vs:=λb hb=>by
    rcases bZ.mp (rX b hb) with e|hb
    .rw[e];exact⟨_,pl⟩
    let ⟨vs,i,_⟩:=pe b hb;exact⟨vs,i⟩
   let ⟨cF,c9,tK⟩:=S.adds L kp (τ:=tU Da ps ds₀) (λa cn e=>iY a (rX a (by rw[e];simp))) (λa cn e=>by
    have ha:=rX a (by rw[e];simp);unfold tU at e
    by_cases h1:a=Da
    .rw[aq h1] at e;cases e;subst h1;exact⟨_,pl,by rw[aR,wQ];exact hz,iG.refs ps⟩
    rw[ay h1,aq (W9 h1 ha)] at e;cases e;obtain⟨vs,i,rr⟩:=pe a (W9 h1 ha);exact⟨vs,i,RL,aC.afx afz (rr.qh hm) vY⟩)
   have QK:¬(c.adds (tU Da ps ds₀)).M La:=λq=>q.elim (S.bs.new hL) λq=>by
    rcases bZ.mp (rX La q) with e|hb
    .exact sV e.symm
    exact(nn La hb).1 Dt
   have afA:c.h₀.get? La=none:=by
    cases q:c.h₀.get? La with
    |none=>rfl
    |some o=>exact ns hL (S.bs.keep La o q)
   refine D5 (cF.store (c:=c.adds (tU Da ps ds₀)) c9 hx (v:=.r Da) aa λaB aV b7 cO=>?_);have nY:¬(c.adds (tU Da ps ds₀)).Y La:=λq=>QK (cF.bs.xm La (c9.yx La q))
   have FF:aB.heap.Ns La m:=hn.at' λo e=>aV.keep La o nY e
   refine⟨m,FF,λh' sb=>?_⟩;have kx:Kx (·=La) aB {aB with heap:=h'}:=⟨rfl,rfl,λb o n e=>(sb.2 b n).trans e⟩;let ⟨i8,jc⟩:=b7.rm cO kx (λb e=>by subst e;exact IE FF) (λb e=>by subst e;exact afA) (λb e=>by subst e;exact QK);have gy:=tK.trans (.Ff aV cF c9 b7);exact⟨_,_,gy.step (wr:=[La]) (kx.mono λb e=>by simp[e]) (λb hb=>by simp at hb;subst hb;exact hL),i8,jc,r Da ps wQ nd λb hb=>⟨S.bs.new (iY b hb),S.bs.xQ (iY b hb)⟩⟩
  rw[arm_evalThenUse_ListComp];refine aF (bk main (λy s' q=>bx (bx ?_)));let ⟨c',ρ',q1,q2,q3,q4⟩:=q;exact⟨c',ρ',rfl,q1,q2,q3,q4⟩
def Ve:bootBuiltins "zip"=some (.type "zip"):=by first|rfl|decide+kernel
noncomputable def C.put(c:C)(a:Addr):C:={c with M:=λb=>c.M b\/b=a,B:=λb=>c.B b\/b=a}
section
variable {c:C}{ρ:Nm}{s s':Shared}{a:Addr}{k:List (List Stmt)}{rest:List Stmt}{P:C->Nm->Prop}{R:C->D->Prop}
def St.afB{o:Obj}(S:St c ρ s)(L:Lo c s)(kp:Kp s s')(new:s.heap.get? a=none)(ho:s'.heap.get? a=some o):St (c.put a) ρ s'/\Lo (c.put a) s':=by
 intros c ρ s s' a o _ S L kp new ho;have hr:∀{u:aA} {d:D},Rep s.heap c.M u d->Rep s'.heap (λb=>c.M b\/b=a) u d:=λr=>r.mono λb o n z e=>⟨kp.keep b o e,λh=>h.elim n λh=>ns (h▸new) e⟩
 exact S.gen (M':=λb=>c.M b\/b=a) (σ':=c.σ) (wr':=c.wr) (B':=λb=>c.B b\/b=a) L ⟨λb o e=>kp.keep b o (S.bs.keep b o e),S.bs.base,S.bs.room,λb m=>m.elim (λm=>(S.bs.gG b m).imp λo e=>kp.keep b o e) λm=>⟨o,m▸ho⟩,λb h=>.inl (S.bs.xm b h),λb m=>m.elim (S.bs.kI b) λe=>S.bs.u7 (e▸new),
  λb cn e=>have p:=S.bs.gg b cn e;⟨.inl p.1,p.2.1,p.2.2.mono hr (kp.keep b)⟩,λb h=>have p:=S.bs.oq b h;⟨.inl p.1,p.2.1,p.2.2⟩,λb h=>h.imp (S.bs.bm b) id⟩ (λb u i=>i.keeps kp.keep) (λo e=>kp.keep _ o e) hr
def Vf{d:Data}{u:Option aA}{vs:Array aA}{n:Nat}(h:d=.cell u)(h':d=.seq vs n):False:=nomatch h.symm.trans h'
def St.acK{wr:List Addr}{o:Obj}(S:St c ρ s)(L:Lo c s)(ho:∀b∈wr,∀o,s.heap.get? b=some o->gp o)(hm:∀b∈wr,¬c.M b)(ea:s.heap.get? a=some o)(so:o6 o):(∀b u,s.heap.IsCell b u->¬(b∈wr\/b=a))/\¬(c.env.locals∈wr\/c.env.locals=a):=
 ⟨
  λb u i m=>i.elim λo1 q=>m.elim (λm=>(ho b m o1 q.1).elim λus e'=>Av q.2 e') λm=>so.elim λy z=>z.elim λy z=>Vf q.2 (eF ((m▸q.1).symm.trans ea)▸z),
  λm=>m.elim (λm=>hm _ m (S.bs.xm _ (L.yx _ (.inl aa)))) λe=>by
   let ⟨_,o2,es,ep,e',d,_⟩:=L.ns;let ⟨_,_,z⟩:=so;rw[eF (ea.symm.trans (e▸e'))] at z;exact nomatch d.symm.trans z⟩
def St.ad8{wr:List Addr}{o o':Obj}(S:St c ρ s)(L:Lo c s)(k:Kx (λb=>b∈wr\/b=a) s s')(ho:∀b∈wr,∀o,s.heap.get? b=some o->gp o)(hn:∀b∈wr,c.h₀.get? b=none)(hm:∀b∈wr,¬c.M b)(ma:c.M a)(sa:c.σ a=none)(ea:s.heap.get? a=some o)(so:o6 o)(ea':s'.heap.get? a=some o'):(St c ρ s'/\Lo c s')/\∀{u:aA} {d:D},Rep s.heap c.M u d->Rep s'.heap c.M u d:=by
 have N:=S.acK L ho hm ea so;have hr:∀{u:aA} {d:D},Rep s.heap c.M u d->Rep s'.heap c.M u d:=λr=>r.mono λb o1 n q e=>⟨k.keep b o1 (λm=>m.elim (λm=>gR q (ho b m o1 e)) λe'=>n (e'▸ma)) e,n⟩
 exact⟨S.gen (M':=c.M) (σ':=c.σ) (wr':=c.wr) (B':=c.B) L (S.bs.chg (λb o1 e=>k.keep b o1 (λq=>q.elim (λq=>ns (hn b q) e) λq=>ns (S.bs.kI b (q▸ma)) e) (S.bs.keep b o1 e)) (λb m=>dite (b=a) (λh=>⟨o',h▸ea'⟩) λh=>(S.bs.gG b m).imp λo1 e=>k.keep b o1 (λq=>q.elim (λq=>hm b q m) h) e) hr λb cn e o1=>k.keep b o1 λq=>q.elim (λq=>hm b q (S.bs.gg b cn e).1) λq=>ns (q▸sa) e)
  (Cd k N.1) (λo1 e=>k.keep _ o1 N.2 e) hr,hr⟩
def St.aat{wr:List Addr}{o:Obj}{B':Addr->Prop}(S:St c ρ s)(L:Lo c s)(k:Kx (λb=>b∈wr\/b=a) s s')(ho:∀b∈wr,∀o,s.heap.get? b=some o->gp o)(hn:∀b∈wr,c.h₀.get? b=none)(hm:∀b∈wr,¬c.M b)(ma:c.M a)(sa:c.σ a=none)(wa:¬c.wr a)(xa:¬c.X a)(ea:s.heap.get? a=some o)(so:o6 o)(hB:∀b,B' b->c.M b/\b≠a):St {c with M:=λb=>c.M b/\b≠a,B:=B'} ρ s'/\Lo {c with M:=λb=>c.M b/\b≠a,B:=B'} s':=by
 intros c ρ s s' a wr o B' _ S L k ho hn hm ma sa wa xa ea so hB;have N:=S.acK L ho hm ea so;have hr:∀{u:aA} {d:D},Rep s.heap c.M u d->Rep s'.heap (λb=>c.M b/\b≠a) u d:=λr=>r.mono λb o1 n q e=>⟨k.keep b o1 (λm=>m.elim (λm=>gR q (ho b m o1 e)) λe'=>n (e'▸ma)) e,λh=>n h.1⟩
 exact S.gen (M':=λb=>c.M b/\b≠a) (σ':=c.σ) (wr':=c.wr) (B':=B') L ⟨λb o1 e=>k.keep b o1 (λq=>q.elim (λq=>ns (hn b q) e) λq=>ns (S.bs.kI b (q▸ma)) e) (S.bs.keep b o1 e),S.bs.base,S.bs.room,λb m=>(S.bs.gG b m.1).imp λo1 e=>k.keep b o1 (λq=>q.elim (λq=>hm b q m.1) m.2) e,λb h=>⟨S.bs.xm b h,λe=>xa (e▸h)⟩,λb m=>S.bs.kI b m.1,
  λb cn e=>have p:=S.bs.gg b cn e;have hb:b≠a:=λq=>ns (q▸sa) e;⟨⟨p.1,hb⟩,p.2.1,p.2.2.mono hr λo1 e=>k.keep b o1 (λq=>q.elim (λq=>hm b q p.1) hb) e⟩,λb h=>have p:=S.bs.oq b h;⟨⟨p.1,λe=>wa (e▸h)⟩,p.2.1,p.2.2⟩,hB⟩
  (Cd k N.1) (λo1 e=>k.keep _ o1 N.2 e) hr
def ZT(z TI TO i1 i2 l1 l2:Addr)(i:Nat)(h:cC):Prop:=IsZip h z TI TO .none/\IsPair h TI (.ref i1) (.ref i2)/\(∃a b,IsPair h TO a b)/\h.IsListIter i1 l1 i/\h.IsListIter i2 l2 i
def ZT.keep{z TI TO i1 i2 l1 l2:Addr}{i:Nat}{h h':cC}(t:ZT z TI TO i1 i2 l1 l2 i h)(hk:∀b∈[z,TI,TO,i1,i2],∀o,h.get? b=some o->h'.get? b=some o):ZT z TI TO i1 i2 l1 l2 i h':=by
 let ⟨t1,t2,z2,t4,t5⟩:=t;let ⟨a,b,t3⟩:=z2;exact⟨hk _ (by simp) _ t1,hk _ (by simp) _ t2,⟨a,b,hk _ (by simp) _ t3⟩,t4.at λo e=>hk _ (by simp) o e,t5.at λo e=>hk _ (by simp) o e⟩
def Rep.LQ{h:cC}{M:Addr->Prop}{l:Addr}{ds:List D}(r:Rep h M (.ref l) (.lst ds)):∃vs,PL h l vs/\aC h M vs.toList ds/\¬M l:=by
 intros h M l ds _ r;cases r with
 |lst i n z r=>exact⟨_,i,r,n⟩
def Ext.grow{c:C}{s s':Shared}{a:Addr}(kp:Kp s s')(new:s.heap.get? a=none):Ext c s {c with M:=λb=>c.M b\/b=a} s':=
 ⟨rfl,kp.kx,λb o e=>⟨o,kp.keep b o e⟩,λb o e h=>h.elim id λh=>(by rw[h,new] at e;cases e),λz z z h=>h,λz z h=>h,λz z z z z z h=>h,λz z cn z h=>⟨cn,h⟩,λz cn h n=>⟨⟨cn,h⟩,n⟩⟩
def Vg{prog:Program}{w:World}{A:Around}{s:Shared}{elts:List aU}{n:Nat}{tp:Pos}{z TI TO i1 i2 l1 l2:Addr}{i:Nat}{v1 v2:Array aA}{x y:aA}{Q:aA->Shared->Prop}(D:ZipApart z TI TO i1 i2 l1 l2)(ht:ZT z TI TO i1 i2 l1 l2 i s.heap)(MX:PL s.heap l1 v1)(MY:PL s.heap l2 v2)(hx:v1[i]?=some x)(hy:v2[i]?=some y)
 (hQ:∀T j0,s.heap.get? T=none->PT j0 T #[x,y]->ZT z TI TO i1 i2 l1 l2 (i+1) j0->(∀c o,c≠z->c≠TO->c≠i1->c≠i2->s.heap.get? c=some o->j0.get? c=some o)->Q (.ref T) {s with heap:=j0}):
 wpAny (model prog w) A (pyNext (.ref z)) (λr ah=>∃v,r=some v/\wpAny (model prog w) A (letOwnedTupleGo (.Tuple elts n tp) (.ref z) v) (λu aB=>Q v aB) no ah) no s:=by
 let ⟨t1,t2,z2,t4,t5⟩:=ht;let ⟨a,b,t3⟩:=z2;have zlt:s.heap.objs.size≠z:=Ec (gP t1);refine wpAny_pyNext_zip_item D t1 t2 t3 t4 t5 MX.isList MY.isList hx hy λh' a1 a2 a3 a4 a5 a6 a7=>⟨_,rfl,wpAny_letOwnedTupleGo_zip a1 λNy UX sb=>?_⟩
 have hk:∀c o,c≠z->h'.get? c=some o->Ny.get? c=some o:=λc o nc e=>(sb.2 c nc).trans e
 exact hQ _ Ny (bC _) ⟨_,hk _ _ zlt a5⟩ ⟨UX,hk _ _ D.TIz (a7 _ _ D.TIz D.TITO D.TIi1 D.TIi2 t2),⟨_,_,hk _ _ D.TOz a2⟩,a3.at λo e=>hk _ o D.i1z e,a4.at λo e=>hk _ o D.i2z e⟩ λc o c1 c2 c3 c4 e=>hk c o c1 (a7 c o c1 c2 c3 c4 e)
def f3{P:Addr->Prop}{a b c:Addr}(h:P a/\P b/\P c):∀x∈[a,b,c],P x:=Ey.mpr ⟨h.1,Ey.mpr ⟨h.2.1,Ey.mpr ⟨h.2.2,WU _⟩⟩⟩
def f4{P:Addr->Prop}{a b c d:Addr}(h:P a/\P b/\P c/\P d):∀x∈[a,b,c,d],P x:=Ey.mpr ⟨h.1,f3 h.2⟩
abbrev C.Dd(c:C)(M:Addr->Prop)(σ:Addr->Option Cn)(wr B:Addr->Prop):C:={c with M:=M,σ:=σ,wr:=wr,B:=B}
structure ZS(c:C)(z TI TO i1 i2:Addr)(c':C):Prop where
 eq:c'=c.Dd c'.M c'.σ c'.wr (c.put TO).B
 m:¬c'.M z/\¬c'.M TI/\¬c'.M i1/\¬c'.M i2
 wr:¬c'.wr TO
 sg:c'.σ TO=none
structure ZI(c:C)(s:Shared)(z TI TO i1 i2 l1 l2:Addr)(ds es:List D)(Inv:Nat->C->Nm->Prop)(i:Nat)(c':C)(ρ':Nm)(s':Shared):Prop where
 t:ZT z TI TO i1 i2 l1 l2 i s'.heap
 S:St c' ρ' s'
 L:Lo c' s'
 X:Ext c s {c' with B:=c.B} s'
 Z:ZS c z TI TO i1 i2 c'
 q1:Rep s'.heap c'.M (.ref l1) (.lst ds)
 q2:Rep s'.heap c'.M (.ref l2) (.lst es)
 I:Inv i c' ρ'
structure ZC(c:C)(s:Shared)(z TI TO i1 i2:Addr):Prop where
 h0:c.h₀.get? z=none/\c.h₀.get? i1=none/\c.h₀.get? i2=none
 wr:s.heap.get? z=none/\s.heap.get? TO=none/\s.heap.get? i1=none/\s.heap.get? i2=none
 y:¬c.Y TO
 x:¬c.X TO
 b:¬c.B TO
section
variable {z TI TO i1 i2 l1 l2:Addr}{ds es:List D}{Inv:Nat->C->Nm->Prop}{i:Nat}{ρ':Nm}{M' wr':Addr->Prop}{σ':Addr->Option Cn}{elts:List aU}{n:Nat}{tp:Pos}{body:List Stmt}(A:ZC c s z TI TO i1 i2)(DD:ZipApart z TI TO i1 i2 l1 l2)(F:ZI c s z TI TO i1 i2 l1 l2 ds es Inv i (c.Dd M' σ' wr' (c.put TO).B) ρ' s')
include A F
theorem ZI.off:∀b∈[z,i1,i2],∀o,s'.heap.get? b=some o->gp o:=by
 let ⟨t1,_,_,z2,z3⟩:=F.t;let ⟨o4,e4,_,d4⟩:=z2;let ⟨o5,e5,_,d5⟩:=z3;exact f3 ⟨λo e=>by cases t1.symm.trans e;exact⟨_,rfl⟩,λo e=>by cases e4.symm.trans e;exact⟨_,d4⟩,λo e=>by cases e5.symm.trans e;exact⟨_,d5⟩⟩
theorem ZI.kx{j0:cC}(hk:∀c o,c≠z->c≠TO->c≠i1->c≠i2->s'.heap.get? c=some o->j0.get? c=some o):Kx (λb=>b∈[z,i1,i2]\/b=TO) s' {s' with heap:=j0}:=
 ⟨rfl,rfl,λb o nb e=>hk b o (λq=>nb (.inl (q▸.head _))) (λq=>nb (.inr q)) (λq=>nb (.inl (q▸.tail _ (.head _)))) (λq=>nb (.inl (q▸.tail _ (.tail _ (.head _))))) e⟩
theorem ZI.ext{j0:cC}(hk:∀c o,c≠z->c≠TO->c≠i1->c≠i2->s'.heap.get? c=some o->j0.get? c=some o):Ext c s (c.set M' σ' wr') {s' with heap:=j0}:=
 F.X.step (s'':={s' with heap:=j0}) (wr:=[z,TO,i1,i2]) ⟨rfl,rfl,λb o nb e=>hk b o (λq=>nb (q▸.head _)) (λq=>nb (q▸.tail _ (.head _))) (λq=>nb (q▸.tail _ (.tail _ (.head _)))) (λq=>nb (q▸.tail _ (.tail _ (.tail _ (.head _))))) e⟩ (f4 A.wr)
theorem ZI.step{j0:cC}(hk:∀c o,c≠z->c≠TO->c≠i1->c≠i2->s'.heap.get? c=some o->j0.get? c=some o)(e:∃o,j0.get? TO=some o):
 (St (c.Dd M' σ' wr' (c.put TO).B) ρ' {s' with heap:=j0}/\Lo (c.Dd M' σ' wr' (c.put TO).B) {s' with heap:=j0})/\∀{u:aA} {d:D},Rep s'.heap M' u d->Rep j0 M' u d:=by
 let ⟨_,_,z2,_⟩:=F.t;let ⟨ta,tb',t3⟩:=z2;let ⟨o,z2⟩:=e;revert z2;intro e;exact F.S.ad8 (s':={s' with heap:=j0}) (wr:=[z,i1,i2]) (a:=TO) F.L (F.kx A hk) (F.off A) (f3 A.h0) (f3 ⟨F.Z.m.1,F.Z.m.2.2⟩) (F.S.bs.bm TO (.inr aa)) F.Z.sg t3 ⟨_,_,rfl⟩ e
include DD
theorem ZI.turn{d e:D}{tb:Nm}(hd:ds[i]?=some d)(he:es[i]?=some e)(Dr:wA (c.Dd M' σ' wr' (c.put TO).B) (.Tuple elts n tp) (.tup [d,e]) tb)(mX:Ex (c.Dd M' σ' wr' (c.put TO).B) (tb++ρ') [body] (Inv (i+1)) (λu u=>False)){K:sA->Shared->Prop}
 (kn:∀c' ρ' s',ZI c s z TI TO i1 i2 l1 l2 ds es Inv (i+1) c' ρ' s'->K .next s'):
 wpAny c.m c.A (pyNext (.ref z)) (λr ah=>∃v,r=some v/\wpAny c.m c.A (letOwnedTupleGo (.Tuple elts n tp) (.ref z) v) (λu aB=>wpAny c.m c.A (yV (.Tuple elts n tp) c.env v) (λu iw=>wpAny c.m c.A (execs body c.env) K no iw) no aB) no ah) no s':=by
 intros c s s' z TI TO i1 i2 l1 _ l2 ds es Inv i ρ' M' wr' σ' elts n tp body A DD F d e tb hd he Dr mX K kn;intros l2 ds es Inv i ρ' M' wr' σ' _ elts n tp body A DD F d e tb hd he Dr mX K kn;intros elts n tp body d e tb K _ A DD F hd he Dr mX kn;let ⟨w1,pw1,rw1,nw1⟩:=F.q1.LQ;let ⟨w2,pw2,rw2,nw2⟩:=F.q2.LQ;let ⟨x,hx,rx⟩:=rw1.get hd;let ⟨y,hy,ry⟩:=rw2.get he;rw[lC] at hx hy;refine Vg (A:=c.A) (elts:=elts) (n:=n) (tp:=tp) (Q:=λv aB=>wpAny c.m c.A (yV (.Tuple elts n tp) c.env v) (λu iw=>wpAny c.m c.A (execs body c.env) K no iw) no aB) DD F.t pw1 pw2 hx hy λT j0 nT pT Ce GX=>?_
 let ⟨z2,LR⟩:=F.step A GX (let ⟨_,_,⟨_,_,e⟩,_⟩:=Ce;⟨_,e⟩);let ⟨i8,jc⟩:=z2;have iI:=F.ext A GX;have rT:Rep j0 M' (.ref T) (.tup [d,e]):=.tup pT (F.S.bs.new nT) (show 2<=ck by decide) (.cons (LR rx) (.cons (LR ry) .nil));refine Dr.run i8 jc rT λiw o9 yC Iz=>?_
 have SA:Ext (c.Dd M' σ' wr' (c.put TO).B) _ _ iw:=.Ff o9 i8 jc yC;have mn:∀a,¬M' a->¬(wr' a\/c.Y a):=λa n h=>h.elim (λh=>n (F.S.bs.oq a h).1) λy=>n (i8.bs.xm a (jc.yx a y))
 have kfp:∀b∈[z,TI,TO,i1,i2],¬(wr' b\/c.Y b):=Ey.mpr ⟨mn z F.Z.m.1,f4 ⟨mn TI F.Z.m.2.1,λh=>h.elim F.Z.wr A.y,mn i1 F.Z.m.2.2.1,mn i2 F.Z.m.2.2.2⟩⟩;have wD:=Ce.keep (h':=iw.heap) λb hb o e=>o9.keep b o (λy=>kfp b hb (.inr y)) e
 let ⟨y1,y2,z2,z3,z4⟩:=id wD;let ⟨_,_,y3⟩:=z2;let ⟨_,y4,_⟩:=z3;let ⟨_,y5,_⟩:=z4;refine mX.body yC Iz (λk8 nW mW pC Ax vc YM=>kn k8 nW mW ?_) λu u u u u u u hr=>hr.elim
 have DC:=SA.trans pC;refine⟨wD.keep λb hb o e=>pC.kx.keep b o (kfp b hb) e,Ax,vc,iI.trans ⟨by rw[DC.eq],DC.kx,DC.al,DC.m,DC.w,λa h=>DC.wb a (.inl h),λa o cn e h=>DC.sg a o cn e (.inl h),DC.sn,DC.nw⟩,⟨DC.eq,⟨λm=>F.Z.m.1 (pC.m _ _ y1 m),λm=>F.Z.m.2.1 (pC.m _ _ y2 m),λm=>F.Z.m.2.2.1 (pC.m _ _ y4 m),λm=>F.Z.m.2.2.2 (pC.m _ _ y5 m)⟩,λw=>F.Z.wr (pC.w TO _ y3 w),?_⟩,DC.rep i8 jc (LR F.q1),DC.rep i8 jc (LR F.q2),YM⟩;cases e':k8.σ TO with
 |none=>rfl
 |some cn=>let ⟨eL,e''⟩:=pC.sn TO _ cn y3 e';exact ns F.Z.sg e''
theorem ZI.last(hge:i=ds.length){K:Option aA->Shared->Prop}(hq:∀c8,Ext c s (c.set (λb=>M' b/\b≠TO) σ' wr') c8->St (c.set (λb=>M' b/\b≠TO) σ' wr') ρ' c8->Lo (c.set (λb=>M' b/\b≠TO) σ' wr') c8->K none c8)(hB:∀b,c.B b->M' b)(hh:c.A.handled=none):wpAny c.m c.A (pyNext (.ref z)) K no s':=by
 let ⟨w1,pw1,rw1,nw1⟩:=F.q1.LQ;let ⟨w2,pw2,rw2,nw2⟩:=F.q2.LQ;let ⟨t1,t2,z2,t4,t5⟩:=F.t;let ⟨ta,tb',t3⟩:=z2;have Ja:w1[i]?=none\/w2[i]?=none:=.inl (zq (by have:=rw1.length;rw[l6] at this;rw[this,hge];exact bW _));refine wpAny_pyNext_zip_end (E:=no) (Q:=K) hh DD t1 t2 t3 t4 t5 pw1.isList pw2.isList Ja λj0 GX=>?_
 let ⟨i8,jc⟩:=F.S.aat (s':={s' with heap:=j0}) (wr:=[z,i1,i2]) (a:=TO) (B':=c.B) F.L (F.kx A GX) (F.off A) (f3 A.h0) (f3 ⟨F.Z.m.1,F.Z.m.2.2⟩) (F.S.bs.bm TO (.inr aa)) F.Z.sg F.Z.wr A.x t3 ⟨_,_,rfl⟩ λb hb=>⟨hB b hb,λe=>A.b (e▸hb)⟩
 have iI:=F.ext A GX;exact hq _ ⟨rfl,iI.kx,iI.al,λa o e h=>iI.m a o e h.1,iI.w,iI.wb,iI.sg,iI.sn,iI.nw⟩ i8 jc
end
def Ex.abS{elts:List aU}{n:Nat}{tp p zp pos:Pos}{e₁ e₂:aU}{body:List Stmt}{ds es:List D}(Inv:Nat->C->Nm->Prop)(bF:Ev c ρ e₁ (.d (.lst ds)))(bN:Ev c ρ e₂ (.d (.lst es)))(cG:ds.length=es.length)
 (h0:∀c',c'={c with M:=c'.M,B:=c'.B}->Inv 0 c' ρ)
 (hb:∀i d e c' ρ',c'={c with M:=c'.M,σ:=c'.σ,wr:=c'.wr,B:=c'.B}->ds[i]?=some d->es[i]?=some e->Inv i c' ρ'->∃tb,wA c' (.Tuple elts n tp) (.tup [d,e]) tb/\Ex c' (tb++ρ') [body] (Inv (i+1)) (λz z=>False))
 (h1:∀c' ρ',c'={c with M:=c'.M,σ:=c'.σ,wr:=c'.wr}->(∃M' B',Inv ds.length {c' with M:=M',B:=B'} ρ')->Ex c' ρ' (rest::k) P R)
 (hk:autoParam (c.env.kindOf "zip"=some .globalImplicit) bu) (gh:autoParam (bJ e₁=false) bu) (gk:autoParam (bJ e₂=false) bu) (hs:autoParam (∀x,foldedSetIterable (.Call (.Name "zip" zp) [e₁,e₂] [] p) c.env x=pure x) HE):
 Ex c ρ ((.For (.Tuple elts n tp) (.Call (.Name "zip" zp) [e₁,e₂] [] p) body [] pos::rest)::k) P R:=by
 intros c ρ k rest P R elts n tp _ p zp pos e₁ e₂ body ds es Inv bF bN cG h0 hb h1 hk gh gk hs;intros p zp pos e₁ e₂ body ds es Inv _ bF bN cG h0 hb h1 hk gh gk hs;exact Ex.Qy λs S L Qq qn qr=>by
  refine wpAny_For (l9 S hk (by decide) Ve (by decide) (by decide) (.cons bF (.cons bN .nil gk) gh) (by simp[bP,gh,gk]) (n9 _ _) λah xs aE cT=>?_) hs;cases cT with
  |@cons u1 _ _ _ ru1 cT=>
  cases cT with
  |@cons u2 _ _ _ ru2 cT=>
  cases cT;let ⟨l1,v1,zy,MX,_⟩:=Qd ru1;let ⟨l2,v2,zy,MY,_⟩:=Qd ru2;have lt1:l1<ah.heap.objs.size:=let ⟨n,i⟩:=MX;gP i;have lt2:l2<ah.heap.objs.size:=let ⟨n,i⟩:=MY;gP i;refine call_zip_2 MX.isList MY.isList λh' z1 z2 z3 z4 z5 z6 z7=>wpAny_pyIter_zip z1 ?_
  have vh:∀j,ah.heap.get? (ah.heap.objs.size+j)=none:=λj=>by
   cases e:ah.heap.get? (ah.heap.objs.size+j) with
   |none=>rfl
   |some o=>exact aK (gP e) (jb.mpr (iE _ _))
  have DD:ZipApart (ah.heap.objs.size+4) (ah.heap.objs.size+2) (ah.heap.objs.size+3) ah.heap.objs.size (ah.heap.objs.size+1) l1 l2:=by
   generalize ah.heap.objs.size=N at lt1 lt2;have lt1:@LT.lt Nat _ l1 N:=lt1;have lt2:@LT.lt Nat _ l2 N:=lt2;constructor<;>exact λh=>aK (show(_:Nat)=_ from h) (by first|exact λh=>aK (Nat.add_left_cancel h) (by decide)|exact ie (Nat.lt_add_of_pos_right (by decide))|exact(ie (Nat.lt_add_of_pos_right (by decide))).symm|exact ie ‹_›|exact ie (Nat.lt_add_right _ ‹_›))
  have B:=S.bs.kp aE;have NX:=λj=>B.new (vh j)
  have kp:Kp ah {ah with heap:=h'}:=⟨rfl,rfl,z7⟩
  have A:ZC c s (ah.heap.objs.size+4) (ah.heap.objs.size+2) (ah.heap.objs.size+3) ah.heap.objs.size (ah.heap.objs.size+1):=
   ⟨⟨B.u7 (vh 4),B.u7 (vh 0),B.u7 (vh 1)⟩,⟨dQ aE (vh 4),dQ aE (vh 3),dQ aE (vh 0),dQ aE (vh 1)⟩,λy=>NX 3 (B.xm _ (L.yx _ y)),λx=>NX 3 (B.xm _ x),λb=>NX 3 (B.bm _ b)⟩
  let ⟨afC,afD⟩:=(S.kp aE).afB (L.kp aE.keep) kp (vh 3) z3;have up:∀{u:aA} {d:D},Rep ah.heap c.M u d->Rep h' (c.put (ah.heap.objs.size+3)).M u d:=λr=>r.mono λb o q z e=>⟨z7 b o e,λm=>m.elim q λm=>ns (m▸vh 3) e⟩
  refine MP (λm s'=>∃i c' ρ',m=ds.length-i/\i<=ds.length/\ZI c s _ _ _ _ _ l1 l2 ds es Inv i c' ρ' s') (λm s' h=>?_) ds.length
   ⟨0,c.put (ah.heap.objs.size+3),ρ,rfl,b8 _,⟨z1,z2,⟨_,_,z3⟩,z4,z5⟩,afC,afD,(kL aE).trans (Ext.grow kp (vh 3)),⟨rfl,⟨λm=>m.elim (NX 4) DD.TOz.symm,λm=>m.elim (NX 2) DD.TITO,λm=>m.elim (NX 0) DD.TOi1.symm,λm=>m.elim (NX 1) DD.TOi2.symm⟩,λw=>NX 3 (B.oq _ w).1,B.xQ (vh 3)⟩,up ru1,up ru2,h0 _ aa⟩
  let ⟨i,c',ρ',hn,hi,F⟩:=h;subst hn;obtain⟨M',σ',wr',rfl⟩:∃M' σ' wr',c'=c.Dd M' σ' wr' (c.put (ah.heap.objs.size+3)).B:=⟨_,_,_,F.Z.eq⟩;rcases tZ hi with eG|he
  .have hd:=iF eG;have he:=iF (cG▸eG);let ⟨tb,Dr,mX⟩:=hb i _ _ _ ρ' aa hd he F.I;exact bk (F.turn A DD hd he Dr mX λk8 nW mW F'=>.inl ⟨rfl,ds.length-(i+1),Wv eG (qK i),i+1,k8,nW,rfl,eG,F'⟩) (λr c8 h=>.inr h)
  exact F.last A DD he (λc8 X S' L'=>.inl ⟨rfl,qn _ ρ' c8 X S' L' (h1 _ ρ' aa ⟨M',_,he▸F.I⟩)⟩) (λb hb=>F.S.bs.bm b (.inl hb)) S.bs.room.hh
end
def all0{p:List aA->Prop}(h:p []):∀xs:List aA,xs.length=0->p xs:=λxs e=>by
 rw[yZ.mp e];exact h
def cK{p:List aA->Prop}{n:Nat}(h:∀a,∀xs:List aA,xs.length=n->p (a::xs)):∀xs:List aA,xs.length=n+1->p xs:=λxs e=>by
 cases xs with
 |nil=>cases e
 |cons a xs=>exact h a xs (EO e)
structure WW(g:G0)(P:Params):Prop where
 hK:g.K=hd.heap_1 P
 sP:g.K.In g.h₀
 hc:g.cls=88
 pax:g.mg "_Pax"=some (.ref 88)
 aau:g.mg "fresh"=some (.ref 99)
 LU:g.mg "step"=some (.ref 106)
 abT:g.mg "play"=some (.ref 111)
 ad9:g.mg "_law_of"=some (.ref 117)
 DQ:g.mg "_law_send"=some (.ref 122)
 Tc:g.mg "_law_vote"=some (.ref 127)
 NY:g.mg "_law_offer"=some (.ref 134)
 Td:g.mg "_law_hear"=some (.ref 139)
 Te:g.mg "_law_node"=some (.ref 144)
 NZ:g.mg "_law_step"=some (.ref 149)
 aav:g.mg "_law_play"=some (.ref 154)
 abU:g.mg "_law_acts"=some (.ref 161)
 Tf:g.mg "_law_tail"=some (.ref 168)
section
variable {g:G0}{P:Params}(W:WW g P)
include W
def H9{n:Str}{a:Option aA}(x:plainGet (hd.heap_1 P) 88 n=true)(y:findIn (hd.heap_1 P) (.ref 88) n=some a)(z:noGet (hd.heap_1 P) a=true)(t:takerIn (hd.heap_1 P) 88 n=some none):eK g n:=
 ⟨W.hK.symm▸W.hc.symm▸x,⟨a,W.hK.symm▸W.hc.symm▸y,W.hK.symm▸z⟩,W.hK.symm▸W.hc.symm▸t⟩
def LV{n:Str}{a:Addr}(x:plainGet (hd.heap_1 P) 88 n=true)(y:findIn (hd.heap_1 P) (.ref 88) n=some (some (.ref a)))(z:isFn (hd.heap_1 P) (.ref a)=true)(t:keepIn (hd.heap_1 P) (.ref a)=true):jh g n a:=
 ⟨W.hK.symm▸W.hc.symm▸x,W.hK.symm▸W.hc.symm▸y,W.hK.symm▸z,W.hK.symm▸t⟩
def rO{fa:Addr}{fd:FuncData}{b:List Stmt}{ns:List Str}(o:(hd.heap_1 P).lookup fa=some {cls:=.type "function",data:=.func fd})(x:codeIn (hd.heap_1 P) fd.code fd.qualname=true)(e1:fd.body=.stmts b)(e2:fd.closure=[])(e3:fd.globals=mainGlobals)(e4:fd.builtins=builtinsNs)(e5:fd.scope.kind=.function)(e6:fd.scope.isGenerator=false)(e7:fd.scope.isCoroutine=false)(bi:∀xs:List aA,xs.length=ns.length->bindArgs fd ⟨xs,[]⟩=pure (ns.zip xs))(nd:ns.Nodup)(p:QD fd.scope ns=true)(k:keepIn (hd.heap_1 P) (.ref fa)=true):m8 g fa fd b ns:=
 ⟨⟨⟨_,W.sP _ _ (W.hK.symm▸o),rfl⟩,codeRec_of W.sP (W.hK.symm▸x),e1,e2,e3,e4,e5,e6,e7⟩,bi,nd,p,W.hK.symm▸k⟩
def bT:oF g where
 hasDict:=by rw[W.hK,W.hc];rfl
 setter:=by rw[W.hK,W.hc];rfl
 plain:=by rw[W.hK,W.hc];rfl
 makes:=by rw[W.hK,W.hc];rfl
 keep:=by rw[W.hK,W.hc];rfl
def pG:eK g "me":=H9 W aa aa aa aa
def lN:eK g "size":=H9 W aa aa aa aa
def iL:eK g "promised":=H9 W aa aa aa aa
def d9:eK g "phase":=H9 W aa aa aa aa
def iD:eK g "ballot":=H9 W aa aa aa aa
def qB:eK g "acc":=H9 W aa aa aa aa
def lV:eK g "chosen":=H9 W aa aa aa aa
def eW:eK g "prom":=H9 W aa aa aa aa
def fS:eK g "props":=H9 W aa aa aa aa
def gm:eK g "out":=H9 W aa aa aa aa
def N3:jh g "acc_list" 31:=LV W aa aa aa aa
def abV:jh g "tup" 36:=LV W aa aa aa aa
def DS:jh g "all" 43:=LV W aa aa aa aa
def yN:jh g "promise_to" 50:=LV W aa aa aa aa
def Jb:jh g "check" 57:=LV W aa aa aa aa
def De:jh g "propose" 64:=LV W aa aa aa aa
def N5:jh g "lead" 71:=LV W aa aa aa aa
def Vh:jh g "event" 78:=LV W aa aa aa aa
def N6:jh g "message" 85:=LV W aa aa aa aa
def abW:m8 g 26 (GJ P) (DM P) ["self","t"]:=rO W (Z9 P) aa aa aa aa aa aa aa aa (cK λz=>cK λz=>all0 aa) (by decide) aa aa
def RM:m8 g 31 (xo P) (GK P) ["self"]:=rO W (NL P) aa aa aa aa aa aa aa aa (cK λz=>all0 aa) (by decide) aa aa
def aea:m8 g 36 (DN P) (Lx P) ["self"]:=rO W (abK P) aa aa aa aa aa aa aa aa (cK λz=>all0 aa) (by decide) aa aa
def aeb:m8 g 43 (Ly P) (aaa P) ["self","kind","rest"]:=rO W (abL P) aa aa aa aa aa aa aa aa (cK λz=>cK λz=>cK λz=>all0 aa) (by decide) aa aa
def LW:m8 g 50 (oY P) (A8 P) ["self","b"]:=rO W (H8 P) aa aa aa aa aa aa aa aa (cK λz=>cK λz=>all0 aa) (by decide) aa aa
def aaw:m8 g 57 (xW P) (NN P) ["self","s"]:=rO W (UZ P) aa aa aa aa aa aa aa aa (cK λz=>cK λz=>all0 aa) (by decide) aa aa
def RN:m8 g 64 (j8 P) (GL P) ["self","s","v"]:=rO W (NO P) aa aa aa aa aa aa aa aa (cK λz=>cK λz=>cK λz=>all0 aa) (by decide) aa aa
def abX:m8 g 71 (GN P) (SS P) ["self"]:=rO W (aab P) aa aa aa aa aa aa aa aa (cK λz=>all0 aa) (by decide) aa aa
def Bh:m8 g 78 (iC P) (xq P) ["self","e"]:=rO W (U0 P) aa aa aa aa aa aa aa aa (cK λz=>cK λz=>all0 aa) (by decide) aa aa
def oS:m8 g 85 (fu P) (iP P) ["self","m"]:=rO W (NP P) aa aa aa aa aa aa aa aa (cK λz=>cK λz=>all0 aa) (by decide) aa aa
def N7:m8 g 99 (CG P) (NQ P) ["me","size"]:=rO W (U1 P) aa aa aa aa aa aa aa aa (cK λz=>cK λz=>all0 aa) (by decide) aa aa
def DT:m8 g 106 (rK P) (SV P) ["node","event"]:=rO W (aac P) aa aa aa aa aa aa aa aa (cK λz=>cK λz=>all0 aa) (by decide) aa aa
def Tg:m8 g 111 (gb P) (uX P) ["size","actions"]:=rO W (aad P) aa aa aa aa aa aa aa aa (cK λz=>cK λz=>all0 aa) (by decide) aa aa
def aax:m8 g 117 (Lz P) (aae P) ["log","kind"]:=rO W (abM P) aa aa aa aa aa aa aa aa (cK λz=>cK λz=>all0 aa) (by decide) aa aa
def Bj:m8 g 122 (GO P) (SW P) ["kind","ballot","size","rest"]:=rO W (aaf P) aa aa aa aa aa aa aa aa (cK λz=>cK λz=>cK λz=>cK λz=>all0 aa) (by decide) aa aa
def LX:m8 g 127 (tR P) (SX P) ["log","size","ballot","slot","value","voter"]:=rO W (aag P) aa aa aa aa aa aa aa aa (cK λz=>cK λz=>cK λz=>cK λz=>cK λz=>cK λz=>all0 aa) (by decide) aa aa
def GY:m8 g 134 (xX P) (NR P) ["log","size","ballot","slot","value"]:=rO W (U3 P) aa aa aa aa aa aa aa aa (cK λz=>cK λz=>cK λz=>cK λz=>cK λz=>all0 aa) (by decide) aa aa
def LZ:m8 g 139 (rL P) (SY P) ["log","size","ballot","sender","known"]:=rO W (aah P) aa aa aa aa aa aa aa aa (cK λz=>cK λz=>cK λz=>cK λz=>cK λz=>all0 aa) (by decide) aa aa
def L1:m8 g 144 (rM P) (xY P) ["log","me","size"]:=rO W (aai P) aa aa aa aa aa aa aa aa (cK λz=>cK λz=>cK λz=>all0 aa) (by decide) aa aa
def GZ:m8 g 149 (gW P) (gI P) ["log","node","event"]:=rO W (U4 P) aa aa aa aa aa aa aa aa (cK λz=>cK λz=>cK λz=>all0 aa) (by decide) aa aa
def N8:m8 g 154 (gz P) (xr P) ["size","acts","logs"]:=rO W (U5 P) aa aa aa aa aa aa aa aa (cK λz=>cK λz=>cK λz=>all0 aa) (by decide) aa aa
def Th:m8 g 161 (xu P) (S0 P) ["c","d","size","lead"]:=rO W (aaj P) aa aa aa aa aa aa aa aa (cK λz=>cK λz=>cK λz=>cK λz=>all0 aa) (by decide) aa aa
def L2:m8 g 168 (A9 P) (S3 P) ["node","c","d","e"]:=rO W (aak P) aa aa aa aa aa aa aa aa (cK λz=>cK λz=>cK λz=>cK λz=>all0 aa) (by decide) aa aa
def abY(h:(cM p q).lookup n=some v):eK g n:=by
 intros g P p q n v _ W h;have hm:=MI h;unfold cM at hm;simp only[bZ,Yw,pK,or_false] at hm;rcases hm with h|h|h|h|h|h|h|h|h|h<;>rw[h.1]
 .exact pG W
 .exact lN W
 .exact iL W
 .exact d9 W
 .exact iD W
 .exact qB W
 .exact lV W
 .exact eW W
 .exact fS W
 exact gm W
end
section
variable {a b:Addr}{bQ q q':PA}{aJ:Sg}{c c':C}{p p':cA}{cn:Cn}{ρ:Nm}{k:List (List Stmt)}{rest:List Stmt}{Pp:C->Nm->Prop}{R:C->D->Prop}{e:aU}{v:V}{n:Str}{p1 p2 p3 p4 pos:Pos}{P:Params}
def Ev.slf(W:WW c.toG0 P)(I:Inv a bQ aJ c p q)(hs:fR ρ "self" (.r a))(hn:(cM p q).lookup n=some v):Ev c ρ (.Attribute (.Name "self" p1) n p2) v:=Ev.aao (bT W) (abY W hn) I hs hn
end
section
variable {g:G0}{P:Params}(W:WW g P)
include W
def aec{a:Addr}{p:cA}{q:PA}{kind:Str}{rs:List D}{mk:Int->cR}(M4:∀j,bG (mk j)=.tup ([.str kind,aD p.af,.int p.me,.int j]++rs))(nV:p.size<=4)(hz:p.out.length+4<=ck)(hr:rs.length<=10):
 lH g 1 43 [.r a,.d (.str kind),.d (.tup rs)] (λx=>x∈q.bI) (λσ=>bh σ a p q) (λσ σ'=>bh σ' a (p.all mk) q):=by
 intros g P a p q kind rs mk _ W M4 nV hz hr;refine k9 (n:=0) (aeb W) aa λc L hg hn hO hp=>?_;intros c L _ hg hn hO hp
 subst hg;unfold aaa bodyPick;apply Ex.for (Inv:=λi c' ρ'=>bh c'.σ a {p with out:=p.out++(qd i p.me).map mk} q/\(∀x∈q.bI,c'.wr x)/\fR ρ' "self" (.r a)/\fR ρ' "kind" (.d (.str kind))/\fR ρ' "rest" (.d (.tup rs)))
 .apply uB
  .exact jN (P:=P) (bT W) (lN W) hp aa aa
  .exact Kd ‹_› (by decide)
  .rfl
  rfl
 .exact⟨by
   have e:p.out++(qd 0 p.me).map mk=p.out:=by simp[qd]
   rw[e];exact hp,λx hx=>hx,rfl,rfl,rfl⟩
 .intro i d c' ρ' cu hd z2;let ⟨hI,pA,l1,l2,l3⟩:=z2;intros i d c' ρ' _ cu hd hI pA l1 l2 l3;let ⟨M,σ,wr,zy⟩:=bY cu;intros M σ wr _ cu hI pA;let ⟨zy,hi⟩:=xy hd;refine⟨_,i7 ⟨.inl aa,rfl,rfl⟩,?_⟩;have lj:fR ((("j":Str),lF (.int (i:Int)))::ρ') "j" (.d (.int (i:Int))):=rfl;have Vi:fR ((("j":Str),lF (.int (i:Int)))::ρ') "self" (.r a):=l1;have l2':fR ((("j":Str),lF (.int (i:Int)))::ρ') "kind" (.d (.str kind)):=l2;have l3':fR ((("j":Str),lF (.int (i:Int)))::ρ') "rest" (.d (.tup rs)):=l3;apply cP
  .apply bR
   .exact aj lj
   .exact jN (P:=P) (bT W) (pG W) hI Vi aa
   .exact ur (by show min 0 _<=400;exact aG (lW 0 _) (b8 _))
   with_unfolding_all rfl
  case h2=>
   intro hb;apply aT;apply aT;apply dM;rw[mG] at hb;have hb':(i:Int)=p.me:=by simpa using hb
   refine⟨?_,pA,Vi,l2',l3'⟩;rw[C8,ay (λh=>h hb'),iW];exact hI
  intro hb;rw[mG] at hb;have hb':(i:Int)≠p.me:=by simpa using hb
  apply pX
  .apply Cj (x:=bG (mk i))
   .exact jN (P:=P) (bT W) (gm W) hI Vi aa
   .exact hI.out
   .exact pA _ xx
   .rw[M4];apply dU
    .apply cI
     .apply aP
      case hs=>rfl
      .exact aj l2'
      apply aP
      case hs=>rfl
      .exact jN (P:=P) (bT W) (iD W) hI Vi aa
      apply aP
      case hs=>rfl
      .exact jN (P:=P) (bT W) (pG W) hI Vi aa
      apply aP
      case hs=>rfl
      .exact aj lj
      exact bq
     exact bz aa
    .exact aj l3'
    exact uw (by simp;unfold ck;exact lA (j:=4) ‹_› rfl)
   have:=oN i p.me;simp only[aR,bU];exact bd1 ‹p.out.length+4<=ck› (ff this _) (jD ‹i<(p.size:Int).toNat› ‹p.size<=4›) aa
  .intro k8 v Ti z2;let ⟨zy,z3⟩:=z2;clear z3;intros v _ Ti;apply aT;apply aT;apply dM;refine⟨?_,pA,Vi,l2',l3'⟩;rw[C8,aq hb'];exact hI.S5 (by simp)
  .rfl
  rfl
 intro c' ρ' cu z2;let ⟨hI,z3⟩:=z2;clear z3;intros c' ρ' _ cu hI;apply aT;apply dM;have e:(dW 0 ((p.size:Nat):Int).toNat).length=p.size:=by simp[dW]
 rw[e] at hI;exact hI
def DU(M4:∀j,bG (mk j)=.tup ([.str kind,aD p.af,.int p.me,.int j]++rs))(nV:p.size<=4)(hz:p.out.length+4<=ck)(hr:rs.length<=10):
 lH g 1 43 [.r a,.d (.str kind),.d (.tup rs)] (λx=>x∈q.bI) (λσ=>bh σ a p q) (tu a q (p.all mk)):=(aec W M4 nV hz hr).mono λσ σ' h=>⟨q,h,λx hx=>.inl hx⟩
end
seal Ev EvAll jf jP EvVs iH o8 Cmp Bin Ex HN g9
local macro_rules | `(tactic| left) => `(tactic| repeat' (first
  | exact Ev.name rfl | exact Ev.int | exact Ev.none | exact Ev.bool | exact Ev.str (by decide +kernel)
  | exact Ev.slf (by assumption) (by assumption) rfl rfl | (refine Ev.slf (by assumption) (by assumption) ?_ ?_ <;> exact rfl)
  | apply EvVs.nil | apply EvAll.nil
  | apply EvVs.cons | apply EvAll.cons
  | apply Ev.tup
  | apply Ev.bin
  | exact Cmp.inT minZ
  | exact Cmp.lt | exact Cmp.le | exact Cmp.gt
  | exact Bin.add | exact Bin.sub | exact Bin.mul (IntMulOk.of_left (by decide +kernel))
  | exact Nat.le_of_ble_eq_true rfl | rfl | with_unfolding_all rfl | (intro _; rfl) | decide +kernel))
section
variable {g:G0}{P:Params}(W:WW g P)
include W
def G1{a:Addr}{p:cA}{q:PA}{b:bg}:
 lH g 1 50 [.r a,.d (aD b)] (λx=>x∈q.bI) (λσ=>bh σ a p q) (tu a q (p.dF b)):=by
 intros g P a p q b _ W;refine k9 (n:=0) (LW W) aa λc L hg hn hO hp=>?_;intros c L _ hg hn hO hp
 subst hg;unfold A8 bodyPick;have I:=oO (fd:=oY P) (fa:=50) (L:=L) hp;apply LC I (bT W) (iL W)
 .left
 .rfl
 have I1:=I.promised b;apply cP
 .apply bR
  .apply bE (j:=1)
   .exact aj aa
   left
   all_goals rfl
  .left
  .exact ur (by show min 0 _<=400;exact aG (lW 0 _) (b8 _))
  with_unfolding_all rfl
 case h2=>
  intro hb;apply aT;apply aT;apply dM;rw[mG] at hb;have hb':b.2=p.me:=by simpa using hb
  unfold cA.dF;rw[ay (λh=>h hb')];exact I1.done
 intro hb;rw[mG] at hb;have hb':b.2≠p.me:=by simpa using hb
 apply Ex.idle (ph:=0) I1 (bT W) (d9 W) (eW W) (fS W)
 .rfl
 .rfl
 .decide+kernel
 intro c' q' cu I2;intros c' q' _ cu I2;apply aT;apply aT;apply dM;unfold cA.dF;rw[aq hb'];exact I2.done
def N9{a:Addr}{p:cA}{q:PA}{s:Int}{v:Option Str}{ns:List Int}(hl:look p.props s=some (v,ns))(nV:p.size<=4)(hz:p.out.length+4<=ck)(hc:p.ak.length+1<=ck):
 lH g 3 57 [.r a,.d (.int s)] (λx=>x∈q.bI) (λσ=>bh σ a p q) (tu a q (p.check s)):=by
 intros g P a p q s v ns _ W hl nV hz hc;refine k9 (n:=2) (aaw W) aa λc L hg hn hO hp=>?_;intros c L _ hg hn hO hp
 subst hg;unfold NN bodyPick;have I:=oO (fd:=xW P) (fa:=57) (L:=L) hp;obtain⟨x,v',sY,hx,hk,Cm,tw,hd,nU⟩:∃x v' ks',x∈q.xs/\x.k=s/\look p.props s=some (v',ks')/\look (q.xs.map λx=>(x.k,gn x.la)) s=some (.r x.la)/\x.d=bl v'/\x.ks=ks':=by
  rcases tT hp.props s with⟨e,_⟩|h
  .rw[hl] at e;cases e
  exact h
 obtain⟨rfl,rfl⟩:v=v'/\ns=sY:=by rw[hl] at Cm;simpa using Cm
 have wO:=hp.xs x hx;rw[hd,nU] at wO;apply Ex.ND
 .apply sX
  .left
  .exact hp.pp
  .left
  .exact tw
  left
 .exact wO.1
 .exact fJ (jZ ⟨.inl aa,rfl,rfl⟩) aa (fJ (jZ ⟨.inl aa,rfl,rfl⟩) aa pY)
 .apply cP
  .apply iZ;apply gQ
   .apply bR
    .apply dU
     .left
     .apply uC
      .left
      .show(match c.σ x.sa with|some (.l ds)=>some ds.length|some (.i kvs)=>some kvs.length|some (.s ks)=>some ks.length|_=>none)=some ns.length;rw[wO.2]
      left
     exact Bin.mul (IntMulOk.of_left (by decide+kernel))
    .left
    .exact Cmp.gt
    left
   .intro _;apply gQ
    .apply bR
     .left
     .left
     .exact FO hp.ch
     left
    intro _;exact pR
  .intro hb;rw[oQ,S7] at hb;apply mY
   .exact rz (aj aa)
   .intro c' v' cu z2;let ⟨zy,zy⟩:=z2;have I1:=I.ak s v;refine⟨_,_,zO (by left) (by left) I.at'.ch (I.wr _ xw) (by simpa [cJ,fz] using hc),?_⟩;have F:=DU W (a:=a) (q:=q) (p:={p with ak:=put p.ak s v}) (mk:=λj=>.ak p.af p.me j s v) (kind:="chosen") (rs:=[.int s,bl v]) (λj=>rfl) nV hz (by show 2<=10;decide);apply qe I1 (DS W) F
    .rfl
    .rfl
    .left
    .exact g8 hn aa
    intro c' q' cu I2;intros c' q' _ cu I2;apply aT;apply aT;apply dM;unfold Lb;rw[hl];dsimp only;rw[aq hb];exact I2.done;left
   left
  intro hb;rw[oQ,S7] at hb;apply aT;apply aT;apply dM;unfold Lb;rw[hl];dsimp only;rw[ay (by rw[hb];simp)];exact I.done
 left
def G2{a:Addr}{p:cA}{q:PA}{s:Int}{v:Option Str}(iY:look p.props s=none)(Vj:0<=p.me)(hm4:p.me<4)(nV:p.size<=4)(hz:p.out.length+8<=ck)(hc:p.ak.length+1<=ck)(ha:p.acc.length+1<=ck)(FW:p.props.length+1<=ck):
 lH g 5 64 [.r a,.d (.int s),.d (bl v)] (λx=>x∈q.bI) (λσ=>bh σ a p q) (tu a q (p.aO s v)):=by
 intros g P a p q s v _ W iY Vj hm4 nV hz hc ha FW;refine k9 (n:=4) (RN W) aa λc L hg hn hO hp=>?_;intros c L _ hg hn hO hp
 subst hg;unfold GL bodyPick;have I:=oO (fd:=j8 P) (fa:=64) (L:=L) hp;apply mY
 .apply HQ.m;apply HQ.pair
  .left
  .apply jP.ae5
   .left
   .exact Vj
   .exact hm4
   .rw[show(c.fn (j8 P) 64 L λx=>x∈q.bI).K=c.K from rfl,W.hK];rfl
   left
  left
 .intro c1 v1 gv z2;let ⟨la,τ,zy,zy,z3,rX⟩:=z2;let ⟨sa,dg,t1,t2,t3⟩:=z3;intros la τ sa _ rX gv dg t1 t2 t3;have I1:=I.adds (τ:=τ) λb hb=>(rX b hb).2
  have UA:=rX la (by rw[t1];simp);have hsa:=rX sa (by rw[t2];simp);have N1:Nw a q c.σ ((c.fn (j8 P) 64 L λx=>x∈q.bI).adds τ) q la:=⟨.inr (by rw[t1];simp),I.Bb UA.2,I.at'.fresh UA.2⟩;have N2:Nw a q c.σ ((c.fn (j8 P) 64 L λx=>x∈q.bI).adds τ) q sa:=⟨.inr (by rw[t2];simp),I.Bb hsa.2,I.at'.fresh hsa.2⟩;have I2:=I1.GR iY (Cs t1) (Cs t2) N1 N2 dg;refine⟨_,_,zO (by left) (by left) I1.at'.pp (I1.wr _ CH) (by
   have:=cj ua hp.props;simp[ja] at this;simp[this];exact FW),?_⟩
  apply mY
  .apply rz;left
  .intro c2 v2 oi z2;let ⟨zy,zy⟩:=z2;have I3:=I2.acc s (p.af,v);refine⟨_,_,zO (by left) (by left) I2.at'.acc (I2.wr _ zX) (by simpa [cJ,gK] using ha),?_⟩;have F:=DU W (a:=a) (q:={q with xs:=q.xs++[⟨s,la,sa,bl v,[p.me]⟩]}) (p:={p with props:=put p.props s (v,[p.me]),acc:=put p.acc s (p.af,v)}) (mk:=λj=>.accept p.af p.me j s v) (kind:="accept") (rs:=[.int s,bl v]) (λj=>rfl) nV (by show p.out.length+4<=ck;exact aG (ff (by decide) _) ‹p.out.length+8<=_›) (by show 2<=10;decide);apply qe I3 (DS W) F
   .rfl
   .rfl
   .left
   .exact g8 hn aa
   intro c3 q3 CL I4;intros c3 q3 _ CL I4;let ⟨M,σ,wr,zy⟩:=bY CL;intros M σ wr _ CL I4
   have F2:=N9 W (a:=a) (q:=q3) (p:=({p with props:=put p.props s (v,[p.me]),acc:=put p.acc s (p.af,v)}:cA).all (λj=>.accept p.af p.me j s v)) (s:=s) (v:=v) (ns:=[p.me]) (by show look (put p.props s (v,[p.me])) s=_;rw[gc,aq aa]) nV (by
    have:=oN p.size p.me;show(p.out++(qd p.size p.me).map _).length+4<=ck;rw[bU,aR];exact aG (fF (BA ..)) (aG (ff (kU (aG this nV) 4) _) ‹p.out.length+8<=_›)) hc
   apply qe I4 (Jb W) F2
   .rfl
   .rfl
   .left
   .exact g8 hn aa
   intro c4 q4 hc4 I5;intros c4 q4 _ hc4 I5;apply aT;apply dM;exact I5.done;left;left
  left
 left
theorem rP{α:Type}{l:List α}{i:Nat}{x:α}(h:l[i]?=some x):l.take (i+1)=l.take i++[x]:=by
 rw[vC,h];rfl
end
structure LI(a:Addr)(q:PA)(aJ:Sg)(bb:Addr)(p:cA)(c:C)(best:List bf):Prop where
 at':bh c.σ a p q
 wr:∀x∈q.bI,x≠q.pm->c.wr x
 dm:∀x,aJ x≠none->c.σ x=aJ x
 bw:c.wr bb
 bn:bb≠a/\bb∉q.bI
 b0:aJ bb=none
 b:c.σ bb=some (.i (cJ (gK best)))
theorem LI.upd(h:LI a q aJ bb p c best)(e:cn=.i (cJ (gK aed))):LI a q aJ bb p (c.upd bb cn) aed:=
 ⟨h.at'.other h.bn,h.wr,λx hx=>by
  show Sg.set c.σ bb _ x=_;rw[kR (λe'=>hx (by rw[e'];exact h.b0))];exact h.dm x hx,h.bw,h.bn,h.b0,by subst e;exact s8⟩
def mH(l:List bf)(s:Int):look (cJ (gK l)) s=(look l s).map λx=>lF (.tup [aD x.1,bl x.2]):=by
 rw[oM];unfold gK;rw[jm (λx:bg×Option Str=>ou [aD x.1,bl x.2])];cases look l s<;>rfl
def Jc(l:List bf)(s:Int)(x:bg×Option Str):put (cJ (gK l)) s (.d (.tup [aD x.1,bl x.2]))=cJ (gK (put l s x)):=by
 rw[Ba];unfold gK;rw[tS (λx:bg×Option Str=>ou [aD x.1,bl x.2])]
def G3(l:List bf):(cJ (gK l)).map (·.1)=l.map (·.1):=by simp[cJ,gK,uh]
def Ia(l:List bf)(it:bf):(gu l it).length<=l.length+1:=by
 unfold gu;split
 .exact gU _ _ _
 split
 .exact gU _ _ _
 exact jr _
theorem jo:∀(is:List bf) (l:List bf),(is.foldl gu l).length<=l.length+is.length
 |[],l=>by simp
 |it::is,l=>by
  have:=jo is (gu l it);have:=Ia l it;simp only[zb,jL];exact aG (jo is (gu l it)) (aG (kU this is.length) (fF (OW l.length is.length)))
theorem Ex.best{c:C}{ρ:Nm}{bb:Addr}{best:List bf}{it:bf}{k:List (List Stmt)}{rest:List Stmt}{Pp:C->Nm->Prop}{R:C->D->Prop}{p1 p2 p3 p4 p5 p6 p7 p8 p9 p10 p11 Vk Vl Vm Vn Vo p17 p18 p19:Pos}{n1 n2:Nat}
 (hs:c.σ bb=some (.i (cJ (gK best)))) (hw:c.wr bb) (hz:best.length+1<=ck) (l1:fR ρ "s" (.d (.int it.1))) (l2:fR ρ "b" (.d (aD it.2.1))) (l3:fR ρ "v" (.d (bl it.2.2))) (l4:fR ρ "best" (.r bb))
 (r1:gu best it=best->Ex c ρ (rest::k) Pp R) (r2:∀cn,cn=.i (cJ (gK (gu best it)))->Ex (c.upd bb cn) ρ (rest::k) Pp R)
 (hsw:swapsWithSole [.Subscript (.Name "best" p11) (.Name "s" Vk) Vl] (.Tuple [.Name "b" Vm,.Name "v" Vn] n2 Vo) p17.line c.env=pure false) (hsw2:swappedStores [.Subscript (.Name "best" p11) (.Name "s" Vk) Vl] (.Tuple [.Name "b" Vm,.Name "v" Vn] n2 Vo) c.env=pure none):
 Ex c ρ ((.If (.BoolOp .Or [.Compare (.Name "s" p1) [.NotIn] [.Name "best" p2] p3,.Compare (.Name "b" p4) [.Gt] [.Subscript (.Subscript (.Name "best" p5) (.Name "s" p6) p7) (.Constant (.int 0) n1 p8) p9] p10] p18) [.Assign [.Subscript (.Name "best" p11) (.Name "s" Vk) Vl] (.Tuple [.Name "b" Vm,.Name "v" Vn] n2 Vo) p17] [] p19::rest)::k) Pp R:=by
 intros c ρ bb best it k rest Pp R p1 _ p2 p3 p4 p5 p6 p7 p8 p9 p10 p11 Vk Vl Vm Vn Vo p17 p18 p19 n1 n2 hs hw hz l1 l2 l3 l4 r1 r2 hsw hsw2;intros p2 p3 p4 p5 p6 p7 p8 p9 p10 p11 _ Vk Vl Vm Vn Vo p17 p18 p19 n1 n2 hs hw hz l1 l2 l3 l4 r1 r2 hsw hsw2;intros Vk Vl Vm Vn Vo p17 p18 p19 n1 n2 _ hs hw hz l1 l2 l3 l4 r1 r2 hsw hsw2;cases hl:look best it.1 with
 |none=>
  refine cP (b:=true) (iZ (sU (a:=true) (b:=true) ?_ λh=>by cases h)) (λz=>?_) λh=>by cases h
  .have:=bR (pos:=p3) (c:=c) (ρ:=ρ) (e₁:=.Name "s" p1) (e₂:=.Name "best" p2) (aj l1) (aj l4) (FO (i:=it.1) hs);rw[mH,hl] at this;exact this
  refine mY (rz (cI (aP (aj l2) (aP (aj l3) bq)))) (λc' v' z hq=>?_) aa hsw hsw2;let ⟨zy,zy⟩:=hq;refine⟨_,_,zO (aj l4) (aj l1) hs hw (by simpa [cJ,gK] using hz),aT (r2 _ ?_)⟩;have:gu best it=put best it.1 it.2:=by unfold gu;rw[hl]
  rw[this,Jc]
 |some x=>
  have t1:=bR (pos:=p3) (c:=c) (ρ:=ρ) (e₁:=.Name "s" p1) (e₂:=.Name "best" p2) (aj l1) (aj l4) (FO (i:=it.1) hs);rw[mH,hl] at t1;have ng:look (cJ (gK best)) it.1=some (.d (.tup [aD x.1,bl x.2])):=by rw[mH,hl];rfl
  have t2:=bR (pos:=p10) (c:=c) (ρ:=ρ) (e₁:=.Name "b" p4) (e₂:=.Subscript (.Subscript (.Name "best" p5) (.Name "s" p6) p7) (.Constant (.int 0) n1 p8) p9) (aj l2) (bE (j:=0) (x:=aD x.1) (sX (aj l4) hs (aj l1) ng) aN aa aa) (Cc (op:=.Gt) (DP it.2.1 x.1) (qp _) aa);refine cP (b:=fV x.1 it.2.1) ?_ (λhb=>?_) λhb=>?_
  .have:=sU t1 (λz=>sU t2 (λz=>KC));have e:(!(qS (λx:bg×Option Str=>lF (.tup [aD x.1,bl x.2])) (some x)).isSome||(fV x.1 it.2.1||false))=fV x.1 it.2.1:=by simp
   rw[e] at this;exact iZ this
  .refine mY (rz (cI (aP (aj l2) (aP (aj l3) bq)))) (λc' v' z hq=>?_) aa hsw hsw2;let ⟨zy,zy⟩:=hq;refine⟨_,_,zO (aj l4) (aj l1) hs hw (by simpa [cJ,gK] using hz),aT (r2 _ ?_)⟩;have:gu best it=put best it.1 it.2:=by unfold gu;rw[hl];exact aq hb
   rw[this,Jc]
  refine aT (r1 ?_);unfold gu;rw[hl];exact ay (by rw[hb];simp)
def Ev.abZ{c:C}{n1 n2:Nat}(hs:c.σ bb=some (.i (cJ (gK best))))(l1:fR ρ "s" (.d (.int s)))(l2:fR ρ "best" (.r bb)):
 Ev c ρ (.IfExp (.Compare (.Name "s" p1) [.In] [.Name "best" p2] p3) (.Subscript (.Subscript (.Name "best" p4) (.Name "s" p5) p6) (.Constant (.int 1) n1 p7) p8) (.Constant .none n2 p9) p10) (.d (bl ((look best s).elim k6 (·.2)))):=by
 have ht:=bR (pos:=p3) (c:=c) (ρ:=ρ) (e₁:=.Name "s" p1) (e₂:=.Name "best" p2) (aj l1) (aj l2) (QO (i:=s) hs);cases hl:look best s with
 |none=>
  rw[mH,hl] at ht;exact E3 ht (v₁:=.d .none) (λh=>by cases h) λz=>Ev.none
 |some x=>
  rw[mH,hl] at ht;have ng:look (cJ (gK best)) s=some (.d (.tup [aD x.1,bl x.2])):=by rw[mH,hl];rfl
  exact E3 ht (v₂:=.d .none) (λz=>bE (j:=1) (x:=bl x.2) (sX (aj l2) hs (aj l1) ng) aN aa aa) (λh=>by cases h)
def L3{a x b:Addr}{q:PA}(nd:(a::q.bI).Nodup)(hx:x∈({q with pm:=b}:PA).bI):x=b\/(x∈q.bI/\x≠q.pm):=
 (bZ.mp ((zf (l₁:=[q.da,q.acc,q.ch])).mem_iff.mp hx)).elim .inl λm=>.inr ⟨(zf (l₁:=[q.da,q.acc,q.ch])).mem_iff.mpr (.tail _ m),
  λe=>(ir.mp ((zf (l₁:=[q.da,q.acc,q.ch])).nodup_iff.mp (ir.mp nd).2)).1 (e▸m)⟩
def LI.new(h:LI a q aJ bb p c best)(e:c.σ x=none):aJ x=none:=aM λn=>n ((h.dm x n).symm.trans e)
section
variable {g:G0}{P:Params}(W:WW g P)
include W
def Tj{a:Addr}{p:cA}{q:PA}(h0:p.props=[])(Vj:0<=p.me)(hm4:p.me<4)(nV:p.size<=4)(wQ:p.prom.length<=4)(gq:(p.prom.map (·.2)).flatten.length<=1000)(aay:0<=dI ((dG (p.prom.map (·.2)).flatten).map (·.1)))(qm:dI ((dG (p.prom.map (·.2)).flatten).map (·.1))<=100)(hz:p.out.length+1000<=ck)(hc:p.ak.length+200<=ck)(ha:p.acc.length+200<=ck):
 lH g 7 71 [.r a] (λx=>x∈q.bI) (λσ=>bh σ a p q) (tu a q p.lead):=by
 intros g P a p q _ W h0 Vj hm4 nV wQ gq aay qm hz hc ha;refine lH.ad1 (O:=λx=>x∈q.bI/\x≠q.pm) ?_ λx h=>h.1
 refine k9 (n:=6) (abX W) aa λc L hg hn hO hp=>?_;intros c L _ hg hn hO hp
 subst hg;change let b:C:=_;let G4:C->Nm->Prop:=_;let Jd:C->D->Prop:=_;Ex b _ _ G4 Jd;intro b G4 Jd;unfold SS bodyPick;have A:=hp.apart;apply cP
 .apply bR
  .apply dU
   .left
   .apply uC
    .exact jN (P:=P) (bT W) (eW W) hp aa aa
    .show(match c.σ q.pm with|some (.l ds)=>some ds.length|some (.i kvs)=>some kvs.length|some (.s ks)=>some ks.length|_=>none)=some (cJ (dO p.prom)).length;rw[hp.pm]
    left
   left
  .exact jN (P:=P) (bT W) (lN W) hp aa aa
  left
 .intro hb;apply Ex.Za;refine⟨rfl,?_⟩;unfold Lc;have e:(cJ (dO p.prom)).length=p.prom.length:=by simp[cJ,dO]
  rw[e] at hb;rw[aq (gE.1 (fG hb))];exact⟨q,hp,λx hx=>.inl hx⟩
 intro hb;have e:(cJ (dO p.prom)).length=p.prom.length:=by simp[cJ,dO]
 rw[e] at hb
 have aee:p.lead=(slots (dI ((dG (p.prom.map (·.2)).flatten).map (·.1)))).foldl (λq s=>q.aO s ((look (dG (p.prom.map (·.2)).flatten) s).elim none (·.2))) {p with phase:=2,prom:=[]}:=by
  unfold Lc;rw[ay (λh=>of_decide_eq_false hb (gE.2 h))]
 apply aT;apply Fi (x:="best") (cn:=.i [])
 .exact jP.as zN ⟨.inl aa,rfl,rfl⟩
 intro bb hbM aaz;have Rt:=hp.fresh aaz
 have L0:LI a q c.σ bb p (b.add bb (.i [])) []:=by
  refine⟨hp.other Rt,λx hx dg=>.inl ⟨hx,dg⟩,λx hx=>?_,.inr aa,Rt,aaz,?_⟩
  .show Sg.set c.σ bb _ x=_;rw[kR (λe=>hx (by rw[e];exact aaz))]
  exact s8
 apply Ex.acw (Inv:=λi c' ρ'=>LI a q c.σ bb p c' (((p.prom.map (·.2)).take i).flatten.foldl gu [])/\Sub [("best",.r bb),("self",.r a)] ρ')
 .apply Ze.vals (kvs:=dO p.prom)
  .exact jN (P:=P) (bT W) (eW W) L0.at' aa aa
  .exact L0.at'.pm
  rintro(⟨_,h⟩|h)
  .exact h aa
  exact Rt.2 (h▸zY);left
 .exact⟨L0,xA⟩
 .intro i d c' ρ' cu hd z2;let ⟨ym,hS⟩:=z2;let ⟨M,σ,wr,zy⟩:=bY cu;obtain⟨ks,nU,rfl⟩:∃ks,(p.prom.map (·.2))[i]?=some ks/\d=.lst (ks.map bM):=by
   simp only[dO,cV,dh] at hd⊢;cases h:p.prom[i]? with
   |none=>rw[h] at hd;cases hd
   |some x=>rw[h] at hd;exact⟨x.2,rfl,by simpa using hd.symm⟩
  have hkl:((p.prom.map (·.2)).take i).flatten.length+ks.length<=1000:=by
   have e1:((p.prom.map (·.2)).take (i+1)).flatten.length<=1000:=by
    refine aG ?_ gq
    conv=>rhs;rw[<-Em (i+1) (p.prom.map (·.2))]
    rw[vD,bU];exact iE _ _
   rw[rP W nU,vD,bU] at e1
   simpa using e1
  refine⟨_,i7 ⟨.inl aa,rfl,rfl⟩,?_⟩;refine kN (ρ':=[("known",.d (.lst (ks.map bM))),("best",.r bb),("self",.r a)]) ?_ (λx v e=>by
   by_cases hx:x="known"
   .subst hx;exact e
   rw[aW hx] at e;show((("known":Str),lF (.lst (ks.map bM)))::ρ').lookup x=some v;rw[aW hx];exact hS x v e)
  apply Ex.for (Inv:=λj c' ρ'=>LI a q c.σ bb p c' ((ks.take j).foldl gu (((p.prom.map (·.2)).take i).flatten.foldl gu []))/\Sub [("best",.r bb),("self",.r a)] ρ')
  .exact i6 (aj aa)
  case h0=>exact⟨ym,λx v e=>by
   have hx:x≠"known":=by intro h;subst h;cases e
   rw[aW hx];exact e⟩
  .intro j d k8 nW Ti hd z2;let ⟨LJ,hSJ⟩:=z2;let ⟨M,σ,wr,zy⟩:=bY Ti;rw[dh] at hd;obtain⟨it,hjt,rfl⟩:∃it,ks[j]?=some it/\d=bM it:=by
    cases h:ks[j]? with
    |none=>rw[h] at hd;cases hd
    |some x=>rw[h] at hd;exact⟨x,rfl,by simpa using hd.symm⟩
   have hj:j<ks.length:=(iR.mp hjt).1;refine⟨_,q9 (.cons ⟨.inl aa,rfl,rfl⟩ (.cons ⟨.inl aa,rfl,rfl⟩ (.cons ⟨.inl aa,rfl,rfl⟩ .nil))),?_⟩;have Vp:Sub [("best",.r bb),("self",.r a)] (("v",lF (bl it.2.2))::("b",lF (aD it.2.1))::("s",lF (.int it.1))::nW):=((hSJ.skip aa).skip aa).skip aa
   have nN:gu ((ks.take j).foldl gu (((p.prom.map (·.2)).take i).flatten.foldl gu [])) it=(ks.take (j+1)).foldl gu (((p.prom.map (·.2)).take i).flatten.foldl gu []):=by
    rw[rP W hjt,t9];rfl
   apply Ex.best (it:=it) LJ.b LJ.bw
   .have h1:=jo (ks.take j) (((p.prom.map (·.2)).take i).flatten.foldl gu []);have h2:=jo ((p.prom.map (·.2)).take i).flatten [];rw[pO] at h1;simp only[Ew] at h2;show _<=1000000;exact lA (aG h1 (aG (ig (aG h2 (fF (qJ _))) (sC ..)) ‹_<=1000›)) (by decide)
   .rfl
   .rfl
   .rfl
   .exact Vp _ _ aa
   case hsw=>rfl
   case hsw2=>rfl
   .intro hbe;apply aT;apply dM;refine⟨?_,Vp⟩;rw[<-nN,hbe];exact LJ
   intro cn hcn;apply aT;apply dM;refine⟨?_,Vp⟩;rw[<-nN];exact LJ.upd hcn
  intro k8 nW Ti z2;let ⟨LJ,hSJ⟩:=z2;apply aT;apply dM;refine⟨?_,hSJ⟩;rw[aR,qO] at LJ;rw[rP W nU,vD,t9]
  simpa using LJ
  left
 intro c' ρ' cu z2;let ⟨ym,hS⟩:=z2;let ⟨M,σ,wr,zy⟩:=bY cu;refine kN (ρ':=[("best",.r bb),("self",.r a)]) ?_ hS;have e2:(qN (λx=>x.2) (dO p.prom)).length=(p.prom.map (·.2)).length:=by simp[dO]
 rw[e2,qO] at ym;have dg:∀x∈q.bI,x≠q.pm->b.wr x:=λx h1 h2=>⟨h1,h2⟩
 apply Ft (Q:=λc' vs=>∃b1,σ b1=none/\c'=(jY (b.add bb (.i [])) M σ wr).add b1 (.i [])/\vs=[.d (.str "leading"),.r b1])
 .refine oE (rz (dZ (by decide+kernel))) (λc1 v1 z h1=>?_);let ⟨zy,zy⟩:=h1;refine oE (mZ zN) (λc2 v2 z h2=>?_);let ⟨b1,_,gM,zy,zy⟩:=h2;intro s pos S L;refine bk (Co s pos S L) (λxs s' ⟨c',vs,X,S',L',r',hc,hv⟩=>⟨c',vs,X,S',L',r',b1,gM,hc,?_⟩);rw[hv]
 intro c2 vs oi z2;let ⟨b1,gM,zy,zy⟩:=z2;have Tn:=ym.at'.fresh gM;have acL:b1≠q.da:=mF Tn.2 kQ;have uU:bb≠q.da:=mF ym.bn.2 kQ;have aaA:bb≠b1:=dJ (lM gM ym.b);have at2:=ym.at'.other (cn:=.i []) Tn;have acM:q.da≠q.pm:=A.n2.2.2.1;have at3:=at2.IX 2 (y:="leading") aa;have at4:=at3.NS (b:=b1) (l:=[]) (Sg.at acL s8) Tn
 have I4:Inv a q c.σ ((((jY (b.add bb (.i [])) M σ wr).add b1 (.i [])).upd q.da (.t (gT "phase" (.d (.str "leading")) (cM p q)))).upd q.da (.t (gT "prom" (.r b1) (cM {p with phase:=2} q)))) {p with phase:=2,prom:=[]} {q with pm:=b1}:=by
  exact⟨at4,λx hx=>(L3 hp.nd hx).elim .inr λh=>.inl (ym.wr x h.1 h.2),λx hx=>(L3 hp.nd hx).elim (λe=>.inr (ym.new (e▸gM))) λh=>.inl h.1,
   λx h1 h2=>have hxd:x≠q.da:=mF h2 kQ
    Sg.at hxd (Sg.at hxd (Sg.at (λe=>h1 (ym.new (e▸gM))) (ym.dm x h1)))⟩
 have L4:(Sg.set (Sg.set (Sg.set σ b1 (.i [])) q.da (.t (gT "phase" (.d (.str "leading")) (cM p q)))) q.da (.t (gT "prom" (.r b1) (cM {p with phase:=2} q)))) bb=some (.i (cJ (gK (dG (p.prom.map (·.2)).flatten)))):=by
  exact Sg.at uU (Sg.at uU (Sg.at aaA ym.b))
 have hbn:bb∉({q with pm:=b1}:PA).bI:=λhx=>(L3 hp.nd hx).elim aaA λh=>ym.bn.2 h.1
 refine⟨_,_,fJ (FA (bT W) (d9 W) (aj aa) at2.o at2.t (.inl (ym.wr _ kQ acM)) (hz:=by show 10<=100;decide)) aa (fJ (FA (bT W) (eW W) (aj aa) at3.o at3.t (.inl (ym.wr _ kQ acM)) (hz:=by show 10<=100;decide)) aa pY),?_⟩;clear ym at2 at3 at4 Tn acL uU aaA;generalize dG (p.prom.map (·.2)).flatten=best at*;apply Ex.for (Inv:=λi c' ρ'=>∃q',Inv a q c.σ c' ((slots (i:Int)).foldl (λq s=>q.aO s ((look best s).elim none (·.2))) {p with phase:=2,prom:=[]}) q'/\c'.σ bb=some (.i (cJ (gK best)))/\bb∉q'.bI/\Sub [("best",.r bb),("self",.r a)] ρ')
 .apply YV (a:=1) (b:=dI (best.map (·.1))+1)
  .left
  .apply dU
   .apply Ru (kvs:=cJ (gK best)) (d:=0)
    .left
    .exact L4
    left
   .left
   have e:(if cJ (gK best)=[] then(0:Int) else dI ((cJ (gK best)).map (·.1)))=dI (best.map (·.1)):=by
    rw[G3];split
    .rename_i h;have:best=[]:=by simpa [cJ,gK] using h
     rw[this];rfl
    rfl
   rw[e];exact pP
  .decide
  .exact acm qm aay aa aa
  exact tnK qm aa;left
 .exact⟨_,I4,L4,hbn,xA⟩
 .intro i d c' ρ' cu hd z2;let ⟨q',I',hb',acN,uo⟩:=z2;let ⟨M,σ,wr,zy⟩:=bY (c:=b) cu;let ⟨zy,hi⟩:=acv hd;let ⟨RP,CA⟩:=NV (λs=>(look best s).elim none (·.2)) {p with phase:=2,prom:=[]} nV h0 i
  have aef:(slots ((i+1:Nat):Int)).foldl (λ(q:cA) s=>q.aO s ((look best s).elim none (·.2))) {p with phase:=2,prom:=[]}=((slots (i:Int)).foldl (λ(q:cA) s=>q.aO s ((look best s).elim none (·.2))) {p with phase:=2,prom:=[]}).aO ((i:Int)+1) ((look best ((i:Int)+1)).elim none (·.2)):=by
   have e:slots ((i+1:Nat):Int)=slots (i:Int)++[(i:Int)+1]:=by
    unfold slots;simp only[iX];rw[BI,eB];rfl
   rw[e,t9];rfl
  rw[aef];generalize(slots (i:Int)).foldl (λq s=>q.aO s ((look best s).elim none (·.2))) {p with phase:=2,prom:=[]}=pp at I' RP CA⊢;have b1:=RP.out;have b2:=RP.acc;have b3:=RP.ch;have b4:=RP.pl;dsimp only at b1 b2 b3 b4;rw[h0,Ew] at b4;have b5:pp.me=p.me:=RP.me;have b6:pp.size=p.size:=RP.size;refine⟨_,i7 ⟨.inl aa,rfl,rfl⟩,?_⟩;refine kN (ρ':=[("s",.d (.int ((i:Int)+1))),("best",.r bb),("self",.r a)]) ?_ (λx v e=>by
   by_cases hx:x="s"
   .subst hx;exact e
   rw[aW hx] at e;show((("s":Str),lF (.int ((i:Int)+1)))::ρ').lookup x=some v;rw[aW hx];exact uo x v e)
  have F:=G2 W (a:=a) (q:=q') (p:=pp) (s:=(i:Int)+1) (v:=(look best ((i:Int)+1)).elim none (·.2)) (CA _ (Pj _)) (by rw[b5];exact Vj) (by rw[b5];exact hm4) (by rw[b6];exact nV) (bdx hz b1 (T3 qm hi) aa) (bd1 hc b3 (T3 qm hi) aa) (bd1 ha b2 (T3 qm hi) aa) (bd1 (fF (qJ 1000000)) b4 (T3 qm hi) aa);apply Ex.RI I' (De W) F
  .rfl
  .rfl
  .apply br
   .left
   .apply br
    .exact Ev.abZ hb' aa aa
    .left
    left
   left
  .exact g8 hn aa
  intro c3 q3 CL I3 hk3;apply aT;apply dM;let ⟨k1,k2⟩:=hk3 bb _ acN hb';exact⟨q3,I3,k1,k2,λx v e=>by
   have hx:x≠"s":=by intro h;subst h;cases e
   rw[aW hx];exact e⟩
  left
 intro c' ρ' cu z2;let ⟨q',I',hb',acN,uo⟩:=z2;apply aT;apply dM;dsimp only[G4];rw[aee,qx];have e:(dW 1 (dI (best.map (·.1))+1-1).toNat).length=(dI (best.map (·.1))).toNat:=by simp[dW]
 rw[e] at I';exact I'.done;left;left;left
end
def fT{ρ:Nm}:∀p∈([]:Nm),ρ.lookup p.1=none:=λp hp=>(nomatch hp)
def bV{ρ tb:Nm}(h:ρ.lookup n=none)(k:∀p∈tb,ρ.lookup p.1=none):∀p∈(n,v)::tb,ρ.lookup p.1=none:=λp hp=>(bZ.mp hp).elim (λe=>e▸h) (k p)
section
variable {g:G0}{P:Params}(W:WW g P)
include W
def aeg{p:cA}(pF:Nk p.acc)(rW:p.acc.length<64):yj g 1 31 [.r a] (λσ=>bh σ a p q) (.lst ((aI p.acc).map bM)):=by
 refine rA (n:=0) (RM W) aa λc L hg hn hp=>?_
 subst hg;unfold GK bodyPick;apply jX (d:=.lst ((aI p.acc).map bM))
 case hr=>rfl
 apply kM;apply cH;have e:(aI p.acc).map bM=((aI p.acc).filter λz=>true).map bM:=by rw[vI.mpr λz z=>rfl]
 rw[e];apply wH (enc:=λt=>.int t.1)
 .apply kK;apply GV
  .exact jN (P:=P) (bT W) (qB W) hp aa aa
  .exact hp.acc
  .exact G3 _
  .exact rW
  left
 .intro La cs M X t ht;refine⟨_,i7 ⟨.inl aa,rfl,rfl⟩,?_,rq,λz=>?_⟩
  .exact bV aa fT
  have ng:look p.acc t.1=some t.2:=pF.look (jB.mp ht);apply dU
  .left
  .apply sX
   .exact jN (P:=P) (bT W) (qB W) hp aa aa
   .exact hp.acc
   .left
   .rw[mH,ng];rfl
   left
  exact uw (by show 3<=1000000;decide)
 .rw[cY];unfold ck;exact aG (ee ‹_›) (by decide)
 rfl;left
end
def Ev.G5(W:WW c.toG0 P)(hp:bh c.σ a p q)(hs:fR ρ "self" (.r a))(pF:Nk p.acc)(rW:p.acc.length<64)(hn:1<=c.n)(bS:attributeBase (.Name "self" p1) "acc_list" c.env (eval (.Name "self" p1) c.env)=eval (.Name "self" p1) c.env)(hline:(p2.endLine==p3.line)=true):Ev c ρ (.Call (.Attribute (.Name "self" p1) "acc_list" p2) [] [] p3) (.d (.lst ((aI p.acc).map bM))):=
 Ev.SJ (aeg W (a:=a) (q:=q) pF rW) (N3 W) (aj hs) hp.o hp.t aa fj hn hp (λz=>rfl) bS hline
section
variable {g:G0}{P:Params}(W:WW g P)
include W
def aeh{a:Addr}{p:cA}{q:PA}(k1:Nk p.acc)(k2:Nk p.ak)(k3:p.phase=1->Nk p.prom/\p.prom.length<64)(k4:p.phase=2->Nk p.props/\p.props.length<64/\∀x∈p.props,x.2.2.length<64)(l1:p.acc.length<64)(l2:p.ak.length<64)(qC:p.phase<=2):yj g 3 36 [.r a] (λσ=>bh σ a p q) (bK p.tup):=by
 intros g P a p q _ W k1 k2 k3 k4 l1 l2 qC;refine rA (n:=2) (aea W) aa λc L hg hn hp=>?_;intros c L _ hg hn hp
 subst hg
 have fin:∀(ρ:Nm) (k:List (List Stmt)),fR ρ "self" (.r a)->fR ρ "heard" (.d (.lst (fZ p.tup)))->Ex (c.fn (DN P) 36 L λz=>False) ρ (((Lx P).drop 2)::k) (λz z=>bK p.tup=.none) (λz d'=>d'=bK p.tup):=by
  intro ρ k hs hh;intros ρ k _ hs hh;unfold Lx bodyPick;refine kN (ρ':=[("self",.r a),("heard",.d (.lst (fZ p.tup)))]) ?_ (λx v e=>by
   by_cases hx:x="self"
   .subst hx;rw[fY] at e;rw[<-e];exact hs
   rw[aW hx] at e
   by_cases hy:x="heard"
   .subst hy;rw[fY] at e;rw[<-e];exact hh
   exact ns (aW hy) e)
  apply jX (d:=bK p.tup)
  case hr=>rfl
  apply kM;apply cI
  .apply aP
   .exact jN (P:=P) (bT W) (pG W) hp aa aa
   apply aP
   .exact jN (P:=P) (bT W) (lN W) hp aa aa
   apply aP
   .exact jN (P:=P) (bT W) (iL W) hp aa aa
   apply aP
   .exact Ev.G5 W hp aa k1 l1 (by exact g8 hn aa) aa aa
   apply aP
   .apply cH;have e:(aI p.ak).map gJ=((aI p.ak).filter λz=>true).map gJ:=by rw[vI.mpr λz z=>rfl]
    rw[show p.tup.ak=aI p.ak from rfl,e];apply wH (enc:=λt=>.int t.1)
    .apply kK;apply GV
     .exact jN (P:=P) (bT W) (lV W) hp aa aa
     .exact hp.ch
     .simp[cJ,fz,uh]
     .exact l2
     left
    .intro La cs M X t ht;intros La cs M X t _ ht;refine⟨_,i7 ⟨.inl aa,rfl,rfl⟩,?_,rq,λz=>?_⟩
     .exact bV aa fT
     have ng:look p.ak t.1=some t.2:=k2.look (jB.mp ht);apply cI
     .apply aP
      .left
      apply aP
      .apply sX
       .exact jN (P:=P) (bT W) (lV W) hp aa aa
       .exact hp.ch
       .left
       .rw[oM];unfold fz;rw[jm,ng];rfl
       left
      exact bq
      all_goals rfl
     left
    .rw[cY];unfold ck;exact aG (ee ‹_›) (by decide)
    rfl;left
   apply aP
   .exact jN (P:=P) (bT W) (d9 W) hp aa aa
   apply aP
   .exact jN (P:=P) (bT W) (iD W) hp aa aa
   apply aP
   .exact aj aa
   exact bq
   all_goals rfl
  left
 unfold Lx bodyPick at fin⊢;apply gS (x:="heard") (v:=.d (.lst []))
 .exact cH (fH bq)
 .exact⟨.inl aa,rfl,rfl⟩
 apply cP
 .apply bR
  .exact jN (P:=P) (bT W) (d9 W) hp aa aa
  .left
  .exact fX minZ
  left
 .intro hb;rw[jy] at hb;have gM:p.phase=1:=fG hb;have l3:=(k3 gM).2;have k3:=(k3 gM).1
  have he:fZ p.tup=((aI p.prom).filter λz=>true).map kc:=by
   rw[vI.mpr λz z=>rfl];show(if p.phase=1 then(if p.phase=1 then aI p.prom else[]).map kc else _)=_;rw[aq gM,aq gM]
  rw[he] at fin;apply Fj (x:="heard")
  .apply FH;apply wN
   .apply Cr (ts:=aI p.prom) (g:=kc) (q:=λz=>true) (enc:=λt=>.int t.1)
    .apply kK;apply GV
     .exact jN (P:=P) (bT W) (eW W) hp aa aa
     .exact hp.pm
     .simp[cJ,dO,uh]
     .exact l3
     left
    .intro La cs M X t ht;intros La cs M X t _ ht;refine⟨_,i7 ⟨.inl aa,rfl,rfl⟩,?_,rq,λz=>?_⟩
     .exact bV aa fT
     have ng:look p.prom t.1=some t.2:=k3.look (jB.mp ht);apply cI
     .apply aP
      .left
      apply aP
      .apply sX
       .exact jN (P:=P) (bT W) (eW W) hp aa aa
       .exact hp.pm
       .left
       .rw[oM];unfold dO;rw[jm (λy:List bf=>kJ (y.map bM)),ng];rfl
       left
      exact bq
      all_goals rfl
     left
    .rw[cY];unfold ck;exact aG (ee ‹_›) (by decide)
    rfl;left
   .exact⟨.inl aa,rfl,rfl⟩
   rfl
  apply aT;exact fin _ _ aa aa
 intro hb;rw[jy] at hb;have gM:¬p.phase=1:=of_decide_eq_false hb;apply cP
 .apply bR
  .exact jN (P:=P) (bT W) (d9 W) hp aa aa
  .left
  .exact fX minZ
  left
 .intro hb;rw[g5 qC] at hb;have fD:p.phase=2:=fG hb;have l4:=(k4 fD).2.1;have l5:=(k4 fD).2.2;have k4:=(k4 fD).1
  have he:fZ p.tup=((aI p.props).filter λz=>true).map (λx=>kg (x.1,(x.2.1,d7 x.2.2))):=by
   rw[vI.mpr λz z=>rfl];show(if p.phase=1 then _ else if p.phase=2 then(if p.phase=2 then se p.props else[]).map kg else _)=_;rw[ay gM,aq fD,aq fD];unfold se;rw[cV];rfl
  rw[he] at fin
  have qb:(q.xs.map λx=>(x.k,gn x.la)).map (·.1)=p.props.map (·.1):=by
   have:=cj (qN (·.1)) hp.props
   simpa [ja,PE.v,uh] using this
  apply Fj (x:="heard")
  .apply FH;apply wN
   .apply Cr (ts:=aI p.props) (g:=λx=>kg (x.1,(x.2.1,d7 x.2.2))) (q:=λz=>true) (enc:=λt=>.int t.1)
    .apply kK;apply GV
     .exact jN (P:=P) (bT W) (fS W) hp aa aa
     .exact hp.pp
     .exact qb
     .exact l4
     left
    .intro La cs M X t ht;intros La cs M X t _ ht;refine⟨_,i7 ⟨.inl aa,rfl,rfl⟩,?_,rq,λz=>?_⟩
     .exact bV aa fT
     have hmt:=jB.mp ht;have ng:look p.props t.1=some t.2:=k4.look hmt;obtain⟨x,v',sY,hx,hk,Cm,tw,hd,nU⟩:∃x v' ks',x∈q.xs/\x.k=t.1/\look p.props t.1=some (v',ks')/\look (q.xs.map λx=>(x.k,gn x.la)) t.1=some (.r x.la)/\x.d=bl v'/\x.ks=ks':=by
      rcases tT hp.props t.1 with⟨e,_⟩|h
      .exact ns e ng
      exact h
     have hvn:t.2=(v',sY):=by rw[ng] at Cm;simpa using Cm
     have wO:=hp.xs x hx;rw[hd,nU] at wO;refine cI (ds:=[.int t.1,bl t.2.1,.lst (bA (d7 t.2.2))]) ?_;rw[hvn];apply aP
     .left
     apply aP
     .apply zW (k:=0) (j:=0)
      .apply sX
       .exact jN (P:=P) (bT W) (fS W) hp aa aa
       .exact hp.pp
       .left
       .exact tw
       left
      .exact wO.1
      left
     apply aP
     .apply Ev.ad3 (ks:=sY)
      .apply zW (k:=1) (j:=1)
       .apply sX
        .exact jN (P:=P) (bT W) (fS W) hp aa aa
        .exact hp.pp
        .left
        .exact tw
        left
       .exact wO.1
       left
      .exact wO.2
      have:=l5 t hmt;rw[hvn] at this;exact this;left
     exact bq
     all_goals rfl
    .rw[cY];unfold ck;exact aG (ee ‹_›) (by decide)
    rfl;left
   .exact⟨.inl aa,rfl,rfl⟩
   rfl
  apply aT;apply aT;exact fin _ _ aa aa
 intro hb;rw[g5 qC] at hb;have fD:¬p.phase=2:=of_decide_eq_false hb
 have he:fZ p.tup=[]:=by
  show(if p.phase=1 then _ else if p.phase=2 then _ else[])=_;rw[ay gM,ay fD]
 rw[he] at fin;apply aT;apply aT;exact fin _ _ aa aa;left
def qG{a:Addr}{q:PA}{c:C}{L:Addr}{kd:Str}{b:bg}{f t:Int}{rs:List D}{Pp:C->Nm->Prop}{R:C->D->Prop}(h2:rs.length<=2)(r:Ex (c.fn (fu P) 85 L λx=>x∈q.bI) [("rest",.d (.tup rs)),("frm",.d (.int f)),("b",.d (aD b)),("kind",.d (.str kd)),("self",.r a),("m",.d (.tup ([.str kd,aD b,.int f,.int t]++rs)))] [(iP P).drop 1] Pp R):
 Ex (c.fn (fu P) 85 L λx=>x∈q.bI) [("self",.r a),("m",.d (.tup ([.str kd,aD b,.int f,.int t]++rs)))] [iP P] Pp R:=by
 intros g P a q c L kd _ W b f t rs Pp R h2 r;intros b f t rs Pp R _ W h2 r;unfold iP bodyPick at r⊢;have hm:∀{p:Pos},Ev (c.fn (fu P) 85 L λx=>x∈q.bI) [("self",.r a),("m",.d (.tup ([.str kd,aD b,.int f,.int t]++rs)))] (.Name "m" p) (.d (.tup ([.str kd,aD b,.int f,.int t]++rs))):=aj aa;have aaB:∀{i:Nat} (hi:i<4),seqIndex? (i:Int) ([D.str kd,aD b,.int f,.int t]++rs).length=some i:=λ{i} hi=>aZ (jD hi (iQ 4 rs.length))
 apply Ft (Q:=λc' vs=>c'=(c.fn (fu P) 85 L λx=>x∈q.bI)/\vs=[.d (.str kd),.d (aD b),.d (.int f),.d (.tup rs)])
 .apply zZ;apply br
  .exact bE hm aN (aaB (i:=0) (by decide)) aa
  apply br
  .exact bE hm aN (aaB (i:=1) (by decide)) aa
  apply br
  .exact bE hm aN (aaB (i:=2) (by decide)) aa
  apply br
  .exact z8 hm (Dp.int (k:=4) aN) Dp.none (abQ _ _ _ _ rs)
  exact fj
  all_goals rfl
 intro c' vs cu z2;let ⟨zy,zy⟩:=z2;exact⟨_,_,fJ (jZ ⟨.inl aa,rfl,rfl⟩) aa (fJ (jZ ⟨.inl aa,rfl,rfl⟩) aa (fJ (jZ ⟨.inl aa,rfl,rfl⟩) aa (fJ (jZ ⟨.inl aa,rfl,rfl⟩) aa pY))),r⟩;left
def RQ{a:Addr}{p:cA}{q:PA}{b:bg}{f t:Int}(F:Bd p):lH g 9 85 [.r a,.d (bG (.prepare b f t))] (λx=>x∈q.bI) (λσ=>bh σ a p q) (tu a q (p.message (.prepare b f t))):=by
 intros g P a p q b f t _ W F;refine k9 (n:=8) (oS W) aa λc L hg hn hO hp=>?_;intros c L _ hg hn hO hp
 subst hg;have fl:=F.out;have fa:=F.acc;have fc:=F.ch;refine qG W (kd:="prepare") (b:=b) (f:=f) (t:=t) (rs:=[]) (bz aa) ?_;unfold iP bodyPick;have I:=oO (fd:=fu P) (fa:=85) (L:=L) hp;apply cP
 .apply bR
  .left
  left
 case h2=>intro hb;exact aK hb (by decide+kernel)
 intro qf;clear qf;apply cP
 .apply bR
  .left
  .left
  .exact Cc (op:=.Lt) (qA b p.promised) (qp _) aa
  left
 .intro hb;apply CK (m:=.refuse b p.me f p.promised) I (bT W) (gm W)
  .rfl
  .left
  .exact oZ ‹_› rfl
  intro c' cu I1;intros c' _ cu I1;apply aT;apply aT;apply aT;apply dM;unfold mD;dsimp only;rw[aq hb];exact I1.done;left
 intro hb;have F1:=G1 W (a:=a) (p:=p) (q:=q) (b:=b);apply qe I (yN W) F1
 .rfl
 .rfl
 .left
 .exact g8 hn aa
 intro c1 q1 gv I1;intros c1 q1 _ gv I1;let ⟨M,σ,wr,zy⟩:=bY gv;have pp:=kD (p:=p) b;apply Ex.nmT;exact aa;decide+kernel;apply CK (m:=.promise b (p.dF b).me f (aI (p.dF b).acc)) I1 (bT W) (gm W)
 .rfl
 .apply cI
  .apply aP
   .left
   apply aP
   .left
   apply aP
   .left
   apply aP
   .left
   apply aP
   .exact Ev.G5 W I1.at' aa (by rw[pp.2.2.1];exact F.n7) (by rw[pp.2.2.1];exact F.acc) (by exact g8 hn aa) aa aa
   exact bq
   all_goals rfl
  left
 .rw[pp.1];exact oZ ‹_› rfl
 intro c' cu I2;intros c' _ cu I2;apply aT;apply aT;apply aT;apply aT;apply dM;unfold mD;dsimp only;rw[ay (by rw[hb];simp)];exact I2.done;left;left
def Vq{a:Addr}{p:cA}{q:PA}{b:bg}{f t s:Int}{v:Option Str}(F:Bd p):lH g 9 85 [.r a,.d (bG (.accept b f t s v))] (λx=>x∈q.bI) (λσ=>bh σ a p q) (tu a q (p.message (.accept b f t s v))):=by
 intros g P a p q b f t s v _ W F;refine k9 (n:=8) (oS W) aa λc L hg hn hO hp=>?_;intros c L _ hg hn hO hp
 subst hg;have fl:=F.out;have fa:=F.acc;have fc:=F.ch;refine qG W (kd:="accept") (b:=b) (f:=f) (t:=t) (rs:=[.int s,bl v]) (bz aa) ?_;unfold iP bodyPick;have I:=oO (fd:=fu P) (fa:=85) (L:=L) hp;apply cP
 .apply bR
  .left
  left
 case h2=>intro hb;exact aK hb (by decide+kernel)
 intro qf;clear qf;apply cP
 .apply bR
  .left
  .left
  .exact Cc (op:=.Lt) (qA b p.promised) (qp _) aa
  left
 .intro hb;apply CK (m:=.refuse b p.me f p.promised) I (bT W) (gm W)
  .rfl
  .left
  .exact oZ ‹_› rfl
  intro c' cu I1;intros c' _ cu I1;apply aT;apply aT;apply aT;apply dM;unfold mD;dsimp only;rw[aq hb];exact I1.done;left
 intro hb;have F1:=G1 W (a:=a) (p:=p) (q:=q) (b:=b);apply qe I (yN W) F1
 .rfl
 .rfl
 .left
 .exact g8 hn aa
 intro c1 q1 gv I1;intros c1 q1 _ gv I1;let ⟨M,σ,wr,zy⟩:=bY gv;intros M σ wr _ gv I1;have pp:=kD (p:=p) b;apply CI;exact aa;decide+kernel;apply mY
 .apply rz;apply cI (ds:=[aD b,bl v]);apply aP
  .left
  apply aP
  .apply bE (ds:=[.int s,bl v]) (j:=1)
   .left
   left
  exact bq
  all_goals rfl
  left
 .intro c2 v2 oi z2;let ⟨zy,zy⟩:=z2;have I2:=I1.acc s (b,v);refine⟨_,_,zO (by left) (bE (ds:=[.int s,bl v]) (j:=0) (x:=.int s) (by left) aN aa aa) I1.at'.acc (I1.wr _ zX) (by rw[pp.2.2.1];simp[cJ,gK];exact lim ‹_› rfl),?_⟩;apply CK (m:=.accepted b (p.dF b).me f s) I2 (bT W) (gm W)
  .rfl
  .apply cI
   .apply aP
    .left
    apply aP
    .left
    apply aP
    .left
    apply aP
    .left
    apply aP
    .exact bE (ds:=[.int s,bl v]) (j:=0) (x:=.int s) (by left) aN aa aa
    exact bq
    all_goals rfl
   left
  .show(p.dF b).out.length+1<=ck;rw[pp.1];exact oZ ‹_› rfl
  intro c' cu I3;intros c' _ cu I3;apply aT;apply aT;apply aT;apply aT;apply dM;unfold mD;dsimp only;rw[ay (by rw[hb];simp)];exact I3.done;left
 left;left
def Vr{a:Addr}{p:cA}{q:PA}{b:bg}{f t s:Int}{v:Option Str}(F:Bd p):lH g 9 85 [.r a,.d (bG (.ak b f t s v))] (λx=>x∈q.bI) (λσ=>bh σ a p q) (tu a q (p.message (.ak b f t s v))):=by
 intros g P a p q b f t s v _ W F;refine k9 (n:=8) (oS W) aa λc L hg hn hO hp=>?_;intros c L _ hg hn hO hp
 subst hg;have fl:=F.out;have fa:=F.acc;have fc:=F.ch;refine qG W (kd:="chosen") (b:=b) (f:=f) (t:=t) (rs:=[.int s,bl v]) (bz aa) ?_;unfold iP bodyPick;have I:=oO (fd:=fu P) (fa:=85) (L:=L) hp;apply cP
 .apply bR
  .left
  left
 .intro hb;exact aK hb (by decide+kernel)
 intro qf;clear qf;apply Ex.nmT;exact aa;decide+kernel;apply pX
 .apply g9.M0 (kvs:=cJ (fz p.ak)) (i:=s) (x:=bl v)
  .left
  .exact hp.ch
  .exact I.wr _ xw
  .exact bE (ds:=[.int s,bl v]) (j:=0) (x:=.int s) (by left) aN aa aa
  .exact bE (ds:=[.int s,bl v]) (j:=1) (x:=bl v) (by left) aN aa aa
  simp[cJ,fz];(first|(refine lim ‹_› ?_;rfl)|(refine oZ ‹_› ?_;rfl)|(show _<=1000000;lia));left
 .intro c1 v1 gv z2;subst z2;apply aT;apply aT;apply aT;apply dM;rw[oQ];unfold mD;dsimp only
  by_cases h:(look p.ak s).isSome=true
  .rw[aq h,aq h];refine(I.C9 xw ?_).done;rw[Sg.set_same I.at'.ch];exact I.at'
  rw[ay h,ay h];exact(I.ak s v).done
 left
def Vs{a:Addr}{p:cA}{q:PA}{b:bg}{f t:Int}{r:bg}(F:Bd p):lH g 9 85 [.r a,.d (bG (.refuse b f t r))] (λx=>x∈q.bI) (λσ=>bh σ a p q) (tu a q (p.message (.refuse b f t r))):=by
 intros g P a p q b f t r _ W F;refine k9 (n:=8) (oS W) aa λc L hg hn hO hp=>?_;intros c L _ hg hn hO hp
 subst hg;have fl:=F.out;have fa:=F.acc;have fc:=F.ch;refine qG W (kd:="refuse") (b:=b) (f:=f) (t:=t) (rs:=[aD r]) (bz aa) ?_;unfold iP bodyPick;have I:=oO (fd:=fu P) (fa:=85) (L:=L) hp;apply cP
 .apply bR
  .left
  left
 .intro hb;exact aK hb (by decide+kernel)
 intro qf;clear qf;apply CI;exact aa;decide+kernel;apply cP
 .apply iZ;apply gQ
  .apply bR
   .left
   .left
   .exact fX (aG (lW _ _) (qp _))
   left
  .intro _;apply gQ
   .apply bR
    .left
    .left
    .exact ur minZ
    left
   intro _;exact pR
 case h2=>
  intro hb;rw[nQ,rN] at hb;apply aT;apply aT;apply aT;apply aT;apply dM;unfold mD;dsimp only;rw[ay (by intro h;rw[decide_eq_true h.1,decide_eq_false h.2.1] at hb;cases hb)];exact I.done
 intro hb;rw[nQ,rN] at hb;have gM:b=p.af:=by simp at hb;exact hb.1
 have fD:p.phase≠0:=by simp at hb;exact hb.2
 apply Ex.nmT;exact aa;decide+kernel;apply cP
 .apply bR
  .exact bE (ds:=[aD r]) (j:=0) (x:=aD r) (by left) aN aa aa
  .left
  .exact Cc (op:=.Gt) (DP r p.af) (qp _) aa
  left
 case h2=>
  intro hb;apply aT;apply aT;apply aT;apply aT;apply aT;apply aT;apply dM;unfold mD;dsimp only;rw[ay (by intro h;rw[h.2.2] at hb;cases hb)];exact I.done
 intro L5;apply LC I (bT W) (iD W) (v:=.d (aD (r.1,p.me)))
 .apply cI
  .apply aP
   .exact bE (ds:=[.int r.1,.int r.2]) (j:=0) (x:=.int r.1) (bE (ds:=[aD r]) (j:=0) (x:=aD r) (by left) aN aa aa) aN aa aa
   apply aP
   .left
   exact bq
   all_goals rfl
  left
 .rfl
 have I1:=I.af (r.1,p.me);apply Ex.idle (ph:=0) I1 (bT W) (d9 W) (eW W) (fS W)
 .rfl
 .rfl
 .decide+kernel
 intro c' q' cu I2;intros c' q' _ cu I2;apply aT;apply aT;apply aT;apply aT;apply aT;apply aT;apply dM;unfold mD;dsimp only;rw[aq ⟨gM,fD,L5⟩];exact I2.done;left;left
def RS{a:Addr}{p:cA}{q:PA}{b:bg}{f t:Int}{ks:List bf}(F:Bd p)(hM:Be p (.promise b f t ks)):lH g 9 85 [.r a,.d (bG (.promise b f t ks))] (λx=>x∈q.bI) (λσ=>bh σ a p q) (tu a q (p.message (.promise b f t ks))):=by
 intros g P a p q b f t ks _ W F hM;refine k9 (n:=8) (oS W) aa λc L hg hn hO hp=>?_;intros c L _ hg hn hO hp
 subst hg;have fl:=F.out;have fa:=F.acc;have fc:=F.ch;refine qG W (kd:="promise") (b:=b) (f:=f) (t:=t) (rs:=[.lst (ks.map bM)]) (bz aa) ?_;unfold iP bodyPick;have I:=oO (fd:=fu P) (fa:=85) (L:=L) hp;apply cP
 .apply bR
  .left
  left
 .intro hb;exact aK hb (by decide+kernel)
 intro qf;clear qf;apply CI;exact aa;decide+kernel;apply cP
 .apply iZ;apply gQ
  .apply bR
   .left
   .left
   .exact fX (aG (lW _ _) (qp _))
   left
  .intro _;apply gQ
   .apply bR
    .left
    .left
    .exact ur minZ
    left
   intro _;exact pR
 case h2=>
  intro hb;rw[nQ,rN] at hb;apply aT;apply aT;apply aT;apply aT;apply dM;unfold mD;dsimp only;rw[ay (by intro h;rw[decide_eq_true h.1,decide_eq_false (λe=>aK (h.2.1.symm.trans e) (by decide))] at hb;cases hb)];exact I.done
 intro hb;rw[nQ,rN] at hb;have gM:b=p.af:=by simp at hb;exact hb.1
 have fD:p.phase≠0:=by simp at hb;exact hb.2
 apply CI;exact aa;decide+kernel;apply cP
 .apply iZ;apply gQ
  .apply bR
   .left
   .left
   .exact fX minZ
   left
  .intro _;apply gQ
   .apply bR
    .left
    .left
    .exact fX minZ
    left
   intro _;exact pR
 case h2=>
  intro hb;have hk:eT (.str "promise") (.str "promise")=true:=by decide+kernel
  rw[hk,jy] at hb;have L5:¬p.phase=1:=by simpa using hb
  apply cP
  .apply iZ;apply gQ
   .apply bR
    .left
    .left
    .exact fX minZ
    left
   case b=>exact true
   intro h;exact aK h (by decide+kernel)
  .intro h;exact aK h (by decide+kernel)
  intro _;apply aT;apply aT;apply aT;apply aT;apply aT;apply aT;apply aT;apply dM;unfold mD;dsimp only;rw[ay (by intro h;exact L5 h.2.1)];exact I.done
 intro hb;have hk:eT (.str "promise") (.str "promise")=true:=by decide+kernel
 rw[hk,jy] at hb;have L5:p.phase=1:=by simpa using hb
 apply cP
 .apply bR
  .left
  .left
  .exact FO hp.pm
  left
 case h2=>
  intro hb;apply aT;apply aT;apply aT;apply aT;apply aT;apply aT;apply aT;apply dM;unfold mD;dsimp only;rw[ay (by
   intro h;rw[oM] at hb;unfold dO at hb;rw[jm (λy:List bf=>kJ (y.map bM)),h.2.2] at hb;cases hb)]
  exact I.done
 intro hb
 have hb4:look p.prom f=none:=by
  rw[oM] at hb;unfold dO at hb;rw[jm (λy:List bf=>kJ (y.map bM))] at hb;cases h:look p.prom f with
  |none=>rfl
  |some x=>rw[h] at hb;cases hb
 have LO:=hM gM L5 hb4;apply mY
 .exact rz (bE (ds:=[.lst (ks.map bM)]) (j:=0) (x:=.lst (ks.map bM)) (by left) aN aa aa)
 .intro c2 v2 oi z2;let ⟨zy,zy⟩:=z2;have I2:=I.abP f ks;have xB:=F.pm;refine⟨_,_,zO (by left) (by left) I.at'.pm (I.wr _ zY) (by simp[cJ,dO];exact oZ ‹_› rfl),?_⟩;have F1:=Tj W (a:=a) (q:=q) (p:={p with prom:=put p.prom f ks}) (F.p0 λe=>aK (L5.symm.trans e) (by decide)) F.me0 F.me4 F.size (aG (gU p.prom f ks) (gw xB)) LO.it LO.lo LO.hi (by exact lA ‹_› rfl) (by exact lA ‹_› rfl) (by exact lA (ee ‹_›) aa);apply qe I2 (N5 W) F1
  .rfl
  .rfl
  .exact fj
  .exact g8 hn aa
  intro c3 q3 CL I3;intros c3 q3 _ CL I3;apply aT;apply aT;apply aT;apply aT;apply aT;apply aT;apply aT;apply dM;unfold mD;dsimp only;rw[aq ⟨gM,L5,hb4⟩];exact I3.done;left
 left
def Oa{a:Addr}{p:cA}{q:PA}{b:bg}{f t s:Int}(F:Bd p)(hM:Be p (.accepted b f t s)):lH g 9 85 [.r a,.d (bG (.accepted b f t s))] (λx=>x∈q.bI) (λσ=>bh σ a p q) (tu a q (p.message (.accepted b f t s))):=by
 intros g P a p q b f t s _ W F hM;refine k9 (n:=8) (oS W) aa λc L hg hn hO hp=>?_;intros c L _ hg hn hO hp
 subst hg;have fl:=F.out;have fa:=F.acc;have fc:=F.ch;refine qG W (kd:="accepted") (b:=b) (f:=f) (t:=t) (rs:=[.int s]) (bz aa) ?_;unfold iP bodyPick;have I:=oO (fd:=fu P) (fa:=85) (L:=L) hp;apply cP
 .apply bR
  .left
  left
 .intro hb;exact aK hb (by decide+kernel)
 intro qf;clear qf;apply CI;exact aa;decide+kernel;apply cP
 .apply iZ;apply gQ
  .apply bR
   .left
   .left
   .exact fX (aG (lW _ _) (qp _))
   left
  .intro _;apply gQ
   .apply bR
    .left
    .left
    .exact ur minZ
    left
   intro _;exact pR
 case h2=>
  intro hb;rw[nQ,rN] at hb;apply aT;apply aT;apply aT;apply aT;apply dM;unfold mD;dsimp only;rw[ay (by intro h;rw[decide_eq_true h.1,decide_eq_false (λe=>aK (h.2.symm.trans e) (by decide))] at hb;cases hb)];exact I.done
 intro hb;rw[nQ,rN] at hb;have gM:b=p.af:=by simp at hb;exact hb.1
 have fD:p.phase≠0:=by simp at hb;exact hb.2
 apply CI;exact aa;decide+kernel;apply cP
 .apply iZ;apply gQ
  .apply bR
   .left
   .left
   .exact fX minZ
   left
  case b=>exact true
  intro h;exact aK h (by decide+kernel)
 .intro h;exact aK h (by decide+kernel)
 intro qf;clear qf;apply cP
 .apply iZ;apply gQ
  .apply bR
   .left
   .left
   .exact fX minZ
   left
  .intro _;apply gQ
   .apply bR
    .left
    .left
    .exact fX minZ
    left
   intro _;apply gQ
   .apply bR
    .exact bE (ds:=[.int s]) (j:=0) (x:=.int s) (by left) aN aa aa
    .left
    .exact QO hp.pp
    left
   intro _;exact pR
 case h2=>
  intro hb;have hk:eT (.str "accepted") (.str "accepted")=true:=by decide+kernel
  rw[hk,g5 F.ph] at hb;apply aT;apply aT;apply aT;apply aT;apply aT;apply aT;apply aT;apply dM;unfold mD;dsimp only;split
  .rename_i h;split
   .rename_i v ns hl;rcases tT hp.props s with⟨e,_⟩|⟨x,v',ks',_,_,_,tw,_⟩
    .rw[e] at hl;cases hl
    rw[tw,decide_eq_true h.2] at hb;cases hb
   exact I.done
  exact I.done
 intro hb;have hk:eT (.str "accepted") (.str "accepted")=true:=by decide+kernel
 rw[hk,g5 F.ph] at hb;have L5:p.phase=2:=by simp at hb;exact hb.1
 have hb4:(look (q.xs.map λx=>(x.k,gn x.la)) s).isSome=true:=by simp at hb;simpa using hb.2
 obtain⟨x,v,ns,hx,pD,hl,tw,hd,nU⟩:∃x v ks,x∈q.xs/\x.k=s/\look p.props s=some (v,ks)/\look (q.xs.map λx=>(x.k,gn x.la)) s=some (.r x.la)/\x.d=bl v/\x.ks=ks:=by
  rcases tT hp.props s with⟨_,e⟩|h
  .rw[e] at hb4;cases hb4
  exact h
 have wO:=hp.xs x hx;rw[hd,nU] at wO;have afE:=F.vot _ (gY hl);dsimp only at afE;apply pX
 .apply g9.setAdd (a:=x.sa) (ks:=ns) (i:=f)
  .apply zW (k:=1) (j:=1)
   .apply sX
    .left
    .exact hp.pp
    .exact bE (ds:=[.int s]) (j:=0) (x:=.int s) (by left) aN aa aa
    .exact tw
    left
   .exact wO.1
   left
  .exact wO.2
  .exact I.wr _ (PA.DO hx).2
  .left
  .exact hM.1
  .exact hM.2
  show _<4096;exact f6 (gw ‹_<=4›) (by decide);left
 .intro c1 v1 gv z2;let ⟨zy,z3⟩:=z2;clear z3;have I1:=I.GS F.S8 (ks':=if ns.contains f then ns else ns++[f]) hx pD hl;have F1:=N9 W (a:=a) (q:={q with xs:=q.xs.map λy=>if y.k=s then{y with ks:=if ns.contains f then ns else ns++[f]} else y}) (p:={p with props:=put p.props s (v,if ns.contains f then ns else ns++[f])}) (s:=s) (v:=v) (ns:=if ns.contains f then ns else ns++[f]) (by show look (put p.props s _) s=_;rw[gc,aq aa]) F.size (by exact lA ‹_› rfl) (by exact lA ‹_› rfl);apply qe I1 (Jb W) F1
  .rfl
  .rfl
  .apply br
   .exact bE (ds:=[.int s]) (j:=0) (x:=.int s) (by left) aN aa aa
   .exact fj
   rfl
  .exact g8 hn aa
  intro c3 q3 CL I3;intros c3 q3 _ CL I3;apply aT;apply aT;apply aT;apply aT;apply aT;apply aT;apply aT;apply dM;unfold mD;dsimp only;rw[aq ⟨gM,L5⟩,hl];exact I3.done;left
 left
def RT(F:Bd p)(hM:Be p m):lH g 9 85 [.r a,.d (bG m)] (λx=>x∈q.bI) (λσ=>bh σ a p q) (tu a q (p.message m)):=by
 cases m with
 |prepare b f t=>exact RQ W F
 |promise b f t ks=>exact RS W F hM
 |refuse b f t r=>exact Vs W F
 |accept b f t s v=>exact Vq W F
 |accepted b f t s=>exact Oa W F hM
 |ak b f t s v=>exact Vr W F
end
def Ev.Vt(hp:bh c.σ a p q)(W:WW c.toG0 P)(hs:fR ρ "self" (.r a))(pF:Nk p.acc)(rW:p.acc.length<64)(hn:1<=c.n)(bS:attributeBase (.Name "self" p1) "acc_list" c.env (eval (.Name "self" p1) c.env)=eval (.Name "self" p1) c.env)(hline:(p2.endLine==p3.line)=true)(hl:(aI p.acc).map bM=l):Ev c ρ (.Call (.Attribute (.Name "self" p1) "acc_list" p2) [] [] p3) (.d (.lst l)):=hl▸Ev.G5 W hp hs pF rW hn bS hline
section
variable {g:G0}{P:Params}(W:WW g P)
include W
def aei{a:Addr}{p:cA}{q:PA}(F:Bd p)(LO:LF {p with prom:=[(p.me,aI p.acc)]}):lH g 11 78 [.r a,.d (dc (.run))] (λx=>x∈q.bI) (λσ=>bh σ a p q) (tu a q (p.event (.run))):=by
 intros g P a p q _ W F LO;refine k9 (n:=10) (Bh W) aa λc L hg hn hO hp=>?_;intros c L _ hg hn hO hp
 subst hg;have fl:=F.out;have fa:=F.acc;have fc:=F.ch;have fp:=F.props;unfold xq bodyPick;have I:=oO (fd:=iC P) (fa:=78) (L:=L) hp;refine LD (t:="run") aa (by decide+kernel) ?_;obtain⟨nb,Vu⟩:∃nb:bg,nb=(max p.promised.1 p.af.1+1,p.me):=⟨_,rfl⟩;intros nb _ Vu;apply LC I (bT W) (iD W) (v:=.d (aD nb))
 .rw[Vu];apply cI
  .apply aP
   .apply dU
    .apply Rv
     .exact bE (ds:=[.int p.promised.1,.int p.promised.2]) (j:=0) (x:=.int p.promised.1) (by left) aN aa aa
     .exact bE (ds:=[.int p.af.1,.int p.af.2]) (j:=0) (x:=.int p.af.1) (by left) aN aa aa
     left
    left
   apply aP
   .left
   exact bq
   all_goals rfl
  left
 .rfl
 have I1:=I.af nb;apply LC I1 (bT W) (iL W) (v:=.d (aD nb))
 .left
 .rfl
 have I2:=I1.promised nb;apply Ex.abR (ph:=1) I2 (bT W) (d9 W) (fS W)
 .rfl
 .rfl
 .decide+kernel
 intro c3 q3 CL I3;intros c3 q3 _ CL I3;let ⟨M,σ,wr,zy⟩:=bY (c:=c.fn (iC P) 78 L λx=>x∈q.bI) CL;intros M σ wr _ CL I3;apply mY
 .apply mZ;apply jP.adT (i:=p.me) (x:=.lst ((aI p.acc).map bM))
  .left
  exact Ev.Vt I3.at' W aa F.n7 F.acc (by exact g8 hn aa) aa aa aa
 .intro c4 v4 hc4 z2;let ⟨b1,_,gM,zy,zy⟩:=z2;have I4:=I3.add (cn:=.i [(p.me,.d (.lst ((aI p.acc).map bM)))]) gM;have N4:=I3.nw (cn:=.i [(p.me,.d (.lst ((aI p.acc).map bM)))]) gM;have I5:=I4.prom (l:=[(p.me,aI p.acc)]) N4 s8;refine⟨_,_,RH (bT W) (eW W) I4 aa,?_⟩;have F5:=DU W (a:=a) (q:={q3 with pm:=b1}) (p:={p with af:=nb,promised:=nb,phase:=1,props:=[],prom:=[(p.me,aI p.acc)]}) (mk:=λj=>.prepare nb p.me j) (kind:="prepare") (rs:=[]) (λj=>rfl) F.size (by exact lA ‹_› rfl) (by decide);apply qe I5 (DS W) F5
  .rfl
  .rfl
  .left
  .exact g8 hn aa
  intro c6 q6 hc6 I6;intros c6 q6 _ hc6 I6;let ⟨M,σ,wr,zy⟩:=bY (c:=c.fn (iC P) 78 L λx=>x∈q.bI) hc6;intros M σ wr _ hc6 I6
  have F6:=Tj W (a:=a) (q:=q6) (p:=({p with af:=nb,promised:=nb,phase:=1,props:=[],prom:=[(p.me,aI p.acc)]}:cA).all (λj=>.prepare nb p.me j)) aa F.me0 F.me4 F.size (by show 1<=4;decide) LO.it LO.lo LO.hi (by
   show(p.out++(qd p.size p.me).map _).length+1000<=1000000;rw[bU,aR];exact lA (ig ‹p.out.length<=_› (aG (oN p.size p.me) F.size)) aa) (by exact lA ‹_› rfl) (by exact lA (ee ‹_›) aa)
  apply qe I6 (N5 W) F6
  .rfl
  .rfl
  .exact fj
  .exact g8 hn aa
  intro c7 q7 hc7 I7;intros c7 q7 _ hc7 I7;apply aT;apply aT;apply dM;subst Vu;exact I7.done;left;left
 left;left;left;left
def RU{a:Addr}{p:cA}{q:PA}{v:Option Str}(F:Bd p):lH g 11 78 [.r a,.d (dc (.aO v))] (λx=>x∈q.bI) (λσ=>bh σ a p q) (tu a q (p.event (.aO v))):=by
 intros g P a p q v _ W F;refine k9 (n:=10) (Bh W) aa λc L hg hn hO hp=>?_;intros c L _ hg hn hO hp
 subst hg;have fl:=F.out;have fa:=F.acc;have fc:=F.ch;have fp:=F.props;unfold xq bodyPick;have I:=oO (fd:=iC P) (fa:=78) (L:=L) hp;refine CJ (t:="propose") aa (by decide+kernel) ?_;refine LD (t:="propose") aa (by decide+kernel) ?_;apply cP
 .apply bR
  .left
  .left
  .exact fX minZ
  left
 case h2=>
  intro hb;rw[g5 F.ph] at hb;apply aT;apply aT;apply aT;apply aT;apply dM;unfold F4;dsimp only;rw[ay (of_decide_eq_false hb)];exact I.done
 intro hb;rw[g5 F.ph] at hb;have fD:p.phase=2:=fG hb
 have qb:(q.xs.map λx=>(x.k,gn x.la)).map (·.1)=p.props.map (·.1):=by
  have:=cj (qN (·.1)) hp.props
  simpa [ja,PE.v,uh] using this
 have F1:=G2 W (a:=a) (q:=q) (p:=p) (s:=dI (p.props.map (·.1))+1) (v:=v) (Vc _) F.me0 F.me4 F.size (by show _<=1000000;exact aG (kU ‹_› _) (by decide)) (by show _<=1000000;exact aG (kU ‹_› _) (by decide)) (by exact lK ‹_› rfl) (by exact lK ‹_› rfl);apply qe I (De W) F1
 .rfl
 .rfl
 .apply br
  .apply dU
   .apply Ru (kvs:=q.xs.map λx=>(x.k,gn x.la)) (d:=0)
    .left
    .exact hp.pp
    left
   .left
   have e:(if(q.xs.map λx=>(x.k,gn x.la))=[] then(0:Int) else dI ((q.xs.map λx=>(x.k,gn x.la)).map (·.1)))=dI (p.props.map (·.1)):=by
    rw[qb];split
    .rename_i h;rw[<-qb,h];rfl
    rfl
   rw[e];exact pP
  .apply br
   .exact bE (ds:=[.str "propose",bl v]) (j:=1) (x:=bl v) (by left) aN aa aa
   .exact fj
   rfl
  rfl
 .exact g8 hn aa
 intro c1 q1 gv I1;intros c1 q1 _ gv I1;apply aT;apply aT;apply aT;apply aT;apply dM;unfold F4;dsimp only;rw[aq fD];exact I1.done;left
def aej{a:Addr}{p:cA}{q:PA}{m:cR}(F:Bd p)(hM:Be p m):lH g 11 78 [.r a,.d (dc (.msg m))] (λx=>x∈q.bI) (λσ=>bh σ a p q) (tu a q (p.event (.msg m))):=by
 intros g P a p q m _ W F hM;refine k9 (n:=10) (Bh W) aa λc L hg hn hO hp=>?_;intros c L _ hg hn hO hp
 subst hg;have fl:=F.out;have fa:=F.acc;have fc:=F.ch;have fp:=F.props;unfold xq bodyPick;have I:=oO (fd:=iC P) (fa:=78) (L:=L) hp;refine CJ (t:="message") aa (by decide+kernel) ?_;refine CJ (t:="message") aa (by decide+kernel) ?_;refine CJ (t:="message") aa (by decide+kernel) ?_;have F1:=RT W (a:=a) (q:=q) (p:=p) (m:=m) F hM;apply qe I (N6 W) F1
 .rfl
 .rfl
 .apply br
  .exact bE (ds:=[.str "message",bG m]) (j:=1) (x:=bG m) (by left) aN aa aa
  .exact fj
  rfl
 .exact g8 hn aa
 intro c1 q1 gv I1;intros c1 q1 _ gv I1;apply aT;apply aT;apply aT;apply aT;apply dM;exact I1.done;left
end
def xC(l:List (Int×List bf))(s:Int):(look (cJ (dO l)) s).isSome=(look l s).isSome:=by
 rw[oM];unfold dO;rw[jm (λy:List bf=>kJ (y.map bM))];cases look l s<;>rfl
def jq(p:cA)(x:Int×(Option Str×List Int)):List cR:=if(look p.ak x.1).isSome then(mO p.size p.me).map λj=>.ak p.af p.me j x.1 x.2.1
 else((b9 p.size).filter λj=>!x.2.2.contains j).map λj=>.accept p.af p.me j x.1 x.2.1
def RV(p:cA)(x:Int×(Option Str×List Int))(h:p.size<=4):(jq p x).length<=4:=by
 unfold jq;split
 .rw[aR];exact aG (oN p.size p.me) h
 rw[aR];exact aG (jn _ _) h
section
variable {g:G0}{P:Params}(W:WW g P)
include W
def aaC{a:Addr}{p:cA}{q:PA}(F:Bd p):lH g 11 78 [.r a,.d (dc (.again))] (λx=>x∈q.bI) (λσ=>bh σ a p q) (tu a q (p.event (.again))):=by
 intros g P a p q _ W F;refine k9 (n:=10) (Bh W) aa λc L hg hn hO hp=>?_;intros c L _ hg hn hO hp
 subst hg;have fl:=F.out;have fa:=F.acc;have fc:=F.ch;have fp:=F.props;have fs:=F.size;unfold xq bodyPick;have I:=oO (fd:=iC P) (fa:=78) (L:=L) hp;refine CJ (t:="again") aa (by decide+kernel) ?_;refine CJ (t:="again") aa (by decide+kernel) ?_;refine LD (t:="again") aa (by decide+kernel) ?_;apply cP
 .apply bR
  .left
  .left
  .exact fX minZ
  left
 .intro hb;rw[jy] at hb;have gM:p.phase=1:=fG hb;apply Ex.for (Inv:=λi c' ρ'=>Inv a q c.σ c' {p with out:=p.out++((b9 i).filter λj=>(look p.prom j).isNone).map λj=>.prepare p.af p.me j} q/\Sub [("self",.r a)] ρ')
  .apply uB (n:=p.size)
   .left
   exact Kd ‹_› (by decide);left
  .refine⟨?_,λx v e=>?_⟩
   .have e:p.out++((b9 0).filter λj=>(look p.prom j).isNone).map (λj=>ZA p.af p.me j)=p.out:=by simp[b9]
    rw[e];exact I
   by_cases hx:x="self"
   .subst hx;exact e
   exact ns (aW hx) e
  .intro i d c' ρ' cu hd z2;let ⟨I',hS⟩:=z2;intros i d c' ρ' _ cu hd I' hS;let ⟨M,σ,wr,zy⟩:=bY (c:=c.fn (iC P) 78 L λx=>x∈q.bI) cu;let ⟨zy,hi⟩:=xy hd;have Dk:i<p.size:=by simpa using hi
   refine⟨_,i7 ⟨.inl aa,rfl,rfl⟩,?_⟩;refine kN (ρ':=[("j",.d (.int (i:Int))),("self",.r a)]) ?_ (λx v e=>by
    by_cases hx:x="j"
    .subst hx;exact e
    rw[aW hx] at e;show((("j":Str),lF (.int (i:Int)))::ρ').lookup x=some v;rw[aW hx];exact hS x v e)
   have Mt:Sub [("self",.r a)] [(("j":Str),lF (.int (i:Int))),("self",gn a)]:=λx v e=>by
    have hx:x≠"j":=by intro h;subst h;cases e
    rw[aW hx];exact e
   have cG:=jn i λj=>(look p.prom j).isNone
   have nN:=Bg i λj=>(look p.prom j).isNone
   apply cP
   .apply bR
    .left
    .left
    .exact FO I'.at'.pm
    left
   .intro hb;rw[xC] at hb
    have hn:(look p.prom (i:Int)).isNone=true:=by
     cases h:look p.prom (i:Int) with
     |none=>rfl
     |some x=>rw[h] at hb;cases hb
    apply CK (m:=.prepare p.af p.me i) I' (bT W) (gm W)
    .rfl
    .left
    .simp only[bU,aR];exact lA (ig ‹p.out.length<=_› (aG ‹_<=i› (aG (ee ‹_›) ‹p.size<=4›))) (by decide)
    intro c1 gv I1;intros c1 _ gv I1;apply aT;apply aT;apply dM;refine⟨?_,Mt⟩;rw[nN,aq hn,eB,<-jJ];exact I1;left
   intro hb;rw[xC] at hb
   have hn:¬(look p.prom (i:Int)).isNone=true:=by
    cases h:look p.prom (i:Int) with
    |none=>rw[h] at hb;cases hb
    |some x=>simp
   apply aT;apply aT;apply dM;refine⟨?_,Mt⟩;rw[nN,ay hn,iW];exact I'
  intro c' ρ' cu z2;let ⟨I',z3⟩:=z2;clear z3;apply aT;apply aT;apply aT;apply aT;apply aT;apply dM;have e:(dW 0 ((p.size:Nat):Int).toNat).length=p.size:=by simp[dW]
  rw[e] at I'
  have e2:p.event .again={p with out:=p.out++((b9 p.size).filter λj=>(look p.prom j).isNone).map λj=>ZA p.af p.me j}:=by
   unfold F4 Ld;dsimp only;rw[aq gM]
  rw[e2];exact I'.done;left
 intro hb;rw[jy] at hb;have gM:¬p.phase=1:=of_decide_eq_false hb;apply cP
 .apply bR
  .left
  .left
  .exact fX minZ
  left
 case h2=>
  intro hb;rw[g5 F.ph] at hb;have fD:¬p.phase=2:=of_decide_eq_false hb;apply aT;apply aT;apply aT;apply aT;apply aT;apply aT;apply dM
  have e2:p.event .again=p:=by
   unfold F4 Ld;dsimp only;rw[ay gM,ay fD,iW]
  rw[e2];exact I.done
 intro hb;rw[g5 F.ph] at hb;have fD:p.phase=2:=fG hb
 have qb:∀{q:PA} {σ:Sg} {p':cA},bh σ a p' q->p'.props=p.props->(q.xs.map λx=>(x.k,gn x.la)).map (·.1)=p.props.map (·.1):=by
  intro q σ p' hp he;intros q σ p' _ hp he;have:=cj (qN (·.1)) hp.props;rw[he] at this
  simpa [ja,PE.v,uh] using this
 apply Ex.for (Inv:=λi c' ρ'=>∃q',Inv a q c.σ c' {p with out:=p.out++((aI p.props).take i).flatMap (jq p)} q'/\Sub [("self",.r a)] ρ')
 .apply GV (l:=p.props)
  .left
  .exact hp.pp
  .exact qb hp aa
  exact fp;left
 .refine⟨q,?_,λx v e=>?_⟩
  .have e:p.out++((aI p.props).take 0).flatMap (jq p)=p.out:=by simp
   rw[e];exact I
  by_cases hx:x="self"
  .subst hx;exact e
  exact ns (aW hx) e
 .intro i d c' ρ' cu hd z2;let ⟨q',I',hS⟩:=z2;intros i d c' ρ' q' _ cu hd I' hS;let ⟨M,σ,wr,zy⟩:=bY (c:=c.fn (iC P) 78 L λx=>x∈q.bI) cu;intros M σ wr _ cu I';rw[dh] at hd;obtain⟨t,ht,rfl⟩:∃t,(aI p.props)[i]?=some t/\d=.int t.1:=by
   cases h:(aI p.props)[i]? with
   |none=>rw[h] at hd;cases hd
   |some x=>rw[h] at hd;exact⟨x,rfl,by simpa using hd.symm⟩
  have hi:i<p.props.length:=by
   have:=(iR.mp ht).1;rw[cY] at this;exact this
  have hmt:t∈p.props:=jB.mp (jK ht);have ng:look p.props t.1=some t.2:=F.S8.look hmt
  have nN:((aI p.props).take (i+1)).flatMap (jq p)=((aI p.props).take i).flatMap (jq p)++jq p t:=by
   rw[vC,ht,W8];simp
  have jT:(p.out++((aI p.props).take i).flatMap (jq p)).length<=1000+4*64:=by
   rw[bU];have:=nJ (jq p) 4 ((aI p.props).take i) λx z=>RV p x fs
   rw[pO] at this;exact ig ‹p.out.length<=1000› (aG this (jI 4 (aG (lW ..) (ee (Ed ‹i<p.props.length› ‹p.props.length<64›)))))
  refine⟨_,i7 ⟨.inl aa,rfl,rfl⟩,?_⟩;refine kN (ρ':=[("s",.d (.int t.1)),("self",.r a)]) ?_ (λx v e=>by
   by_cases hx:x="s"
   .subst hx;exact e
   rw[aW hx] at e;show((("s":Str),lF (.int t.1))::ρ').lookup x=some v;rw[aW hx];exact hS x v e)
  obtain⟨x,v',sY,hx,hk,Cm,tw,hd,nU⟩:∃x v' ks',x∈q'.xs/\x.k=t.1/\look p.props t.1=some (v',ks')/\look (q'.xs.map λx=>(x.k,gn x.la)) t.1=some (.r x.la)/\x.d=bl v'/\x.ks=ks':=by
   rcases tT I'.at'.props t.1 with⟨e,_⟩|h
   .exact ns e ng
   exact h
  have hvn:t.2=(v',sY):=by rw[ng] at Cm;simpa using Cm
  have wO:=I'.at'.xs x hx;rw[hd,nU] at wO;apply Ex.ND
  .apply sX
   .left
   .exact I'.at'.pp
   .left
   .exact tw
   left
  .exact wO.1
  .exact fJ (jZ ⟨.inl aa,rfl,rfl⟩) aa (fJ (jZ ⟨.inl aa,rfl,rfl⟩) aa pY)
  .have hS4:∀{ρ':Nm},Sub [("self",.r a)] ρ'->Sub [("self",.r a)] ρ':=λh=>h
   apply cP
   .apply bR
    .left
    .left
    .exact QO I'.at'.ch
    left
   .intro hb;rw[oQ] at hb;have F1:=DU W (a:=a) (q:=q') (p:={p with out:=p.out++((aI p.props).take i).flatMap (jq p)}) (mk:=λj=>.ak p.af p.me j t.1 v') (kind:="chosen") (rs:=[.int t.1,bl v']) (λj=>rfl) fs (by show _<=1000000;dsimp only;exact lA ‹_› rfl) (by show 2<=10;decide);apply qe I' (DS W) F1
    .rfl
    .rfl
    .left
    .exact g8 hn aa
    intro c1 q1 gv I1;intros c1 q1 _ gv I1;apply aT;apply aT;apply dM;refine⟨q1,?_,?_⟩
    .rw[nN]
     have e:jq p t=(mO p.size p.me).map λj=>.ak p.af p.me j t.1 v':=by
      unfold jq;rw[aq hb,hvn]
     rw[e,<-jJ];exact I1
    exact((xA.skip aa).skip aa).skip aa;left
   intro hb;rw[oQ] at hb;apply Ex.for (Inv:=λj c' ρ'=>Inv a q c.σ c' {p with out:=(p.out++((aI p.props).take i).flatMap (jq p))++((b9 j).filter λj=>!sY.contains j).map λj=>.accept p.af p.me j t.1 v'} q'/\Sub [("ns",.r x.sa),("v",.d (bl v')),("s",.d (.int t.1)),("self",.r a)] ρ')
   .apply uB (n:=p.size)
    .left
    exact Kd ‹_› (by decide);left
   .refine⟨?_,xA⟩;have e:(p.out++((aI p.props).take i).flatMap (jq p))++((b9 0).filter λj=>!sY.contains j).map (λj=>ZD p.af p.me j t.1 v')=p.out++((aI p.props).take i).flatMap (jq p):=by simp[b9]
    rw[e];exact I'
   .intro j d c' ρ' cu rU z2;let ⟨I2,Mt⟩:=z2;let ⟨M,σ,wr,zy⟩:=bY (c:=c.fn (iC P) 78 L λx=>x∈q.bI) cu;let ⟨zy,hj⟩:=xy rU;have hj4:j<p.size:=by simpa using hj
    refine⟨_,i7 ⟨.inl aa,rfl,rfl⟩,?_⟩;refine kN (ρ':=[("j",.d (.int (j:Int))),("ns",.r x.sa),("v",.d (bl v')),("s",.d (.int t.1)),("self",.r a)]) ?_ (λy v e=>by
     by_cases hy:y="j"
     .subst hy;exact e
     rw[aW hy] at e;show((("j":Str),lF (.int (j:Int)))::ρ').lookup y=some v;rw[aW hy];exact Mt y v e)
    have Vp:Sub [("ns",.r x.sa),("v",.d (bl v')),("s",.d (.int t.1)),("self",.r a)] [("j",.d (.int (j:Int))),("ns",.r x.sa),("v",.d (bl v')),("s",.d (.int t.1)),("self",.r a)]:=xA.skip aa;have cG:=jn j λj=>!sY.contains j
    have acO:=Bg j λj=>!sY.contains j
    have acP:=I2.at'.xs x hx;rw[nU] at acP;apply cP
    .apply bR
     .left
     .left
     .exact Cmp.abB acP.2
     left
    .intro hb;apply CK (m:=.accept p.af p.me j t.1 v') I2 (bT W) (gm W)
     .rfl
     .left
     .show(p.out++((aI p.props).take i).flatMap (jq p)++_).length+1<=1000000;rw[bU,aR];exact lA (ig ‹_<=1000+_› (aG ‹_<=j› (aG (ee ‹_›) ‹p.size<=4›))) (by decide)
     intro c1 gv I1;intros c1 _ gv I1;apply aT;apply aT;apply dM;refine⟨?_,Vp⟩;rw[acO,aq hb,eB,<-jJ];exact I1;left
    intro hb;apply aT;apply aT;apply dM;refine⟨?_,Vp⟩;rw[acO,ay (by rw[hb];simp),iW];exact I2
   intro c' ρ' cu z2;let ⟨I2,Mt⟩:=z2;apply aT;apply aT;apply dM;have e:(dW 0 ((p.size:Nat):Int).toNat).length=p.size:=by simp[dW]
   rw[e] at I2;refine⟨q',?_,λy v e=>Mt y v ?_⟩
   .rw[nN]
    have e:jq p t=((b9 p.size).filter λj=>!sY.contains j).map λj=>.accept p.af p.me j t.1 v':=by
     unfold jq;rw[ay (by rw[hb];simp),hvn]
    rw[e,<-jJ];exact I2
   have h1:y≠"ns":=by intro h;subst h;cases e
   have h2:y≠"v":=by intro h;subst h;cases e
   have h3:y≠"s":=by intro h;subst h;cases e
   rw[aW h1,aW h2,aW h3];exact e;left
  left
 intro c' ρ' cu z2;let ⟨q',I',z3⟩:=z2;clear z3;apply aT;apply aT;apply aT;apply aT;apply aT;apply aT;apply dM;rw[aR,qO] at I'
 have e2:p.event .again={p with out:=p.out++(aI p.props).flatMap (jq p)}:=by
  unfold F4 Ld;dsimp only;rw[ay gM,aq fD];rfl
 rw[e2];exact I'.done;left
def aaD(F:Bd p)(hE:LL p e):lH g 11 78 [.r a,.d (dc e)] (λx=>x∈q.bI) (λσ=>bh σ a p q) (tu a q (p.event e)):=by
 cases e with
 |run=>exact aei W F hE
 |aO v=>exact RU W F
 |again=>exact aaC W F
 |d8=>exact hE.elim
 |msg m=>exact aej W F hE
end
structure aaE(n:Node):Prop where
 acc:n.acc.length<=1000
 ch:n.ak.length<=1000
 ph:n.phase<=2
 hp:n.hp.length<=1000
 hl:n.hl.length<=1000
 nhl:Nk n.hl
 vot:∀x∈n.hl,x.2.2.length<=4/\∀k∈x.2.2,0<=k/\k<4
def ab0(n:Node)(x dx:Addr)(σ σ':Sg):Prop:=∃q:PA,q.da=dx/\bh σ' x (iJ n) q/\∀b∈q.bI,b=dx\/σ b=none
def L6{α Str:Type}(f:α->Str)(l:List α):(l.map λx=>[f x]).flatten=l.map f:=by
 induction l with
 |nil=>rfl
 |cons x l ih=>rw[gx,BF,ih];rfl
def G6(h:¬n.phase=2):qN PE.v []=ja (iJ n).props:=(cj ja (ay h:(iJ n).props=[])).symm
section
variable {g:G0}{P:Params}(W:WW g P)
include W
def ab1(F:aaE n):FnI g 1 26 [.d (bK n)] (ab0 n):=by
 intros g P n _ W F;intro x dx dg;intros x dx _ dg;refine k9 (n:=0) (abW W) aa λc L hg hn hO hp=>?_;intros c L _ hg hn hO hp
 subst hg;change let b:C:=_;let G4:C->Nm->Prop:=_;let Jd:C->D->Prop:=_;Ex b _ _ G4 Jd;intro b G4 Jd
 have fin:∀(c':C) (ρ':Nm) (k:List (List Stmt)) (a1 a2 pm pp:Addr) (xs:List PE) (l:List (Addr×Cn)),k=[]->(∃M σ wr,c'=(jY (b) M σ wr))->fR ρ' "self" (.r x)->
  IS x dx c.σ c' [("me",.d (.int n.me)),("size",.d (.int n.size)),("promised",.d (aD n.promised)),("phase",.d (.str (j9 n.phase))),("ballot",.d (aD n.af)),("acc",.r a1),("chosen",.r a2),("prom",.r pm),("props",.r pp)] l->
  (a1,mU (cJ (gK (aS [] n.acc))))∈l->(a2,mU (cJ (fz (aS [] n.ak))))∈l->(pm,mU (cJ (dO (iJ n).prom)))∈l->(pp,mU (xs.map λx=>(x.k,gn x.la)))∈l->(∀e∈tQ xs,e∈l)->xs.map PE.v=ja (iJ n).props->(a1::a2::pm::pp::bB xs).Nodup->
  Ex c' ρ' (((DM P).drop 5)::k) G4 Jd:=by
  intro c' ρ' k a1 a2 pm pp xs l z2 z3 hs I h1 h2 h3 h4 h6 hv mu;subst z2;let ⟨M,σ,wr,zy⟩:=z3;unfold DM bodyPick;apply mY
  .exact mZ (KQ (fH bq))
  .intro c2 v2 oi z2;let ⟨po,_,hb,zy,zy⟩:=z2;have I2:=I.add (cn:=.l []) hb;have I3:=I2.attr "out" (.r po);refine⟨_,_,I2.tg (bT W) (gm W) hs (bz aa),?_⟩;apply aT;apply dM
   have hpo:po∉a1::a2::pm::pp::bB xs:=λh=>(I.new hb).2.2.1 (by
    simp only[bZ] at h;rcases h with rfl|rfl|rfl|rfl|h
    .exact cg.mpr ⟨_,h1,rfl⟩
    .exact cg.mpr ⟨_,h2,rfl⟩
    .exact cg.mpr ⟨_,h3,rfl⟩
    .exact cg.mpr ⟨_,h4,rfl⟩
    rw[<-mE] at h;let ⟨e,he,zy⟩:=cg.mp h;exact cg.mpr ⟨_,h6 e he,rfl⟩)
   have up:∀{e:Addr×Cn},e∈l->e∈l++[(po,Cn.l [])]:=λh=>dY.mpr (.inl h)
   refine⟨I3.hx,IS.fin (p:=iJ n) I3 aa (up h1) (up h2) (up h3) (up h4) (dY.mpr (.inr vB)) (λe he=>up (h6 e he)) hv ?_⟩;have hp:(a1::a2::pm::pp::po::bB xs).Perm (po::a1::a2::pm::pp::bB xs):=(zf (l₁:=[a1,a2,pm,pp]) (a:=po) (l₂:=bB xs));exact hp.nodup_iff.mpr (ir.mpr ⟨hpo,mu⟩)
  left
 unfold DM bodyPick at fin⊢;have l1:=F.acc;have l2:=F.ch;have l3:=F.hp;have l4:=F.hl;have I0:IS x dx c.σ b [] []:=⟨hp.1,hp.2,rfl,λp h=>(by cases h),by simp[dg],λp h=>(by cases h),λb w w=>rfl⟩;have I1:=I0.attr "me" (.d (.int n.me));have I2:=I1.attr "size" (.d (.int n.size));have I3:=I2.attr "promised" (.d (aD n.promised));have I4:=I3.attr "phase" (.d (.str (j9 n.phase)));have I5:=I4.attr "ballot" (.d (aD n.af));apply Fx (ds:=[.int n.me,.int n.size,aD n.promised,.lst (n.acc.map bM),.lst (n.ak.map gJ),.str (j9 n.phase),aD n.af,.lst (fZ n)])
 .exact aj aa
 .refine fJ (I0.tg (bT W) (pG W) aa (by decide)) aa (fJ (I1.tg (bT W) (lN W) aa (bz aa)) aa (fJ (I2.tg (bT W) (iL W) aa (bz aa)) aa (fJ (jZ ⟨.inl aa,rfl,rfl⟩) aa (fJ (jZ ⟨.inl aa,rfl,rfl⟩) aa (fJ (I3.tg (bT W) (d9 W) aa (bz aa)) aa (fJ (I4.tg (bT W) (iD W) aa (bz aa)) aa (fJ (jZ ⟨.inl aa,rfl,rfl⟩) aa pY)))))))
 clear I0 I1 I2 I3 I4;refine LM (base:=b) aa I5 λM σ wr I5=>?_
 apply mY
 .apply mZ;apply KV;apply Cp.dict (ds:=n.acc.map bM) (outs:=(n.acc.map λit=>[(it.1,ou [aD it.2.1,bl it.2.2])]))
  .simp
  .rw[L6,aR];exact lim ‹_› rfl
  .exact kK (i6 (aj aa))
  .intro La cs M X i d o hd ho;rw[dh] at hd ho;cases h:n.acc[i]? with
   |none=>rw[h] at hd;cases hd
   |some it=>
    rw[h] at hd ho;obtain rfl:bM it=d:=by simpa using hd
    obtain rfl:[(it.1,ou [aD it.2.1,bl it.2.2])]=o:=by simpa using ho
    refine⟨_,true,q9 (.cons ⟨.inl aa,rfl,rfl⟩ (.cons ⟨.inl aa,rfl,rfl⟩ (.cons ⟨.inl aa,rfl,rfl⟩ .nil))),?_,rq,λw=>⟨it.1,_,aj aa,?_,rfl⟩,λh=>by cases h⟩
    .exact bV aa (bV aa (bV aa fT))
    left
  .rfl
  left
 .intro c2 v2 oi z2;let ⟨a1,_,gM,zy,zy⟩:=z2;have I6:=I5.add (cn:=.i (cJ (aS [] ((n.acc.map λit=>[(it.1,ou [aD it.2.1,bl it.2.2])])).flatten))) gM;have I7:=I6.attr "acc" (.r a1);refine⟨_,_,I6.tg (bT W) (qB W) aa (bz aa),?_⟩;clear I5 I6
  have ea:aS [] ((n.acc.map λit=>[(it.1,ou [aD it.2.1,bl it.2.2])])).flatten=gK (aS [] n.acc):=by
   rw[L6];exact oR (λx:bg×Option Str=>ou [aD x.1,bl x.2]) n.acc []
  refine LM (base:=b) aa I7 λM σ wr I7=>?_
  rw[ea] at I7;apply mY
  .apply mZ;apply zP (kvs:=fz n.ak)
   .exact aj aa
   show n.ak.map gJ=_;unfold fz;rw[cV];rfl;left
  .intro c3 v3 CL z2;let ⟨a2,_,fD,zy,zy⟩:=z2;have I8:=I7.add (cn:=.i (cJ (aS [] (fz n.ak)))) fD;have I9:=I8.attr "chosen" (.r a2);refine⟨_,_,I8.tg (bT W) (lV W) aa (bz aa),?_⟩;clear I7 I8;have ec:aS [] (fz n.ak)=fz (aS [] n.ak):=oR bl n.ak [];refine LM (base:=b) aa I9 λM σ wr I9=>?_
   rw[ec] at I9;apply Ft (Q:=λc' vs=>∃b1 b2,vs=[.r b1,.r b2]/\IS x dx c.σ c' _ [(a1,.i (cJ (gK (aS [] n.acc)))),(a2,.i (cJ (fz (aS [] n.ak)))),(b1,.i []),(b2,.i [])])
   .refine oE (mZ zN) (λc4 v4 w h4=>?_);let ⟨b1,_,gM,zy,zy⟩:=h4;refine oE (mZ zN) (λc5 v5 w h5=>?_);let ⟨b2,_,fD,zy,zy⟩:=h5;intro s pos S L;refine bk (Co s pos S L) (λxs s' ⟨c',vs,X,S',L',r',hc,hv⟩=>⟨c',vs,X,S',L',r',b1,b2,?_,?_⟩)
    .rw[hv]
    rw[hc];exact(I9.add gM).add fD
   intro c4 vs4 hc4 z2;let ⟨a3,a4,zy,I10⟩:=z2;clear I9;let ⟨M,σ,wr,zy⟩:=bY (c:=b) hc4;have I11:=I10.attr "prom" (.r a3);have G7:=I11.attr "props" (.r a4);refine⟨_,_,fJ (I10.tg (bT W) (eW W) aa (bz aa)) aa (fJ (I11.tg (bT W) (fS W) aa (bz aa)) aa pY),?_⟩;have n0:=I10.nd;clear I10 I11;refine LM (base:=b) aa G7 λM σ wr G7=>?_
   have n4:[a1,a2,a3,a4].Nodup:=(ir.mp (ir.mp n0).2).2;clear n0;apply cP
   .apply bR
    .exact Fz (bT W) (d9 W) (aj aa) G7.hx G7.hd aa
    .left
    .exact fX minZ
    left
   .intro hb;rw[jy] at hb;have gM:n.phase=1:=fG hb;have eh:fZ n=n.hp.map kc:=by unfold fZ;rw[aq gM]
    apply mY
    .apply mZ;apply zP (kvs:=dO n.hp)
     .exact aj aa
     rw[eh];show n.hp.map kc=_;unfold dO;rw[cV];rfl;left
    .intro c5 v5 hc5 z2;let ⟨a6,_,hb6,zy,zy⟩:=z2;have ep:aS [] (dO n.hp)=dO (aS [] n.hp):=oR (λy:List bf=>kJ (y.map bM)) n.hp [];have Vv:=G7.add (cn:=.i (cJ (aS [] (dO n.hp)))) hb6;have I14:=Vv.attr "prom" (.r a6);have nw:=(G7.new hb6).2.2.1;rw[ep] at Vv I14⊢;refine⟨_,_,Vv.tg (bT W) (eW W) aa (bz aa),?_⟩;apply aT;exact fin _ _ [] a1 a2 a6 a4 [] _ aa ⟨_,_,_,rfl⟩ rfl I14 (pN _ (.head _)) (pN _ (.tail _ (.head _))) ((aq gM:(iJ n).prom=_)▸Ep _ (.head _)) (pN _ (.tail _ (.tail _ (.tail _ (.head _))))) (λe he=>(nomatch he)) (G6 (by rw[gM];decide)) (GQ (l₁:=[a1,a2]) (x:=a3) n4 nw)
    left
   intro hb;rw[jy] at hb;have gM:¬n.phase=1:=of_decide_eq_false hb;have e1:(iJ n).prom=[]:=ay gM;apply cP
   .apply bR
    .exact Fz (bT W) (d9 W) (aj aa) G7.hx G7.hd aa
    .left
    .exact fX minZ
    left
   case h2=>
    intro hb;rw[g5 F.ph] at hb;have fD:¬n.phase=2:=of_decide_eq_false hb;apply aT;apply aT;exact fin _ _ [] a1 a2 a3 a4 [] _ aa ⟨_,_,_,rfl⟩ rfl G7 (.head _) (.tail _ (.head _)) (e1▸.tail _ (.tail _ (.head _))) (.tail _ (.tail _ (.tail _ (.head _)))) (λe he=>(nomatch he)) (G6 fD) n4
   intro hb;rw[g5 F.ph] at hb;have fD:n.phase=2:=fG hb;have eh:fZ n=n.hl.map kg:=by unfold fZ;rw[ay gM,aq fD]
   have ep:(iJ n).props=n.hl.map λx=>(x.1,(x.2.1,j3 x.2.2)):=by
    unfold iJ;dsimp only;rw[aq fD];apply gZ;unfold Nk;rw[cV];exact F.nhl
   have et:ja (iJ n).props=n.hl.map λx=>(x.1,(bl x.2.1,kO x.2.2)):=by
    rw[ep];unfold ja;rw[cV];rfl
   apply mY
   .apply HQ.m;apply HQ.adY (ds:=n.hl.map kg) (tot:=n.hl.map λx=>(x.1,(bl x.2.1,kO x.2.2)))
    .simp
    .rw[cV];exact F.nhl
    .rw[aR];exact lim ‹_› rfl
    .rw[<-eh];exact kK (i6 (aj aa))
    .intro La cs M X i d y hd hy;rw[dh] at hd hy;cases h:n.hl[i]? with
     |none=>rw[h] at hd;cases hd
     |some z=>
      rw[h] at hd hy;obtain rfl:kg z=d:=by simpa using hd
      obtain rfl:(z.1,(bl z.2.1,kO z.2.2))=y:=by simpa using hy
      have hz:=F.vot z (jK h);refine⟨_,q9 (.cons ⟨.inl aa,rfl,rfl⟩ (.cons ⟨.inl aa,rfl,rfl⟩ (.cons ⟨.inl aa,rfl,rfl⟩ .nil))),?_,aj aa,?_⟩
      .exact bV aa (bV aa (bV aa fT))
      apply NG.pair
      .exact aj aa
      .apply jP.setOf
       .exact aj aa
       .rfl
       .exact hz.2
       .exact f6 (gw hz.1) (by decide)
       left
      left
    rfl;left
   .intro c5 v5 hc5 z2;let ⟨a6,τ,zy,zy,z3,rX⟩:=z2;let ⟨xs,hx1,MU,hx3⟩:=z3;have Vv:=G7.adds hx3 (by rw[gx,mE];exact MU) λb hb=>(rX b hb).2
    have I14:=Vv.attr "props" (.r a6);refine⟨_,_,Vv.tg (bT W) (fS W) aa (bz aa),?_⟩
    have nw:∀y∈a6::bB xs,y∉[a1,a2,a3]:=λy hy=>by
     have hm:∃cn,τ y=some cn:=by
      rw[hx3];rw[<-mE] at hy;obtain⟨e,he,rfl⟩:∃e∈(a6,mU (xs.map λx=>(x.k,gn x.la)))::tQ xs,e.1=y:=by
       rcases bZ.mp hy with rfl|h
       .exact⟨_,vB,rfl⟩
       let ⟨e,he,h⟩:=cg.mp h;exact⟨e,yY _ he,h⟩
      exact⟨_,xj (by rw[gx,mE];exact MU) he⟩
     let ⟨cn,hcn⟩:=hm;exact λm=>(G7.new (rX y (by rw[hcn];nofun)).2).2.2.1 (pN [a4] m)
    apply aT;apply aT;exact fin _ _ [] a1 a2 a3 a6 xs _ aa ⟨_,_,_,rfl⟩ rfl I14 (pN _ (.head _)) (pN _ (.tail _ (.head _))) (e1▸pN _ (.tail _ (.tail _ (.head _)))) (Ep _ (.head _)) (λe he=>Ep _ (.tail _ he)) (hx1.trans et.symm) (NT (l₁:=[a1,a2,a3]) (l₂:=[a4]) n4 MU nw)
   left;left
  left
 left;left
end
structure acQ(p:cA):Prop where
 k1:Nk p.acc
 k2:Nk p.ak
 k3:p.phase=1->Nk p.prom/\p.prom.length<64
 k4:p.phase=2->Nk p.props/\p.props.length<64/\∀x∈p.props,x.2.2.length<64
 l1:p.acc.length<64
 l2:p.ak.length<64
 ph:p.phase<=2
structure Bk(n:Node)(e:eZ):Prop where
 nf:aaE n
 pf:Bd (iJ n)
 ef:LL (iJ n) e
 tf:acQ ((iJ n).event e)
section
variable {g:G0}{P:Params}(W:WW g P)
include W
def L7(F:Bk n e):yj g 14 106 [.d (bK n),.d (dc e)] (λz=>True) (.tup [bK (fM n e).1,.lst ((fM n e).2.map bG)]):=by
 intros g P n e _ W F;refine rA (n:=13) (DT W) aa λc L hg hn hp=>?_;intros c L _ hg hn hp
 subst hg;unfold SV bodyPick;apply Ci
 .apply g9.make (n:=1) (fi:=26) (vs:=[.d (bK n)])
  .exact bT W
  .exact ab1 W F.nf
  .show c.mg "_Pax"=some (.ref c.cls);rw[W.hc];exact W.pax
  .show findIn c.K (.ref c.cls) "__init__"=_;rw[W.hc,W.hK];rfl
  .show typeIn c.K (.ref 26)=_;rw[W.hK];rfl
  .exact br (aj aa) fj
  exact g8 hn aa;left
 .exact⟨.inl aa,rfl,rfl⟩
 .intro c1 v1 gv z2;refine aM λhN=>?_;obtain⟨x,dx,A,nx,ndx,hx,rfl,⟨aJ,h0,q,hq,hP,iY⟩,wx,wd,hnm⟩:_:=z2;refine hN ?_
  have hs0:∀b∈q.bI,b≠dx->c.σ b=none:=λb hb dg=>h0 b ((iY b hb).resolve_left dg)
  have pA:∀b∈q.bI,c1.wr b:=λb hb=>by
   by_cases uU:b=dx
   .rw[uU];exact wd
   refine aM λhn=>?_
   cases e:c1.σ b with
   |none=>exact(hP.fresh e).2 hb
   |some cn=>
    let ⟨z2,_⟩:=A.nw b cn e hn;let ⟨eL,e'⟩:=z2;rw[show(c.fn (rK P) 106 L λz=>False).σ b=c.σ b from rfl,hs0 b hb uU] at e';cases e'
  have hM1:∀b∈q.bI,¬(c.M b\/FX (rK P) L 106 b):=λb hb=>by
   by_cases uU:b=dx
   .rw[uU];exact ndx
   cases e:c1.σ b with
   |none=>exact aK hb (hP.fresh e).2
   |some cn=>
    rcases hnm b cn e with⟨eL,e'⟩|h
    .rw[show(c.fn (rK P) 106 L λz=>False).σ b=c.σ b from rfl,hs0 b hb uU] at e';cases e'
    exact h
  have mm:=A.mm;clear A hnm iY h0;let ⟨M,σ,wr,zy⟩:=bY gv;apply pX
  .apply QI (vs:=[.d (dc e)])
   .exact aaD W (a:=x) (q:=q) F.pf F.ef
   .exact Vh W
   .exact aj aa
   .exact hP.o
   .exact hP.t
   .rfl
   .exact br (aj aa) fj
   .exact g8 hn aa
   .exact pA
   exact hP;left
  .intro c2 v2 oi z2;refine aM λhN=>?_;obtain⟨A,hn2,-,q2,RW,hq2⟩:_:=z2;refine hN ?_
   have hM2:∀b∈q2.bI,¬c.M b:=λb hb=>by
    rcases hq2 b hb with h|h
    .exact λm=>hM1 b h (.inl m)
    cases e:c2.σ b with
    |none=>exact aK hb (RW.fresh e).2
    |some cn=>
     rcases hn2 b cn e with⟨eL,e'⟩|h'
     .cases e'.symm.trans h
     exact λm=>h' (mm b (.inl m))
   clear A hn2;let ⟨M,σ,wr,zy⟩:=bY (c:=c.fn (rK P) 106 L λz=>False) oi;have T:=F.tf;apply jX (d:=.tup [bK (fM n e).1,.lst ((fM n e).2.map bG)])
   case hr=>rfl
   apply Qz
   .apply Cf
    .apply kM;apply Ev.SJ
     .exact aeh W (a:=x) (q:=q2) T.k1 T.k2 T.k3 T.k4 T.l1 T.l2 T.ph
     .exact abV W
     .exact aj aa
     .exact RW.o
     .exact RW.t
     .rfl
     .exact fj
     .exact g8 hn aa
     .exact RW
     left
    .apply Cf
     .apply KO
      .exact Fz (bT W) (gm W) (aj aa) RW.o RW.t aa
      .exact RW.out
      exact hM2 _ xx
     .exact QA
     rfl
    rfl
   left
  left
 left
end
noncomputable def yc(me:Int)(size:Nat):Node:=⟨me,size,(0,0),[],[],0,(0,0),[],[]⟩
def tB:eZ->Str
 |.run=>"run"
 |.aO _=>"propose"
 |.again=>"again"
 |.d8=>"crash"
 |.msg _=>"message"
def Ib:eZ->List D
 |.aO v=>[bl v]
 |.msg m=>[bG m]
 |_=>[]
def G8(e:eZ):dc e=.tup (.str (tB e)::Ib e):=by cases e<;>rfl
def g6:Mv->D
 |.at i e=>.tup (.str (tB e)::.int i::Ib e)
 |.deliver k=>.tup [.str "deliver",.int k]
 |.drop k=>.tup [.str "drop",.int k]
 |.double k=>.tup [.str "double",.int k]
def yo:Mv->Str
 |.at _ e=>tB e
 |.deliver _=>"deliver"
 |.drop _=>"drop"
 |.double _=>"double"
noncomputable def pH:Mv->Int
 |.at i _=>i
 |.deliver k=>k
 |.drop k=>k
 |.double k=>k
def mvR:Mv->List D
 |.at _ e=>Ib e
 |_=>[]
def Je(mv:Mv):g6 mv=.tup (.str (yo mv)::.int (pH mv)::mvR mv):=by cases mv<;>rfl
abbrev PS:=List Node×List cR
def To(S:PS):Mv->Prop
 |.at i e=>∃n,S.1[i]?=some n/\(e≠.d8->Bk n e)/\(fM n e).2.length<=1000
 |.deliver k=>∀m,S.2[ai k S.2.length]?=some m->0<=m.to/\∃n,S.1[m.to.toNat]?=some n/\Bk n (.msg m)/\(fM n (.msg m)).2.length<=1000
 |_=>True
def Bl(S:PS)(bH:List Mv):PS:=bH.foldl lq S
def xD(S:PS)(bH:List Mv):Nat->List D
 |0=>[.lst (S.1.map bK)]
 |k+1=>xD S bH k++[.lst ((Bl S (bH.take (k+1))).1.map bK)]
def G9(S:PS)(bH:List Mv)(k:Nat):xD S bH (k+1)=xD S bH k++[.lst ((Bl S (bH.take (k+1))).1.map bK)]:=rfl
def RX(S:PS)(bH:List Mv)(k:Nat):(xD S bH k).length=k+1:=by
 induction k with
 |zero=>rfl
 |succ k ih=>rw[G9,bU,ih];rfl
def Jf(S:PS){bH:List Mv}{k:Nat}{mv:Mv}(h:bH[k]?=some mv):Bl S (bH.take (k+1))=lq (Bl S (bH.take k)) mv:=by
 unfold Bl;rw[vC,h];simp
def RY(m:cR):∃a b f rs,bG m=.tup (a::b::f::.int m.to::rs):=by
 cases m<;>exact⟨_,_,_,_,rfl⟩
def gV(k:Int){n:Nat}(h:0<n):k.fmod (n:Int)=((ai k n:Nat):Int):=by
 unfold ai;exact(BP (JW k (kG.mpr h))).symm
def Tp(a b:D)(rs:List D):iy (a::b::rs) (some 2) none=rs:=by
 unfold iy;have h:clipAt (a::b::rs).length 2=2:=(oz _ 2).trans (n8 (iQ 2 rs.length));simp only[BV,h];show Xa _ rs=rs;exact pL (by simp)
def ab2{c:C}{a:Addr}{ds:List D}(h:c.σ a=some (.l ds)):Iv c (.r a)=some ds.length:=by unfold Iv;simp only[h]
def ab3{c:C}{a:Addr}{ks:List Int}(h:c.σ a=some (.s ks)):Iv c (.r a)=some ks.length:=by unfold Iv;simp only[h]
def Vw{c:C}{a:Addr}{ds:List D}(h:c.σ a=some (.l ds)):DH c (.r a)=some (!ds.isEmpty):=by unfold DH;simp only[h]
structure PI(pn pw ph:Addr)(c:C)(S:PS)(H:List D):Prop where
 n:c.σ pn=some (.l (S.1.map bK))
 w:c.σ pw=some (.l (S.2.map bG))
 h:c.σ ph=some (.l H)
 wn:c.wr pn
 ww:c.wr pw
 wh:c.wr ph
 e1:pn≠pw
 e2:pn≠ph
 e3:pw≠ph
section
variable {pn pw ph:Addr}{c:C}{S:PS}{H:List D}
def PI.aaF(I:PI pn pw ph c S H){ds:List D}{ns:List Node}(e:ds=ns.map bK):PI pn pw ph (c.upd pn (.l ds)) (ns,S.2) H:=
 ⟨by rw[e];exact aq aa,(ay I.e1.symm).trans I.w,(ay I.e2.symm).trans I.h,I.wn,I.ww,I.wh,I.e1,I.e2,I.e3⟩
def PI.Tq(I:PI pn pw ph c S H){ds:List D}{ms:List cR}(e:ds=ms.map bG):PI pn pw ph (c.upd pw (.l ds)) (S.1,ms) H:=
 ⟨(ay I.e1).trans I.n,by rw[e];exact aq aa,(ay I.e3.symm).trans I.h,I.wn,I.ww,I.wh,I.e1,I.e2,I.e3⟩
def PI.afF(I:PI pn pw ph c S H){ds:List D}:PI pn pw ph (c.upd ph (.l ds)) S ds:=
 ⟨(ay I.e2).trans I.n,(ay I.e3).trans I.w,aq aa,I.wn,I.ww,I.wh,I.e1,I.e2,I.e3⟩
def Ex.aek{base c':C}{ρ:Nm}{k:List (List Stmt)}{P:C->Nm->Prop}{R:C->D->Prop}(h:c'={base with M:=c'.M,σ:=c'.σ,wr:=c'.wr})(I:PI pn pw ph c' S H)
 (r:∀M σ wr,PI pn pw ph (jY (base) M σ wr) S H->Ex (jY (base) M σ wr) ρ k P R):Ex c' ρ k P R:=by
 obtain⟨M,σ,wr,rfl⟩:_:=bY h;exact r M σ wr I
end
section
variable {g:G0}{P:Params}(W:WW g P)
include W
def aaG(me:Int)(size:Nat):yj g 1 99 [.d (.int me),.d (.int size)] (λz=>True) (bK (yc me size)):=by
 refine rA (n:=0) (N7 W) aa λc L hg hn z=>?_
 subst hg;unfold NQ bodyPick;have ed:bK (yc me size)=.tup [.int me,.int size,.tup [.int 0,.int 0],.lst [],.lst [],.str "idle",.tup [.int 0,.int 0],.lst []]:=rfl;rw[ed];apply jX
 case hr=>rfl
 apply kM;apply cI
 case hz=>exact bz aa
 refine aP (aj aa) ?_ aa;refine aP (aj aa) ?_ aa;refine aP (cI (aP aN (aP aN bq aa) aa) (bz aa)) ?_ aa;refine aP (cH (fH bq (bz aa))) ?_ aa;refine aP (cH (fH bq (bz aa))) ?_ aa;refine aP (dZ (by decide+kernel)) ?_ aa;refine aP (cI (aP aN (aP aN bq aa) aa) (bz aa)) ?_ aa;exact aP (cH (fH bq (bz aa))) bq aa
end
open Mine.Ex renaming aek->CM
noncomputable def aaH:List Stmt->List Stmt
 |.For _ _ b _ _::_=>b
 |_=>[]
noncomputable def xE(P:Params):List Stmt:=aaH ((uX P).drop 2)
def Jg(pn pw ph:Addr)(S:PS)(H:List D)(c':C)(ρ':Nm):Prop:=PI pn pw ph c' S (H++[.lst (S.1.map bK)])/\fR ρ' "nodes" (.r pn)/\fR ρ' "history" (.r ph)/\fR ρ' "way" (.r pw)
def DV(P:Params)(base:C)(pn pw ph:Addr)(S:PS)(H:List D)(mv:Mv):Prop:=∀M σ wr (R:C->D->Prop),PI pn pw ph (jY (base) M σ wr) S H->
 Ex (jY (base) M σ wr) [("a",.d (g6 mv)),("nodes",.r pn),("history",.r ph),("way",.r pw)] [xE P] (Jg pn pw ph (lq S mv) H) R
def Ev.acR{c:C}{ρ:Nm}{e:aU}{m:cR}{k p1 p2}(h:Ev c ρ e (.d (bG m))):Ev c ρ (.Subscript e (.Constant (.int 3) k p1) p2) (.d (.int m.to)):=by
 let ⟨a,b,f,rs,e⟩:=RY m;rw[e] at h;exact bE (j:=3) h aN (aZ (j:=3) (by simp only[jL];exact bz aa)) aa
section
variable {P:Params}
def oU{c:C}{L:Addr}{M σ wr}{R:C->D->Prop}{ρ:Nm}{S:PS}{H:List D}{pn pw ph:Addr}(I:PI pn pw ph (jY (c.fn (gb P) 111 L (λz=>False)) M σ wr) S H)(hH:H.length<=1000)(h1:fR ρ "nodes" (.r pn))(h2:fR ρ "history" (.r ph))(h3:fR ρ "way" (.r pw)):
 Ex (jY (c.fn (gb P) 111 L (λz=>False)) M σ wr) ρ [(xE P).drop 1] (Jg pn pw ph S H) R:=by
 unfold xE uX bodyPick;apply pX
 .apply Cj
  .exact aj h2
  .exact I.h
  .exact I.wh
  .exact cH (Rx (aj h1) I.n)
  .unfold ck;exact lA ‹_› rfl
  left
 .intro c' v cu z2;let ⟨zy,z3⟩:=z2;subst z3;exact aT (dM ⟨I.afF,h1,h2,h3⟩)
 left
def ael{e:eZ}:D.has [.str "deliver",.str "drop",.str "double"] (.str (tB e))=false:=by cases e<;>(dsimp only[tB];decide+kernel)
def Vx{e:eZ}:eT (.str (tB e)) (.str "crash")=true↔e=.d8:=by
 cases e<;>simp[tB,RJ]<;>decide+kernel
def Ob{c:C}{L:Addr}(hn:15<=c.n)(W:WW c.toG0 P){S:PS}{H:List D}{pn pw ph:Addr}{i:Nat}{n:Node}(hi:S.1[i]?=some n)(hH:H.length<=1000)(hN:S.1.length<=1000)(hW:S.2.length<=100000):DV P (c.fn (gb P) 111 L λz=>False) pn pw ph S H (.at i .d8):=by
 intros P c L S H pn pw ph i n _ hn W hi hH hN hW;intro M σ wr R I;have eG:i<S.1.length:=(iR.mp hi).1;have xB:lq S (.at i .d8)=(S.1.set i n.d8,S.2):=by unfold lq;dsimp only;rw[hi];dsimp only[rJ];rw[iW]
 rw[xB];have hni:(S.1.map bK)[i]?=some (bK n):=by rw[dh,hi];rfl
 show Ex _ _ [xE P] _ _;unfold xE uX bodyPick;apply cP
 .apply bR
  .exact bE (ds:=[.str "crash",.int i]) (j:=0) (by left) aN aa aa
  .left
  .left
  left
 .intro hb;exact aK hb (by decide+kernel)
 intro qf;clear qf;refine LD (t:="crash") aa (by decide+kernel) ?_;apply gS (x:="n") (v:=.d (bK n))
 .apply pQ (ds:=S.1.map bK) (k:=(i:Int)) (j:=i)
  .left
  .exact I.n
  .exact bE (ds:=[.str "crash",.int i]) (j:=1) (by left) aN aa aa
  .exact aZ (by rw[aR];exact eG)
  exact hni;left
 .exact⟨.inl aa,rfl,rfl⟩
 apply Ex.xR (a:=pn) (ds:=S.1.map bK) (j:=i) (d:=bK n.d8)
 .apply dU
  .apply z8 (out:=[.int n.me,.int n.size,aD n.promised,.lst (n.acc.map bM),.lst (n.ak.map gJ)]) (l:=none) (u:=some 5)
   .exact aj aa
   .exact .none
   .exact .int aN
   rfl
  .refine cI (ds:=[.str "idle",aD n.af,.lst []]) ?h (bz aa);refine aP (dZ (by decide+kernel)) ?_ aa;refine aP (bE (ds:=[.int n.me,.int n.size,aD n.promised,.lst (n.acc.map bM),.lst (n.ak.map gJ),.str (j9 n.phase),aD n.af,.lst (fZ n)]) (j:=6) (aj aa) aN aa aa) ?_ aa;exact aP (cH (fH bq (bz aa))) bq aa;left
  exact uw (by show 8<=1000000;decide)
 .exact aj aa
 .exact bE (ds:=[.str "crash",.int i]) (j:=1) (by left) aN aa aa
 .exact I.n
 .exact I.wn
 .rw[aR];exact eG
 repeat apply aT
 refine CM (base:=c.fn (gb P) 111 L λz=>False) aa (I.aaF (ns:=S.1.set i n.d8) (by rw[JQ])) λM σ wr I=>?_
 apply oU I hH<;>rfl;left;left
def aaI{c:C}{L:Addr}(hn:15<=c.n)(W:WW c.toG0 P){S:PS}{H:List D}{pn pw ph:Addr}{i:Nat}{n:Node}{e:eZ}(hi:S.1[i]?=some n)(hc:e≠.d8)(F:Bk n e)(hl:(fM n e).2.length<=1000)(hH:H.length<=1000)(hN:S.1.length<=1000)(hW:S.2.length<=100000):DV P (c.fn (gb P) 111 L λz=>False) pn pw ph S H (.at i e):=by
 intros P c L S H pn pw ph i n e _ hn W hi hc F hl hH hN hW;intro M σ wr R I;have eG:i<S.1.length:=(iR.mp hi).1
 have xB:lq S (.at i e)=(S.1.set i (fM n e).1,S.2++(fM n e).2):=by
  have:rJ n e=fM n e:=by cases e<;>first|rfl|exact aK aa hc
  unfold lq;dsimp only;rw[hi];dsimp only;rw[this]
 rw[xB];have hni:(S.1.map bK)[i]?=some (bK n):=by rw[dh,hi];rfl
 have F1:=L7 W F;rw[G8] at F1;show Ex _ _ [xE P] _ _;unfold xE uX bodyPick;apply cP
 .apply bR
  .exact bE (ds:=.str (tB e)::.int i::Ib e) (j:=0) (by left) aN (aZ (j:=0) (by simp only[jL];exact bz aa)) aa
  .left
  .exact Ks minZ
  left
 .intro hb;exact aK (hb.symm.trans ael) (by decide)
 intro qf;clear qf;apply cP
 .apply bR
  .exact bE (ds:=.str (tB e)::.int i::Ib e) (j:=0) (by left) aN (aZ (j:=0) (by simp only[jL];exact bz aa)) aa
  .left
  .exact fX minZ
  left
 .intro hb;exact aK (Vx.mp hb) hc
 intro qf;clear qf;have h1i:∀{c':C} {ρ':Nm} {e':aU} {k p1 p2},Ev c' ρ' e' (.d (.tup (.str (tB e)::.int i::Ib e)))->Ev c' ρ' (.Subscript e' (.Constant (.int 1) k p1) p2) (.d (.int i)):=λh=>bE (j:=1) h aN (aZ (j:=1) (by simp only[jL];exact bz aa)) aa
 apply Fx
 .apply mw
  .exact F1
  .exact W.LU
  .exact(DT W).keep
  .apply br
   .apply pQ (ds:=S.1.map bK) (k:=(i:Int)) (j:=i)
    .left
    .exact I.n
    .exact h1i (aj aa)
    .exact aZ (by rw[aR];exact eG)
    exact hni;left
   apply br
   .apply dU
    .apply cI
     .exact aP (bE (ds:=.str (tB e)::.int i::Ib e) (j:=0) (aj aa) aN (aZ (j:=0) (by simp only[jL];exact bz aa)) aa) bq aa
     left
    .exact z8 (ds:=.str (tB e)::.int i::Ib e) (aj aa) (.int aN) .none (Tp _ _ _)
    exact uw (by cases e<;>exact bz aa)
   exact fj
   all_goals rfl
  ·(first|(show 14<=c.n-1;exact g8 hn aa)|(show 14<=c.n-1;lia))
  .trivial
  left
 .apply fJ
  .apply rV.Kz (ds:=S.1.map bK) (j:=i)
   case ho=>exact aj aa
   case hi=>exact h1i (aj aa)
   case hs=>exact I.n
   case hw=>exact I.wn
   case hj=>rw[aR];exact eG
   left
  .rfl
  apply fJ
  .exact jZ ⟨.inl aa,rfl,rfl⟩
  .rfl
  exact pY
 .have I1:=I.aaF (ns:=S.1.set i (fM n e).1) (ds:=(S.1.map bK).set i (bK (fM n e).1)) (by rw[JQ]);apply Ex.iadd (ds:=S.2.map bG) (es:=(fM n e).2.map bG)
  .rfl
  .exact I1.w
  .exact I1.ww
  .exact⟨.inl aa,rfl,rfl⟩
  .exact aj aa
  .rfl
  .rw[aR,aR];unfold ck;exact aG (ig ‹_› ‹_›) (by decide)
  repeat apply aT
  refine CM (base:=c.fn (gb P) 111 L λz=>False) aa (I1.Tq (ms:=S.2++(fM n e).2) (by rw[eB])) λM σ wr I=>?_
  apply oU I hH<;>rfl
 left
end
section
variable {P:Params}
noncomputable def aem:Mv->Bool
 |.at _ _=>false
 |_=>true
def CN{c:C}{L:Addr}(hn:15<=c.n)(W:WW c.toG0 P){S:PS}{H:List D}{pn pw ph:Addr}{mv:Mv}(hm:aem mv=true)(F:To S mv)(hH:H.length<=1000)(hN:S.1.length<=1000)(hW:S.2.length<=100000):DV P (c.fn (gb P) 111 L λz=>False) pn pw ph S H mv:=by
 intros P c L S H pn pw ph mv _ hn W hm F hH hN hW;intro M σ wr R I;have ea:g6 mv=.tup [.str (yo mv),.int (pH mv)]:=by cases mv<;>first|rfl|(cases hm;done)
 rw[ea];unfold xE uX bodyPick;apply cP
 .apply bR
  .exact bE (ds:=[.str (yo mv),.int (pH mv)]) (j:=0) (aj aa) aN aa aa
  .left
  .exact Ks minZ
  left
 case h2=>intro hb;exact aK hb (by cases mv<;>first|(cases hm;done)|(dsimp only[yo];decide+kernel))
 intro qf;clear qf;apply cP (b:=!(S.2.map bG).isEmpty)
 .apply iH.val
  .exact aj aa
  .exact Vw I.w
  left
 case h2=>
  intro hb;have h0:S.2=[]:=by simpa using hb
  have xB:lq S mv=S:=by
   refine aM λnG=>?_;obtain⟨a,b⟩:_:=S;refine nG ?_
   have h0:b=[]:=h0;subst h0;cases mv<;>first|rfl|(simp[lq];done)|(cases hm;done)
  rw[xB]
  repeat apply aT
  apply oU I hH<;>rfl
 intro hb;have h0:S.2≠[]:=by simpa using hb
 have SG:0<S.2.length:=BJ.mpr h0;have eG:=cS (pH mv) SG;obtain⟨m,Oc⟩:∃m,S.2[ai (pH mv) S.2.length]?=some m:=⟨_,iF eG⟩;have iK:(S.2.map bG)[ai (pH mv) S.2.length]?=some (bG m):=by rw[dh,Oc];rfl
 have Sw:ai (pH mv) S.2.length<(S.2.map bG).length:=by rw[aR];exact eG
 apply gS (x:="at") (v:=.d (.int (ai (pH mv) S.2.length:Nat)))
 .rw[<-gV (pH mv) SG];have el:S.2.length=(S.2.map bG).length:=by rw[aR]
  apply dU (v₂:=.d (.int (S.2.length:Nat)))
  .exact bE (ds:=[.str (yo mv),.int (pH mv)]) (j:=1) (aj aa) aN aa aa
  .rw[el];apply uC (v:=.r pw)
   .exact aj aa
   exact ab2 I.w;left
  exact jW (nz ‹_›)
 .exact⟨.inl aa,rfl,rfl⟩
 apply cP
 .apply bR
  .exact bE (ds:=[.str (yo mv),.int (pH mv)]) (j:=0) (aj aa) aN aa aa
  .left
  .exact fX minZ
  left
 .intro hb;obtain⟨k,rfl⟩:∃k,mv=.double k:=by cases mv<;>first|exact⟨_,rfl⟩|(cases hm;done)|exact aK hb (by dsimp only[yo];decide+kernel)
  have Oc:S.2[ai k S.2.length]?=some m:=Oc;have xB:lq S (.double k)=(S.1,S.2++[m]):=by unfold lq;dsimp only;rw[Oc];rfl
  rw[xB];apply pX
  .apply Cj
   .exact aj aa
   .exact I.w
   .exact I.ww
   .exact pQ (ds:=S.2.map bG) (aj aa) I.w (aj aa) (aZ Sw) iK
   .rw[aR];exact oZ ‹_› rfl
   left
  .intro c' v cu z2;let ⟨zy,z3⟩:=z2;subst z3
   repeat apply aT
   refine CM (base:=c.fn (gb P) 111 L λz=>False) aa (I.Tq (ms:=S.2++[m]) (by rw[eB];rfl)) λM σ wr I=>?_
   apply oU I hH<;>rfl
  left
 intro hb;apply Ci
 .apply g9.pop (ds:=S.2.map bG) (n:=(ai (pH mv) S.2.length:Nat))
  .exact aj aa
  .exact I.w
  .exact I.ww
  .exact aj aa
  .exact aZ Sw
  .exact iK
  left
 .exact⟨.inl aa,rfl,rfl⟩
 .intro c' v cu z2;let ⟨zy,z3⟩:=z2;subst z3;have I1:=I.Tq (ds:=(S.2.map bG).take (ai (pH mv) S.2.length)++(S.2.map bG).drop (ai (pH mv) S.2.length+1)) (ms:=S.2.take (ai (pH mv) S.2.length)++S.2.drop (ai (pH mv) S.2.length+1)) (by rw[eB,Eu,JR]);have acS:=xe S.2 (ai (pH mv) S.2.length);refine CM (base:=c.fn (gb P) 111 L λz=>False) cu I1 λM σ wr I1=>?_
  apply cP
  .apply bR
   .exact bE (ds:=[.str (yo mv),.int (pH mv)]) (j:=0) (aj aa) aN aa aa
   .left
   .exact fX minZ
   left
  case h2=>
   intro fD;obtain⟨k,rfl⟩:∃k,mv=.drop k:=by cases mv<;>first|exact⟨_,rfl⟩|(cases hm;done)|exact aK hb (by dsimp only[yo];decide+kernel)|exact aK fD (by dsimp only[yo];decide+kernel)
   repeat apply aT
   apply oU I1 hH<;>rfl
  intro fD;obtain⟨k,rfl⟩:∃k,mv=.deliver k:=by cases mv<;>first|exact⟨_,rfl⟩|(cases hm;done)|exact aK fD (by dsimp only[yo];decide+kernel)
  have Oc:S.2[ai k S.2.length]?=some m:=Oc;refine aM λnG=>?_;obtain⟨ht0,n,hnn,F1,jT⟩:_:=F m Oc;refine nG ?_
  have xB:lq S (.deliver k)=(S.1.set m.to.toNat (fM n (.msg m)).1,S.2.take (ai k S.2.length)++S.2.drop (ai k S.2.length+1)++(fM n (.msg m)).2):=by
   unfold lq;dsimp only;rw[Oc];dsimp only;rw[hnn]
  rw[xB];have I1:PI pn pw ph (jY (c.fn (gb P) 111 L (λz=>False)) M σ wr) (S.1,S.2.take (ai k S.2.length)++S.2.drop (ai k S.2.length+1)) H:=I1;have acS:(S.2.take (ai k S.2.length)++S.2.drop (ai k S.2.length+1)).length<=S.2.length:=acS;generalize S.2.take (ai k S.2.length)++S.2.drop (ai k S.2.length+1)=w1 at*;have Nx:(m.to.toNat:Int)=m.to:=BP ht0;have hm3:∀{c':C} {ρ':Nm} {e':aU} {q p1 p2},Ev c' ρ' e' (.d (bG m))->Ev c' ρ' (.Subscript e' (.Constant (.int 3) q p1) p2) (.d (.int (m.to.toNat:Nat))):=λh=>by rw[Nx];exact Ev.acR h
  have afG:m.to.toNat<S.1.length:=(iR.mp hnn).1;have hni:(S.1.map bK)[m.to.toNat]?=some (bK n):=by rw[dh,hnn];rfl
  have B4:m.to.toNat<(S.1.map bK).length:=by rw[aR];exact afG
  apply Fx
  .apply mw
   .exact L7 W F1
   .exact W.LU
   .exact(DT W).keep
   .refine br ?_ (br ?_ fj)
    .exact pQ (ds:=S.1.map bK) (aj aa) I1.n (hm3 (aj aa)) (aZ B4) hni
    exact cI (ds:=[.str "message",bG m]) (aP (dZ (by decide+kernel)) (aP (aj aa) bq aa) aa) (bz aa)
   .exact g8 hn aa
   .trivial
   left
  .apply fJ
   .exact rV.Kz (ds:=S.1.map bK) (j:=m.to.toNat) (aj aa) (hm3 (aj aa)) I1.n I1.wn B4
   .rfl
   apply fJ
   .exact jZ ⟨.inl aa,rfl,rfl⟩
   .rfl
   exact pY
  .have I2:=I1.aaF (ns:=S.1.set m.to.toNat (fM n (.msg m)).1) (ds:=(S.1.map bK).set m.to.toNat (bK (fM n (.msg m)).1)) (by rw[JQ]);apply Ex.iadd (ds:=w1.map bG) (es:=(fM n (.msg m)).2.map bG)
   .rfl
   .exact I2.w
   .exact I2.ww
   .exact⟨.inl aa,rfl,rfl⟩
   .exact aj aa
   .rfl
   .rw[aR,aR];exact lK (ig (aG ‹w1.length<=_› ‹_›) ‹_›) aa
   repeat apply aT
   refine CM (base:=c.fn (gb P) 111 L λz=>False) aa (I2.Tq (ms:=w1++(fM n (.msg m)).2) (by rw[eB])) λM σ wr I=>?_
   apply oU I hH<;>rfl
  left
 left;left
end
noncomputable def Jh:Ent->Str
 |.fq _=>"vow"
 |.is _ _=>"is"
 |.eV _=>"took"
 |.bL _ _=>"knows"
 |.cL _ _ _=>"heard"
 |.aL _ _ _=>"offers"
 |.yes _ _ _=>"yes"
def Od:Ent->List D
 |.fq b=>[.int b.1,.int b.2]
 |.is ph b=>[.str (j9 ph),aD b]
 |.eV it=>[.int it.1,aD it.2.1,bl it.2.2]
 |.bL s v=>[.int s,bl v]
 |.cL b j ks=>[aD b,.int j,.lst (ks.map bM)]
 |.aL b s v=>[aD b,.int s,bl v]
 |.yes b s j=>[aD b,.int s,.int j]
def L8(e:Ent):D:=.tup (.str (Jh e)::Od e)
def gA(l:aY):List D:=l.map L8
def LK(l:aY)(k:Str):List D:=(l.filter λe=>eT (.str (Jh e)) (.str k)).map λe=>ou (Od e)
def aen{α:Type}{k:Str}{f:Ent->Option α}{enc:α->D}(h:∀e,(f e).map enc=if eT (.str (Jh e)) (.str k) then some (.tup (Od e)) else none)(l:aY):LK l k=(l.filterMap f).map enc:=by
 unfold LK
 induction l with
 |nil=>rfl
 |cons e l ih=>
  have:=h e;rw[y9,List.filterMap_cons];split at this
  .rename_i hb;cases hf:f e with
   |none=>rw[hf] at this;cases this
   |some x=>rw[hf] at this;rw[aq hb,gx,ih,gx,eF this]
  rename_i hb;cases hf:f e with
  |some x=>rw[hf] at this;cases this
  |none=>rw[ay hb,ih]
def Mb(x:bg×(Int×Int)):D:=.tup [aD x.1,.int x.2.1,.int x.2.2]
def aaJ(x:bg×(Int×Option Str)):D:=.tup [aD x.1,.int x.2.1,bl x.2.2]
def RZ(x:bg×(Int×List bf)):D:=.tup [aD x.1,.int x.2.1,.lst (x.2.2.map bM)]
def aeo(x:Nat×bg):D:=.tup [.str (j9 x.1),aD x.2]
def Hf(l:aY):LK l "vow"=(fN l).map aD/\LK l "is"=(iN l).map aeo/\LK l "took"=(cB l).map bM/\LK l "knows"=(bL l).map gJ/\LK l "heard"=(cE l).map RZ/\LK l "offers"=(aL l).map aaJ/\LK l "yes"=(f9 l).map Mb:=by
 and_intros<;>apply aen<;>intro e<;>cases e<;>dsimp only[Jh]<;>first|exact(aq (by decide+kernel)).symm|exact(ay (by decide+kernel)).symm
def Tr(a:D)(rs:List D):iy (a::rs) (some 1) none=rs:=by
 unfold iy;have h:clipAt (a::rs).length 1=1:=(oz _ 1).trans (n8 (iQ 1 rs.length));simp only[BV,h];show Xa _ rs=rs;exact pL (by simp)
def qj.one{c:C}{ρ:Nm}{e:aU}{b:Bool}(h:iH c ρ e b):qj c ρ [e] b:=by
 have:=qj.cons h λz=>rq
 rwa [zl] at this
def nR(n:Nat):dW 0 n=(b9 n).map .int:=by
 unfold dW b9;rw[cV];exact vE λi z=>by show jF _=jF _;rw[Xg]
section
variable {g:G0}{P:Params}(W:WW g P)
include W
def aep{pl:Addr}{l:aY}{k:Str}(hl:l.length<=ck):yj g 1 117 [.r pl,.d (.str k)] (λσ=>σ pl=some (.l (gA l))) (.lst (LK l k)):=by
 refine rA (n:=0) (aax W) aa λc L hg hn hp=>?_
 subst hg;unfold aae bodyPick;apply jX (d:=.lst (LK l k))
 case hr=>rfl
 apply kM;apply cH;apply wH (ts:=l) (enc:=L8)
 .exact It.adt (aj aa) hp
 .intro La cs M X t ht;refine⟨_,i7 ⟨.inl aa,rfl,rfl⟩,?_,qj.one ?_,λz=>?_⟩
  .exact bV aa fT
  .apply bR
   .exact bE (ds:=.str (Jh t)::Od t) (j:=0) (aj aa) aN (aZ (j:=0) (Eg _)) aa
   .exact aj aa
   .exact fX minZ
   left
  exact z8 (ds:=.str (Jh t)::Od t) (aj aa) (.int aN) .none (Tr _ _)
 .exact hl
 rfl;left
def DW{k:Str}{b:bg}{size:Nat}{rest:List D}(hs:size<=4)(hr:rest.length<=1000):yj g 1 122 [.d (.str k),.d (aD b),.d (.int size),.d (.tup rest)] (λz=>True) (.lst ((mO size b.2).map λj=>.tup (.str k::aD b::.int b.2::.int j::rest))):=by
 intros g P k b size rest _ W hs hr;refine rA (n:=0) (Bj W) aa λc L hg hn hp=>?_
 subst hg;unfold SW bodyPick;apply jX (d:=.lst ((mO size b.2).map λj=>.tup (.str k::aD b::.int b.2::.int j::rest)))
 case hr=>rfl
 apply kM;apply cH;unfold mO;apply wH (ts:=b9 size) (enc:=.int)
 .apply kK;rw[<-nR];exact uB (n:=(size:Int)) (aj aa) (by exact Kd ‹_› (by decide))
 .intro La cs M X t ht;refine⟨_,i7 ⟨.inl aa,rfl,rfl⟩,?_,qj.one ?_,λz=>?_⟩
  .exact bV aa fT
  .have e:(!D.beq (.int t) (.int b.2))=decide (t≠b.2):=by rw[mG];simp
   rw[<-e];apply bR
   .exact aj aa
   .exact bE (ds:=[.int b.1,.int b.2]) (j:=1) (aj aa) aN aa aa
   .exact ur minZ
   left
  apply dU
  .refine cI (ds:=[.str k,aD b,.int b.2,.int t]) ?h (bz aa);refine aP (aj aa) ?_ aa;refine aP (aj aa) ?_ aa;refine aP (bE (ds:=[.int b.1,.int b.2]) (j:=1) (aj aa) aN aa aa) ?_ aa;exact aP (aj aa) bq aa;left
  .exact aj aa
  exact uw (by rw[bU];show 4+_<=1000000;exact aG (ff ‹_› _) (by decide))
 .show _<=1000000;unfold b9;rw[aR,pM];exact lK ‹_› rfl
 rfl;left
end
open Mine.qj renaming one->z9
def R0{T A:Type}(q:T->Bool)(f:T->A)(ts:List T):(ts.map λt=>if q t then[f t] else[]).flatten=(ts.filter q).map f:=by
 induction ts with
 |nil=>rfl
 |cons t ts ih=>cases h:q t<;>simp[h,ih]
section
variable {c:C}{ρ:Nm}{k:List (List Stmt)}{rest:List Stmt}{P:C->Nm->Prop}{R:C->D->Prop}{e:aU}{pos p1 p2 p3 p4:Pos}{pl:Addr}{l:aY}
def Cp.Tt{T:Type}{ts:List T}{enc:T->D}{f:T->Int}{q:T->Bool}{dw tg iter:aU}{ifs:List aU}{scope:ia}(gq:It c ρ iter (ts.map enc))
 (hb:∀La cs M X t,t∈ts->∃tb,wA (c.into scope La cs M X) tg (enc t) tb/\(∀p∈tb,(pU scope ρ).lookup p.1=none)/\qj (c.into scope La cs M X) (tb++pU scope ρ) ifs (q t)/\(q t=true->Ev (c.into scope La cs M X) (tb++pU scope ρ) dw (.d (.int (f t)))))
 (h4:∀t∈ts,0<=f t/\f t<4) (hz:ts.length<=ck) (mj:r9 c.env.kindOf (λx=>(ρ.lookup x).isSome) scope=true) (hs:autoParam (∀x,foldedSetIterable iter c.env x=pure x) HE):Cp c ρ (.SetComp dw [⟨tg,iter,ifs,0⟩] scope pos) (.s (kO ((ts.filter q).map f))):=by
 rw[<-R0];refine Cp.set (by simp) ?_ ?_ gq (λLa cs M X i d o hd ho=>?_) mj hs
 .rw[R0,aR];exact aG (sD _ _) hz
 .intro k hk;rw[R0] at hk;let ⟨t,ht,zy⟩:=cg.mp hk;exact h4 t (sE.mp ht).1
 rw[dh] at hd ho;cases ht:ts[i]? with
 |none=>rw[ht] at hd;cases hd
 |some t=>
  rw[ht] at hd ho;cases hd;cases ho;let ⟨tb,h1,h2,h3,h4⟩:=hb La cs M X t (jK ht);exact⟨tb,q t,h1,h2,h3,λe=>⟨_,h4 e,aq e⟩,λe=>ay (by rw[e];decide)⟩
def Cp.Oe{T:Type}{ts:List T}{enc:T->D}{f:T->Int×D}{ke ve tg iter:aU}{scope:ia}(gq:It c ρ iter (ts.map enc))
 (hb:∀La cs M X t,t∈ts->∃tb,wA (c.into scope La cs M X) tg (enc t) tb/\(∀p∈tb,(pU scope ρ).lookup p.1=none)/\Ev (c.into scope La cs M X) (tb++pU scope ρ) ke (.d (.int (f t).1))/\Ev (c.into scope La cs M X) (tb++pU scope ρ) ve (.d (f t).2))
 (hz:ts.length<=ck) (mj:r9 c.env.kindOf (λx=>(ρ.lookup x).isSome) scope=true) (hs:autoParam (∀x,foldedSetIterable iter c.env x=pure x) HE):Cp c ρ (.DictComp ke ve [⟨tg,iter,[],0⟩] scope pos) (.i (cJ (aS [] (ts.map f)))):=by
 have hf:=L6 f ts;rw[<-hf];refine Cp.dict (by simp) (by rw[hf,aR];exact hz) gq (λLa cs M X i d o hd ho=>?_) mj hs;rw[dh] at hd ho;cases ht:ts[i]? with
 |none=>rw[ht] at hd;cases hd
 |some t=>
  rw[ht] at hd ho;cases hd;cases ho;let ⟨tb,h1,h2,h3,h4⟩:=hb La cs M X t (jK ht);exact⟨tb,true,h1,h2,.nil,λz=>⟨_,_,h3,h4,rfl⟩,λe=>by cases e⟩
def Ex.Mc{ls:List Ent}(hl:c.σ pl=some (.l (gA l)))(hw:c.wr pl)(hn:fR ρ "log" (.r pl))(he:Ev c ρ e (.d (.lst (gA ls))))(hz:l.length+ls.length<=ck)
 (r:∀c',c'={c with M:=c'.M,σ:=c'.σ,wr:=c'.wr}->c'.σ pl=some (.l (gA (l++ls)))->c'.wr pl->(∀a,a≠pl->c'.σ a=c.σ a)->c'.M=c.M->Ex c' ρ (rest::k) P R)
 (bS:autoParam (attributeBase (.Name "log" p1) "extend" c.env (eval (.Name "log" p1) c.env)=eval (.Name "log" p1) c.env) bu) (hline:autoParam ((p2.endLine==p3.line)=true) bu) (cW:autoParam (bJ e=false) bu) (hi:autoParam (interactive c.env=false) bu) (hs:autoParam (swapsWith (.Call (.Attribute (.Name "log" p1) "extend" p2) [e] [] p3) none p4.line c.env=pure false) bu):
 Ex c ρ ((.Expr (.Call (.Attribute (.Name "log" p1) "extend" p2) [e] [] p3) p4::rest)::k) P R:=by
 refine pX (g9.extend (aj hn) hl hw he aa (by unfold gA;rw[aR,aR];exact hz) bS hline cW) (λc' v hc h=>?_) hi hs;have e:=h.1;subst e;exact r _ hc (by show(if pl=pl then _ else _)=_;rw[aq aa];unfold gA;rw[eB]) hw (λa ha=>ay ha) aa
def Ex.Me{x:Ent}(hl:c.σ pl=some (.l (gA l)))(hw:c.wr pl)(hn:fR ρ "log" (.r pl))(he:Ev c ρ e (.d (L8 x)))(hz:l.length+1<=ck)
 (r:∀c',c'={c with M:=c'.M,σ:=c'.σ,wr:=c'.wr}->c'.σ pl=some (.l (gA (l++[x])))->c'.wr pl->(∀a,a≠pl->c'.σ a=c.σ a)->c'.M=c.M->Ex c' ρ (rest::k) P R)
 (bS:autoParam (attributeBase (.Name "log" p1) "append" c.env (eval (.Name "log" p1) c.env)=eval (.Name "log" p1) c.env) bu) (hline:autoParam ((p2.endLine==p3.line)=true) bu) (cW:autoParam (bJ e=false) bu) (hi:autoParam (interactive c.env=false) bu) (hs:autoParam (swapsWith (.Call (.Attribute (.Name "log" p1) "append" p2) [e] [] p3) none p4.line c.env=pure false) bu):
 Ex c ρ ((.Expr (.Call (.Attribute (.Name "log" p1) "append" p2) [e] [] p3) p4::rest)::k) P R:=by
 refine pX (Cj (aj hn) hl hw he (by unfold gA;rw[aR];exact hz) bS hline cW) (λc' v hc h=>?_) hi hs;have e:=h.1;subst e;exact r _ hc (by show(if pl=pl then _ else _)=_;rw[aq aa];unfold gA;rw[eB];rfl) hw (λa ha=>ay ha) aa
end
def rY(g:G0)(n:Nat)(fa:Addr)(vs:List V)(pl:Addr)(l:aY)(r:aY×List cR):Prop:=
 QH g n fa vs (λa=>a=pl) (λσ=>σ pl=some (.l (gA l))) (λz σ' d=>σ' pl=some (.l (gA r.1))/\d=.lst (r.2.map bG))
theorem rY.of{g:G0}{n:Nat}{fa:Addr}{fd:FuncData}{body:List Stmt}{names:List Str}{vs:List V}{pl:Addr}{l:aY}{r:aY×List cR}(F:m8 g fa fd body names)(hl:names.length=vs.length)
 (h:∀(c:C) L,c.toG0=g->n<=c.n->c.σ pl=some (.l (gA l))->Ex (c.fn fd fa L (λa=>a=pl)) (names.zip vs) [body] (λz z=>False) (λc' d=>c'.σ pl=some (.l (gA r.1))/\d=.lst (r.2.map bG))):rY g (n+1) fa vs pl l r:=
 QH.of F hl (λσ σ' SH d h q=>⟨(h pl aa).symm.trans q.1,q.2⟩) λc L hg hn hO hp=>(h c L hg hn hp).mono (λz z h=>h.elim) λz z h=>h
def Tu(x y:bg)(s t:Int):eT (.tup [aD x,.int s]) (.tup [aD y,.int t])=decide (x=y/\s=t):=by
 have h:eT (.tup [aD x,.int s]) (.tup [aD y,.int t])=(eT (aD x) (aD y)&&eT (.int s) (.int t)):=by
  show lE (.tuple [(aD x).py,.int s]) (.tuple [(aD y).py,.int t])=_;simp[lE,EF,eT,D.py]
 rw[h,nQ,mG,Bool.decide_and]
def LY(l:aY):Prop:=∀y∈f9 l,0<=y.2.2/\y.2.2<4
def uY{α Str:Type}(f:α->Option Str)(l:List α):(l.filterMap f).length<=l.length:=List.length_filterMap_le _ _
def Hg(l:List (Int×Option Str))(s:Int):(look (cJ (aS [] (fz l))) s).isSome=(look (aS [] l) s).isSome:=by
 rw[<-oQ];have:=oR (λv:Option Str=>bl v) l [];unfold fz at this⊢;rw[JL] at this;rw[this]
def Df(l:aY)(size:Nat)(b:bg)(s:Int)(v:Option Str):(jj l size b s v).2.length<=size:=by
 unfold jj;split
 .exact b8 _
 rw[aR];exact jn _ _
section
variable {c:C}{ρ:Nm}{P:Params}{pl:Addr}{l:aY}{k:Str}{p1 p2 p3 p4:Pos}
def Ev.DE(hp:c.σ pl=some (.l (gA l)))(W:WW c.toG0 P)(hn:1<=c.n)(hl:l.length<=ck)(h1:fR ρ "log" (.r pl))(hk:kZ k=true)(kq:autoParam (c.env.kindOf "_law_of"=some .globalImplicit) bu){q1:Nat}:Ev c ρ (.Call (.Name "_law_of" p1) [.Name "log" p2,.Constant (.str k) q1 p3] [] p4) (.d (.lst (LK l k))):=
 mw (aep W hl) W.ad9 (aax W).keep (br (aj h1) (br (dZ hk) fj)) hn hp kq
end
section
variable {g:G0}{P:Params}(W:WW g P)
include W
def Tv{pl:Addr}{l:aY}{size:Nat}{b:bg}{s:Int}{v:Option Str}{j:Int}(hj:0<=j/\j<4)(hy:LY l)(hl:l.length<=100000)(hs:size<=4):rY g 3 127 [.r pl,.d (.int size),.d (aD b),.d (.int s),.d (bl v),.d (.int j)] pl l (uN l size b s v j):=by
 intros g P pl l size b s v j _ W hj hy hl hs;refine rY.of (n:=2) (LX W) aa λc L hg hn hp=>?_
 subst hg;unfold SX bodyPick;apply Ex.Me (x:=.yes b s j)
 .exact hp
 .rfl
 .rfl
 .left
 .exact oZ ‹_› rfl
 intro c1 gv h1 w1 _ _;let ⟨M,σ,wr,zy⟩:=bY (c:=c.fn (tR P) 127 L λa=>a=pl) gv
 have Ic:LY (l++[.yes b s j]):=λy hy'=>by
  unfold f9 at hy';rw[mS,dY] at hy';rcases hy' with h|h
  .exact hy y h
  rw[eO.mp h];exact hj
 have yf:(l++[Lf b s j]).length<=100001:=by rw[bU];exact lA ‹_› rfl
 unfold uN;generalize l++[Lf b s j]=l1 at h1 Ic yf;have Vy:l1.length<=ck:=by exact lim ‹_› rfl
 apply Fi (x:="voters") (cn:=.s (cZ l1 b s))
 .apply wN
  .apply Cp.Tt (ts:=f9 l1) (enc:=Mb) (q:=λy=>decide (y.1=b/\y.2.1=s)) (f:=λy=>y.2.2)
   .apply kK;apply i6;rw[<-(Hf _).2.2.2.2.2.2];exact Ev.DE h1 W (by exact g8 hn aa) Vy (by exact aa) (by decide+kernel)
   .intro La cs M X t ht;refine⟨_,q9 (.cons ⟨.inl aa,rfl,rfl⟩ (.cons ⟨.inl aa,rfl,rfl⟩ (.cons ⟨.inl aa,rfl,rfl⟩ .nil))),?_,z9 ?_,λz=>aj aa⟩
    .exact bV aa (bV aa (bV aa fT))
    rw[<-Tu];apply bR
    .left
    .left
    .exact fX (aG (sC _ _) (by simp[D.dep,D.dK,aD]))
    left
   .exact Ic
   .exact aG (uY _ _) Vy
   rfl;left
  left;exact⟨.inl aa,rfl,rfl⟩
 intro va hva hv0;have dg:pl≠va:=λe=>by rw[e,hv0] at h1;cases h1
 have h2:((jY (c.fn (tR P) 127 L (λa=>a=pl)) M σ wr).add va (.s (cZ l1 b s))).σ pl=some (.l (gA l1)):=(ay dg).trans h1;apply cP (b:=decide (2*(cZ l1 b s).length<=size)||(look (aS [] (bL l1)) s).isSome)
 .have e:(decide (2*(cZ l1 b s).length<=size)||(look (aS [] (bL l1)) s).isSome)=(decide (2*((cZ l1 b s).length:Int)<=(size:Int))||((look (cJ (aS [] (fz (bL l1)))) s).isSome||false)):=by
   rw[Bool.or_false,Hg]
   congr 1
   exact decide_eq_decide.mpr (by exact gE.symm)
  rw[e];apply iZ;apply sU
  .apply bR
   .apply dU
    .left
    .apply uC (v:=.r va)
     .exact aj aa
     .exact ab3 (aq aa)
     left
    left
   .exact aj aa
   .exact Cmp.le
   left
  intro _;apply sU
  .apply GD
   .exact aj aa
   .apply zP (v:=.d (.lst (LK l1 "knows"))) (kvs:=fz (bL l1))
    .exact Ev.DE h2 W (by exact g8 hn aa) Vy (by exact aa) (by decide+kernel)
    show LK l1 "knows"=_;rw[(Hf _).2.2.2.1];unfold fz;rw[cV];rfl;left
   .exact C6.inI
   left
  intro _;exact KC
 .intro hb;apply jX (d:=.lst [])
  .exact kM (cH (fH bq (bz aa)))
  unfold jj;rw[aq hb];exact⟨h2,rfl⟩
 intro hb;apply aT;apply Ex.Me (x:=.bL s v)
 .exact h2
 .exact .inl w1
 .rfl
 .left
 .exact lA ‹_<=100001› rfl
 intro c2 oi h3 w2 _ _;let ⟨M2,σ2,wr2,zy⟩:=bY (c:=c.fn (tR P) 127 L λa=>a=pl) oi;apply jX (d:=.lst ((mO size b.2).map λj=>.tup (.str "chosen"::aD b::.int b.2::.int j::[.int s,bl v])))
 .apply kM;apply mw
  .exact DW W hs (rest:=[.int s,bl v]) (bz aa)
  .exact W.DQ
  .exact(Bj W).keep
  .left
  .exact g8 hn aa
  .trivial
  left
 unfold jj;rw[ay (by rw[hb];decide)];exact⟨h3,by rw[cV];rfl⟩;left;left
def Of{pl:Addr}{l:aY}{size:Nat}{b:bg}{s:Int}{v:Option Str}(hj:0<=b.2/\b.2<4)(hy:LY l)(hl:l.length<=90000)(hs:size<=4):rY g 5 134 [.r pl,.d (.int size),.d (aD b),.d (.int s),.d (bl v)] pl l (eE l size b s v):=by
 intros g P pl l size b s v _ W hj hy hl hs;refine rY.of (n:=4) (GY W) aa λc L hg hn hp=>?_;intros c L _ hg hn hp
 subst hg;unfold NR bodyPick;apply Ex.Mc (ls:=[.aL b s v,.eV (s,(b,v))])
 .exact hp
 .rfl
 .rfl
 .apply cH;apply fH
  .refine aP ?_ (aP ?_ bq aa) aa<;>left
  left
 .show _<=1000000;exact lA ‹_› rfl
 intro c1 gv h1 w1 _ _;let ⟨M,σ,wr,zy⟩:=bY (c:=c.fn (xX P) 134 L λa=>a=pl) gv
 have Ic:LY (l++[.aL b s v,.eV (s,(b,v))]):=λy hy'=>by
  unfold f9 at hy';rw[mS,dY] at hy';rcases hy' with h|h
  .exact hy y h
  cases h
 have F:=Tv W (pl:=pl) (l:=l++[.aL b s v,.eV (s,(b,v))]) (size:=size) (b:=b) (s:=s) (v:=v) (j:=b.2) hj Ic (by rw[bU];exact lA ‹_› rfl) hs;apply Fl
 .apply Lv (ds:=(mO size b.2).map λj=>.tup (.str "accept"::aD b::.int b.2::.int j::[.int s,bl v]))
  .apply mw
   .exact DW W hs (rest:=[.int s,bl v]) (bz aa)
   .exact W.DQ
   .exact(Bj W).keep
   .left
   .exact g8 hn aa
   .trivial
   left
  .apply uH
   .exact F
   .exact W.Tc
   .exact(LX W).keep
   .refine br (aj aa) (br (aj aa) (br (aj aa) (br (aj aa) (br (aj aa) (br ?_ fj)))));exact bE (ds:=[.int b.1,.int b.2]) (j:=1) (aj aa) aN aa aa
   .exact g8 hn aa
   .intro a e;intros a _ e;subst e;exact w1
   .exact h1
   left
  intro c' v' z2;refine aM λnG=>?_;obtain⟨_,d,rfl,_,rfl⟩:_:=z2;refine nG ?_
  refine⟨_,rfl,?_⟩;rw[bU,aR,aR];have h1:=jn size λj=>decide (j≠b.2)
  have h2:=Df (l++[.aL b s v,.eV (s,(b,v))]++[.yes b s b.2]) size b s v;show _<=1000000;unfold mO uN;exact lK (ig (aG h1 ‹size<=4›) (aG h2 ‹size<=4›)) aa
 intro c' v' _ z2;let ⟨es,z3,zy⟩:=z2;let ⟨_,z4⟩:=z3;let ⟨d,e,h3,zy⟩:=z4;cases e;refine⟨_,rfl,h3,?_⟩;unfold eE;dsimp only;rw[eB,cV];rfl;left
end
open Mine.Ex renaming Me->CO
def Sub.nil{ρ:Nm}:Sub [] ρ:=λx v e=>by cases e
def Sub.cons{ρ ρ':Nm}{x:Str}{v:V}(h:ρ'.lookup x=some v)(r:Sub ρ ρ'):Sub ((x,v)::ρ) ρ':=λy w e=>by
 by_cases hx:y=x
 .subst hx;rw[fY] at e;rw[h,e]
 rw[aW hx] at e;exact r y w e
def Sub.both{ρ ρ':Nm}{x:Str}{v:V}(r:Sub ρ ρ'):Sub ((x,v)::ρ) ((x,v)::ρ'):=λy w e=>by
 by_cases hx:y=x
 .subst hx;rw[fY] at e;rw[fY,e]
 rw[aW hx] at e⊢;exact r y w e
mutual
theorem D.beq_refl:∀d:D,eT d d=true
 |.int i=>by rw[mG];simp
 |.str x=>by rw[RJ];simp
 |.none=>rfl
 |.bool b=>by cases b<;>rfl
 |.tup ds=>by show lE (.tuple (D.lG ds)) (.tuple (D.lG ds))=true;simp only[lE];exact D.Aa ds
 |.lst ds=>by show lE (.list (D.lG ds)) (.list (D.lG ds))=true;simp only[lE];exact D.Aa ds
theorem D.Aa:∀ds:List D,EF (D.lG ds) (D.lG ds)=true
 |[]=>rfl
 |d::ds=>by
  show EF (d.py::D.lG ds) (d.py::D.lG ds)=true;have h1:=D.beq_refl d;have h2:=D.Aa ds;unfold eT at h1;simp only[EF,h1,h2,Bool.and_self]
end
def Ji{op:kT}(ds:List D):D.ord op (.tup ds) (.tup ds)=some (ow op ds.length ds.length):=by
 rw[Qj];generalize ow op ds.length ds.length=fin
 induction ds with
 |nil=>rfl
 |cons d ds ih=>rw[xO,aq (D.beq_refl d)];exact ih
def yp:D->Int
 |.tup (.int k::_)=>k
 |_=>0
def afH{ds:List D}(ht:∀d∈ds,M6 d)(inj:∀x∈ds,∀y∈ds,yp x=yp y->x=y):K2 yp ds:=λx hx y hy=>by
 by_cases h:yp x=yp y
 .have:=inj x hx y hy h;subst this;let ⟨k,es,zy⟩:=ht _ hx;rw[Ji];simp[ow]
 let ⟨k,es,zy⟩:=ht _ hx;let ⟨k',P5,zy⟩:=ht _ hy;have hk:¬k=k':=h;rw[Qj,xO,mG,decide_eq_false hk];rfl
def rk(ds:List D)(d:D):Int:=((ds.filter λy=>decide (D.ord .Lt y d=some true)).length:Nat)
theorem Hh{α:Type}{p q:α->Bool}:∀{l:List α},(∀z∈l,p z=true->q z=true)->(l.filter p).length<=(l.filter q).length
 |[],_=>bW _
 |x::l,h=>by
  have ih:=Hh (l:=l) λz hz=>h z (.tail _ hz)
  rw[y9,y9]
  by_cases hp:p x=true
  .rw[aq hp,aq (h x (.head _) hp)];exact gw ih
  rw[ay hp];split
  .exact vA ih
  exact ih
theorem Og{α:Type}{p q:α->Bool}{x:α}(hq:q x=true)(hp:p x=false):∀{l:List α},x∈l->(∀z∈l,p z=true->q z=true)->(l.filter p).length<(l.filter q).length
 |y::l,hx,h=>by
  rw[y9,y9];rcases bZ.mp hx with e|hx
  .subst e;rw[ay (by rw[hp];decide),aq hq];exact JF (Hh λz hz=>h z (.tail _ hz))
  have ih:=Og hq hp hx λz hz=>h z (.tail _ hz)
  by_cases hy:p y=true
  .rw[aq hy,aq (h y (.head _) hy)];exact Wu ih
  rw[ay hy];split
  .exact JB ih
  exact ih
def Tw{α:Type}{enc:α->D}{lt:α->α->Bool}{l:List α}(ho:∀x∈l,∀y∈l,D.ord .Lt (enc x) (enc y)=some (lt x y))(acT:∀x y,lt x y=true->lt y x=false)(neg:∀x y z,lt x z=true->lt x y=true\/lt y z=true):K2 (rk (l.map enc)) (l.map enc):=λd hd d' rU=>by
 let ⟨x,hx,zy⟩:=cg.mp hd;let ⟨y,hy,zy⟩:=cg.mp rU;have hp:∀x∈l,∀z∈l,decide (D.ord .Lt (enc z) (enc x)=some true)=lt z x:=λx hx z hz=>by rw[ho z hz x hx];cases lt z x<;>rfl
 rw[ho x hx y hy]
 congr 1
 unfold rk;rw[Pd,Pd,aR,aR];cases h:lt x y with
 |true=>
  symm;rw[decide_eq_true_eq];refine kG.mpr (Og (x:=x) ?_ ?_ hx λz hz hzx=>?_)
  .exact(hp y hy x hx).trans h
  .exact(hp x hx x hx).trans (by cases e:lt x x with
    |false=>rfl
    |true=>exact e.symm.trans (acT x x e))
  have hzx:=(hp x hx z hz).symm.trans hzx;refine(hp y hy z hz).trans ((neg z y x hzx).resolve_right λh'=>?_);rw[acT x y h] at h';cases h'
 |false=>
  symm;rw[decide_eq_false_iff_not,lz];refine gE.mpr (Hh λz hz hzy=>?_);have hzy:=(hp y hy z hz).symm.trans hzy;refine(hp x hx z hz).trans ((neg z x y hzy).resolve_right λh'=>?_);rw[h] at h';cases h'
def Vz{x y:bf}(h:¬(x.1=y.1/\x.2.1=y.2.1)):D.ord .Lt (bM x) (bM y)=some (qw x y):=by
 intros x y _ h;show(if eT (.int x.1) (.int y.1) then if eT (aD x.2.1) (aD y.2.1) then _ else D.ord .Lt (aD x.2.1) (aD y.2.1) else some (decide (x.1<y.1)))=_;simp only[mG,nQ,qw]
 by_cases h1:x.1=y.1
 .have h2:¬x.2.1=y.2.1:=λe=>h ⟨h1,e⟩
  simp[h1,h2,qA]
 simp[h1]
def iM{ds:List D}{k:Nat}(h:∀d∈ds,d.dep<=k):D.dK ds<=k:=by
 induction ds with
 |nil=>exact b8 _
 |cons d ds ih=>
  unfold D.dK;exact Nat.max_le.mpr ⟨h d vB,ih λx hx=>h x (yY _ hx)⟩
def Ab(v:Option Str):(bl v).dep=0:=by cases v<;>rfl
def aaK(it:bf):(bM it).dep<=2:=by unfold bM aD;simp[D.dep,D.dK,Ab]
section
variable {c:C}{ρ:Nm}{e:aU}{p pos:Pos}
def jf.Hi{items out:List bf}(h:uJ c ρ e (items.map bM))(hc:kC items)(rW:items.length<64)(ho:out.Perm items)(hs:out.Pairwise λx y=>qw y x=false)(kq:autoParam (c.env.kindOf "sorted"=some .globalImplicit) bu)(cW:autoParam (bJ e=false) bu):jf c ρ (.Call (.Name "sorted" p) [e] [] pos) (out.map bM):=by
 have eq:∀x∈items,∀y∈items,x.1=y.1/\x.2.1=y.2.1->x=y:=λx hx y hy q=>qW q.1 (qW q.2 (hc x hx y hy q.1 q.2))
 have Tz:∀x∈items,∀y∈items,D.ord .Lt (bM x) (bM y)=some (qw x y):=λx hx y hy=>by
  by_cases q:x.1=y.1/\x.2.1=y.2.1
  .have:=eq x hx y hy q;subst this;unfold bM;rw[Ji,show qw x x=false from jl.mpr (.inr ⟨rfl,mK _⟩)];simp[ow]
  exact Vz q
 have hk:=Tw Tz (λx y=>Gd) λx y z h=>by
  cases h1:qw x y with
  |true=>exact .inl aa
  |false=>
   cases h2:qw y z with
   |true=>exact .inr aa
   |false=>rw[Gb h2 h1] at h;cases h
 have zA:∀x∈items,∀y∈items,qw y x=false->rk (items.map bM) (bM x)<=rk (items.map bM) (bM y):=λx hx y hy h=>by
  have:=hk _ (jQ hy) _ (jQ hx);rw[Tz y hy x hx,h] at this;exact lz.mp (of_decide_eq_false (eF this).symm)
 refine Zx (kf:=rk (items.map bM)) h ?_ hk ?_ (by rw[aR];exact rW) (iM ?_) (ho.map _) ?_ kq cW
 .intro d hd;let ⟨it,_,zy⟩:=cg.mp hd;exact⟨_,_,rfl⟩
 .intro x' hx' y' hy' h;let ⟨x,hx,zy⟩:=cg.mp hx';let ⟨y,hy,zy⟩:=cg.mp hy';have h1:=hk _ (jQ hx) _ (jQ hy);have h2:=hk _ (jQ hy) _ (jQ hx);rw[Tz x hx y hy,h,decide_eq_false (lY _)] at h1;rw[Tz y hy x hx,h,decide_eq_false (lY _)] at h2;exact cj bM (eq x hx y hy (UH (eF h1) (eF h2)))
 .intro d hd;let ⟨it,_,zy⟩:=cg.mp hd;exact aG (aaK it) (by decide)
 rw[zd];exact hs.imp_of_mem λ{x y} hx hy h=>zA x (ho.mem_iff.mp hx) y (ho.mem_iff.mp hy) h
def jf.aaL{ds out:List D}(h:uJ c ρ e ds)(ht:∀d∈ds,M6 d)(inj:∀x∈ds,∀y∈ds,yp x=yp y->x=y)(rW:ds.length<64)(hd:∀d∈ds,d.dep<=400)(ho:out.Perm ds)(hs:out.Pairwise λx y=>yp x<=yp y)(kq:autoParam (c.env.kindOf "sorted"=some .globalImplicit) bu)(cW:autoParam (bJ e=false) bu):jf c ρ (.Call (.Name "sorted" p) [e] [] pos) out:=
 Zx (kf:=yp) h ht (afH ht inj) inj rW (iM hd) ho hs kq cW
end
def Hj(l:aY)(size:Nat)(b:bg)(s:Int)(v:Option Str)(h4:size<=4)(hb:0<=b.2/\b.2<4)(hy:LY l):(eE l size b s v).1.length<=l.length+4/\(eE l size b s v).2.length<=8/\LY (eE l size b s v).1:=by
 intros l size b s v _ h4 hb hy;have h1:=Df (l++[.aL b s v,.eV (s,(b,v))]++[.yes b s b.2]) size b s v;have h2:((mO size b.2).map λj=>ZD b b.2 j s v).length<=size:=by rw[aR];exact jn _ _
 have Ic:LY (l++[.aL b s v,.eV (s,(b,v))]++[.yes b s b.2]):=λy hy'=>by
  unfold f9 at hy';rw[mS,mS,dY,dY] at hy';rcases hy' with(h|h)|h
  .exact hy y h
  .cases h
  rw[eO.mp h];exact hb
 have hl:(l++[Le b s v,Ent.eV (s,(b,v))]++[Lf b s b.2]).length=l.length+3:=by rw[bU,bU];rfl
 unfold eE uN;dsimp only;rw[bU];generalize l++[Le b s v,Ent.eV (s,(b,v))]++[Lf b s b.2]=l1 at h1 Ic hl;refine⟨?_,ig (aG h2 ‹size<=4›) (aG h1 ‹size<=4›),?_⟩
 .unfold jj;split
  .show l1.length<=_;exact aG (fF ‹_›) (jr _)
  show(l1++_).length<=_;rw[bU];show _+1<=_;exact gw (fF ‹_›)
 unfold jj;split
 .exact Ic
 intro y hy';unfold f9 at hy';rw[mS,dY] at hy';rcases hy' with h|h
 .exact Ic y h
 cases h
def Mf(i:Nat):slots ((i+1:Nat):Int)=slots (i:Int)++[(i:Int)+1]:=by
 unfold slots;simp only[iX];rw[BI,eB];rfl
def yO(size:Nat)(b:bg)(best:List (Int×Option Str))(r:aY×List cR)(i:Nat):dB size b best (slots ((i+1:Nat):Int)) r=((eE (dB size b best (slots (i:Int)) r).1 size b ((i:Int)+1) ((look best ((i:Int)+1)).getD none)).1,(dB size b best (slots (i:Int)) r).2++(eE (dB size b best (slots (i:Int)) r).1 size b ((i:Int)+1) ((look best ((i:Int)+1)).getD none)).2):=by
 unfold dB;rw[Mf,t9];rfl
def Oh(size:Nat)(b:bg)(best:List (Int×Option Str))(l:aY)(h4:size<=4)(hb:0<=b.2/\b.2<4)(hy:LY l)(i:Nat):(dB size b best (slots (i:Int)) (l,[])).1.length<=l.length+4*i/\(dB size b best (slots (i:Int)) (l,[])).2.length<=8*i/\LY (dB size b best (slots (i:Int)) (l,[])).1:=by
 induction i with
 |zero=>exact⟨bW _,bW _,hy⟩
 |succ i ih=>
  rw[yO];generalize dB size b best (slots (i:Int)) (l,[])=r at ih;have:=Hj r.1 size b ((i:Int)+1) ((look best ((i:Int)+1)).getD none) h4 hb ih.2.2;dsimp only;rw[bU];exact⟨aG this.1 (kU ih.1 4),ig ih.2.1 this.2.1,this.2.2⟩
structure Oi(l:aY)(b:bg)(j:Int)(ks:List bf):Prop where
 b2:0<=b.2/\b.2<4
 y:LY l
 len:l.length<=50000
 n:((az (l++[.cL b j ks]) b).map (·.2)).flatten.length<64
 comp:kC ((az (l++[.cL b j ks]) b).map (·.2)).flatten
 top:dI ((iA ((az (l++[.cL b j ks]) b).map (·.2)).flatten).map (·.1))<=500/\-500<=dI ((iA ((az (l++[.cL b j ks]) b).map (·.2)).flatten).map (·.1))
def LY.app{l:aY}{xs:List Ent}(h:LY l)(hx:f9 xs=[]):LY (l++xs):=λy hy=>by
 unfold f9 at hy hx;rw[mS,hx,iW] at hy;exact h y hy
def R3(l:List (Int×Option Str)):(cJ (fz l)).map (·.1)=l.map (·.1):=by unfold cJ fz;rw[cV,cV];rfl
def R4(l:List (Int×Option Str))(s:Int):(look (cJ (fz l)) s).getD (.d .none)=lF (bl ((look l s).getD none)):=by
 have:look (cJ (fz l)) s=(look l s).map λv=>lF (bl v):=by
  unfold cJ fz;rw[cV];exact jm (λv=>lF (bl v)) l s
 rw[this];cases look l s<;>rfl
section
variable {g:G0}{P:Params}(W:WW g P)
include W
def TA{pl:Addr}{l:aY}{size:Nat}{b:bg}{j:Int}{ks:List bf}(hs:size<=4)(F:Oi l b j ks):rY g 7 139 [.r pl,.d (.int size),.d (aD b),.d (.int j),.d (.lst (ks.map bM))] pl l (j4 l size b j ks):=by
 intros g P pl l size b j ks _ W hs F;refine rY.of (n:=6) (LZ W) aa λc L hg hn hp=>?_;intros c L _ hg hn hp
 subst hg;refine aM λnG=>?_;obtain⟨fD,hy,cG,hN,aeq,qm⟩:_:=F;refine nG ?_
 unfold SY bodyPick;apply CO (x:=.cL b j ks)
 .exact hp
 .rfl
 .rfl
 .left
 .exact oZ ‹_› rfl
 intro c1 gv h1 w1 _ _;let ⟨M,σ,wr,zy⟩:=bY (c:=c.fn (rL P) 139 L λa=>a=pl) gv;have Ic:LY (l++[.cL b j ks]):=hy.app aa;have yf:(l++[Rb b j ks]).length<=50001:=by rw[bU];exact lA ‹_› rfl
 unfold j4;dsimp only;generalize l++[Rb b j ks]=l1 at*;have Vy:l1.length<=ck:=by exact lim ‹_› rfl
 have rH:(az l1 b).map (·.2)=((cE l1).filter λx=>decide (x.1=b)).map λx=>x.2.2:=by unfold az;rw[cV];rfl
 have Ie:((az l1 b).map (·.2)).length<=50001:=by
  rw[rH,aR];exact aG (sD _ _) (aG (uY _ _) yf)
 apply Fj (x:="lists") (v:=.d (.lst (((az l1 b).map (·.2)).map λks=>.lst (ks.map bM))))
 .rw[rH,cV];apply FH;apply wN
  .apply Cr (ts:=cE l1) (enc:=RZ) (q:=λx=>decide (x.1=b))
   .apply kK;apply i6;rw[<-(Hf _).2.2.2.2.1];exact Ev.DE h1 W (by exact g8 hn aa) Vy (by exact aa) (by decide+kernel)
   .intro La cs M X t ht;refine⟨_,q9 (.cons ⟨.inl aa,rfl,rfl⟩ (.cons ⟨.inl aa,rfl,rfl⟩ (.cons ⟨.inl aa,rfl,rfl⟩ .nil))),?_,z9 ?_,λz=>aj aa⟩
    .exact bV aa (bV aa (bV aa fT))
    rw[<-nQ];apply bR
    .exact aj aa
    .exact aj aa
    .exact fX (aG (sC _ _) (qp b))
    left
   .exact aG (uY _ _) Vy
   rfl;left
  left;exact⟨.inl aa,rfl,rfl⟩
 clear rH;generalize(az l1 b).map (·.2)=jG at*;refine Ex.gen λPp R z hR=>?_
 apply cP (b:=decide (2*jG.length<=size))
 .have e:decide (2*jG.length<=size)=decide (2*((jG.map λks=>kJ (ks.map bM)).length:Int)<=(size:Int)):=by
   rw[aR];exact decide_eq_decide.mpr (by exact gE.symm)
  rw[e];apply bR
  .apply dU
   .left
   .apply uC
    .exact aj aa
    .rfl
    left
   left
  .exact aj aa
  .exact Cmp.le
  left
 .intro hb;rw[aq (fG hb)] at hR;apply jX (d:=.lst [])
  .exact kM (cH (fH bq (bz aa)))
  exact hR _ _ ⟨h1,rfl⟩
 intro hb;rw[ay (of_decide_eq_false hb)] at hR;apply aT;apply CO (x:=.is 2 b)
 .exact h1
 .exact w1
 .rfl
 .left
 .exact lA ‹_<=50001› rfl
 intro c2 oi h2 w2 _ _;let ⟨M,σ,wr,zy⟩:=bY (c:=c.fn (rL P) 139 L λa=>a=pl) oi;have hy2:LY (l1++[.is 2 b]):=Ic.app aa;have B4:(l1++[Ent.is 2 b]).length<=50002:=by rw[bU];show _+1<=_;exact JF ‹_›
 generalize l1++[Ent.is 2 b]=l2 at*
 have L4:cJ (aS [] ((AL jG.flatten).map λit=>(it.1,bl it.2.2)))=cJ (fz (iA jG.flatten)):=by
  have:=oR (λv:Option Str=>bl v) ((AL jG.flatten).map λit=>(it.1,it.2.2)) [];rw[cV] at this;exact cj cJ this
 apply Fi (x:="best") (cn:=.i (cJ (fz (iA jG.flatten))))
 .rw[<-L4];apply wN
  .apply Cp.Oe (ts:=AL jG.flatten) (enc:=bM)
   .apply kK;apply i6;apply cH;apply jf.Hi (items:=jG.flatten)
    .apply Q6 (v:=.d (.lst (jG.flatten.map bM)))
     case ha=>rfl
     apply cH;apply jP.f;apply KV;have ef:jG.flatten.map bM=(jG.map λks=>ks.map bM).flatten:=by rw[O6]
     rw[ef];apply Cp.adG (ds:=jG.map λks=>kJ (ks.map bM))
     .rw[aR,aR]
     .rw[<-ef,aR];show _<=1000000;exact aG (ee ‹_›) (by decide)
     .exact kK (i6 (aj aa))
     .intro La cs M X i d o hd ho;rw[dh] at hd ho;cases hk:jG[i]? with
      |none=>rw[hk] at hd;cases hd
      |some kk=>
       rw[hk] at hd ho;cases hd;cases ho;refine⟨_,true,i7 ⟨.inl aa,rfl,rfl⟩,?_,rq,λz=>⟨kk.map bM,(kk.map bM).map λx=>[x],kK (i6 (aj aa)),by rw[aR],?_,?_⟩,λe=>by cases e⟩
       .exact bV aa fT
       .exact((L6 id _).trans (O7 _)).symm
       intro j' d' o' rU tH;rw[dh,rU] at tH;cases tH;refine⟨_,true,i7 ⟨.inl aa,rfl,rfl⟩,?_,rq,λz=>⟨_,aj aa,rfl⟩,λe=>by cases e⟩;exact bV aa fT
     .rfl
     all_goals (intros;rfl)
    .exact aeq
    .exact hN
    .exact rF _
    exact AM _;left
   .intro La cs M X t ht;refine⟨_,q9 (.cons ⟨.inl aa,rfl,rfl⟩ (.cons ⟨.inl aa,rfl,rfl⟩ (.cons ⟨.inl aa,rfl,rfl⟩ .nil))),?_,aj aa,aj aa⟩;exact bV aa (bV aa (bV aa fT))
   .rw[(rF _).length_eq];show _<=1000000;exact aG (ee ‹_›) (by decide)
   rfl;left
  left;exact⟨.inl aa,rfl,rfl⟩
 intro ba hba qf;generalize iA jG.flatten=best at*;have dg:pl≠ba:=λe=>by rw[e,qf] at h2;cases h2
 apply gS (x:="out") (v:=.d (.lst []))
 .exact cH (fH bq (bz aa))
 .exact⟨.inl aa,rfl,rfl⟩
 apply Ex.for (Inv:=λi c' ρ'=>c'.σ pl=some (.l (gA (dB size b best (slots (i:Int)) (l2,[])).1))/\c'.wr pl/\c'.σ ba=some (.i (cJ (fz best)))/\Sub [("log",.r pl),("size",.d (.int size)),("ballot",.d (aD b)),("best",.r ba),("out",.d (.lst ((dB size b best (slots (i:Int)) (l2,[])).2.map bG)))] ρ')
 .apply YV (a:=1) (b:=dI (best.map (·.1))+1)
  .left
  .apply dU
   .apply Ru (kvs:=cJ (fz best)) (d:=0)
    .exact aj aa
    .exact aq aa
    left
   .left
   have e:(if cJ (fz best)=[] then(0:Int) else dI ((cJ (fz best)).map (·.1)))=dI (best.map (·.1)):=by
    rw[R3];split
    .rename_i h;have:best=[]:=by simpa [cJ,fz] using h
     rw[this];rfl
    rfl
   rw[e];exact pP
  .decide
  .exact acm qm.1 qm.2 aa aa
  exact tnK qm.1 aa;left
 .exact⟨(ay dg).trans h2,.inl w2,aq aa,.cons aa (.cons aa (.cons aa (.cons aa (.cons aa .nil))))⟩
 .intro i d c' ρ' cu hd z2;let ⟨g1,g2,g3,g4⟩:=z2;let ⟨M,σ,wr,zy⟩:=bY (c:=c.fn (rL P) 139 L λa=>a=pl) cu;let ⟨zy,hi⟩:=acv hd;have bd:=Oh size b best l2 hs fD hy2 i;refine⟨_,i7 ⟨.inl aa,rfl,rfl⟩,?_⟩;refine kN (kN (ρ':=("s",.d (.int ((i:Int)+1)))::[("log",.r pl),("size",.d (.int size)),("ballot",.d (aD b)),("best",.r ba),("out",.d (.lst ((dB size b best (slots (i:Int)) (l2,[])).2.map bG)))]) ?_ g4.both) λz z h=>h
  rw[yO];generalize dB size b best (slots (i:Int)) (l2,[])=r at*;refine Ex.aeV λPq hQ=>?_
  have F:=Of W (pl:=pl) (l:=r.1) (size:=size) (b:=b) (s:=(i:Int)+1) (v:=(look best ((i:Int)+1)).getD none) fD bd.2.2 (aG bd.1 (aG (ig B4 (jI 4 (ee (T3 qm.1 hi)))) (bz aa))) hs;have ob:=Hj r.1 size b ((i:Int)+1) ((look best ((i:Int)+1)).getD none) hs fD bd.2.2;apply Ci
  .apply Lv (ds:=r.2.map bG)
   .exact aj aa
   .apply uH
    .exact F
    .exact W.NY
    .exact(GY W).keep
    .refine br (aj aa) (br (aj aa) (br (aj aa) (br (aj aa) (br ?_ fj))));rw[<-R4];exact Ev.afm (aj aa) g3 (aj aa)
    .exact g8 hn aa
    .intro a e;subst e;exact g2
    .exact g1
    left
   intro c' v' z2;refine aM λnG=>?_;obtain⟨_,d,rfl,_,rfl⟩:_:=z2;refine nG ?_
   refine⟨_,rfl,?_⟩;rw[bU,aR,aR];show _<=1000000;exact aG (ig (aG bd.2.1 (jI 8 (ee (T3 qm.1 hi)))) ob.2.1) (bz aa)
  .exact⟨.inl aa,rfl,rfl⟩
  .intro c' v' cu z2;refine aM λnG=>?_;obtain⟨es,⟨A,d,e,h3,rfl⟩,rfl⟩:_:=z2;refine nG ?_
   cases e;apply aT;apply dM;refine hQ _ _ ⟨h3,A.ww _ g2,A.sg ba _ dg.symm g3,?_⟩;rw[eB];exact .cons aa (.cons aa (.cons aa (.cons aa (.cons aa .nil))))
  left
 intro c' ρ' cu z2;let ⟨g1,g2,g3,g4⟩:=z2;have e:(dW 1 (dI (best.map (·.1))+1-1).toNat).length=(dI (best.map (·.1))).toNat:=by simp[dW]
 rw[e,<-qx] at g1;rw[e,<-qx] at g4;let ⟨M,σ,wr,zy⟩:=bY (c:=c.fn (rL P) 139 L λa=>a=pl) cu;apply jX
 .exact kM (aj (g4 "out" _ aa))
 exact hR _ _ ⟨g1,rfl⟩;left;left;left;left
end
def VA{α Str:Type}(h:Int×α->Str)(acc:List (Int×α))(k:Int)(x:α):put (acc.map λp=>(p.1,h p)) k (h (k,x))=(put acc k x).map λp=>(p.1,h p):=by
 unfold put;have e:(acc.map λp=>(p.1,h p)).any (λp=>decide (p.1=k))=acc.any λp=>decide (p.1=k):=by rw[W7];rfl
 rw[e];split
 .rw[cV,cV];refine vE λp z=>?_
  show(if p.1=k then(p.1,h (k,x)) else(p.1,h p))=_
  by_cases hk:p.1=k
  .subst hk;simp
  simp[hk]
 rw[eB];rfl
theorem Hl{α Str:Type}(h:Int×α->Str):∀(l acc:List (Int×α)),aS (acc.map λx=>(x.1,h x)) (l.map λx=>(x.1,h x))=(aS acc l).map λx=>(x.1,h x)
 |[],_=>rfl
 |p::l,acc=>by
  show aS (put (acc.map λx=>(x.1,h x)) p.1 (h p)) (l.map λx=>(x.1,h x))=(aS (put acc p.1 p.2) l).map _;rw[show h p=h (p.1,p.2) from rfl,VA,Hl h l]
def VB{vs:List bg}:∀x∈vs,fV (kP vs) x=false:=by
 refine rD (P:=λvs=>∀x∈vs,fV (kP vs) x=false) (λx hx=>by cases hx) (λl a ih x hx=>?_) vs;intros l a x _ ih hx
 by_cases hl:l=[]
 .subst hl;rw[eO.mp hx];exact mK a
 rw[uQ hl];rcases dY.mp hx with h|h
 .have:=ih x h;split
  .rename_i hb;exact uP (Lh this hb)
  exact this
 rw[eO.mp h];split
 .exact mK a
 rename_i hb;exact zk.mpr hb
def Ev.ab4{c:C}{ρ:Nm}{e:aU}{p pos:Pos}{vs:List bg}(h:Ev c ρ e (.d (.lst (vs.map aD))))(hv:vs≠[])(kq:autoParam (c.env.kindOf "max"=some .globalImplicit) bu)(cW:autoParam (bJ e=false) bu):Ev c ρ (.Call (.Name "max" p) [e] [] pos) (.d (aD (kP vs))):=by
 intros c ρ e p pos vs _ h hv kq cW;have hk:=Tw (enc:=aD) (lt:=fV) (l:=vs) (λx w y w=>qA x y) (λx y=>uP) λx y z h=>dite (fV x y=true) .inl λh1=>.inr (Lh (zk.mpr h1) h)
 refine Ev.afi (kf:=rk (vs.map aD)) h aa ?_ (jQ (mL hv)) ?_ ?_ (iM λd hd=>?_) kq cW
 .intro x' hx' y' hy';have h2:=hk y' hy' x' hx';let ⟨x,hx,zy⟩:=cg.mp hx';let ⟨y,hy,zy⟩:=cg.mp hy';rw[qA] at h2;rw[DP];exact h2
 .intro x' hx';have h2:=hk _ (jQ (mL hv)) x' hx';let ⟨x,hx,zy⟩:=cg.mp hx';rw[qA,VB x hx] at h2;exact lz.mp (of_decide_eq_false (eF h2).symm)
 .intro x' hx' h;have h2:=hk _ (jQ (mL hv)) x' hx';have h3:=hk x' hx' _ (jQ (mL hv));let ⟨x,hx,zy⟩:=cg.mp hx';rw[qA,h,decide_eq_false (lY _)] at h2;rw[qA,h,decide_eq_false (lY _)] at h3;have h2:=eF h2;have h3:=eF h3
  first|exact cj aD (tM h2 h3)|exact cj aD (tM h3 h2)
 let ⟨x,_,zy⟩:=cg.mp hd;exact qp x
def aaM{α:Type}{l:List (Int×α)}(f:Int×α->D)(hf:∀x,yp (f x)=x.1)(h:Nk l):((aI l).map f).Pairwise λx y=>yp x<=yp y:=by
 rw[zd];exact(nB h).imp λ{x y} UT=>by rw[hf,hf];exact jR UT
def TF{α:Type}{l:List (Int×α)}(f:Int×α->D)(hf:∀x,yp (f x)=x.1)(h:Nk l):∀x∈l.map f,∀y∈l.map f,yp x=yp y->x=y:=λx' hx' y' hy' e=>by
 let ⟨x,hx,zy⟩:=cg.mp hx';let ⟨y,hy,zy⟩:=cg.mp hy';rw[hf,hf] at e;have h1:=h.look hx;rw[e,h.look hy] at h1;exact cj f (qW e (eF h1).symm)
def yd(ks:List bf):D.dK (ks.map bM)<=2:=iM λd hd=>by
 let ⟨it,_,zy⟩:=cg.mp hd;exact aaK it
def Sub.get{ρ ρ':Nm}{x:Str}{v:V}(h:Sub ρ ρ')(e:ρ.lookup x=some v):ρ'.lookup x=some v:=h x v e
structure xF(l:aY):Prop where
 is:iN l≠[]
 ph:((iN l).getLastD (0,(0,0))).1<=2
 fq:fN l≠[]
 len:l.length<=100000
 tn:(aS [] (cB l)).length<64
 kk:Nk (bL l)
 kn:(bL l).length<64
 hk:((iN l).getLastD (0,(0,0))).1=1->Nk (az l ((iN l).getLastD (0,(0,0))).2)/\(az l ((iN l).getLastD (0,(0,0))).2).length<64
 y:LY l
def Oj{l:aY}(hy:LY l)(b:bg)(s:Int):(cZ l b s).length<64:=by
 have h:=uI (u:=[0,1,2,3]) (kB (((f9 l).filter λy=>decide (y.1=b/\y.2.1=s)).map (·.2.2))) λx hx=>by
  let ⟨y,hy',zy⟩:=cg.mp (rE.mp hx);exact ack (hy y (sE.mp hy').1)
 exact f6 h (by decide)
def VC{α:Type}{l:List α}(d:α)(h:l≠[]):l[l.length-1]?=some (l.getLastD d):=by
 rw[<-List.getLast?_eq_getElem?,Xb h,Pa,Xb h];rfl
def rQ{n:Nat}(h:0<n):seqIndex? (-1) n=some (n-1):=by
 obtain⟨m,rfl⟩:∃m,n=m+1:=⟨n-1,(Nat.sub_add_cancel h).symm⟩;have e:(-1:Int)+((m+1:Nat):Int)=(m:Int):=by rw[Int.natCast_add,Xj];exact Int.add_neg_cancel_right _ 1
 have q:(decide ((0:Int)<=-1+((m+1:Nat):Int))&&decide ((-1:Int)+((m+1:Nat):Int)<((m+1:Nat):Int)))=true:=by
  rw[e];exact(iT _ _).mpr ⟨decide_eq_true (iS m),decide_eq_true (kG.mpr (qK m))⟩
 exact(aq q).trans (cj some (cj Int.toNat e))
section
variable {g:G0}{P:Params}(W:WW g P)
include W
def TG{pl:Addr}{l:aY}{me:Int}{size:Nat}(F:xF l):yj g 3 144 [.r pl,.d (.int me),.d (.int size)] (λσ=>σ pl=some (.l (gA l))) (bK (ao l me size)):=by
 intros g P pl l me size _ W F;refine rA (n:=2) (L1 W) aa λc L hg hn hp=>?_;intros c L _ hg hn hp
 subst hg;have hL:l.length<=ck:=by have:=F.len;exact lim ‹_› rfl
 have hn1:1<=c.n-1:=g8 hn aa;have DE:∀{ρ:Nm} {k:Str} {p1 p2 p3 p4:Pos} {q1:Nat},fR ρ "log" (.r pl)->kZ k=true->Ev (c.fn (rM P) 144 L λz=>False) ρ (.Call (.Name "_law_of" p1) [.Name "log" p2,.Constant (.str k) q1 p3] [] p4) (.d (.lst (LK l k))):=λh1 h2=>Ev.DE (c:=c.fn (rM P) 144 L λz=>False) hp W hn1 hL h1 h2
 generalize hpb:(iN l).getLastD (0,(0,0))=pb;have qC:pb.1<=2:=hpb▸F.ph;have Rj:pb.1=1->Nk (az l pb.2)/\(az l pb.2).length<64:=hpb▸F.hk
 have ed:bK (ao l me size)=.tup [.int me,.int size,aD (kP (fN l)),.lst ((aI (aS [] (cB l))).map bM),.lst ((aI (bL l)).map gJ),.str (j9 pb.1),aD pb.2,.lst (if pb.1=1 then(aI (az l pb.2)).map kc else if pb.1=2 then((aQ l pb.2).map λx=>(x.1,(x.2,d7 (cZ l pb.2 x.1)))).map kg else[])]:=by
  unfold bK ao fZ;dsimp only;rw[hpb]
  by_cases h1:pb.1=1
  .simp only[h1,if_true]
  by_cases h2:pb.1=2
  .simp only[h2,if_true];rfl
  simp only[h1,h2,if_false]
 have fin:∀(ρ:Nm) (k:List (List Stmt)) (hd:List D),Sub [("log",.r pl),("me",.d (.int me)),("size",.d (.int size)),("accepted",.d (.lst ((aI (aS [] (cB l))).map bM))),("phase",.d (.str (j9 pb.1))),("ballot",.d (aD pb.2)),("heard",.d (.lst hd))] ρ->hd=(if pb.1=1 then(aI (az l pb.2)).map kc else if pb.1=2 then((aQ l pb.2).map λx=>(x.1,(x.2,d7 (cZ l pb.2 x.1)))).map kg else[])->
  Ex (c.fn (rM P) 144 L λz=>False) ρ (((xY P).drop 5)::k) (λz z=>bK (ao l me size)=.none) (λz d'=>d'=bK (ao l me size)):=by
  intro ρ k hd hS hh;intros ρ k hd _ hS hh;rw[ed,<-hh];refine kN ?_ hS;unfold xY bodyPick;apply jX
  case hr=>rfl
  apply kM;apply cI
  case hz=>exact bz aa
  refine aP (aj aa) ?_ aa;refine aP (aj aa) ?_ aa;refine aP ?_ ?_ aa
  .apply Ev.ab4
   .rw[<-(Hf _).1];exact DE (by exact aa) (by decide+kernel)
   .exact F.fq
   left
  refine aP (aj aa) ?_ aa;refine aP ?_ ?_ aa
  .apply cH;apply jf.aaL (ds:=(bL l).map gJ)
   .apply Q6 (v:=.d (.lst ((bL l).map gJ)))
    .rw[<-(Hf _).2.2.2.1];exact DE (by exact aa) (by decide+kernel)
    rfl
   .intro d hd;intros d _ hd;let ⟨x,_,zy⟩:=cg.mp hd;exact⟨_,_,rfl⟩
   .exact TF gJ (λz=>rfl) F.kk
   .rw[aR];exact F.kn
   .intro d hd;intros d _ hd;let ⟨x,_,zy⟩:=cg.mp hd;unfold gJ;simp[D.dep,D.dK,Ab]
   .exact(fL _).map _
   exact aaM gJ (λz=>rfl) F.kk;left
  refine aP (aj aa) ?_ aa;refine aP (aj aa) ?_ aa;exact aP (aj aa) bq aa
 have mid:∀(ρ:Nm) (k:List (List Stmt)) (hd:List D),Sub [("log",.r pl),("me",.d (.int me)),("size",.d (.int size)),("accepted",.d (.lst ((aI (aS [] (cB l))).map bM))),("phase",.d (.str (j9 pb.1))),("ballot",.d (aD pb.2)),("heard",.d (.lst hd))] ρ->(pb.1≠2->hd=(if pb.1=1 then(aI (az l pb.2)).map kc else[]))->
  Ex (c.fn (rM P) 144 L λz=>False) ρ (((xY P).drop 4)::k) (λz z=>bK (ao l me size)=.none) (λz d'=>d'=bK (ao l me size)):=by
  intro ρ k hd hS hh;intros ρ k hd _ hS hh;refine kN ?_ hS;unfold xY bodyPick at fin⊢;apply cP
  .apply bR
   .exact aj aa
   .left
   .exact fX minZ
   left
  case h2=>
   intro hb;rw[g5 qC] at hb;have hb:=of_decide_eq_false hb;apply aT;exact fin _ _ hd xA (by rw[hh hb];split<;>first|rfl|rw[ay hb])
  intro hb;rw[g5 qC] at hb;have hb:=fG hb;apply gS (x:="yes") (v:=.d (.lst (LK l "yes")))
  .exact DE (by exact aa) (by decide+kernel)
  .exact cD
  apply Fj (x:="heard") (v:=.d (.lst (((aL l).filter λx=>decide (x.1=pb.2)).map λx=>.tup [.int x.2.1,bl x.2.2,.lst (bA (d7 (cZ l pb.2 x.2.1)))])))
  .apply FH;apply wN
   .apply Cr (ts:=aL l) (enc:=aaJ) (q:=λx=>decide (x.1=pb.2))
    .apply kK;apply i6;rw[<-(Hf _).2.2.2.2.2.1];exact DE (by exact aa) (by decide+kernel)
    .intro La cs M X t ht;intros La cs M X t _ ht;refine⟨_,q9 (.cons ⟨.inl aa,rfl,rfl⟩ (.cons cD (.cons ⟨.inl aa,rfl,rfl⟩ .nil))),?_,z9 ?_,λz=>?_⟩
     .exact bV aa (bV aa (bV aa fT))
     .rw[<-nQ];apply bR
      .exact aj aa
      .exact aj aa
      .exact fX (aG (sC _ _) (qp _))
      left
     apply cI
     .refine aP (aj aa) ?_ aa;refine aP (aj aa) ?_ aa;refine aP ?_ bq aa;apply cH;apply Q5 (ns:=cZ l pb.2 t.2.1)
      .apply uJ.abI;apply KV;apply Cp.Tt (ts:=f9 l) (enc:=Mb) (q:=λy=>decide (y.1=pb.2/\y.2.1=t.2.1)) (f:=λy=>y.2.2)
       .apply kK;apply i6;rw[<-(Hf _).2.2.2.2.2.2];exact aj aa
       .intro La' cs' M' X' u hu;intros La' cs' M' X' u _ hu;refine⟨_,q9 (.cons ⟨.inl aa,rfl,rfl⟩ (.cons ⟨.inl aa,rfl,rfl⟩ (.cons ⟨.inl aa,rfl,rfl⟩ .nil))),?_,z9 ?_,λz=>aj aa⟩
        .exact bV aa (bV aa (bV aa fT))
        rw[<-Tu];apply bR
        .left
        .left
        .exact fX (aG (sC _ _) (by simp[D.dep,D.dK,aD]))
        left
       .exact F.y
       .exact aG (uY _ _) hL
       rfl;left
      .exact Oj F.y _ _
      .exact ji _
      exact nC _;left
     left
    .exact aG (uY _ _) hL
    rfl;left
   left;exact⟨.inl aa,rfl,rfl⟩
  apply aT;refine fin _ _ _ (.cons aa (.cons aa (.cons aa (.cons aa (.cons aa (.cons aa (.cons aa .nil))))))) ?_;rw[ay (λe=>aK (hb.symm.trans e) (by decide)),aq hb];unfold aQ;rw[cV,cV];rfl;left
 unfold xY bodyPick at mid⊢;apply Fx (ds:=[.str (j9 pb.1),aD pb.2])
 .apply pQ (ds:=LK l "is") (k:=-1) (j:=(iN l).length-1)
  .exact DE (by exact aa) (by decide+kernel)
  .rfl
  .first|exact Kq aN|exact aN
  .rw[(Hf _).2.1,aR];exact rQ (BJ.mpr F.is)
  rw[(Hf _).2.1,dh,VC (0,(0,0)) F.is,hpb];rfl;left
 .apply fJ
  .exact jZ cD
  .rfl
  apply fJ
  .exact jZ cD
  .rfl
  exact pY
 apply gS (x:="accepted") (v:=.d (.lst ((aI (aS [] (cB l))).map bM)))
 .have ev:(aS [] ((cB l).map λit=>(it.1,bM it))).map (λp=>p.2)=(aS [] (cB l)).map bM:=by
   have:=Hl (λit:Int×(bg×Option Str)=>bM it) (cB l) [];rw[JL] at this;rw[this,cV];rfl
  apply cH;apply jf.Hi (items:=aS [] (cB l))
  .rw[<-ev];apply uJ.Zu
   .apply KV;apply Cp.Oe (ts:=cB l) (enc:=bM)
    .apply kK;apply i6;rw[<-(Hf _).2.2.1];exact DE (by exact aa) (by decide+kernel)
    .intro La cs M X t ht;intros La cs M X t _ ht;refine⟨_,i7 ⟨.inl aa,rfl,rfl⟩,?_,?_,aj aa⟩
     .exact bV aa fT
     exact bE (ds:=[.int t.1,aD t.2.1,bl t.2.2]) (j:=0) (aj aa) aN aa aa
    .exact aG (uY _ _) hL
    rfl;left
   left
  .exact zT (gH g7)
  .exact F.tn
  .exact fL _
  exact(nB (gH g7)).imp λ{x y} h=>jl.mpr (.inl h)
  left
 .exact⟨.inl aa,rfl,rfl⟩
 apply gS (x:="heard") (v:=.d (.lst []))
 .exact cH (fH bq (bz aa))
 .exact⟨.inl aa,rfl,rfl⟩
 apply cP
 .apply bR
  .exact aj aa
  .left
  .exact fX minZ
  left
 case h2=>
  intro hb;rw[jy] at hb;apply aT;exact mid _ _ [] (.cons aa (.cons aa (.cons aa (.cons aa (.cons aa (.cons aa (.cons aa .nil))))))) λz=>by rw[ay (of_decide_eq_false hb)]
 intro hb;rw[jy] at hb;have hb:=fG hb;apply gS (x:="heard") (v:=.d (.lst ((aI (az l pb.2)).map kc)))
 .apply cH;apply jf.aaL (ds:=(az l pb.2).map kc)
  .apply Q6 (v:=.d (.lst ((az l pb.2).map kc)))
   case ha=>rfl
   apply cH;unfold az;rw[cV];apply wH (ts:=cE l) (enc:=RZ)
   .apply kK;apply i6;rw[<-(Hf _).2.2.2.2.1];exact DE (by exact aa) (by decide+kernel)
   .intro La cs M X t ht;intros La cs M X t _ ht;refine⟨_,i7 ⟨.inl aa,rfl,rfl⟩,?_,z9 ?_,λz=>?_⟩
    .exact bV aa fT
    .rw[<-nQ];apply bR
     .exact bE (ds:=[aD t.1,.int t.2.1,.lst (t.2.2.map bM)]) (j:=0) (aj aa) aN aa aa
     .exact aj aa
     .exact fX (aG (sC _ _) (qp _))
     left
    exact z8 (ds:=[aD t.1,.int t.2.1,.lst (t.2.2.map bM)]) (aj aa) (.int aN) .none (Tr _ _)
   .exact aG (uY _ _) hL
   rfl;left
  .intro d hd;intros d _ hd;let ⟨x,_,zy⟩:=cg.mp hd;exact⟨_,_,rfl⟩
  .exact TF kc (λz=>rfl) (Rj hb).1
  .rw[aR];exact(Rj hb).2
  .intro d hd;intros d _ hd;let ⟨x,_,zy⟩:=cg.mp hd;have:=yd x.2;unfold kc;simp only[D.dep,D.dK];exact gw (mz (zm (lA this aa)))
  .exact(fL _).map _
  exact aaM kc (λz=>rfl) (Rj hb).1;left
 .exact⟨.inl aa,rfl,rfl⟩
 apply aT;exact mid _ _ _ (.cons aa (.cons aa (.cons aa (.cons aa (.cons aa (.cons aa (.cons aa .nil))))))) λz=>by rw[aq hb]
 left;left;left;left
end
noncomputable def lO:cR->Str
 |.prepare ..=>"prepare"
 |.promise ..=>"promise"
 |.refuse ..=>"refuse"
 |.accept ..=>"accept"
 |.accepted ..=>"accepted"
 |.ak ..=>"chosen"
noncomputable def iU:cR->bg
 |.prepare b _ _=>b
 |.promise b _ _ _=>b
 |.refuse b _ _ _=>b
 |.accept b _ _ _ _=>b
 |.accepted b _ _ _=>b
 |.ak b _ _ _ _=>b
noncomputable def xG:cR->Int
 |.prepare _ f _=>f
 |.promise _ f _ _=>f
 |.refuse _ f _ _=>f
 |.accept _ f _ _ _=>f
 |.accepted _ f _ _=>f
 |.ak _ f _ _ _=>f
def Bm:cR->List D
 |.prepare _ _ _=>[]
 |.promise _ _ _ ks=>[.lst (ks.map bM)]
 |.refuse _ _ _ r=>[aD r]
 |.accept _ _ _ s v=>[.int s,bl v]
 |.accepted _ _ _ s=>[.int s]
 |.ak _ _ _ s v=>[.int s,bl v]
def Bo(m:cR):bG m=.tup (.str (lO m)::aD (iU m)::.int (xG m)::.int m.to::Bm m):=by cases m<;>rfl
def wK:eZ->Str
 |.msg m=>lO m
 |e=>tB e
def wR:eZ->List D
 |.msg m=>aD (iU m)::.int (xG m)::.int m.to::Bm m
 |e=>Ib e
def evW:eZ->D
 |.msg m=>bG m
 |e=>dc e
def ab5(e:eZ):evW e=.tup (.str (wK e)::wR e):=by cases e<;>first|rfl|exact Bo _
def TH(pl:Addr)(n:Node)(e:eZ):Nm:=[("kind",.d (.str (wK e))),("what",.d (evW e)),("heard",.d (.lst (fZ n))),("ballot",.d (aD n.af)),("phase",.d (.str (j9 n.phase))),("chosen",.d (.lst (n.ak.map gJ))),("accepted",.d (.lst (n.acc.map bM))),("promised",.d (aD n.promised)),("size",.d (.int n.size)),("me",.d (.int n.me)),("log",.r pl),("node",.d (bK n)),("event",.d (dc e))]
def aaN{b:Bool}{v:V}:(if b then v else v)=v:=by cases b<;>rfl
section
variable {c:C}{ρ:Nm}{K:List (List Stmt)}{rest body:List Stmt}{P:C->Nm->Prop}{R:C->D->Prop}{p1 p2 p3 p4 p5:Pos}{q:Nat}{k Ig:Str}{es:List aU}
def iH.Mg(hk:fR ρ "kind" (.d (.str k)))(k7:kZ Ig=true):iH c ρ (.Compare (.Name "kind" p1) [.Eq] [.Constant (.str Ig) q p2] p3) (decide (k=Ig)):=by
 rw[<-RJ];exact bR (aj hk) (dZ k7) (fX minZ)
def Ex.Ho(hk:fR ρ "kind" (.d (.str k)))(dg:k≠Ig)(k7:kZ Ig=true)(r:Ex c ρ (rest::K) P R):Ex c ρ ((.If (.Compare (.Name "kind" p1) [.Eq] [.Constant (.str Ig) q p2] p3) body [] p4::rest)::K) P R:=
 cP (iH.Mg hk k7) (λhb=>aK (fG hb) dg) λz=>aT r
def Ex.TJ(hk:fR ρ "kind" (.d (.str k)))(dg:k≠Ig)(k7:kZ Ig=true)(r:Ex c ρ (rest::K) P R):Ex c ρ ((.If (.BoolOp .And (.Compare (.Name "kind" p1) [.Eq] [.Constant (.str Ig) q p2] p3::es) p5) body [] p4::rest)::K) P R:=
 cP (b:=decide (k=Ig)&&true) (iZ (gQ (iH.Mg hk k7) λhb=>aK (fG hb) dg)) (λhb=>aK (fG ((iT _ _).mp hb).1) dg) λz=>aT r
def Ex.Hp(hk:fR ρ "kind" (.d (.str k)))(k7:kZ k=true)(r:Ex c ρ (body::rest::K) P R):Ex c ρ ((.If (.Compare (.Name "kind" p1) [.Eq] [.Constant (.str k) q p2] p3) body [] p4::rest)::K) P R:=
 cP (iH.Mg hk k7) (λz=>r) λhb=>aK aa (of_decide_eq_false hb)
theorem o8.kind(hk:fR ρ "kind" (.d (.str k)))(k7:kZ k=true){b:Bool}(r:o8 c ρ .And es b):o8 c ρ .And (.Compare (.Name "kind" p1) [.Eq] [.Constant (.str k) q p2] p3::es) b:=by
 have h:=gQ (iH.Mg (p1:=p1) (p2:=p2) (p3:=p3) (q:=q) hk k7) (λz=>r);rw[decide_eq_true aa,Bool.true_and] at h;exact h
def Ex.TL{pos:Pos}(h:R c (.lst [])):Ex c ρ ((.Return (some (.List [] p1)) pos::rest)::K) P R:=jX (kM (cH (fH bq (bz aa)))) h
end
def VD(pl:Addr)(r:aY×List cR)(c':C)(d:D):Prop:=c'.σ pl=some (.l (gA r.1))/\d=.lst (r.2.map bG)
def Hq(P:Params)(c:C)(L pl:Addr)(n:Node)(e:eZ)(r:aY×List cR):Prop:=Ex (c.fn (gW P) 149 L λa=>a=pl) (TH pl n e) [(gI P).drop 3] (λz z=>False) (VD pl r)
section
variable {g:G0}{P:Params}(W:WW g P)
include W
def xH{pl:Addr}{l:aY}{n:Node}{e:eZ}{r:aY×List cR}(h:∀(c:C) L,c.toG0=g->8<=c.n->c.σ pl=some (.l (gA l))->Hq P c L pl n e r):rY g 9 149 [.r pl,.d (bK n),.d (dc e)] pl l r:=by
 intros g P pl l n e r _ W h;refine rY.of (n:=8) (GZ W) aa λc L hg hn hp=>?_;intros c L _ hg hn hp
 have hh:=h c L hg hn hp;clear h;unfold Hq VD at hh;subst hg;unfold gI bodyPick at hh⊢;apply Fx (ds:=[.int n.me,.int n.size,aD n.promised,.lst (n.acc.map bM),.lst (n.ak.map gJ),.str (j9 n.phase),aD n.af,.lst (fZ n)])
 .exact aj aa
 .exact fJ (jZ cD) aa (fJ (jZ cD) aa (fJ (jZ cD) aa (fJ (jZ cD) aa (fJ (jZ cD) aa (fJ (jZ cD) aa (fJ (jZ cD) aa (fJ (jZ cD) aa pY)))))))
 apply gS (x:="what") (v:=.d (evW e))
 .rw[<-aaN (b:=eT (.str (tB e)) (.str "message")) (v:=.d (evW e))];apply E3
  .apply bR
   .exact bE (ds:=.str (tB e)::Ib e) (j:=0) (by rw[<-G8];exact aj aa) aN (aZ (j:=0) (by simp only[jL];exact bz aa)) aa
   .left
   .exact fX minZ
   left
  .intro hb;obtain⟨m,rfl⟩:∃m,e=.msg m:=by cases e<;>first|exact⟨_,rfl⟩|exact aK hb (by dsimp only[tB];decide+kernel)
   exact bE (ds:=[.str "message",bG m]) (j:=1) (aj aa) aN aa aa
  intro hb;have:evW e=dc e:=by cases e<;>first|rfl|exact aK hb (by dsimp only[tB];decide+kernel)
  rw[this];exact aj aa
 .exact cD
 apply gS (x:="kind") (v:=.d (.str (wK e)))
 .exact bE (ds:=.str (wK e)::wR e) (j:=0) (by rw[<-ab5];exact aj aa) aN (aZ (j:=0) (by simp only[jL];exact bz aa)) aa
 .exact cD
 exact hh;left;left;left
def ab6{pl:Addr}{l:aY}{n:Node}(h4:n.size<=4)(hl:l.length<=40000)(F:Oi (l++[.fq (max n.promised.1 n.af.1+1,n.me),.is 1 (max n.promised.1 n.af.1+1,n.me)]) (max n.promised.1 n.af.1+1,n.me) n.me n.acc)(ho:(aH l n .run).2.length<=100000):rY g 9 149 [.r pl,.d (bK n),.d (dc .run)] pl l (aH l n .run):=by
 intros g P pl l n _ W h4 hl F ho;refine xH W λc L hg hn hp=>?_;intros c L _ hg hn hp
 subst hg;unfold Hq gI bodyPick;apply Ex.Hp
 .rfl
 .decide+kernel
 apply gS (x:="mine") (v:=.d (aD (max n.promised.1 n.af.1+1,n.me)))
 .refine cI (ds:=[.int (max n.promised.1 n.af.1+1),.int n.me]) ?h (bz aa);refine aP ?_ (aP (aj aa) bq aa) aa;exact dU (Rv (bE (ds:=[.int n.promised.1,.int n.promised.2]) (j:=0) (aj aa) aN aa aa) (bE (ds:=[.int n.af.1,.int n.af.2]) (j:=0) (aj aa) aN aa aa)) aN pP;left
 .exact cD
 have tH:=ho;unfold aH at tH⊢;dsimp only at tH⊢;have UK:((max n.promised.1 n.af.1+1,n.me):bg).2=n.me:=rfl;generalize(max n.promised.1 n.af.1+1,n.me)=Hr at*;have F1:=TA W (pl:=pl) (size:=n.size) h4 F;apply Ex.Mc (ls:=[.fq Hr,.is 1 Hr])
 .exact hp
 .rfl
 .rfl
 .apply cH;apply fH
  .refine aP ?_ (aP ?_ bq aa) aa
   .exact dU (cI (aP (dZ (by decide+kernel)) bq aa) (bz aa)) (v₂:=.d (.tup [.int Hr.1,.int Hr.2])) (aj aa) (uw (bz aa))
   left
  left
 ·(first|(refine oZ ‹_› ?_;rfl)|(show _+2<=1000000;lia))
 intro c1 gv h1 w1 _ _;let ⟨M,σ,wr,zy⟩:=bY (c:=c.fn (gW P) 149 L λa=>a=pl) gv;apply Fl
 .apply Lv (ds:=(mO n.size Hr.2).map λj=>.tup (.str "prepare"::aD Hr::.int Hr.2::.int j::[]))
  .apply mw
   .exact DW W h4 (rest:=[]) (by decide)
   .exact W.DQ
   .exact(Bj W).keep
   .left
   .exact g8 hn aa
   .trivial
   left
  .apply uH
   .exact F1
   .exact W.Td
   .exact(LZ W).keep
   .exact br (aj aa) (br (aj aa) (br (aj aa) (br (aj aa) (br (aj aa) fj))))
   .exact g8 hn aa
   .intro a e;intros a _ e;subst e;exact w1
   .exact h1
   left
  intro c' v' z2;refine aM λnG=>?_;obtain⟨_,d,rfl,_,rfl⟩:_:=z2;refine nG ?_
  refine⟨_,rfl,?_⟩;rw[bU,aR] at tH⊢;rw[aR,UK];exact aG tH (show 100000<=ck by decide)
 intro c' v' _ z2;let ⟨es,z3,zy⟩:=z2;let ⟨_,z4⟩:=z3;let ⟨d,e,h3,zy⟩:=z4;cases e;refine⟨_,rfl,h3,?_⟩;rw[eB,cV,UK];rfl;left;left
def Ol{pl:Addr}{l:aY}{n:Node}{v:Option Str}(h4:n.size<=4)(hl:l.length<=40000)(qC:n.phase<=2)(hy:LY l)(hb:n.phase=2->0<=n.af.2/\n.af.2<4):rY g 9 149 [.r pl,.d (bK n),.d (dc (.aO v))] pl l (aH l n (.aO v)):=by
 intros g P pl l n v _ W h4 hl qC hy hb;refine xH W λc L hg hn hp=>?_;intros c L _ hg hn hp
 subst hg;unfold Hq gI bodyPick;apply Ex.Ho
 .rfl
 .dsimp only[wK,tB];decide+kernel
 .decide+kernel
 apply Ex.Hp
 .rfl
 .decide+kernel
 apply Fl (Q:=λc' v'=>∃d,v'=.d d/\VD pl (aH l n (.aO v)) c' d)
 case r=>exact λc' v' z h=>h
 apply g9.ite
 .apply bR
  .exact aj aa
  .left
  .exact fX minZ
  left
 .intro hb';rw[g5 qC] at hb';have hb':=fG hb';have eh:(fZ n).length=n.hl.length:=by unfold fZ;rw[ay (λe=>aK (hb'.symm.trans e) (by decide)),aq hb',aR]
  have F1:=Of W (pl:=pl) (l:=l) (size:=n.size) (b:=n.af) (s:=n.hl.length+1) (v:=v) (hb hb') hy (by exact lK ‹_› rfl) h4;unfold aH;dsimp only;rw[aq hb'];apply g9.mono
  .apply uH
   .exact F1
   .exact W.NY
   .exact(GY W).keep
   .refine br (aj aa) (br (aj aa) (br (aj aa) (br ?_ (br ?_ fj))))
    .rw[<-eh];exact dU (uC (aj aa) aa) aN pP
    exact bE (ds:=[.str "propose",bl v]) (j:=1) (aj aa) aN aa aa
   .exact g8 hn aa
   .intro a e;subst e;rfl
   .exact hp
   left
  intro c' v' z2;refine aM λnG=>?_;obtain⟨_,d,rfl,h3,rfl⟩:_:=z2;refine nG ?_
  exact⟨_,rfl,h3,rfl⟩
 intro hb';rw[g5 qC] at hb';refine g9.mono (rz (cH (fH bq (bz aa)))) ?_;intro c' v' z2;let ⟨zy,z3⟩:=z2;subst z3;refine⟨_,rfl,?_⟩;unfold aH VD;dsimp only;rw[ay (of_decide_eq_false hb')];exact⟨hp,rfl⟩
def VE{pl:Addr}{l:aY}{n:Node}(hl:l.length<=40000):rY g 9 149 [.r pl,.d (bK n),.d (dc .d8)] pl l (aH l n .d8):=by
 refine xH W λc L hg hn hp=>?_
 subst hg;unfold Hq gI bodyPick;refine Ex.Ho aa (by decide+kernel) (by decide+kernel) ?_;refine Ex.Ho aa (by decide+kernel) (by decide+kernel) ?_;refine Ex.TJ aa (by decide+kernel) (by decide+kernel) ?_;refine Ex.Ho aa (by decide+kernel) (by decide+kernel) ?_;refine Ex.Hp aa (by decide+kernel) ?_;apply CO (x:=.is 0 n.af)
 .exact hp
 .rfl
 .rfl
 .left
 .exact oZ ‹_› rfl
 intro c1 gv h1 w1 _ _;exact Ex.TL ⟨h1,rfl⟩;left
end
open Mine.Ex renaming TJ->jH,Ho->Ac,TL->CP
open Mine.o8 renaming kind->Hs
def Om(l:List (Int×List bf))(s:Int):(look (cJ (aS [] (dO l))) s).isSome=(look (aS [] l) s).isSome:=by
 rw[<-xC];have:=oR (λv:List bf=>kJ (v.map bM)) l [];unfold dO at this⊢;rw[JL] at this;rw[this]
def VF(ns:List Int)(j:Int):D.has (bA ns) (.int j)=ns.contains j:=by
 unfold D.has bA
 induction ns with
 |nil=>rfl
 |cons k ns ih=>
  have h:lE (jF k).py (jF j).py=decide (k=j):=mG k j;show(lE (jF k).py (jF j).py||(D.lG (ns.map .int)).any λy=>lE y (jF j).py)=_;rw[ih,h,WM]
  congr 1
  rw[Pu];simp;exact eq_comm
def Bp(n:Node)(x:Int×(Option Str×List Int)):List cR:=if(look (aS [] n.ak) x.1).isSome then(mO n.size n.af.2).map λj=>.ak n.af n.af.2 j x.1 x.2.1
 else((b9 n.size).filter λj=>!x.2.2.contains j).map λj=>.accept n.af n.me j x.1 x.2.1
def Oo(n:Node)(h4:n.size<=4)(x:Int×(Option Str×List Int)):(Bp n x).length<=4:=by
 unfold Bp;split<;>(rw[aR];exact aG (jn _ _) h4)
def yP{α Str:Type}(f:α->List Str){l:List α}{i:Nat}{x:α}(h:l[i]?=some x):(l.take (i+1)).flatMap f=(l.take i).flatMap f++f x:=by
 rw[vC,h];simp
def acU(n:Node)(i:Nat):Nm:=[("ballot",.d (aD n.af)),("me",.d (.int n.me)),("size",.d (.int n.size)),("chosen",.d (.lst (n.ak.map gJ))),("out",.d (.lst (((n.hl.take i).flatMap (Bp n)).map bG)))]
section
variable {g:G0}{P:Params}(W:WW g P)
include W
def VG{pl:Addr}{l:aY}{n:Node}(h4:n.size<=4)(qC:n.phase<=2)(h0:n.phase≠2->n.hl=[])(hz:n.hl.length<=1000):rY g 9 149 [.r pl,.d (bK n),.d (dc .again)] pl l (aH l n .again):=by
 intros g P pl l n _ W h4 qC h0 hz;refine xH W λc L hg hn hp=>?_;intros c L _ hg hn hp
 subst hg;unfold Hq gI bodyPick;refine Ac aa (by decide+kernel) (by decide+kernel) ?_;refine Ac aa (by decide+kernel) (by decide+kernel) ?_;apply cP (b:=decide (n.phase=1)&&true)
 .apply iZ;apply Hs
  .rfl
  .decide+kernel
  apply gQ
  .rw[<-jy];apply bR
   .exact aj aa
   .left
   .exact fX minZ
   left
  intro _;exact pR
 .intro hb;rw[zl] at hb;have hb:=fG hb
  have e:(aH l n .again).2.map bG=((b9 n.size).filter λj=>(look (aS [] n.hp) j).isNone).map λj=>bG (.prepare n.af n.me j):=by
   unfold aH Cy;dsimp only;rw[aq hb,cV];rfl
  apply jX
  case hr=>exact⟨hp,rfl⟩
  rw[e];apply kM;apply cH;apply wH (ts:=b9 n.size) (enc:=.int)
  .apply kK;rw[<-nR];exact uB (n:=(n.size:Int)) (aj aa) (by exact Kd ‹_› (by decide))
  .intro La cs M X t ht;intros La cs M X t _ ht;refine⟨_,i7 cD,?_,z9 ?_,λz=>?_⟩
   .exact bV aa fT
   .have e:(look (aS [] n.hp) t).isNone=!(look (cJ (aS [] (dO n.hp))) t).isSome:=by rw[Om];cases look (aS [] n.hp) t<;>rfl
    rw[e];apply GD
    .exact aj aa
    .apply zP (v:=.d (.lst (fZ n))) (kvs:=dO n.hp)
     .exact aj aa
     show fZ n=_;unfold fZ dO;rw[aq hb,cV];rfl;left
    .exact Ry
    left
   left
  .show _<=1000000;unfold b9;rw[aR,pM];exact lK ‹_› rfl
  rfl;left
 intro hb;rw[zl] at hb;have hb:=of_decide_eq_false hb
 have eh:fZ n=n.hl.map kg:=by
  unfold fZ;rw[ay hb];split
  .rfl
  rename_i h;rw[h0 h];rfl
 have el:aH l n .again=(l,n.hl.flatMap (Bp n)):=by
  unfold aH Cy;dsimp only;rw[ay hb];rfl
 rw[el];apply aT;refine Ex.Hp aa (by decide+kernel) ?_;apply gS (x:="out") (v:=.d (.lst []))
 .exact cH (fH bq (bz aa))
 .exact cD
 apply Ex.for (ds:=n.hl.map kg) (Inv:=λi c' ρ'=>c'.σ pl=some (.l (gA l))/\Sub (acU n i) ρ')
 .apply i6;rw[<-eh];exact aj aa
 .exact⟨hp,.cons aa (.cons aa (.cons aa (.cons aa (.cons aa .nil))))⟩
 .intro i d c' ρ' cu hd z2;let ⟨g1,g2⟩:=z2;intros i d c' ρ' _ cu hd g1 g2;let ⟨M,σ,wr,zy⟩:=bY (c:=c.fn (gW P) 149 L λa=>a=pl) cu;intros M σ wr _ cu g1;rw[dh] at hd;cases hx:n.hl[i]? with
  |none=>rw[hx] at hd;cases hd
  |some x=>
   rw[hx] at hd;cases hd;have hi:i<n.hl.length:=(iR.mp hx).1;have cG:=nJ (Bp n) 4 (n.hl.take i) λx z=>Oo n h4 x
   rw[pO] at cG;have afU:=Oo n h4 x;refine⟨_,q9 (.cons cD (.cons cD (.cons cD .nil))),?_⟩;refine kN (ρ':=("ns",.d (.lst (bA x.2.2)))::("v",.d (bl x.2.1))::("s",.d (.int x.1))::acU n i) ?_ (g2.both.both.both);apply gS (x:="out") (v:=.d (.lst ((((n.hl.take i).flatMap (Bp n)).map bG)++(Bp n x).map bG)))
   .apply cH;apply Cb
    .exact aj aa
    case a₁=>rfl
    .show Ev _ _ _ (.d (.lst ((Bp n x).map bG)));rw[<-aaN (b:=(look (aS [] n.ak) x.1).isSome) (v:=.d (.lst ((Bp n x).map bG)))];apply E3
     .rw[<-Hg];apply GD
      .exact aj aa
      .apply zP (v:=.d (.lst (n.ak.map gJ))) (kvs:=fz n.ak)
       .exact aj aa
       show n.ak.map gJ=_;unfold fz;rw[cV];rfl;left
      .exact C6.inI
      left
     .intro hb
      have e:(Bp n x).map bG=(mO n.size n.af.2).map λj=>.tup (.str "chosen"::aD n.af::.int n.af.2::.int j::[.int x.1,bl x.2.1]):=by
       unfold Bp;rw[aq hb,cV];rfl
      rw[e];apply mw
      .exact DW W h4 (rest:=[.int x.1,bl x.2.1]) (bz aa)
      .exact W.DQ
      .exact(Bj W).keep
      .left
      .exact g8 hn aa
      .trivial
      left
     intro hb
     have e:(Bp n x).map bG=((b9 n.size).filter λj=>!x.2.2.contains j).map λj=>bG (.accept n.af n.me j x.1 x.2.1):=by
      unfold Bp;rw[ay (by rw[hb];decide),cV];rfl
     rw[e];apply cH;apply wH (ts:=b9 n.size) (enc:=.int)
     .apply kK;rw[<-nR];exact uB (n:=(n.size:Int)) (aj aa) (by exact Kd ‹_› (by decide))
     .intro La cs M X t ht;intros La cs M X t _ ht;refine⟨_,i7 cD,?_,z9 ?_,λz=>?_⟩
      .exact bV aa fT
      .rw[<-VF];apply bR
       .exact aj aa
       .exact aj aa
       .exact Cmp.abr aa minZ
       left
      left
     .show _<=1000000;unfold b9;rw[aR,pM];exact lK ‹_› rfl
     rfl;left
    .rfl
    rw[bU,aR,aR];show _<=1000000;exact lK (ig (aG ‹_› (jI 4 (aG (sC ..) ‹n.hl.length<=_›))) ‹_›) (by decide)
   .exact cD
   apply aT;apply dM;refine⟨g1,?_⟩;rw[<-eB,<-yP (Bp n) hx];exact .cons aa (.cons aa (.cons aa (.cons aa (.cons aa .nil))));left
 intro c' ρ' cu z2;let ⟨g1,g2⟩:=z2;intros c' ρ' _ cu g1 g2;let ⟨M,σ,wr,zy⟩:=bY (c:=c.fn (gW P) 149 L λa=>a=pl) cu;intros M σ wr _ cu g1;rw[aR] at g2;apply jX
 .exact kM (aj (g2 "out" _ aa))
 exact⟨g1,by rw[qO]⟩;left;left
def TM{pl:Addr}{l:aY}{n:Node}{m:cR}{r:aY×List cR}(h:∀(c:C) L,c.toG0=g->8<=c.n->c.σ pl=some (.l (gA l))->Ex (c.fn (gW P) 149 L λa=>a=pl) (("about",.d (aD (iU m)))::("sender",.d (.int (xG m)))::TH pl n (.msg m)) [(gI P).drop 9] (λz z=>False) (VD pl r)):rY g 9 149 [.r pl,.d (bK n),.d (dc (.msg m))] pl l r:=by
 refine xH W λc L hg hn hp=>?_
 have hh:=h c L hg hn hp;clear h;subst hg;unfold Hq;unfold gI bodyPick at hh⊢;refine Ac (k:=lO m) aa (by cases m<;>(dsimp only[lO];decide+kernel)) (by decide+kernel) ?_;refine Ac (k:=lO m) aa (by cases m<;>(dsimp only[lO];decide+kernel)) (by decide+kernel) ?_;refine jH (k:=lO m) aa (by cases m<;>(dsimp only[lO];decide+kernel)) (by decide+kernel) ?_;refine Ac (k:=lO m) aa (by cases m<;>(dsimp only[lO];decide+kernel)) (by decide+kernel) ?_;refine Ac (k:=lO m) aa (by cases m<;>(dsimp only[lO];decide+kernel)) (by decide+kernel) ?_;apply wM (names:=["about","sender"]) (Q:=λc' vs=>c'=(c.fn (gW P) 149 L λa=>a=pl)/\vs=[.d (aD (iU m)),.d (.int (xG m))])
 .apply zZ;refine br ?_ (br ?_ fj)
  .exact bE (ds:=.str (lO m)::aD (iU m)::.int (xG m)::.int m.to::Bm m) (j:=1) (by rw[<-Bo];exact aj aa) aN (aZ (j:=1) (by simp only[jL];exact bz aa)) aa
  exact bE (ds:=.str (lO m)::aD (iU m)::.int (xG m)::.int m.to::Bm m) (j:=2) (by rw[<-Bo];exact aj aa) aN (aZ (j:=2) (by simp only[jL];exact bz aa)) aa
 .intro x hx;simp at hx;rcases hx with rfl|rfl<;>exact cD
 intro c' vs cu z2;let ⟨zy,z3⟩:=z2;subst z3;exact⟨rfl,hh⟩;left
def Bq{pl:Addr}{l:aY}{n:Node}{m:cR}{r:aY×List cR}(hm:D.has [.str "prepare",.str "accept"] (.str (lO m))=false)(h:∀(c:C) L,c.toG0=g->8<=c.n->c.σ pl=some (.l (gA l))->Ex (c.fn (gW P) 149 L λa=>a=pl) (("about",.d (aD (iU m)))::("sender",.d (.int (xG m)))::TH pl n (.msg m)) [(gI P).drop 10] (λz z=>False) (VD pl r)):rY g 9 149 [.r pl,.d (bK n),.d (dc (.msg m))] pl l r:=by
 refine TM W λc L hg hn hp=>?_
 have hh:=h c L hg hn hp;clear h;subst hg;unfold gI bodyPick at hh⊢;apply cP
 .apply bR
  .exact aj aa
  .left
  .exact Ks minZ
  left
 .intro hb;exact aK (hb.symm.trans hm) (by decide)
 intro hb;exact aT hh
end
def paE:cR->aY
 |.accept b _ _ s v=>[.eV (s,(b,v))]
 |_=>[]
def paA(n:Node):cR->cR
 |.accept b f _ s _=>.accepted b n.me f s
 |m=>.promise (iU m) n.me (xG m) n.acc
noncomputable def acV:cR->Bool
 |.accept ..=>true
 |.prepare ..=>true
 |_=>false
def VH{l:aY}{n:Node}{m:cR}(hm:acV m=true):aH l n (.msg m)=if fV (iU m) n.promised then(l,[.refuse (iU m) n.me (xG m) n.promised]) else((l++[.fq (iU m),.is (if(iU m).2≠n.me then 0 else n.phase) n.af])++paE m,[paA n m]):=by
 intros l n m _ hm;cases m with
 |prepare b f t=>
  show(if fV b n.promised=true then _ else _)=(if fV b n.promised=true then _ else _)
  by_cases h:fV b n.promised=true
  .rw[aq h,aq h];rfl
  rw[ay h,ay h];show _=(_++[],_);rw[iW];rfl
 |accept b f t s v=>
  show(if fV b n.promised=true then _ else _)=(if fV b n.promised=true then _ else _)
  by_cases h:fV b n.promised=true
  .rw[aq h,aq h];rfl
  rw[ay h,ay h];show _=(_++[_],_);rw[jJ];rfl
 |promise=>cases hm
 |refuse=>cases hm
 |accepted=>cases hm
 |ak=>cases hm
section
variable {g:G0}{P:Params}(W:WW g P)
include W
def aaO{pl:Addr}{l:aY}{n:Node}{m:cR}(hm:acV m=true)(hl:l.length<=40000):rY g 9 149 [.r pl,.d (bK n),.d (dc (.msg m))] pl l (aH l n (.msg m)):=by
 intros g P pl l n m _ W hm hl;refine TM W λc L hg hn hp=>?_;intros c L _ hg hn hp
 subst hg;rw[VH hm];unfold gI bodyPick;apply cP
 .apply bR
  .exact aj aa
  .left
  .exact Ks minZ
  left
 case h2=>intro hb;exact aK hb (by cases m<;>first|(cases hm;done)|(dsimp only[lO,wK];decide+kernel))
 intro hb;clear hb;apply cP
 .apply bR
  .exact aj aa
  .exact aj aa
  .exact Cc (op:=.Lt) (qA _ _) (qp _) aa
  left
 .intro hb;rw[aq hb];apply jX (d:=.lst [bG (.refuse (iU m) n.me (xG m) n.promised)])
  case hr=>exact⟨hp,rfl⟩
  apply kM;apply cH;apply fH
  .refine aP ?_ bq aa;left
  left
 intro hb;rw[ay (by rw[hb];decide)];apply aT;apply Ex.Mc (ls:=[.fq (iU m),.is (if(iU m).2≠n.me then 0 else n.phase) n.af])
 .exact hp
 .rfl
 .rfl
 .apply cH;apply fH
  .refine aP ?_ (aP ?_ bq aa) aa
   .exact dU (cI (aP (dZ (by decide+kernel)) bq aa) (bz aa)) (v₂:=.d (.tup [.int (iU m).1,.int (iU m).2])) (aj aa) (uw (bz aa))
   refine cI (ds:=[.str "is",.str (j9 (if(iU m).2≠n.me then 0 else n.phase)),aD n.af]) ?h (bz aa);refine aP (dZ (by decide+kernel)) (aP ?_ (aP (aj aa) bq aa) aa) aa
   have e:lF (.str (j9 (if(iU m).2≠n.me then 0 else n.phase)))=if(!D.beq (.int (iU m).2) (.int n.me)) then .d (.str "idle") else .d (.str (j9 n.phase)):=by
    rw[mG]
    by_cases h:(iU m).2=n.me
    .rw[ay (λq=>q h),decide_eq_true h];rfl
    rw[aq h,decide_eq_false h];rfl
   rw[e];apply E3
   .apply bR
    .exact bE (ds:=[.int (iU m).1,.int (iU m).2]) (j:=1) (aj aa) aN aa aa
    .exact aj aa
    .exact ur minZ
    left
   .intro _;exact dZ (by decide+kernel)
   intro _;exact aj aa;left
  left
 ·(first|(refine oZ ‹_› ?_;rfl)|(show _+2<=1000000;lia))
 intro c1 gv h1 w1 _ _;let ⟨M,σ,wr,zy⟩:=bY (c:=c.fn (gW P) 149 L λa=>a=pl) gv;have yf:(l++[Ent.fq (iU m),.is (if(iU m).2≠n.me then 0 else n.phase) n.af]).length<=40002:=by rw[bU];exact lA ‹_› rfl
 generalize l++[Ent.fq (iU m),.is (if(iU m).2≠n.me then 0 else n.phase) n.af]=l1 at*;cases m with
 |prepare b f t=>
  refine Ex.Hp (k:="prepare") aa (by decide+kernel) ?_;apply jX (d:=.lst [bG (.promise b n.me f n.acc)])
  case hr=>exact⟨by rw[show paE (.prepare b f t)=[] from rfl,iW];exact h1,rfl⟩
  apply kM;apply cH;apply fH
  .refine aP ?_ bq aa;left
  left
 |accept b f t s v=>
  refine Ac (k:="accept") aa (by decide+kernel) (by decide+kernel) ?_;have w4:∀{c':C} {p p1 p2 q} (σ' wr' M'),Ev {c.fn (gW P) 149 L (λa=>a=pl) with M:=M',σ:=σ',wr:=wr'} (("about",.d (aD b))::("sender",.d (.int f))::TH pl n (.msg (.accept b f t s v))) (.Subscript (.Name "what" p) (.Constant (.int 4) q p1) p2) (.d (.int s)):=λz z z=>bE (ds:=[.str "accept",aD b,.int f,.int t,.int s,bl v]) (j:=4) (aj aa) aN aa aa
  apply CO (x:=.eV (s,(b,v)))
  .exact h1
  .exact w1
  .rfl
  .refine cI (ds:=[.str "took",.int s,aD b,bl v]) ?h (bz aa);refine aP (dZ (by decide+kernel)) (aP ?_ (aP (aj aa) (aP ?_ bq aa) aa) aa) aa
   .exact bE (ds:=[.str "accept",aD b,.int f,.int t,.int s,bl v]) (j:=4) (aj aa) aN aa aa
   exact bE (ds:=[.str "accept",aD b,.int f,.int t,.int s,bl v]) (j:=5) (aj aa) aN aa aa;left
  .exact oZ ‹_› rfl
  intro c2 oi h2 w2 _ _;let ⟨M2,σ2,wr2,zy⟩:=bY (c:=c.fn (gW P) 149 L λa=>a=pl) oi;apply jX (d:=.lst [bG (.accepted b n.me f s)])
  case hr=>exact⟨h2,rfl⟩
  apply kM;apply cH;apply fH
  .refine aP ?_ bq aa;refine cI (ds:=[.str "accepted",aD b,.int n.me,.int f,.int s]) ?h (bz aa);refine aP (dZ (by decide+kernel)) (aP (aj aa) (aP (aj aa) (aP (aj aa) (aP ?_ bq aa) aa) aa) aa) aa;exact bE (ds:=[.str "accept",aD b,.int f,.int t,.int s,bl v]) (j:=4) (aj aa) aN aa aa;left
  left;left
 |promise=>cases hm
 |refuse=>cases hm
 |accepted=>cases hm
 |ak=>cases hm
 left
def R5{pl:Addr}{l:aY}{n:Node}{b:bg}{f t s:Int}{v:Option Str}(hl:l.length<=40000):rY g 9 149 [.r pl,.d (bK n),.d (dc (.msg (.ak b f t s v)))] pl l (aH l n (.msg (.ak b f t s v))):=by
 intros g P pl l n b f t s v _ W hl;refine Bq W (by dsimp only[lO];decide+kernel) λc L hg hn hp=>?_;intros c L _ hg hn hp
 subst hg;unfold gI bodyPick;apply cP (b:=!(look (aS [] n.ak) s).isSome&&true)
 .apply iZ;apply Hs
  .rfl
  .decide+kernel
  apply gQ
  .rw[<-Hg];apply GD
   .exact bE (ds:=[.str "chosen",aD b,.int f,.int t,.int s,bl v]) (j:=4) (aj aa) aN aa aa
   .apply zP (v:=.d (.lst (n.ak.map gJ))) (kvs:=fz n.ak)
    .exact aj aa
    show n.ak.map gJ=_;unfold fz;rw[cV];rfl;left
   .exact Ry
   left
  intro _;exact pR
 .intro hb;rw[zl,ud] at hb
  have el:aH l n (.msg (.ak b f t s v))=(l++[.bL s v],[]):=by
   unfold aH;dsimp only;rw[ay (by rw[hb];decide)]
  rw[el];apply CO (x:=.bL s v)
  .exact hp
  .rfl
  .rfl
  .refine cI (ds:=[.str "knows",.int s,bl v]) ?h (bz aa);refine aP (dZ (by decide+kernel)) (aP ?_ (aP ?_ bq aa) aa) aa
   .exact bE (ds:=[.str "chosen",aD b,.int f,.int t,.int s,bl v]) (j:=4) (aj aa) aN aa aa
   exact bE (ds:=[.str "chosen",aD b,.int f,.int t,.int s,bl v]) (j:=5) (aj aa) aN aa aa;left
  .exact oZ ‹_› rfl
  intro c1 gv h1 w1 _ _;refine aT ?_;refine jH (k:="chosen") aa (by decide+kernel) (by decide+kernel) ?_;refine jH (k:="chosen") aa (by decide+kernel) (by decide+kernel) ?_;refine jH (k:="chosen") aa (by decide+kernel) (by decide+kernel) ?_;exact CP ⟨h1,rfl⟩;left
 intro hb;rw[zl,Bool.not_eq_false'] at hb
 have el:aH l n (.msg (.ak b f t s v))=(l,[]):=by
  unfold aH;dsimp only;rw[aq hb]
 rw[el];refine aT ?_;refine jH (k:="chosen") aa (by decide+kernel) (by decide+kernel) ?_;refine jH (k:="chosen") aa (by decide+kernel) (by decide+kernel) ?_;refine jH (k:="chosen") aa (by decide+kernel) (by decide+kernel) ?_;exact CP ⟨hp,rfl⟩
def R6{pl:Addr}{l:aY}{n:Node}{b:bg}{f t:Int}{r:bg}(hl:l.length<=40000):rY g 9 149 [.r pl,.d (bK n),.d (dc (.msg (.refuse b f t r)))] pl l (aH l n (.msg (.refuse b f t r))):=by
 intros g P pl l n b f t r _ W hl;refine Bq W (by dsimp only[lO];decide+kernel) λc L hg hn hp=>?_;intros c L _ hg hn hp
 subst hg;unfold gI bodyPick;refine jH (k:="refuse") aa (by decide+kernel) (by decide+kernel) ?_;apply cP (b:=decide (b=n.af)&&((!decide (n.phase=0))&&(fV n.af r&&true)))
 .apply iZ;apply Hs
  .rfl
  .decide+kernel
  apply gQ
  .rw[<-nQ];apply bR
   .exact aj aa
   .exact aj aa
   .exact fX (aG (lW _ _) (qp _))
   left
  intro _;apply gQ
  .rw[<-rN];apply bR
   .exact aj aa
   .left
   .exact ur minZ
   left
  intro _;apply gQ
  .apply bR
   .exact bE (ds:=[.str "refuse",aD b,.int f,.int t,aD r]) (j:=4) (x:=aD r) (aj aa) aN aa aa
   .exact aj aa
   .exact Cc (op:=.Gt) (DP r n.af) (qp _) aa
   left
  intro _;exact pR
 .intro hb
  have el:aH l n (.msg (.refuse b f t r))=(l++[.is 0 (r.1,n.me)],[]):=by
   unfold aH;dsimp only;rw[aq (by simpa using hb)]
  rw[el];apply CO (x:=.is 0 (r.1,n.me))
  .exact hp
  .rfl
  .rfl
  .refine cI (ds:=[.str "is",.str "idle",.tup [.int r.1,.int n.me]]) ?h (bz aa);refine aP (dZ (by decide+kernel)) (aP (dZ (by decide+kernel)) (aP ?_ bq aa) aa) aa;apply cI
   .refine aP ?_ (aP (aj aa) bq aa) aa;exact bE (ds:=[.int r.1,.int r.2]) (j:=0) (bE (ds:=[.str "refuse",aD b,.int f,.int t,aD r]) (j:=4) (x:=aD r) (aj aa) aN aa aa) aN aa aa
   left;left
  .exact oZ ‹_› rfl
  intro c1 gv h1 w1 _ _;refine aT ?_;refine jH (k:="refuse") aa (by decide+kernel) (by decide+kernel) ?_;refine jH (k:="refuse") aa (by decide+kernel) (by decide+kernel) ?_;exact CP ⟨h1,rfl⟩;left
 intro hb
 have el:aH l n (.msg (.refuse b f t r))=(l,[]):=by
  unfold aH;dsimp only;rw[ay (λh=>by rw[decide_eq_true h.1,decide_eq_false h.2.1,h.2.2] at hb;cases hb)]
 rw[el];refine aT ?_;refine jH (k:="refuse") aa (by decide+kernel) (by decide+kernel) ?_;refine jH (k:="refuse") aa (by decide+kernel) (by decide+kernel) ?_;exact CP ⟨hp,rfl⟩
end
def aer(l:aY)(n:Node):eZ->Prop
 |.run=>Oi (l++[.fq (max n.promised.1 n.af.1+1,n.me),.is 1 (max n.promised.1 n.af.1+1,n.me)]) (max n.promised.1 n.af.1+1,n.me) n.me n.acc/\(aH l n .run).2.length<=100000
 |.msg (.promise b f _ ks)=>b=n.af->n.phase=1->look (aS [] n.hp) f=none->Oi l n.af f ks
 |.msg (.accepted _ f _ s)=>(0<=f/\f<4)/\1<=s
 |_=>True
structure Dg(l:aY)(n:Node)(e:eZ):Prop where
 h4:n.size<=4
 hl:l.length<=40000
 ph:n.phase<=2
 y:LY l
 b2:n.phase=2->0<=n.af.2/\n.af.2<4
 h0:n.phase≠2->n.hl=[]
 hz:n.hl.length<=1000
 ev:aer l n e
section
variable {g:G0}{P:Params}(W:WW g P)
include W
def Oq{pl:Addr}{l:aY}{n:Node}{b:bg}{f t:Int}{ks:List bf}(h4:n.size<=4)(F:b=n.af->n.phase=1->look (aS [] n.hp) f=none->Oi l n.af f ks):rY g 9 149 [.r pl,.d (bK n),.d (dc (.msg (.promise b f t ks)))] pl l (aH l n (.msg (.promise b f t ks))):=by
 intros g P pl l n b f t ks _ W h4 F;refine Bq W (by dsimp only[lO];decide+kernel) λc L hg hn hp=>?_;intros c L _ hg hn hp
 subst hg;unfold gI bodyPick;refine jH (k:="promise") aa (by decide+kernel) (by decide+kernel) ?_;refine jH (k:="promise") aa (by decide+kernel) (by decide+kernel) ?_;apply cP (b:=decide (b=n.af)&&(decide (n.phase=1)&&((!(look (aS [] n.hp) f).isSome)&&true)))
 .apply iZ;apply Hs
  .rfl
  .decide+kernel
  apply gQ
  .rw[<-nQ];apply bR
   .exact aj aa
   .exact aj aa
   .exact fX (aG (lW _ _) (qp _))
   left
  intro _;apply gQ
  .rw[<-jy];apply bR
   .exact aj aa
   .left
   .exact fX minZ
   left
  intro hq;have hq:=fG hq;apply gQ
  .rw[<-Om];apply GD
   .exact aj aa
   .apply zP (v:=.d (.lst (fZ n))) (kvs:=dO n.hp)
    .exact aj aa
    show fZ n=_;unfold fZ dO;rw[aq hq,cV];rfl;left
   .exact Ry
   left
  intro _;exact pR
 .intro hb;simp only[zl,iT,decide_eq_true_eq,ud,Option.isSome_eq_false_iff,Option.isNone_iff_eq_none] at hb;have F1:=TA W (pl:=pl) (size:=n.size) h4 (F hb.1 hb.2.1 hb.2.2)
  have el:aH l n (.msg (.promise b f t ks))=j4 l n.size n.af f ks:=by
   unfold aH;dsimp only;rw[aq hb]
  rw[el];apply Fl
  .apply uH
   .exact F1
   .exact W.Td
   .exact(LZ W).keep
   .refine br (aj aa) (br (aj aa) (br (aj aa) (br (aj aa) (br ?_ fj))));exact bE (ds:=[.str "promise",aD b,.int f,.int t,.lst (ks.map bM)]) (j:=4) (aj aa) aN aa aa
   .exact g8 hn aa
   .intro a e;subst e;rfl
   .exact hp
   left
  intro c' v' _ z2;let ⟨_,z4⟩:=z2;let ⟨d,zy,h3,z3⟩:=z4;subst z3;exact⟨_,rfl,h3,rfl⟩
 intro hb
 have el:aH l n (.msg (.promise b f t ks))=(l,[]):=by
  unfold aH;dsimp only;rw[ay (λh=>by rw[decide_eq_true h.1,decide_eq_true h.2.1,h.2.2] at hb;cases hb)]
 rw[el];refine aT ?_;refine jH (k:="promise") aa (by decide+kernel) (by decide+kernel) ?_;exact CP ⟨hp,rfl⟩
def Mh{pl:Addr}{l:aY}{n:Node}{b:bg}{f t s:Int}(h4:n.size<=4)(hl:l.length<=40000)(qC:n.phase<=2)(hy:LY l)(hf:0<=f/\f<4)(hs:1<=s):rY g 9 149 [.r pl,.d (bK n),.d (dc (.msg (.accepted b f t s)))] pl l (aH l n (.msg (.accepted b f t s))):=by
 intros g P pl l n b f t s _ W h4 hl qC hy hf hs;refine Bq W (by dsimp only[lO];decide+kernel) λc L hg hn hp=>?_;intros c L _ hg hn hp
 subst hg;unfold gI bodyPick;refine jH (k:="accepted") aa (by decide+kernel) (by decide+kernel) ?_;refine jH (k:="accepted") aa (by decide+kernel) (by decide+kernel) ?_;refine jH (k:="accepted") aa (by decide+kernel) (by decide+kernel) ?_;have eh:n.phase=2->fZ n=n.hl.map kg:=λh=>by unfold fZ;rw[ay (λe=>aK (h.symm.trans e) (by decide)),aq h]
 apply cP (b:=decide (b=n.af)&&(decide (n.phase=2)&&(decide (s<=n.hl.length)&&true)))
 .apply iZ;apply Hs
  .rfl
  .decide+kernel
  apply gQ
  .rw[<-nQ];apply bR
   .exact aj aa
   .exact aj aa
   .exact fX (aG (lW _ _) (qp _))
   left
  intro _;apply gQ
  .rw[<-g5 qC];apply bR
   .exact aj aa
   .left
   .exact fX minZ
   left
  intro hq;have hq:=fG hq;apply gQ
  .apply bR (v₁:=.d (.int s)) (v₂:=.d (.int (n.hl.length:Nat)))
   .exact bE (ds:=[.str "accepted",aD b,.int f,.int t,.int s]) (j:=4) (aj aa) aN aa aa
   .have:n.hl.length=(n.hl.map kg).length:=by rw[aR]
    rw[this,<-eh hq];exact uC (aj aa) aa
   exact Cmp.le;left
  intro _;exact pR
 .intro hb;simp only[zl,iT,decide_eq_true_eq] at hb;have eG:(s-1).toNat<n.hl.length:=(BO (JT ‹1<=s›)).mpr (BN (Xn s Xo) hb.2.2);obtain⟨x,hx⟩:∃x,n.hl[(s-1).toNat]?=some x:=⟨_,iF eG⟩;intros x _ hx
  have el:aH l n (.msg (.accepted b f t s))=uN l n.size n.af s x.2.1 f:=by
   unfold aH;dsimp only;rw[aq hb,hx];rfl
  rw[el];have F1:=Tv W (pl:=pl) (l:=l) (size:=n.size) (b:=n.af) (s:=s) (v:=x.2.1) hf hy (by exact lK ‹_› rfl) h4;apply Fl
  .apply uH
   .exact F1
   .exact W.Tc
   .exact(LX W).keep
   .refine br (aj aa) (br (aj aa) (br (aj aa) (br ?_ (br ?_ (br (aj aa) fj)))))
    .exact bE (ds:=[.str "accepted",aD b,.int f,.int t,.int s]) (j:=4) (aj aa) aN aa aa
    apply bE (ds:=[.int x.1,bl x.2.1,.lst (bA x.2.2)]) (k:=1) (j:=1)
    .apply pQ (v₁:=.d (.lst (n.hl.map kg))) (ds:=n.hl.map kg) (k:=s-1) (j:=(s-1).toNat)
     .rw[<-eh hb.2.1];exact aj aa
     .rfl
     .exact dU (bE (ds:=[.str "accepted",aD b,.int f,.int t,.int s]) (j:=4) (aj aa) aN aa aa) aN Bin.sub
     .have:s-1=(((s-1).toNat:Nat):Int):=(BP (JT ‹1<=s›)).symm;rw[this,aR];exact aZ eG
     rw[dh,hx];rfl;left
    all_goals first|exact aN|rfl
   .exact g8 hn aa
   .intro a e;intros a _ e;subst e;rfl
   .exact hp
   left
  intro c' v' _ z2;let ⟨_,z4⟩:=z2;let ⟨d,zy,h3,z3⟩:=z4;subst z3;exact⟨_,rfl,h3,rfl⟩
 intro hb
 have el:aH l n (.msg (.accepted b f t s))=(l,[]):=by
  unfold aH;dsimp only;rw[ay (λh=>by rw[decide_eq_true h.1,decide_eq_true h.2.1,decide_eq_true h.2.2] at hb;cases hb)]
 rw[el];exact aT (CP ⟨hp,rfl⟩)
def Ot{pl:Addr}{l:aY}{n:Node}{e:eZ}(F:Dg l n e):rY g 9 149 [.r pl,.d (bK n),.d (dc e)] pl l (aH l n e):=by
 intros g P pl l n e _ W F;cases e with
 |run=>exact ab6 W F.h4 F.hl F.ev.1 F.ev.2
 |aO v=>exact Ol W F.h4 F.hl F.ph F.y F.b2
 |again=>exact VG W F.h4 F.ph F.h0 F.hz
 |d8=>exact VE W F.hl
 |msg m=>
  cases m with
  |prepare b f t=>exact aaO W aa F.hl
  |accept b f t s v=>exact aaO W aa F.hl
  |ak b f t s v=>exact R5 W F.hl
  |refuse b f t r=>exact R6 W F.hl
  |promise b f t ks=>exact Oq W F.h4 F.ev
  |accepted b f t s=>exact Mh W F.h4 F.hl F.ph F.y F.ev.1 F.ev.2
end
def Ht(ds:List D)(a:Nat):iy ds none (some (a:Int))=ds.take a:=by
 unfold iy;simp only[BV,oz,WD,JA]
 by_cases h:a<=ds.length
 .rw[n8 h]
 rw[Eh (ee (vz.mp h)),pL (bW _),pL (ee (vz.mp h))]
def Hu(ds:List D)(a:Nat):iy ds (some (a:Int)) none=ds.drop a:=by
 unfold iy;simp only[BV,oz]
 by_cases h:a<=ds.length
 .rw[n8 h,pL (by rw[BK];exact bW _)]
 rw[Eh (ee (vz.mp h)),Pe (bW _),Pe (ee (vz.mp h)),Pf]
def VI(ds:List D)(a:Nat):iy ds (some (a:Int)) (some ((a:Int)+1))=(ds[a]?).toList:=by
 intros ds a;unfold iy;have e:((a:Int)+1)=((a+1:Nat):Int):=rfl;rw[e];simp only[BV,oz]
 by_cases h:a<ds.length
 .rw[n8 (ee h),n8 (show a+1<=ds.length from h),OV,iF h,WK h];rfl
 rw[Eh (jb.mp h),Eh (vA (jb.mp h)),Pe (bW _),qL (jb.mp h),Pf];rfl
def Hv(x:Int×eZ):D:=.tup [.int x.1,dc x.2]
def jO(cU:List cR):Mv->List (Int×eZ)
 |.at i e=>[((i:Int),e)]
 |.deliver k=>(cU[ai k cU.length]?).toList.map λm=>(m.to,.msg m)
 |_=>[]
def mJ(cU:List cR):Mv->List cR
 |.at _ _=>cU
 |.double k=>cU++(cU[ai k cU.length]?).toList
 |.deliver k=>cU.take (ai k cU.length)++cU.drop (ai k cU.length+1)
 |.drop k=>cU.take (ai k cU.length)++cU.drop (ai k cU.length+1)
abbrev LS:=List aY×List cR
def tV(size:Nat)(S:LS)(x:Int×eZ):LS:=match S.1[x.1.toNat]? with
 |some l=>(S.1.set x.1.toNat (aH l (ao l x.1.toNat size) x.2).1,S.2++(aH l (ao l x.1.toNat size) x.2).2)
 |none=>S
def aaP(size:Nat)(S:LS)(x:Int×eZ):Prop:=0<=x.1/\∃l,S.1[x.1.toNat]?=some l/\Dg l (ao l x.1.toNat size) x.2/\xF (aH l (ao l x.1.toNat size) x.2).1/\(aH l (ao l x.1.toNat size) x.2).2.length<=1000
def Hw(size:Nat)(S:LS)(mv:Mv):Prop:=∀x∈jO S.2 mv,aaP size S x
def Ou(cU:List cR)(mv:Mv):(jO cU mv).length<=1:=by
 cases mv with
 |«at» i e=>exact bW _
 |deliver k=>unfold jO;rw[aR];cases cU[ai k cU.length]?<;>simp
 |drop k=>exact b8 _
 |double k=>exact b8 _
def VJ(size:Nat)(S:LS)(mv:Mv)(F:Hw size S mv):j6 size S mv=(jO S.2 mv).foldl (tV size) (S.1,mJ S.2 mv):=by
 intros size S mv _ F;cases mv with
 |«at» i e=>
  refine aM λnG=>?_;obtain⟨_,l,hl,_⟩:_:=F _ (eO.mpr aa);refine nG ?_
  have hl:S.1[i]?=some l:=hl;unfold j6 jO mJ;dsimp only[WT];unfold tV;dsimp only;rw[iX,hl]
 |deliver k=>
  have e2:jO S.2 (.deliver k)=(S.2[ai k S.2.length]?).toList.map λm=>(m.to,.msg m):=rfl
  have e3:mJ S.2 (.deliver k)=S.2.take (ai k S.2.length)++S.2.drop (ai k S.2.length+1):=rfl;unfold Hw at F;rw[e2] at F;rw[e2,e3];cases hm:S.2[ai k S.2.length]? with
  |none=>
   have e1:j6 size S (.deliver k)=S:=by unfold j6;dsimp only;rw[hm]
   have h0:S.2.length=0:=by
    by_cases h:0<S.2.length
    .have:=cS k h;exact ns hm (iF this)
    exact Wy h
   have h2:S.2=[]:=yZ.mp h0;rw[e1];show S=(S.1,_);rw[h2,Pf,List.drop_nil];show S=(S.1,[]);rw[<-h2]
  |some m=>
   rw[hm] at F;refine aM λnG=>?_;obtain⟨_,l,hl,_⟩:_:=F (m.to,.msg m) (eO.mpr aa);refine nG ?_
   have hl:S.1[m.to.toNat]?=some l:=hl
   have e1:j6 size S (.deliver k)=(S.1.set m.to.toNat (aH l (ao l m.to.toNat size) (.msg m)).1,S.2.take (ai k S.2.length)++S.2.drop (ai k S.2.length+1)++(aH l (ao l m.to.toNat size) (.msg m)).2):=by
    unfold j6;dsimp only;rw[hm];dsimp only;rw[hl]
   rw[e1];show _=tV size _ _;unfold tV;dsimp only;rw[hl]
 |drop k=>rfl
 |double k=>rfl
def R7{α:Type}{l:List α}(h:l.Nodup){i j:Nat}{x:α}(hi:l[i]?=some x)(hj:l[j]?=some x):i=j:=by
 let ⟨h1,e1⟩:=iR.mp hi;let ⟨h2,e2⟩:=iR.mp hj;exact(List.getElem_inj h).mp (e1.trans e2.symm)
structure LP(ps:List Addr)(pv ph:Addr)(c:C)(aX:List aY)(H:List D):Prop where
 len:ps.length=aX.length
 lg:∀(i:Nat) p l,ps[i]?=some p->aX[i]?=some l->c.σ p=some (.l (gA l))
 w:∀p∈ps,c.wr p
 v:c.σ pv=some (.v (ps.map .r))
 h:c.σ ph=some (.l H)
 wh:c.wr ph
 nd:ps.Nodup
 n1:pv∉ps
 n2:ph∉ps
 n3:pv≠ph
theorem LP.set{ps:List Addr}{pv ph:Addr}{c c':C}{aX:List aY}{H:List D}(I:LP ps pv ph c aX H){i:Nat}{p:Addr}{l':aY}(hp:ps[i]?=some p)(A:FE c (λa=>a=p) c')(h:c'.σ p=some (.l (gA l'))):LP ps pv ph c' (aX.set i l') H:=by
 intros ps pv ph c c' aX H i p l' _ I hp A h;have hm:=jK hp;refine⟨by rw[W2];exact I.len,λj q l hq hl=>?_,λq hq=>A.ww q (I.w q hq),A.sg _ _ (λe=>I.n1 (e▸hm)) I.v,A.sg _ _ (λe=>I.n2 (e▸hm)) I.h,A.ww _ I.wh,I.nd,I.n1,I.n2,I.n3⟩;intros j q l _ hq hl
 by_cases l8:i=j
 .subst l8;rw[hp] at hq;cases hq;rw[WZ (by have:=(iR.mp hp).1;rw[<-I.len];exact this)] at hl;cases hl;exact h
 rw[W0 l8] at hl;exact A.sg q _ (λe:q=p=>l8 (R7 I.nd hp (e▸hq))) (I.lg j q l hq hl)
def LP.upH{ps:List Addr}{pv ph:Addr}{c:C}{aX:List aY}{H H':List D}(I:LP ps pv ph c aX H):LP ps pv ph (c.upd ph (.l H')) aX H':=
 ⟨I.len,λj q l hq hl=>(ay (c:=q=ph) λe=>I.n2 (e▸jK hq)).trans (I.lg j q l hq hl),I.w,(ay I.n3).trans I.v,aq aa,I.wh,I.nd,I.n1,I.n2,I.n3⟩
def dR(size:Nat)(aX:List aY):List D:=(fP size aX).map bK
def Dh(size:Nat)(pv ph:Addr)(S:LS):Nm:=[("size",.d (.int size)),("logs",.r pv),("history",.r ph),("nodes",.d (.lst (dR size S.1))),("way",.d (.lst (S.2.map bG)))]
noncomputable def DX(P:Params):List Stmt:=aaH ((xr P).drop 2)
noncomputable def aaQ(P:Params):List Stmt:=aaH ((DX P).drop 4)
def Hx{size:Nat}{aX:List aY}{i:Nat}{l:aY}(h:aX[i]?=some l):(dR size aX)[i]?=some (bK (ao l (i:Int) size)):=by
 unfold dR;rw[dh,nP h];rfl
def rR(size:Nat)(aX:List aY):(dR size aX).length=aX.length:=by unfold dR fP;rw[aR,JO]
def R8{size:Nat}{aX:List aY}{i:Nat}{l':aY}(h:i<aX.length):dR size (aX.set i l')=(dR size aX).take i++[bK (ao l' (i:Int) size)]++(dR size aX).drop (i+1):=by
 have e:dR size (aX.set i l')=(dR size aX).set i (bK (ao l' (i:Int) size)):=by
  unfold dR;rw[AY,JQ]
 rw[e,List.set_eq_take_append_cons_drop,aq (by rw[rR];exact h)];simp
section
variable {g:G0}{P:Params}(W:WW g P)
include W
def aaR{c:C}{L:Addr}(hg:c.toG0=g)(hn:10<=c.n){ps:List Addr}{pv ph:Addr}{size:Nat}{S:LS}{H:List D}{x:Int×eZ}{R:C->D->Prop}{M σ wr}(I:LP ps pv ph (jY (c.fn (gz P) 154 L (λa=>a∈ps)) M σ wr) S.1 H)(F:aaP size S x)(hl:S.1.length<=4)(hw:S.2.length<=100000):
 Ex (jY (c.fn (gz P) 154 L (λa=>a∈ps)) M σ wr) (("event",.d (dc x.2))::("who",.d (.int x.1))::Dh size pv ph S) [aaQ P] (λc' ρ'=>LP ps pv ph c' (tV size S x).1 H/\Sub (Dh size pv ph (tV size S x)) ρ') R:=by
 intros g P c L ps pv ph size _ W hg hn S H x R M σ wr I F hl hw;intros S H x R M σ wr _ W hg hn I F hl hw;subst hg;refine aM λnG=>?_;obtain⟨h0,l,yf,F1,F2,ho⟩:_:=F;refine nG ?_;intros l _ h0 yf F1 F2 ho
 obtain⟨i,hi⟩:∃i:Nat,x.1=(i:Int):=⟨x.1.toNat,(BP h0).symm⟩;intros i _ hi;rw[hi,iX] at yf
 have ea:tV size S x=(S.1.set i (aH l (ao l (i:Int) size) x.2).1,S.2++(aH l (ao l (i:Int) size) x.2).2):=by
  unfold tV;rw[hi,iX,yf]
 rw[hi,iX] at F1 F2 ho;rw[ea,hi];generalize hr:aH l (ao l (i:Int) size) x.2=r at*;have eG:i<S.1.length:=(iR.mp yf).1;obtain⟨p,hp⟩:∃p,ps[i]?=some p:=⟨_,iF (by rw[I.len];exact eG)⟩;intros p _ hp;have hpv:(ps.map gn)[i]?=some (gn p):=by rw[dh,hp];rfl
 have wQ:i<(ps.map gn).length:=by rw[aR,I.len];exact eG
 have dg:=Hx (size:=size) yf;have vY:i<(dR size S.1).length:=by rw[rR];exact eG
 have FL:=Ot W (pl:=p) F1;rw[hr] at FL;unfold aaQ DX xr bodyPick;apply Ci
 .apply Lv (ds:=S.2.map bG)
  .exact aj aa
  .apply uH
   .exact FL
   .exact W.NZ
   .exact(GZ W).keep
   .refine br ?_ (br ?_ (br (aj aa) fj))
    .exact zW (aj aa) I.v (aj aa) (aZ wQ) hpv
    exact pQ (ds:=dR size S.1) (aj aa) aa (aj aa) (aZ vY) dg
   .exact g8 hn aa
   .intro a e;subst e;exact I.w _ (jK hp)
   .exact I.lg i p l hp yf
   left
  intro c' v' z2;refine aM λnG=>?_;obtain⟨_,d,rfl,_,rfl⟩:_:=z2;refine nG ?_
  refine⟨_,rfl,?_⟩;rw[bU,aR,aR];show _<=1000000;exact aG (ig ‹_› ‹_›) (by decide)
 .exact cD
 .intro c1 v1 gv z2;refine aM λnG=>?_;obtain⟨es,⟨A,d,e,h3,rfl⟩,rfl⟩:_:=z2;refine nG ?_
  cases e;have I1:=I.set hp A h3;let ⟨M,σ,wr,zy⟩:=bY (c:=c.fn (gz P) 154 L λa=>a∈ps) gv;apply gS (x:="nodes") (v:=.d (.lst (dR size (S.1.set i r.1))))
  .rw[R8 eG];apply cH;apply Cb (v₁:=.d (.lst ((dR size S.1).take i++[bK (ao r.1 (i:Int) size)]))) (v₂:=.d (.lst ((dR size S.1).drop (i+1))))
   .apply cH;apply Cb (v₁:=.d (.lst ((dR size S.1).take i))) (v₂:=.d (.lst [bK (ao r.1 (i:Int) size)]))
    .rw[<-Ht];exact cH (zE (aj aa) aa .none (.int (aj aa)))
    .apply cH;apply fH
     .refine aP ?_ bq aa;apply mw
      .exact TG W (pl:=p) F2
      .exact W.Te
      .exact(L1 W).keep
      .exact br (zW (aj aa) I1.v (aj aa) (aZ wQ) hpv) (br (aj aa) (br (aj aa) fj))
      .exact g8 hn aa
      .exact h3
      left
     left
    .rfl
    .rfl
    rw[bU,pO,rR];show _+1<=1000000;exact lA (aG (sC ..) ‹S.1.length<=_›) aa
   .have e:((i:Int)+1)=((i+1:Nat):Int):=rfl;rw[<-Hu];exact cH (zE (aj aa) aa (.int (dU (aj aa) aN pP)) .none)
   .rfl
   .rfl
   rw[bU,bU,pO,BK,rR];show _+1+_<=1000000;exact lK (ig (kU (aG (sC ..) ‹S.1.length<=4›) 1) (aG (vt ..) ‹S.1.length<=4›)) (by decide)
  .exact cD
  apply aT;apply dM;refine⟨I1,?_⟩;rw[<-eB];exact .cons aa (.cons aa (.cons aa (.cons aa (.cons aa .nil))));left
 left
end
def lst(size:Nat)(S:LS)(bH:List Mv):LS:=bH.foldl (j6 size) S
def tC(size:Nat)(S:LS)(bH:List Mv):Nat->List D
 |0=>[.lst (dR size S.1)]
 |k+1=>tC size S bH k++[.lst (dR size (lst size S (bH.take (k+1))).1)]
def xJ(size:Nat)(S:LS)(bH:List Mv)(k:Nat):tC size S bH (k+1)=tC size S bH k++[.lst (dR size (lst size S (bH.take (k+1))).1)]:=rfl
def uZ(size:Nat)(S:LS)(bH:List Mv)(k:Nat):(tC size S bH k).length=k+1:=by
 induction k with
 |zero=>rfl
 |succ k ih=>rw[xJ,bU,ih];rfl
def Jj(size:Nat)(S:LS){bH:List Mv}{k:Nat}{mv:Mv}(h:bH[k]?=some mv):lst size S (bH.take (k+1))=j6 size (lst size S (bH.take k)) mv:=by
 unfold lst;rw[vC,h];simp
def ab7(cU:List cR)(k:Int):cU[ai k (max 1 cU.length)]?=cU[ai k cU.length]?/\cU.take (ai k (max 1 cU.length))++cU.drop (ai k (max 1 cU.length)+1)=cU.take (ai k cU.length)++cU.drop (ai k cU.length+1):=by
 by_cases h:cU=[]
 .subst h;simp
 have:0<cU.length:=BJ.mpr h;rw[Wz this];exact⟨rfl,rfl⟩
def aaS(e:eZ){a b c:D}:([("deliver",a),("drop",b),("double",c)]:List (Str×D)).lookup (tB e)=none:=by cases e<;>rfl
def aaT{α Str:Type}(f:α->Str)(l:List α)(i:Nat):((l.map f)[i]?).toList=(l[i]?).toList.map f:=by rw[dh];cases l[i]?<;>rfl
def aaU(mv:Mv):(mvR mv).length<=1:=by
 cases mv with
 |«at» i e=>cases e<;>exact bz aa
 |_=>exact b8 _
def aaV{α:Type}(o:Option α):o.toList.length<=1:=by cases o<;>simp
def R9(cU:List cR)(mv:Mv):(mJ cU mv).length<=cU.length+1:=by
 cases mv with
 |«at» i e=>exact jr _
 |double k=>
  unfold mJ;dsimp only;rw[bU];exact ff (aaV cU[ai k cU.length]?) _
 |deliver k=>exact vA (xe cU _)
 |drop k=>exact vA (xe cU _)
def afI(n:Nat):max (1:Int) (n:Int)=((max 1 n:Nat):Int):=(Nat.le_total 1 n).elim (λh=>(zg (show(1:Int)<=n from gE.mpr h)).trans (cj vL (Wz h).symm)) λh=>(JV (show(n:Int)<=1 from gE.mpr h)).trans (cj vL (Wq h).symm)
section
variable {g:G0}{P:Params}(W:WW g P)
include W
def aaW{c:C}{L:Addr}(hg:c.toG0=g)(hn:10<=c.n){ps:List Addr}{pv ph:Addr}{size:Nat}{S:LS}{H:List D}{mv:Mv}{R:C->D->Prop}{M σ wr}(I:LP ps pv ph (jY (c.fn (gz P) 154 L (λa=>a∈ps)) M σ wr) S.1 H)(F:Hw size S mv)(hl:S.1.length<=4)(hw:S.2.length<=50000)(hH:H.length<=1000):
 Ex (jY (c.fn (gz P) 154 L (λa=>a∈ps)) M σ wr) (("act",.d (g6 mv))::Dh size pv ph S) [DX P] (λc' ρ'=>LP ps pv ph c' (j6 size S mv).1 (H++[.lst (dR size (j6 size S mv).1)])/\Sub (Dh size pv ph (j6 size S mv)) ρ') R:=by
 intros g P c L ps pv ph size _ W hg hn S H mv R M σ wr I F hl hw hH;intros S H mv R M σ wr _ W hg hn I F hl hw hH;subst hg;rw[VJ size S mv F];have Iw:∀{c':C} {ρ':Nm} {p:Pos},fR ρ' "act" (.d (g6 mv))->Ev c' ρ' (.Name "act" p) (.d (.tup (.str (yo mv)::.int (pH mv)::mvR mv))):=λh=>by rw[<-Je];exact aj h
 have aaX:∀{c':C} {ρ':Nm} {p p1 p2:Pos} {q:Nat},fR ρ' "act" (.d (g6 mv))->Ev c' ρ' (.Subscript (.Name "act" p) (.Constant (.int 1) q p1) p2) (.d (.int (pH mv))):=λh=>bE (j:=1) (Iw h) aN (aZ (j:=1) (by simp only[jL];exact bz aa)) aa
 have aaY:∀{c':C} {ρ':Nm} {p p1 p2:Pos} {q:Nat},fR ρ' "act" (.d (g6 mv))->Ev c' ρ' (.Subscript (.Name "act" p) (.Constant (.int 0) q p1) p2) (.d (.str (yo mv))):=λh=>bE (j:=0) (Iw h) aN (aZ (j:=0) (by simp only[jL];exact bz aa)) aa
 unfold DX xr bodyPick;apply gS (x:="at") (v:=.d (.int (ai (pH mv) (max 1 S.2.length):Nat)))
 .rw[<-gV (pH mv) (jD OT (JD _ _)),<-afI];have el:S.2.length=(S.2.map bG).length:=by rw[aR]
  apply dU (v₁:=.d (.int (pH mv))) (v₂:=.d (.int (max 1 (S.2.length:Int))))
  .exact aaX aa
  .apply Rv
   .exact aN
   .rw[el];exact uC (aj aa) aa
   left
  exact jW (λe=>aK (cN (EA 1 _) (vK e)) (by decide))
 .exact cD
 let ⟨q1,q2⟩:=ab7 S.2 (pH mv);generalize hA:ai (pH mv) (max 1 S.2.length)=A at*;apply wM (names:=["mail","rest"]) (Q:=λc' vs=>c'=(jY (c.fn (gz P) 154 L (λa=>a∈ps)) M σ wr)/\vs=[.d (.lst ((S.2[A]?).toList.map bG)),.d (.lst ((S.2.take A++S.2.drop (A+1)).map bG))])
 .apply zZ;refine br ?_ (br ?_ fj)
  .rw[<-aaT,<-VI];exact cH (zE (aj aa) aa (.int (aj aa)) (.int (dU (aj aa) aN pP)))
  rw[eB,Eu,JR];apply cH;apply Cb (v₁:=.d (.lst ((S.2.map bG).take A))) (v₂:=.d (.lst ((S.2.map bG).drop (A+1))))
  .rw[<-Ht];exact cH (zE (aj aa) aa .none (.int (aj aa)))
  .rw[<-Hu];exact cH (zE (aj aa) aa (.int (dU (aj aa) aN pP)) .none)
  .rfl
  .rfl
  rw[bU,pO,BK,aR];show _<=1000000;exact lK (ig (aG (sC ..) ‹S.2.length<=50000›) (aG (vt ..) ‹S.2.length<=50000›)) aa
 .intro x hx;simp at hx;rcases hx with rfl|rfl<;>exact cD
 intro c' vs cu z2;let ⟨zy,z3⟩:=z2;subst z3;refine⟨rfl,?_⟩;apply gS (x:="todo") (v:=.d (.lst ((jO S.2 mv).map Hv)))
 .have e:kJ ((jO S.2 mv).map Hv)=(([("deliver",.lst ((S.2[A]?).toList.map λm=>Hv (m.to,.msg m))),("drop",.lst []),("double",.lst [])]:List (Str×D)).lookup (yo mv)).getD (.lst [.tup [.int (pH mv),.tup ([.str (yo mv)]++mvR mv)]]):=by
   cases mv with
   |«at» i e=>
    show _=(JH (tB e) _).getD _;rw[aaS];show kJ [.tup [.int i,dc e]]=_;rw[G8];rfl
   |deliver k=>rw[q1];show kJ (((S.2[ai k S.2.length]?).toList.map _).map Hv)=kJ _;rw[cV];rfl
   |drop k=>rfl
   |double k=>rfl
  rw[e];apply Rz
  .refine .cons (dZ (by decide+kernel)) ?_ (.cons (dZ (by decide+kernel)) (cH (fH bq (bz aa))) (.cons (dZ (by decide+kernel)) (cH (fH bq (bz aa))) .nil));have e:(S.2[A]?).toList.map (λm=>Hv (m.to,.msg m))=((S.2[A]?).toList.filter λz=>true).map λm=>Hv (m.to,.msg m):=by rw[vI.mpr λz z=>rfl]
   rw[e];apply cH;apply wH (enc:=bG)
   .exact kK (i6 (aj aa))
   .intro La cs M X t ht;refine⟨_,i7 cD,?_,rq,λz=>?_⟩
    .exact bV aa fT
    refine cI (ds:=[.int t.to,dc (.msg t)]) ?h (bz aa);exact aP (Ev.acR (aj aa)) (aP (cI (ds:=[.str "message",bG t]) (aP (dZ (by decide+kernel)) (aP (aj aa) bq aa) aa) (bz aa)) bq aa) aa;left
   .have:(S.2[A]?).toList.length<=1:=by cases S.2[A]?<;>simp
    exact aG this (by decide)
   rfl;left
  .show(["deliver","drop","double"]:List Str).Nodup;decide+kernel
  .simp
  .exact bz aa
  .exact aaY aa
  .apply cH;apply fH
   .refine aP ?_ bq aa;apply cI
    .refine aP (aaX aa) (aP ?_ bq aa) aa;apply dU
     .exact z8 (l:=none) (u:=some ((1:Nat):Int)) (Iw aa) .none (.int aN) (by exact Ht _ 1)
     .exact z8 (Iw aa) (.int aN) .none (Tp _ _ _)
     exact uw (by rw[bU];show 1+_<=1000000;have:=aaU mv;exact aG (ff ‹_› _) (by decide))
    left
   left
  left
 .exact cD
 have Z1:(mJ S.2 mv).length<=50001:=aG (R9 S.2 mv) (gw ‹_›);apply gS (x:="way") (v:=.d (.lst ((mJ S.2 mv).map bG)))
 .have e:kJ ((mJ S.2 mv).map bG)=(([("deliver",.lst ((S.2.take A++S.2.drop (A+1)).map bG)),("drop",.lst ((S.2.take A++S.2.drop (A+1)).map bG)),("double",.lst (S.2.map bG++(S.2[A]?).toList.map bG))]:List (Str×D)).lookup (yo mv)).getD (.lst (S.2.map bG)):=by
   cases mv with
   |«at» i e=>show _=(JH (tB e) _).getD _;rw[aaS];rfl
   |deliver k=>rw[q2];rfl
   |drop k=>rw[q2];rfl
   |double k=>rw[q1,<-eB];rfl
  rw[e];apply Rz
  .refine .cons (dZ (by decide+kernel)) (aj aa) (.cons (dZ (by decide+kernel)) (aj aa) (.cons (dZ (by decide+kernel)) ?_ .nil));apply cH;apply Cb
   .exact aj aa
   .exact aj aa
   .rfl
   .rfl
   have:(S.2[A]?).toList.length<=1:=by cases S.2[A]?<;>simp
   rw[bU,aR,aR];show _<=1000000;exact aG (ig ‹_› ‹_›) (by decide)
  .show(["deliver","drop","double"]:List Str).Nodup;decide+kernel
  .simp
  .exact bz aa
  .exact aaY aa
  .exact aj aa
  left
 .exact cD
 have ht1:=Ou S.2 mv;apply Ex.for (ds:=(jO S.2 mv).map Hv) (Inv:=λi c' ρ'=>LP ps pv ph c' (((jO S.2 mv).take i).foldl (tV size) (S.1,mJ S.2 mv)).1 H/\Sub (Dh size pv ph (((jO S.2 mv).take i).foldl (tV size) (S.1,mJ S.2 mv))) ρ')
 .exact i6 (aj aa)
 .exact⟨I,.cons aa (.cons aa (.cons aa (.cons aa (.cons aa .nil))))⟩
 .intro i d c' ρ' cu hd z2;let ⟨g1,g2⟩:=z2;intros i d c' ρ' _ cu hd g1 g2;let ⟨M,σ,wr,zy⟩:=bY (c:=c.fn (gz P) 154 L λa=>a∈ps) cu;intros M σ wr _ cu g1;rw[dh] at hd;cases hx:(jO S.2 mv)[i]? with
  |none=>rw[hx] at hd;cases hd
  |some x=>
   rw[hx] at hd;cases hd;have hi:i=0:=Nat.lt_one_iff.1 (jD (iR.mp hx).1 ‹_›);subst hi
   have e1:((jO S.2 mv).take (0+1)).foldl (tV size) (S.1,mJ S.2 mv)=tV size (S.1,mJ S.2 mv) x:=by
    rw[vC,hx];rfl
   rw[e1];refine⟨_,q9 (.cons cD (.cons cD .nil)),?_⟩;refine kN (ρ':=("event",.d (dc x.2))::("who",.d (.int x.1))::Dh size pv ph (S.1,mJ S.2 mv)) ?_ g2.both.both;exact aaR W aa hn (S:=(S.1,mJ S.2 mv)) g1 (F x (jK hx)) hl (aG Z1 (by decide))
 intro c' ρ' cu z2;let ⟨g1,g2⟩:=z2;let ⟨M,σ,wr,zy⟩:=bY (c:=c.fn (gz P) 154 L λa=>a∈ps) cu;rw[aR,qO] at g1 g2;refine kN ?_ g2;generalize(jO S.2 mv).foldl (tV size) (S.1,mJ S.2 mv)=S' at*;apply pX
 .apply Cj
  .exact aj aa
  .exact g1.h
  .exact g1.wh
  .exact aj aa
  .exact oZ ‹_› rfl
  left
 .intro c' v cu z2;let ⟨zy,z3⟩:=z2;subst z3;exact aT (dM ⟨g1.upH,xA⟩)
 left;left;left;left;left;left
end
def pS(size:Nat):PS:=((b9 size).map λi=>yc i size,[])
def lS(size:Nat):LS:=(JP size C5,[])
def aaZ(size:Nat):dR size (lS size).1=(pS size).1.map bK:=by
 intros size;unfold dR fP lS pS b9;rw[cV,cV];apply zc;intro i;intros i;rw[dh,sF,Et,dh]
 by_cases h:i<size
 .rw[aq h,BD h];rfl
 rw[ay h,qL (by simpa using h)];rfl
def fR.get{ρ:Nm}{x:Str}{v:V}(h:fR ρ x v):ρ.lookup x=some v:=h
section
variable {g:G0}{P:Params}(W:WW g P)
include W
def aa0{c:C}{L:Addr}(hn:15<=c.n)(hg:c.toG0=g){S:PS}{H:List D}{pn pw ph:Addr}{mv:Mv}(F:To S mv)(hH:H.length<=1000)(hN:S.1.length<=1000)(hW:S.2.length<=100000):DV P (c.fn (gb P) 111 L λz=>False) pn pw ph S H mv:=by
 subst hg;cases mv with
 |«at» i e=>
  let ⟨n,h1,h2,h3⟩:=F
  by_cases hc:e=.d8
  .subst hc;exact Ob hn W h1 hH hN hW
  exact aaI hn W h1 hc (h2 hc) h3 hH hN hW
 |deliver k=>exact CN hn W aa F hH hN hW
 |drop k=>exact CN hn W aa F hH hN hW
 |double k=>exact CN hn W aa F hH hN hW
def ab8{size:Nat}{bH:List Mv}(hs:size<=4)(hm:bH.length<=500)(F:∀k mv,bH[k]?=some mv->To (Bl (pS size) (bH.take k)) mv/\(Bl (pS size) (bH.take k)).1.length<=1000/\(Bl (pS size) (bH.take k)).2.length<=100000):
 yj g 16 111 [.d (.int size),.d (.lst (bH.map g6))] (λz=>True) (.tup [.lst (xD (pS size) bH bH.length),.lst ((Bl (pS size) bH).2.map bG)]):=by
 intros g P size bH _ W hs hm F;refine rA (n:=15) (Tg W) aa λc L hg hn z=>?_
 have DB:=hg;subst hg;unfold uX bodyPick;apply Fi (x:="nodes") (cn:=.l ((pS size).1.map bK))
 .have e:(pS size).1.map bK=((b9 size).filter λz=>true).map λi=>bK (yc i size):=by
   rw[vI.mpr λz z=>rfl];unfold pS;rw[cV];rfl
  rw[e];apply wN
  .apply Cr (enc:=.int)
   .apply kK;rw[<-nR];exact uB (n:=(size:Int)) (aj aa) (by exact Kd ‹_› (by decide))
   .intro La cs M X t ht;refine⟨_,i7 cD,?_,rq,λz=>?_⟩
    .exact bV aa fT
    apply mw
    .exact aaG W t size
    .exact W.aau
    .exact(N7 W).keep
    .exact br (aj aa) (br (aj aa) fj)
    .exact g8 hn aa
    .trivial
    left
   .show _<=1000000;unfold b9;rw[aR,pM];exact lK ‹_› rfl
   rfl;left
  left;exact cD
 intro pn hpn af2;apply wM (names:=["history","way"]) (Q:=λc' vs=>∃ph pw,vs=[.r ph,.r pw]/\PI pn pw ph c' (pS size) [.lst ((pS size).1.map bK)]/\¬c.M ph/\¬c.M pw)
 .apply oE
  .apply mZ;apply KQ;apply fH
   .exact aP (cH (Rx (v:=.r pn) (ds:=(pS size).1.map bK) (aj aa) (aq aa))) bq aa
   left
  .intro c1 v1 gv z2;let ⟨ph,qC,TN,zy,z3⟩:=z2;subst z3;apply oE
   .exact mZ (KQ (fH bq (bz aa)))
   .intro c2 v2 oi z2;let ⟨pw,hpw,af3,zy,z3⟩:=z2;subst z3;intro s pos S Lo;refine bk (Co s pos S Lo) (λxs s' h=>?_);refine aM λnG=>?_;obtain⟨c',vs,a1,a2,a3,a4,rfl,rfl⟩:_:=h;refine nG ?_
    have e1:pn≠ph:=λe=>qC (.inr e.symm)
    have e2:ph≠pw:=λe=>hpw (.inr e.symm)
    have e3:pn≠pw:=λe=>hpw (.inl (.inr e.symm))
    refine⟨_,_,a1,a2,a3,a4,ph,pw,rfl,⟨?_,aq aa,?_,.inl (.inl (.inr aa)),.inr aa,.inl (.inr aa),e3,e1,e2.symm⟩,λh=>qC (.inl (.inl h)),λh=>hpw (.inl (.inl (.inl h)))⟩
    .exact(ay e3).trans ((ay e1).trans (aq aa))
    exact(ay e2).trans (aq aa)
   rfl
  rfl
 .intro x hx;simp at hx;rcases hx with rfl|rfl<;>exact cD
 intro c1 vs gv z2;let ⟨ph,pw,zy,I,nb1,nb2⟩:=z2;refine⟨rfl,?_⟩;refine CM (base:=c.fn (gb P) 111 L λz=>False) gv I λM σ wr I=>?_
 apply Ex.for (ds:=bH.map g6) (Inv:=λi c' ρ'=>PI pn pw ph c' (Bl (pS size) (bH.take i)) (xD (pS size) bH i)/\fR ρ' "nodes" (.r pn)/\fR ρ' "history" (.r ph)/\fR ρ' "way" (.r pw))
 .exact i6 (aj aa)
 .exact⟨I,rfl,rfl,rfl⟩
 .intro i d c' ρ' cu hd z2;let ⟨g1,g2,g3,g4⟩:=z2;let ⟨M,σ,wr,zy⟩:=bY (c:=c.fn (gb P) 111 L λz=>False) cu;rw[dh] at hd;cases hx:bH[i]? with
  |none=>rw[hx] at hd;cases hd
  |some mv=>
   rw[hx] at hd;cases hd;let ⟨f1,f2,f3⟩:=F i mv hx;have hi:=(iR.mp hx).1;refine⟨_,i7 cD,?_⟩;refine kN (ρ':=[("a",.d (g6 mv)),("nodes",.r pn),("history",.r ph),("way",.r pw)]) ?_ (Sub.both (.cons g2 (.cons g3 (.cons g4 .nil))));refine Ex.mono (aa0 W (c:=c) (L:=L) hn DB f1 (H:=xD (pS size) bH i) (by rw[RX];exact aG ‹_› (aG ‹_› (by decide))) f2 f3 M σ wr _ g1) (λc' ρ' h=>?_) λz z h=>h
   rw[G9];rw[Jf _ hx];exact h
 intro c' ρ' cu z2;let ⟨g1,g2,g3,g4⟩:=z2;let ⟨M,σ,wr,zy⟩:=bY (c:=c.fn (gb P) 111 L λz=>False) cu;rw[aR,qO] at g1;apply jX
 case hr=>rfl
 apply Qz
 .refine Cf ?_ (Cf ?_ QA aa) aa
  .exact KO (aj g3) g1.h nb1
  exact KO (aj g4) g1.w nb2
 left;left;left
def aa1{size:Nat}{bH:List Mv}{ps:List Addr}{pv:Addr}(hs:size<=4)(hm:bH.length<=500)(Ak:ps.length=size)(mu:ps.Nodup)(hn1:pv∉ps)(F:∀k mv,bH[k]?=some mv->Hw size (lst size (lS size) (bH.take k)) mv/\(lst size (lS size) (bH.take k)).1.length<=4/\(lst size (lS size) (bH.take k)).2.length<=50000):
 QH g 11 154 [.d (.int size),.d (.lst (bH.map g6)),.r pv] (λa=>a∈ps) (λσ=>σ pv=some (.v (ps.map .r))/\∀p∈ps,σ p=some (.l (gA C5)))
  (λz σ' d=>(∀(i:Nat) p l,ps[i]?=some p->(lst size (lS size) bH).1[i]?=some l->σ' p=some (.l (gA l)))/\d=.tup [.lst (tC size (lS size) bH bH.length),.lst ((lst size (lS size) bH).2.map bG)]):=by
 intros g P size bH ps pv _ W hs hm Ak mu hn1 F;refine QH.of (n:=10) (N8 W) aa (λσ σ' SH d h q=>⟨λi p l hp hl=>(h p (jK hp)).symm.trans (q.1 i p l hp hl),q.2⟩) λc L hg hn hO hp=>?_;intros c L _ hg hn hO hp
 have DB:=hg;subst hg;unfold xr bodyPick;apply Fj (x:="nodes") (v:=.d (.lst (dR size (lS size).1)))
 .have e:dR size (lS size).1=((b9 size).filter λz=>true).map λi=>bK (yc i size):=by
   rw[vI.mpr λz z=>rfl,aaZ];unfold pS;rw[cV];rfl
  rw[e];apply FH;apply wN
  .apply Cr (enc:=.int)
   .apply kK;rw[<-nR];exact uB (n:=(size:Int)) (aj aa) (by exact Kd ‹_› (by decide))
   .intro La cs M X t ht;intros La cs M X t _ ht;refine⟨_,i7 cD,?_,rq,λz=>?_⟩
    .exact bV aa fT
    have ed:bK (yc t size)=.tup [.int t,.int size,.tup [.int 0,.int 0],.lst [],.lst [],.str "idle",.tup [.int 0,.int 0],.lst []]:=rfl;rw[ed];apply cI
    case hz=>exact bz aa
    refine aP (aj aa) ?_ aa;refine aP (aj aa) ?_ aa;refine aP (cI (aP aN (aP aN bq aa) aa) (bz aa)) ?_ aa;refine aP (cH (fH bq (bz aa))) ?_ aa;refine aP (cH (fH bq (bz aa))) ?_ aa;refine aP (dZ (by decide+kernel)) ?_ aa;refine aP (cI (aP aN (aP aN bq aa) aa) (bz aa)) ?_ aa;exact aP (cH (fH bq (bz aa))) bq aa
   .show _<=1000000;unfold b9;rw[aR,pM];exact lK ‹_› rfl
   rfl;left
  left;exact cD
 apply wM (names:=["history","way"]) (Q:=λc' vs=>∃ph,vs=[.r ph,.d (.lst [])]/\LP ps pv ph c' (lS size).1 [.lst (dR size (lS size).1)]/\¬c.M ph)
 .apply oE
  .apply mZ;apply KQ;apply fH
   .exact aP (aj aa) bq aa
   left
  .intro c1 v1 gv z2;let ⟨ph,qC,TN,zy,z3⟩:=z2;subst z3;intros ph _ qC TN gv;apply oE
   .exact rz (cH (fH bq (bz aa)))
   .intro c2 v2 oi z2;let ⟨zy,z3⟩:=z2;subst z3;intro s pos S Lo;intros s pos _ S Lo;refine bk (Co s pos S Lo) (λxs s' h=>?_);intros xs s' _ h;refine aM λnG=>?_;obtain⟨c',vs,a1,a2,a3,a4,rfl,rfl⟩:_:=h;refine nG ?_
    have e1:∀p∈ps,p≠ph:=λp FW e=>by have:=hp.2 p FW;rw[e] at this;exact aK (TN.symm.trans this) (by simp)
    have e2:pv≠ph:=λe=>by have:=hp.1;rw[e] at this;exact aK (TN.symm.trans this) (by simp)
    refine⟨_,_,a1,a2,a3,a4,ph,rfl,⟨by rw[Ak];simp[lS],λi p l FW hl=>?_,λp FW=>.inl FW,(ay e2).trans hp.1,aq aa,.inr aa,mu,hn1,λh=>e1 _ h aa,e2⟩,λh=>qC (.inl h)⟩;intros i p l _ FW hl
    have:l=C5:=by
     unfold lS at hl;rw[Et] at hl;split at hl
     .exact(eF hl).symm
     cases hl
    subst this;have kH:=jK FW;exact(ay (e1 p kH)).trans (hp.2 p kH)
   rfl
  rfl
 .intro x hx;intros x _ hx;simp at hx;rcases hx with rfl|rfl<;>exact cD
 intro c1 vs gv z2;let ⟨ph,zy,I,nb⟩:=z2;intros c1 ph _ gv I nb;refine⟨rfl,?_⟩;let ⟨M,σ,wr,zy⟩:=bY (c:=c.fn (gz P) 154 L λa=>a∈ps) gv;intros M σ wr _ gv I;apply Ex.for (ds:=bH.map g6) (Inv:=λi c' ρ'=>LP ps pv ph c' (lst size (lS size) (bH.take i)).1 (tC size (lS size) bH i)/\Sub (Dh size pv ph (lst size (lS size) (bH.take i))) ρ')
 .exact i6 (aj aa)
 .exact⟨I,.cons aa (.cons aa (.cons aa (.cons aa (.cons aa .nil))))⟩
 .intro i d c' ρ' cu hd z2;let ⟨g1,g2⟩:=z2;intros i d c' ρ' _ cu hd g1 g2;let ⟨M,σ,wr,zy⟩:=bY (c:=c.fn (gz P) 154 L λa=>a∈ps) cu;intros M σ wr _ cu g1;rw[dh] at hd;cases hx:bH[i]? with
  |none=>rw[hx] at hd;cases hd
  |some mv=>
   rw[hx] at hd;cases hd;let ⟨f1,f2,f3⟩:=F i mv hx;have hi:=(iR.mp hx).1;refine⟨_,i7 cD,?_⟩;refine kN (ρ':=("act",.d (g6 mv))::Dh size pv ph (lst size (lS size) (bH.take i))) ?_ g2.both;refine Ex.mono (aaW W DB (by assumption) g1 f1 f2 f3 (by rw[uZ];exact aG ‹_› (aG ‹_› (by decide)))) (λc' ρ' h=>?_) λz z h=>h;intros c' ρ' _ h
   rw[xJ];rw[Jj _ _ hx];exact h
 intro c' ρ' cu z2;let ⟨g1,g2⟩:=z2;intros c' ρ' _ cu g1 g2;let ⟨M,σ,wr,zy⟩:=bY (c:=c.fn (gz P) 154 L λa=>a∈ps) cu;intros M σ wr _ cu g1;rw[aR,qO] at g1;rw[aR,qO] at g2;apply jX
 case hr=>exact⟨g1.lg,rfl⟩
 apply Qz
 .refine Cf ?_ (Cf ?_ QA aa) aa
  .exact KO (aj (g2 "history" _ aa)) g1.h nb
  exact kM (aj (g2 "way" _ aa))
 left;left;left;left
end
def TP{l:List Int}{P:Int}(h0:0<=P)(h:∀k∈l,1<=k/\k<=P):0<=dI l/\dI l<=P:=by
 by_cases hl:l=[]
 .subst hl;exact⟨eS _,h0⟩
 have:=h _ (tN hl).1;exact⟨cN (by decide) this.1,this.2⟩
def Mi{items:List bf}{k:Int}(h:k∈(dG items).map (·.1)):∃it∈items,it.1=k:=by
 have hs:=AN items k;rw[AO,EG] at h;let ⟨x,e⟩:=h;rw[e] at hs;exact⟨_,hs.1,rfl⟩
def sl(P:Nat)(it:bf):Prop:=1<=it.1/\it.1<=(P:Int)
structure LB(size i P:Nat)(l:aY)(ph:Nat)(b:bg):Prop where
 hw:w7 (i:Int) l ph b
 lg:∃R,LG size R P (sl P) l
 len:l.length<=30000
 hP:P<=30
 h4:size<=4
 hi:i<size
section
variable {size i P:Nat}{l:aY}{ph:Nat}{b:bg}(B:LB size i P l ph b)
include B
theorem LB.is:(iN l).getLastD (0,(0,0))=(ph,b):=CB B.hw.1.is
theorem LB.ph2:ph<=2:=let ⟨R,g⟩:=B.lg;(g.bb B.hw).2.1
theorem LB.eV:∀it∈aS [] (cB l),1<=it.1/\it.1<=(P:Int):=λit h=>by
 let ⟨R,g⟩:=B.lg;exact g.eV it ((CD h).resolve_left pK)
theorem LB.tn:(aS [] (cB l)).length<=30:=aG (AX (gH g7) B.eV) B.hP
theorem LB.kn:(bL l).length<=30:=by
 let ⟨R,g⟩:=B.lg;exact aG (AX B.hw.1.nk g.know) B.hP
theorem LB.afJ:∀x∈aQ l b,1<=x.1/\x.1<=(P:Int):=λx hx=>by
 let ⟨R,g⟩:=B.lg;exact(g.off _ (s6 hx)).2
theorem LB.on:(aQ l b).length<=30:=aG (AX (B.hw.1.yk b) B.afJ) B.hP
theorem LB.few(h:ph=1):2*(az l b).length<=size:=by
 let ⟨R,g⟩:=B.lg;have:=g.few;rw[xV B.hw.1] at this;exact this h
theorem LB.pF:Nk (az l b):=by
 let ⟨R,g⟩:=B.lg;exact g.pF b
theorem LB.ly:LY l:=λy hy=>by
 let ⟨R,g⟩:=B.lg;have:=g.yes y hy;have h4:=B.h4;exact⟨this.1,by have:=this.2;exact lt4 ‹_› ‹_›⟩
theorem LB.vn(s:Int):(cZ l b s).length<=4/\∀k∈cZ l b s,0<=k/\k<4:=by
 have hm:∀k∈cZ l b s,0<=k/\k<4:=λk hk=>by
  let ⟨y,hy,zy⟩:=cg.mp (rE.mp hk);exact B.ly y (sE.mp hy).1
 refine⟨zV (u:=[0,1,2,3]) (kB _) λx hx=>?_,hm⟩;have:=hm x hx;simp only[bZ,pK,or_false];refine(Ez this.1).elim λn e=>?_;subst e;exact(show ∀n:Nat,n<4->(n:Int)=0\/(n:Int)=1\/(n:Int)=2\/(n:Int)=3 by decide) n (kG.1 this.2)
theorem LB.nd:xF l where
 is:=λh=>by have:=B.hw.1.is;rw[show(view l).iN=iN l from rfl,h] at this;cases this
 ph:=by rw[B.is];exact B.ph2
 fq:=B.hw.2
 len:=by have:=B.len;exact lK ‹_› rfl
 tn:=by have:=B.tn;exact f6 ‹_› (by decide)
 kk:=B.hw.1.nk
 kn:=by have:=B.kn;exact f6 ‹_› (by decide)
 hk:=by
  rw[B.is];intro h;have:=B.few h;have:=B.h4;exact⟨B.pF,by show(az l b).length<64;exact aeA ‹_› ‹_›⟩
 y:=B.ly
theorem LB.node:ao l (i:Int) size=⟨i,size,kP (fN l),aI (aS [] (cB l)),aI (bL l),ph,b,vg l ph b,nH l ph b⟩:=iB B.hw.1
theorem LB.hp2:(vg l ph b).length<=2:=by
 unfold vg;split
 .rename_i h;have:=B.few h;have:=B.h4;rw[cY];exact B4 ‹_› ‹_›
 exact b8 _
theorem LB.TQ:(nH l ph b).length<=30:=by
 unfold nH;split
 .rw[aR];exact B.on
 exact b8 _
theorem LB.ng:Nk (nH l ph b):=by
 unfold nH;split
 .unfold Nk;rw[cV];exact B.hw.1.yk b
 exact g7
theorem LB.hlv:∀x∈(nH l ph b),x.2.2.length<=4/\∀k∈x.2.2,0<=k/\k<4:=λx hx=>by
 unfold nH at hx;split at hx
 .let ⟨y,_,zy⟩:=cg.mp hx;have:=B.vn y.1;exact⟨by rw[qt];exact this.1,λk hk=>this.2 k (xU.mp hk)⟩
 cases hx
theorem LB.nf:aaE (ao l (i:Int) size):=by
 rw[B.node];have h1:=B.tn;have h2:=B.kn;have h3:=B.hp2;have h4:=B.TQ;exact⟨by show(aI _).length<=_;rw[cY];exact lK ‹_› rfl,by show(aI _).length<=_;rw[cY];exact lK ‹_› rfl,B.ph2,aG h3 (by decide),aG h4 (by decide),B.ng,B.hlv⟩
theorem LB.pf:Bd (iJ (ao l (i:Int) size)):=by
 rw[B.node];unfold iJ;dsimp only;have h1:=B.tn;have h2:=B.kn;have h3:=B.hp2;have h4:=B.TQ;have h5:=B.ng;have h6:=B.hlv;have hi:=B.hi;have hs:=B.h4;have e1:aS [] (aI (aS [] (cB l)))=aI (aS [] (cB l)):=gZ (gr (gH g7));have e2:aS [] (aI (bL l))=aI (bL l):=gZ (gr B.hw.1.nk);rw[e1,e2];refine⟨iS _,by show(i:Int)<4;exact So ‹_› ‹_›,hs,B.ph2,gr (gH g7),by show(aI _).length<_;rw[cY];exact f6 ‹_› (by decide),by show(aI _).length<=_;rw[cY];exact lK ‹_› rfl,b8 _,?_,?_,?_,?_,?_⟩
 .show Nk (if ph=2 then _ else _);split
  .exact gH g7
  exact g7
 .show(if ph=2 then _ else _:List _).length<64;generalize(nH l ph b)=hl at*;split
  .have:=m9 [] (hl.map λx=>(x.1,(x.2.1,j3 x.2.2)));rw[aR] at this;simp only[Ew] at this;exact JF (z0 this ‹_› rfl)
  decide
 .show ∀x∈(if ph=2 then _ else _:List _),_;generalize(nH l ph b)=hl at*;intro x hx;split at hx
  .let ⟨y,hy,zy⟩:=cg.mp ((CD hx).resolve_left (by simp));exact aG (zV (kB _) λk hk=>rE.mp hk) (h6 y hy).1
  cases hx
 .intro h;show(if ph=2 then _ else _)=_;exact ay h
 show(if ph=1 then _ else _:List _).length<=3;generalize(vg l ph b)=hp at*;split
 .have:=m9 [] hp;simp only[Ew] at this;exact z0 this ‹_› rfl
 decide
end
def LB.tf{size i P:Nat}{l:aY}{ph:Nat}{b:bg}(B:LB size i P l ph b){p:cA}(h:p.tup=ao l (i:Int) size):acQ p:=by
 intros size i P l ph b p _ B h;rw[B.node] at h;have h1:=B.tn;have h2:=B.kn;have h3:=B.hp2;have h4:=B.TQ;have h5:=B.ng;have h6:=B.hlv;have ha:aI p.acc=aI (aS [] (cB l)):=cj Node.acc h;have hc:aI p.ak=aI (bL l):=cj Node.ak h;have qC:p.phase=ph:=cj Node.phase h;have VK:(if p.phase=1 then aI p.prom else[])=_:=cj Node.hp h;have Hy:(if p.phase=2 then se p.props else[])=_:=cj Node.hl h;dsimp only at VK Hy;refine⟨K9 (gr (gH g7)) (ha▸fL p.acc),K9 (gr B.hw.1.nk) (hc▸fL p.ak),λq=>?_,λq=>?_,?_,?_,?_⟩
 .rw[aq q] at VK;rw[<-VK,cY] at h3;replace VK:=VK.trans (aq (qC▸q));exact⟨K9 (gr B.pF) (VK▸fL p.prom),by exact f6 ‹_› (by decide)⟩
 .rw[aq q] at Hy;rw[<-Hy] at h4 h5 h6;unfold se at h4 h5 h6;rw[aR,cY] at h4;unfold Nk at h5;rw[cV] at h5;refine⟨K9 (l:=aI p.props) h5 (fL p.props),by exact f6 ‹_› (by decide),λx hx=>?_⟩;have:=(h6 _ (jQ (jB.mpr hx))).1;dsimp only at this;rw[qt] at this;exact f6 ‹_› (by decide)
 .rw[wV ha];exact f6 ‹_› (by decide)
 .rw[wV hc];exact f6 ‹_› (by decide)
 rw[qC];exact B.ph2
def Sa{l:aY}{nb:bg}{j:Int}{ks:List bf}(h:∀x∈cE l,x.1≠nb):az (l++[.fq nb,.is 1 nb]++[.cL nb j ks]) nb=[(j,ks)]:=by
 rw[uT,UO l aa,show az l nb=[] from Gi h];rfl
def Sb{l:aY}{b:bg}{j:Int}{ks:List bf}:az (l++[.cL b j ks]) b=az l b++[(j,ks)]:=uT l b j ks
def sl.top{P:Nat}{items:List bf}(h:∀it∈items,sl P it):(0<=dI ((dG items).map (·.1))/\dI ((dG items).map (·.1))<=(P:Int))/\(0<=dI ((iA items).map (·.1))/\dI ((iA items).map (·.1))<=(P:Int)):=by
 refine⟨TP (iS _) λk hk=>?_,TP (iS _) λk hk=>?_⟩
 .let ⟨it,hi,zy⟩:=Mi hk;exact h it hi
 let ⟨it,hi,zy⟩:=Gu hk;exact h it hi
def Br(l:aY)(ph:Nat)(b:bg):eZ->Prop
 |.msg (.promise x _ _ ks)=>ph=1->x=b->(((az l b).map (·.2)).flatten++ks).length<64/\kC (((az l b).map (·.2)).flatten++ks)
 |_=>True
section
variable {size i P:Nat}{l:aY}{ph:Nat}{b:bg}(B:LB size i P l ph b)
include B
theorem LB.acc:(ao l (i:Int) size).acc=aI (aS [] (cB l))/\(ao l (i:Int) size).me=i/\(ao l (i:Int) size).size=size/\(ao l (i:Int) size).phase=ph/\(ao l (i:Int) size).af=b/\(ao l (i:Int) size).hp=vg l ph b/\(ao l (i:Int) size).hl=nH l ph b:=by
 rw[B.node];exact⟨rfl,rfl,rfl,rfl,rfl,rfl,rfl⟩
theorem LB.TR:∀it∈((az l b).map (·.2)).flatten,sl P it:=λit hi=>by
 let ⟨ks,hk,hi⟩:=Eo.mp hi;let ⟨x,hx,zy⟩:=cg.mp hk;let ⟨R,g⟩:=B.lg;exact(g.cL _ (nF hx)).2 it hi
theorem LB.evf{e:eZ}(hc:e≠.d8)(hE:∃R,gO size R P (sl P) e)(hp:Br l ph b e):LL (iJ (ao l (i:Int) size)) e:=by
 intros size i P l ph b e _ B hc hE hp;let ⟨a1,a2,a3,a4,a5,a6,a7⟩:=B.acc;have hP:=B.hP;have hs:=B.h4;let ⟨R,z2⟩:=hE;revert z2;intro hE
 have ea:(iJ (ao l (i:Int) size)).acc=aI (aS [] (cB l)):=by
  show aS [] (ao l (i:Int) size).acc=_;rw[a1];exact gZ (gr (gH g7))
 cases e with
 |run=>
  have e1:(([((iJ (ao l (i:Int) size)).me,aI (iJ (ao l (i:Int) size)).acc)]:List (Int×List bf)).map (·.2)).flatten=aI (aS [] (cB l)):=by
   rw[ea,mC (nB (gH g7))];simp
  have ht:=(sl.top (P:=P) (items:=aI (aS [] (cB l))) λit hi=>B.eV it (jB.mp hi)).1;have hn:=B.tn;refine⟨?_,?_,?_⟩
  .show(BL _).length<=_;rw[e1,cY];exact lK ‹_› rfl
  .show 0<=dI ((dG (BL _)).map _);rw[e1];exact ht.1
  show dI ((dG (BL _)).map _)<=_;rw[e1];exact cN ht.2 (cN (gE.mpr ‹P<=30›) (by decide))
 |aO v=>trivial
 |again=>trivial
 |d8=>exact aK aa hc
 |msg m=>
  cases m with
  |promise x f t ks=>
   intro h1 h2 h3;have h1:x=b:=h1.trans a5;have h2:ph=1:=a4.symm.trans h2;let ⟨cG,_⟩:=hp h2 h1
   have epm:(iJ (ao l (i:Int) size)).prom=aI (az l b):=by
    show(if(ao l (i:Int) size).phase=1 then aS [] (ao l (i:Int) size).hp else[])=_;rw[a4,aq h2,a6,vg,aq h2];exact gZ (gr B.pF)
   have e1:((put (iJ (ao l (i:Int) size)).prom f ks).map (·.2)).flatten=((aI (az l b)).map (·.2)).flatten++ks:=by
    rw[i9 h3,epm,eB,vD];simp
   have xB:(((aI (az l b)).map (·.2)).flatten).Perm (((az l b).map (·.2)).flatten):=((fL (az l b)).map _).flatten
   have sQ:∀it∈((aI (az l b)).map (·.2)).flatten++ks,sl P it:=λit hi=>by
    rcases dY.mp hi with hi|hi
    .exact B.TR it (xB.mem_iff.mp hi)
    exact hE.2.2.2.2 it hi
   have ht:=(sl.top sQ).1;rw[bU] at cG;refine⟨?_,?_,?_⟩
   .show(BL _).length<=_;rw[e1,bU,xB.length_eq];exact aG (ee ‹_›) (by decide)
   .show 0<=dI ((dG (BL _)).map _);rw[e1];exact ht.1
   show dI ((dG (BL _)).map _)<=_;rw[e1];exact cN ht.2 (cN (gE.mpr ‹P<=30›) (by decide))
  |accepted x f t s=>exact⟨hE.2.1.1,by have:=hE.2.1.2;exact lt4 ‹_› ‹_›⟩
  |prepare=>trivial
  |refuse=>trivial
  |accept=>trivial
  |ak=>trivial
theorem LB.lf{e:eZ}(hE:∃R,gO size R P (sl P) e)(hp:Br l ph b e)(ho:(aH l (ao l (i:Int) size) e).2.length<=1000):Dg l (ao l (i:Int) size) e:=by
 intros size i P l ph b e _ B hE hp ho;let ⟨a1,a2,a3,a4,a5,a6,a7⟩:=B.acc;have hP:=B.hP;have hs:=B.h4;have hi:=B.hi;have hl:=B.len;let ⟨R,z2⟩:=hE;revert z2;intro hE;refine⟨by rw[a3];exact hs,by exact lK ‹_› rfl,by rw[a4];exact B.ph2,B.ly,λh=>?_,λh=>?_,?_,?_⟩
 .rw[a5,B.hw.1.own (λe=>aK (h.symm.trans (a4.trans e)) (by decide))];exact⟨by exact iS _,by exact So ‹_› ‹_›⟩
 .rw[a7];rw[a4] at h;exact ay h
 .rw[a7];exact aG B.TQ (by decide)
 cases e with
 |run=>
  refine⟨?_,aG ho (by decide)⟩;rw[a5,a2,a1];generalize Vu:((max (ao l (i:Int) size).promised.1 b.1+1,(i:Int)):bg)=nb;have hn1:b.1<nb.1:=by rw[<-Vu];exact vN (vM ..)
  have hn2:nb.2=i:=by rw[<-Vu]
  have e1:=Sa (l:=l) (nb:=nb) (j:=i) (ks:=aI (aS [] (cB l))) λx hx q=>by have:=B.hw.1.hb x hx;rw[q] at this;exact aK ‹_› (lz.mpr ‹_›)
  have e2:((az (l++[.fq nb,.is 1 nb]++[.cL nb i (aI (aS [] (cB l)))]) nb).map (·.2)).flatten=aI (aS [] (cB l)):=by rw[e1];simp
  have ht:=(sl.top (P:=P) (items:=aI (aS [] (cB l))) λit hi=>B.eV it (jB.mp hi)).2;have hn:=B.tn;refine⟨by rw[hn2];exact⟨by exact iS _,by exact So ‹_› ‹_›⟩,B.ly.app aa,by rw[bU];exact lA ‹_› rfl,?_,?_,?_⟩
  .rw[e2,cY];exact f6 ‹_› (by decide)
  .rw[e2];exact zT (gr (gH g7))
  rw[e2];exact⟨cN ht.2 (cN (gE.mpr ‹P<=30›) (by decide)),cN (by decide) ht.1⟩
 |aO v=>trivial
 |again=>trivial
 |d8=>trivial
 |msg m=>
  cases m with
  |promise x f t ks=>
   intro h1 h2 h3;have h1:x=b:=h1.trans a5;have h2:ph=1:=a4.symm.trans h2;let ⟨cG,hcm⟩:=hp h2 h1;rw[a5];have e2:((az (l++[.cL b f ks]) b).map (·.2)).flatten=((az l b).map (·.2)).flatten++ks:=by rw[Sb,eB,vD];simp
   have sQ:∀it∈((az l b).map (·.2)).flatten++ks,sl P it:=λit hi=>by
    rcases dY.mp hi with hi|hi
    .exact B.TR it hi
    exact hE.2.2.2.2 it hi
   have ht:=(sl.top sQ).2;refine⟨?_,B.ly,by exact lK ‹_› rfl,?_,?_,?_⟩
   .rw[B.hw.1.own (by lia)];exact⟨by exact iS _,by exact So ‹_› ‹_›⟩
   .rw[e2];exact cG
   .rw[e2];exact hcm
   rw[e2];exact⟨cN ht.2 (cN (gE.mpr ‹P<=30›) (by decide)),cN (by decide) ht.1⟩
  |accepted x f t s=>exact⟨⟨hE.2.1.1,by have:=hE.2.1.2;exact lt4 ‹_› ‹_›⟩,hE.2.2.2.1⟩
  |prepare=>trivial
  |refuse=>trivial
  |accept=>trivial
  |ak=>trivial
theorem LB.step{e:eZ}{P':Nat}(hPP:P<=P')(tP:P'<=30)(UQ:∀v,e=.aO v->P+1<=P')(hE:∃R,gO size R P (sl P) e)(hp:Br l ph b e)(cG:l.length<=29000):
 ∃AV b',LB size i P' (aH l (ao l (i:Int) size) e).1 AV b'/\(aH l (ao l (i:Int) size) e).1.length<=l.length+200/\(aH l (ao l (i:Int) size) e).2.length<=1000/\rJ (ao l (i:Int) size) e=(ao (aH l (ao l (i:Int) size) e).1 (i:Int) size,(aH l (ao l (i:Int) size) e).2):=by
 intros size i P l ph b e P' _ B hPP tP UQ hE hp cG;have hs:=B.h4;have hi:=B.hi;let ⟨R1,g⟩:=B.lg;let ⟨R2,z2⟩:=hE;revert z2;intro hE;let ⟨AV,b',Rn,Us⟩:=SQ (size:=size) B.hw e (by revert hp hE;exact e.rec (λz z=>trivial) (λz z z=>trivial) (λz z=>trivial) (λz z=>trivial) λm=>m.rec (λz z z z z=>trivial) (λz z z z hp z h1 h2=>(hp h1 h2).2) (λz z z z z z=>trivial) (λz z z z z z z=>trivial) (λz z z z z hE=>hE.2.2.2.1) λz z z z z z z=>trivial);have oj:nE size (i:Int):=⟨iS i,kG.mpr hi⟩;have hPi:(P:Int)<=(P':Int):=gE.mpr hPP;have g1:LG size (max R1 R2) P (sl P) l:=g.mono (EA _ _) (eS _) λz h=>h
 have hE1:gO size (max R1 R2+1) P' (sl P) e:=ZQ (cN (vM _ _) (BQ (eS _))) hPi (λz h=>h) hE;have nK:∀it,sl P it->1<=it.1/\it.1<=(P':Int):=λit h=>⟨h.1,cN h.2 hPi⟩
 have nN:=λled h1=>IU (led:=led) B.hw g1 h1 oj (iS P) hPi (eS _) nK e hE1 λv h=>gE.mpr (UQ v h)
 generalize aH l (ao l (i:Int) size) e=r at*;let ⟨_,o1,_⟩:=nN (λz=>True) (λz z=>trivial) λz z=>trivial
 let ⟨_,o2,_⟩:=nN (sl P') (λit h=>nK it h) λx hx=>(o1.lg.off x hx).2
 clear o1;let ⟨x,e1,hx,_⟩:=o2.pre;rw[iX] at hx;have aa2:r.1.length<=l.length+200:=by rw[e1,bU];exact ff (aG hx (aG (ff (jI 4 tP) 5) (bz aa))) _
 refine⟨AV,b',⟨Rn,⟨_,o2.lg⟩,aG aa2 (lA ‹_› rfl),tP,hs,hi⟩,aa2,?_,Us⟩;have h1:=o2.few;rw[iX] at h1;have h2:2*size*P'<=2*4*30:=JE (jI 2 hs) tP;exact aG h1 (lK (ig (jI 2 hs) h2) aa)
omit B in
theorem Hz{n:Node}{e:eZ}(h:e≠.d8):rJ n e=fM n e:=by
 cases e<;>first|rfl|exact aK aa h
theorem LB.sf{e:eZ}{P':Nat}(hPP:P<=P')(tP:P'<=30)(UQ:∀v,e=.aO v->P+1<=P')(hE:∃R,gO size R P (sl P) e)(hp:Br l ph b e)(cG:l.length<=29000):
 (e≠.d8->Bk (ao l (i:Int) size) e)/\Dg l (ao l (i:Int) size) e/\xF (aH l (ao l (i:Int) size) e).1/\(aH l (ao l (i:Int) size) e).2.length<=1000:=by
 let ⟨AV,b',B',_,h1,h2⟩:=B.step hPP tP UQ hE hp cG;refine⟨λhc=>⟨B.nf,B.pf,B.evf hc hE hp,B'.tf ?_⟩,B.lf hE hp h1,B'.nd,h1⟩;rw[Hz hc] at h2;exact cj Prod.fst h2
end
def LB.acW{size:Nat}{aX:List aY}{cU:List cR}{t P aa_ i:Nat}{l:aY}(G:GI size aX cU t P aa_)(h4:size<=4)(hP:P<=30)(ht:t<=40)(hi:aX[i]?=some l):∃ph b,LB size i P l ph b/\l.length<=29000:=by
 have N:=G.nd i l hi;let ⟨ph,b,hw⟩:=N.ok;have Ie:=N.ll;have eG:i<size:=by rw[<-G.len];exact(iR.mp hi).1
 have hq:l.length<=29000:=aG Ie (lK (ff (jI 500 ht) 2) aa);exact⟨ph,b,⟨hw,⟨t,N.lg.mono (eS _) (eS _) λit h=>G.led h⟩,lK hq aa,hP,h4,eG⟩,hq⟩
def LB.all{size i P:Nat}{l:aY}{ph:Nat}{b:bg}(B:LB size i P l ph b){e:eZ}(hP:P+1<=30)(hE:∃R,gO size R P (sl P) e)(hp:Br l ph b e)(cG:l.length<=29000):
 (e≠.d8->Bk (ao l (i:Int) size) e)/\(fM (ao l (i:Int) size) e).2.length<=1000/\Dg l (ao l (i:Int) size) e/\xF (aH l (ao l (i:Int) size) e).1/\(aH l (ao l (i:Int) size) e).2.length<=1000:=by
 intros size i P l ph b e _ B hP hE hp cG;let ⟨h1,h2,h3,h4⟩:=B.sf (P':=P+1) (jr P) hP (λz z=>bW _) hE hp cG;refine⟨h1,?_,h2,h3,h4⟩;let ⟨_,_,_,_,_,h5⟩:=B.step (P':=P+1) (jr P) hP (λz z=>bW _) hE hp cG
 by_cases hc:e=.d8
 .subst hc;exact b8 _
 rw[<-Hz hc,h5];exact h4
def GI.ab9{size:Nat}{aX:List aY}{cU:List cR}{t P aa_ i:Nat}{l:aY}(G:GI size aX cU t P aa_)(h4:size<=4)(hP:P<=24)(hd:4<=aa_->P<=20)(hi:aX[i]?=some l){ph:Nat}{b:bg}(hw:w7 (i:Int) l ph b){m:cR}(hm:m∈cU):
 (∃R,gO size R P (sl P) (.msg m))/\Br l ph b (.msg m):=by
 have Rr:=G.msg m hm;refine⟨⟨t,ZM (m:=m) (eS _) (eS _) (λit h=>G.led h) Rr⟩,?_⟩;cases m with
 |promise x f t' ks=>
  intro h1 h2;exact⟨G.fit hi h4 hP hd (by rw[xV hw.1,h1]) Rr.2.2.2.1 Rr.2.2.2.2,G.compat (vG.mpr ⟨λit h=>G.cL hi h,Rr.2.2.2.2⟩)⟩
 |_=>trivial
structure aa3(size:Nat)(bH:List Mv):Prop where
 ok:∀mv∈bH,ZZ size mv
 len:bH.length<=30
 p:∀k,((bH.take k).filter Mv.cQ).length<=24
 d:∀k m,bH[k]?=some (.deliver m)->4<=((bH.take k).filter Mv.j7).length->((bH.take k).filter Mv.cQ).length<=20
def Jk(f:Mv->Bool){bH:List Mv}{k:Nat}{mv:Mv}(h:bH[k]?=some mv):((bH.take (k+1)).filter f).length=((bH.take k).filter f).length+DA (f mv):=by
 rw[vC,h,oh,bU]
 congr 1
 cases hf:f mv<;>simp[DA,hf]
def acd(size:Nat):fP size (lS size).1=(pS size).1:=by
 unfold fP lS pS b9;rw[cV];apply zc;intro i;rw[sF,Et,dh]
 by_cases h:i<size
 .rw[aq h,BD h];rfl
 rw[ay h,qL (by simpa using h)];rfl
section
variable {size:Nat}{bH:List Mv}(h4:size<=4)(H:aa3 size bH)
include h4 H
theorem xK:∀k,k<=bH.length->GI size (lst size (lS size) (bH.take k)).1 (lst size (lS size) (bH.take k)).2 k ((bH.take k).filter Mv.cQ).length ((bH.take k).filter Mv.j7).length/\Bl (pS size) (bH.take k)=(fP size (lst size (lS size) (bH.take k)).1,(lst size (lS size) (bH.take k)).2)
 |0,_=>by
  refine⟨GI.start size,?_⟩;show pS size=(fP size (lS size).1,[]);rw[acd];rfl
 |k+1,hk=>by
  let ⟨G,e⟩:=xK k (by exact ee ‹_›);have Ih:bH[k]?=some bH[k]:=iF hk;have hP:=H.p k;have hM:=G.move h4 (by exact lA ‹_› rfl) bH[k] (H.ok _ (BC hk));rw[Jj _ _ Ih,Jf _ Ih,Jk _ Ih,Jk _ Ih,e];exact hM
theorem HA{k:Nat}{mv:Mv}(Ih:bH[k]?=some mv):To (Bl (pS size) (bH.take k)) mv/\Hw size (lst size (lS size) (bH.take k)) mv:=by
 intros size bH k mv _ h4 H Ih;have hk:=(iR.mp Ih).1;let ⟨G,e⟩:=xK h4 H k (by exact ee ‹_›);have hP:=H.p k;have cG:=H.len;have k7:=H.ok mv (jK Ih);rw[e];have zC:=H.d k;generalize hS:lst size (lS size) (bH.take k)=S at*
 have one:∀(i:Nat) (l:aY) (ev:eZ),S.1[i]?=some l->(∀ph b,w7 (i:Int) l ph b->(∃R,gO size R ((bH.take k).filter Mv.cQ).length (sl ((bH.take k).filter Mv.cQ).length) ev)/\Br l ph b ev)->(ev≠.d8->Bk (ao l (i:Int) size) ev)/\(fM (ao l (i:Int) size) ev).2.length<=1000/\Dg l (ao l (i:Int) size) ev/\xF (aH l (ao l (i:Int) size) ev).1/\(aH l (ao l (i:Int) size) ev).2.length<=1000:=λi l ev hi fO=>by
  let ⟨ph,b,B,hl⟩:=LB.acW G h4 (by exact lK ‹_› rfl) (aG (ee hk) (lK cG aa)) hi;let ⟨hE,hp⟩:=fO ph b B.hw;exact B.all (by exact lA ‹_› rfl) hE hp hl
 cases mv with
 |«at» i ev=>
  obtain⟨l,hi⟩:∃l,S.1[i]?=some l:=⟨_,iF (by rw[G.len];exact k7.1)⟩;have dg:∀m,ev≠.msg m:=λm h=>by have:=k7.2;rw[h] at this;exact this
  let ⟨a1,a2,a3,a4,a5⟩:=one i l ev hi λph b z=>⟨⟨0,by cases ev<;>first|trivial|exact aK aa (dg _)⟩,by cases ev<;>first|trivial|exact aK aa (dg _)⟩
  refine⟨⟨_,nP hi,a1,a2⟩,λx hx=>?_⟩;rw[eO.mp hx];exact⟨iS i,l,by rw[iX];exact hi,by rw[iX];exact a3,by rw[iX];exact a4,by rw[iX];exact a5⟩
 |deliver kk=>
  have key:∀m,S.2[ai kk S.2.length]?=some m->0<=m.to/\∃l,S.1[m.to.toNat]?=some l/\(Bk (ao l (m.to.toNat:Int) size) (.msg m))/\(fM (ao l (m.to.toNat:Int) size) (.msg m)).2.length<=1000/\Dg l (ao l (m.to.toNat:Int) size) (.msg m)/\xF (aH l (ao l (m.to.toNat:Int) size) (.msg m)).1/\(aH l (ao l (m.to.toNat:Int) size) (.msg m)).2.length<=1000:=λm hm=>by
   have kH:=jK hm;have Nx:=cR.Z0 (G.msg m kH);obtain⟨l,hi⟩:∃l,S.1[m.to.toNat]?=some l:=⟨_,iF (by rw[G.len];exact(BO Nx.1).mpr Nx.2)⟩;let ⟨a1,a2,a3,a4,a5⟩:=one m.to.toNat l (.msg m) hi λph b hw=>G.ab9 h4 (by assumption) (zC kk Ih) hi hw kH
   exact⟨Nx.1,l,hi,a1 (by simp),a2,a3,a4,a5⟩
  refine⟨λm hm=>?_,λx hx=>?_⟩
  .refine aM λnG=>?_;obtain⟨h0,l,hi,a1,a2,_⟩:_:=key m hm;refine nG ?_
   exact⟨h0,_,nP hi,a1,a2⟩
  let ⟨m,hm,zy⟩:=cg.mp hx;rw[XJ] at hm;refine aM λnG=>?_;obtain⟨h0,l,hi,_,_,a3,a4,a5⟩:_:=key m hm;refine nG ?_
  exact⟨h0,l,hi,a3,a4,a5⟩
 |drop kk=>exact⟨trivial,λx hx=>by cases hx⟩
 |double kk=>exact⟨trivial,λx hx=>by cases hx⟩
theorem Ov:∀k,k<=bH.length->xD (pS size) bH k=tC size (lS size) bH k
 |0,_=>by
  show[kJ ((pS size).1.map bK)]=[kJ (dR size (lS size).1)];rw[aaZ]
 |k+1,hk=>by
  let ⟨_,e⟩:=xK h4 H (k+1) hk;rw[G9,xJ];rw[Ov k (by exact ee ‹_›),e];rfl
theorem u0(k:Nat)(hk:k<=bH.length):(lst size (lS size) (bH.take k)).1.length=size/\(lst size (lS size) (bH.take k)).2.length<=50000/\(Bl (pS size) (bH.take k)).1.length<=1000/\(Bl (pS size) (bH.take k)).2.length<=100000:=by
 let ⟨G,e⟩:=xK h4 H k hk;have h1:=G.len;have h2:=G.wl;have h3:=H.len;rw[e];refine⟨h1,aG h2 (lK (jI 500 (aG hk h3)) aa),?_,aG h2 (lK (jI 500 (aG hk h3)) aa)⟩;show(fP _ _).length<=_;unfold fP;rw[JO];exact aG (fF ‹_›) (aG ‹_› (by decide))
end
noncomputable def Mj:List Str:=["deliver","propose","run","deliver","again","drop","deliver","crash","double","deliver","propose","deliver"]
structure WL(g:G0)(P:Params):Prop extends WW g P where
 aa4:g.mg "_law_kinds"=some (.ref 112)
def rS(c:Int):Str:=Mj.getD (ai c 12) ""
def dX(size lead:Nat)(x:Int×Int):List Mv:=
 let k:=x.1.fdiv 12+x.2
 match ai x.1 12 with
 |0=>[.deliver k,.deliver x.2]
 |1=>[.at lead (.aO (some (if k.fmod 2=0 then "a" else "b"))),.at (ai k size) (.aO (some "c"))]
 |2=>[.at (ai k size) .run]
 |3=>[.deliver k,.deliver x.2]
 |4=>[.at (ai k size) .again]
 |5=>[.drop k]
 |6=>[.deliver k,.deliver x.2]
 |7=>[.at (ai k size) .d8]
 |8=>[.double k]
 |9=>[.deliver k,.deliver x.2]
 |10=>[.at lead (.aO (some (if k.fmod 2=0 then "a" else "b"))),.at (ai k size) (.aO (some "c"))]
 |_=>[.deliver k,.deliver x.2]
def Ml(size lead:Nat)(c d:Int):List (Str×D):=[("propose",.lst [.tup [.str (rS c),.int lead,.str (if(c.fdiv 12+d).fmod 2=0 then "a" else "b")],.tup [.str (rS c),.int (ai (c.fdiv 12+d) size:Nat),.str "c"]]),("deliver",.lst [.tup [.str (rS c),.int (c.fdiv 12+d)],.tup [.str (rS c),.int d]]),("drop",.lst [.tup [.str (rS c),.int (c.fdiv 12+d)]]),("double",.lst [.tup [.str (rS c),.int (c.fdiv 12+d)]])]
def TS{j:Nat}(h:j<12):j=0\/j=1\/j=2\/j=3\/j=4\/j=5\/j=6\/j=7\/j=8\/j=9\/j=10\/j=11:=(show ∀j,j<12->j=0\/j=1\/j=2\/j=3\/j=4\/j=5\/j=6\/j=7\/j=8\/j=9\/j=10\/j=11 by decide) j h
def aa5(size lead:Nat)(c d:Int):((Ml size lead c d).lookup (rS c)).getD (.lst [.tup [.str (rS c),.int (ai (c.fdiv 12+d) size:Nat)]])=.lst ((dX size lead (c,d)).map g6):=by
 intros size lead c d;have hj:=cS c (n:=12) (by decide);unfold Ml rS dX;dsimp only;generalize ai c 12=j at hj;rcases TS hj with rfl|rfl|rfl|rfl|rfl|rfl|rfl|rfl|rfl|rfl|rfl|rfl<;>rfl
def fU(n:Node)(c d:Int):bg:=if(c.fdiv 6).fmod 3=1 then(n.promised.1,(ai d n.size:Nat)) else n.af
def gC(n:Node)(c d e:Int):cR:=
 match ai c 6 with
 |0=>.promise (fU n c d) (ai (n.me+d) n.size:Nat) n.me [(1+e.fmod 3,((e.fmod 2*99,1),some "f"))]
 |1=>.refuse (fU n c d) (ai (n.me+d) n.size:Nat) n.me ((fU n c d).1+e.fmod 2,(ai d n.size:Nat))
 |2=>.accepted (fU n c d) (ai (n.me+d) n.size:Nat) n.me (1+e.fmod 3)
 |3=>.accept (fU n c d) (ai (n.me+d) n.size:Nat) n.me (1+e.fmod 3) (some "f")
 |4=>.prepare (fU n c d) (ai (n.me+d) n.size:Nat) n.me
 |_=>.ak (fU n c d) (ai (n.me+d) n.size:Nat) n.me (1+e.fmod 3) (some "f")
def tD(e:Int):eZ:=if(e.fdiv 3).fmod 2=0 then .run else .aO (some "z")
def Sd(c:Int):Str:=(["promise","refuse","accepted","accept","prepare","chosen"]:List Str).getD (ai c 6) ""
def tlD(n:Node)(c d e:Int):List (Str×D):=[("promise",.tup [.lst [.tup [.int (1+e.fmod 3),.tup [.int (e.fmod 2*99),.int 1],.str "f"]]]),("refuse",.tup [.tup [.int ((fU n c d).1+e.fmod 2),.int (ai d n.size:Nat)]]),("accepted",.tup [.int (1+e.fmod 3)]),("prepare",.tup [])]
def lt6{j:Nat}(h:j<6):j=0\/j=1\/j=2\/j=3\/j=4\/j=5:=(show ∀j,j<6->j=0\/j=1\/j=2\/j=3\/j=4\/j=5 by decide) j h
def aes(n:Node)(c d e:Int):((tlD n c d e).lookup (Sd c)).getD (.tup [.int (1+e.fmod 3),.str "f"])=.tup (Bm (gC n c d e))/\lO (gC n c d e)=Sd c/\iU (gC n c d e)=fU n c d/\xG (gC n c d e)=(ai (n.me+d) n.size:Nat)/\(gC n c d e).to=n.me:=by
 intros n c d e;have hj:=cS c (n:=6) (by decide);unfold tlD Sd gC;generalize ai c 6=j at hj;rcases lt6 hj with rfl|rfl|rfl|rfl|rfl|rfl<;>exact⟨rfl,rfl,rfl,rfl,rfl⟩
def Mm(k:Int):k.fmod 2=0\/k.fmod 2=1:=by
 let ⟨n,e⟩:=Ez (JW k (show(0:Int)<2 by decide));have h1:=Pk k (show(0:Int)<2 by decide);rw[e] at h1⊢;exact((show ∀n,n<2->n=0\/n=1 by decide) n (kG.mp h1)).imp (cj vL) (cj vL)
def aa6(k:Int):k.fmod 3=0\/k.fmod 3=1\/k.fmod 3=2:=by
 let ⟨n,e⟩:=Ez (JW k (show(0:Int)<3 by decide));have h1:=Pk k (show(0:Int)<3 by decide);rw[e] at h1⊢;exact((show ∀n,n<3->n=0\/n=1\/n=2 by decide) n (kG.mp h1)).imp (cj vL) (Or.imp (cj vL) (cj vL))
section
variable {g:G0}{P:Params}(W:WL g P)
include W
def Se:Rep g.h₀ (λa=>g.h₀.get? a=none) (.ref 112) (.tup (Mj.map .str)):=by
 have e:=W.sP 112 _ (by rw[W.hK];rfl);exact .tup ⟨_,e⟩ (λh=>by exact ns h e) (bz aa) (.cons (.str _ _ (by decide+kernel)) (.cons (.str _ _ (by decide+kernel)) (.cons (.str _ _ (by decide+kernel)) (.cons (.str _ _ (by decide+kernel)) (.cons (.str _ _ (by decide+kernel)) (.cons (.str _ _ (by decide+kernel)) (.cons (.str _ _ (by decide+kernel)) (.cons (.str _ _ (by decide+kernel)) (.cons (.str _ _ (by decide+kernel)) (.cons (.str _ _ (by decide+kernel)) (.cons (.str _ _ (by decide+kernel)) (.cons (.str _ _ (by decide+kernel)) (.nil)))))))))))))
def ace{c d:Int}{size lead:Nat}(hs:0<size):yj g 1 161 [.d (.int c),.d (.int d),.d (.int size),.d (.int lead)] (λz=>True) (.lst ((dX size lead (c,d)).map g6)):=by
 intros g P c d size lead _ W hs;refine rA (n:=0) (Th W.toWW) aa λcx L hg hn z=>?_
 subst hg;rw[<-aa5];have hj:=cS c (n:=12) (by decide);unfold S0 bodyPick;apply wM (names:=["kind","k"]) (Q:=λc' vs=>c'=(cx.fn (xu P) 161 L λz=>False)/\vs=[.d (.str (rS c)),.d (.int (c.fdiv 12+d))])
 .apply zZ;refine br ?_ (br ?_ fj)
  .apply bE (ds:=Mj.map .str) (k:=c.fmod 12) (j:=ai c 12)
   .exact Ev.ad6 (c:=cx.fn (xu P) 161 L λz=>False) W.aa4 (Se W)
   .exact dU (aj aa) aN (jW (by decide))
   .rw[show c.fmod 12=((ai c 12:Nat):Int) from gV c (n:=12) (by decide)];exact aZ hj
   unfold rS;rw[dh];rcases TS hj with h|h|h|h|h|h|h|h|h|h|h|h<;>(rw[h];rfl)
   left
  exact dU (dU (aj aa) aN (Qh (by decide) (by decide))) (aj aa) pP
 .intro x hx;simp at hx;rcases hx with rfl|rfl<;>exact cD
 intro c' vs cu z2;let ⟨zy,z3⟩:=z2;subst z3;refine⟨rfl,?_⟩
 have nU:∀{c':C} {ρ:Nm} {p1 p2 p3:Pos},fR ρ "k" (.d (.int (c.fdiv 12+d)))->fR ρ "size" (.d (.int size))->Ev c' ρ (.BinOp (.Name "k" p1) .Mod (.Name "size" p2) p3) (.d (.int (ai (c.fdiv 12+d) size:Nat))):=λh1 h2=>by
  rw[<-gV _ hs];exact dU (aj h1) (aj h2) (jW (nz hs))
 apply Fi (x:="many") (cn:=.k (Ml size lead c d))
 .apply jP.as
  .apply jP.ad5
   .refine .cons (dZ (by decide+kernel)) ?_ (.cons (dZ (by decide+kernel)) ?_ (.cons (dZ (by decide+kernel)) ?_ (.cons (dZ (by decide+kernel)) ?_ .nil)))
    .apply cH;refine fH (aP (cI (aP (aj aa) (aP (aj aa) (aP ?_ bq aa) aa) aa) (bz aa)) (aP (cI (aP (aj aa) (aP (nU aa aa) (aP (dZ (by decide+kernel)) bq aa) aa) aa) (bz aa)) bq aa) aa) (bz aa);rcases Mm (c.fdiv 12+d) with h|h
     .rw[aq h];exact Ev.S9 (x:="ab") (i:=0) (k:=97) (dZ (by decide+kernel)) (by rw[<-h];exact dU (aj aa) aN (jW (by decide))) (by decide) (by decide+kernel) (by decide+kernel)
     rw[ay (by rw[h];decide)];exact Ev.S9 (x:="ab") (i:=1) (k:=98) (dZ (by decide+kernel)) (by rw[<-h];exact dU (aj aa) aN (jW (by decide))) (by decide) (by decide+kernel) (by decide+kernel)
    .exact cH (fH (aP (cI (aP (aj aa) (aP (aj aa) bq aa) aa) (bz aa)) (aP (cI (aP (aj aa) (aP (aj aa) bq aa) aa) (bz aa)) bq aa) aa) (bz aa))
    .exact cH (fH (aP (cI (aP (aj aa) (aP (aj aa) bq aa) aa) (bz aa)) bq aa) (bz aa))
    exact cH (fH (aP (cI (aP (aj aa) (aP (aj aa) bq aa) aa) (bz aa)) bq aa) (bz aa))
   .show(["propose","deliver","drop","double"]:List Str).Nodup;decide+kernel
   .unfold Ml;simp
   exact bz aa
  .exact cD
  left
 intro ma hma Vj;apply jX
 case hr=>rfl
 apply kM;apply Ev.afw
 .exact aj aa
 .exact aq aa
 .exact aj aa
 .exact cH (fH (aP (cI (aP (aj aa) (aP (nU aa aa) bq aa) aa) (bz aa)) bq aa) (bz aa))
 left;left
end
theorem LB.mono{size i P P':Nat}{l:aY}{ph:Nat}{b:bg}(B:LB size i P l ph b)(h:P<=P')(h':P'<=30):LB size i P' l ph b:=by
 let ⟨R,g⟩:=B.lg;exact⟨B.hw,⟨R,g.mono (eS _) (gE.mpr h) λit q=>⟨q.1,cN q.2 (gE.mpr h)⟩⟩,B.len,h',B.h4,B.hi⟩
structure ye(size i:Nat)(l:aY)(e:eZ):Prop where
 sf:Bk (ao l (i:Int) size) e
 lf:Dg l (ao l (i:Int) size) e
 nd:xF (aH l (ao l (i:Int) size) e).1
 o:(aH l (ao l (i:Int) size) e).2.length<=1000
 eq:fM (ao l (i:Int) size) e=(ao (aH l (ao l (i:Int) size) e).1 (i:Int) size,(aH l (ao l (i:Int) size) e).2)
def LB.ok{size i P:Nat}{l:aY}{ph:Nat}{b:bg}(B:LB size i P l ph b){e:eZ}(hc:e≠.d8)(hP:P+1<=30)(hE:∃R,gO size R P (sl P) e)(hp:Br l ph b e)(cG:l.length<=29000):ye size i l e/\∃AV b',LB size i (P+1) (aH l (ao l (i:Int) size) e).1 AV b'/\(aH l (ao l (i:Int) size) e).1.length<=l.length+200:=by
 let ⟨h1,_,h2,h3,h4⟩:=B.all hP hE hp cG;let ⟨AV,b',B',hg,_,h5⟩:=B.step (P':=P+1) (jr P) hP (λz z=>bW _) hE hp cG;exact⟨⟨h1 hc,h2,h3,h4,(Hz hc).symm.trans h5⟩,AV,b',B',hg⟩
def aa7(k:Int){n:Nat}(h:0<n):nE n (ai k n:Nat):=⟨iS _,kG.mpr (cS k h)⟩
def aa8{size i:Nat}{aX:List aY}{cU:List cR}{t P aa_:Nat}{l:aY}(G:GI size aX cU t P aa_)(h4:size<=4)(hP:P<=24)(ht:t<=30)(hi:aX[i]?=some l)(c d e:Int):
 ye size i l (.msg (gC (ao l (i:Int) size) c d e))/\ye size i (aH l (ao l (i:Int) size) (.msg (gC (ao l (i:Int) size) c d e))).1 (tD e):=by
 intros size i aX cU t P aa_ l c d e _ G h4 hP ht hi;let ⟨ph,b,B,hl⟩:=LB.acW G h4 (by exact lK ‹_› rfl) (by exact lK ‹_› rfl) hi;intros ph b _ B hl;have B3:=B.mono (P':=P+3) (iE ..) (by exact lA ‹_› rfl);have cG:=(G.nd i l hi).ll;have jt:0<size:=f6 (b8 _) B.hi;let ⟨a1,a2,a3,a4,a5,a6,a7⟩:=B.acc;have Nt:=(G.nd i l hi).lg;have hf:=aa7 ((i:Int)+d) jt;have hf':=aa7 d jt;have iK:nE size (i:Int):=⟨iS i,kG.mpr B.hi⟩;have sQ:1<=1+e.fmod 3/\1+e.fmod 3<=((P+3:Nat):Int):=by rcases aa6 e with h|h|h<;>rw[h]<;>exact⟨by decide,cN (by decide) (gE.2 (iQ 3 P))⟩
 have qf:∃R,qy R (fU (ao l (i:Int) size) c d):=by
  unfold fU;split
  .have hv:=Nt.fq _ (mL (vs:=fN l) B.hw.2);exact⟨_,by rw[B.node];exact hv⟩
  refine⟨t,?_⟩;rw[a5];exact(Nt.bb B.hw).1
 let ⟨R,uU⟩:=qf;intros R _ uU
 have hE:∃R,gO size R (P+3:Nat) (sl (P+3)) (.msg (gC (ao l (i:Int) size) c d e)):=by
  refine⟨R+1,?_⟩;have Jl:qy (R+1) (fU (ao l (i:Int) size) c d):=⟨uU.1,by have:=uU.2;exact cN ‹_› (BQ (eS _))⟩;unfold gC;rw[a2,a3];have hj:=cS c (n:=6) (by decide);generalize fU (ao l (i:Int) size) c d=ab at*;generalize ai c 6=j at*;rcases lt6 hj with rfl|rfl|rfl|rfl|rfl|rfl
  .refine⟨Jl,hf,iK,?_,λit gq=>?_⟩
   .unfold Nk;simp
   rw[eO.mp gq];exact sQ
  .refine⟨Jl,hf,iK,?_⟩;rcases Mm e with h|h<;>rw[h]<;>exact⟨Int.add_nonneg uU.1 (by decide),Int.add_le_add uU.2 (by decide)⟩
  .exact⟨Jl,hf,iK,sQ⟩
  .exact⟨Jl,hf,iK,sQ⟩
  .exact⟨Jl,hf,iK⟩
  exact⟨Jl,hf,iK,sQ⟩
 have Hy:∀it∈((az l b).map (·.2)).flatten,yl aX it:=λit h=>G.cL hi h
 have afK:∀it,yl aX it->1<=it.2.1.1/\it.2.1.1<=30:=λit q1=>by
  let ⟨j,lj,g1,g2,g3⟩:=q1;have N:=G.nd j lj g1;let ⟨AV,b',Rn⟩:=N.ok;have h2:it.2.1.1<=b'.1:=(Rn.1.ob _ g3).1;have h3:b'.1<=(t:Int):=(N.lg.bb Rn).1.2;exact⟨(N.lg.off _ g3).1,cN h2 (cN h3 (gE.2 ht))⟩
 have hPr:Br l ph b (.msg (gC (ao l (i:Int) size) c d e)):=by
  unfold gC;have hj:=cS c (n:=6) (by decide);generalize ai c 6=j at*;rcases lt6 hj with rfl|rfl|rfl|rfl|rfl|rfl
  .intro h1 h2;have ZX:=B.few h1;have nS:=G.flat hi b;refine⟨?_,?_⟩
   .rw[bU];have h1':(az l b).length<=2:=by exact B4 ‹_› ‹_›
    have h2':P*(az l b).length<=P*2:=jI _ h1';show _+1<64;exact f6 (gw (aG nS (aG h2' (OX 2 hP)))) (by decide)
   have qX:∀x,yl aX x->x.2.1≠((e.fmod 2*99,1):bg):=λx hx q=>by
    have h:=afK x hx;rw[q] at h;rcases Mm e with h'|h'<;>rw[h'] at h<;>simp at h
   intro x hx y hy e1 e2;rcases dY.mp hx with hx|hx
   .rcases dY.mp hy with hy|hy
    .exact G.compat Hy x hx y hy e1 e2
    rw[eO.mp hy] at e2;exact aK e2 (qX x (Hy x hx))
   rcases dY.mp hy with hy|hy
   .rw[eO.mp hx] at e2;exact aK e2.symm (qX y (Hy y hy))
   rw[eO.mp hx,eO.mp hy]
  all_goals trivial
 refine aM λnG=>?_;obtain⟨s1,AV,b',B',hg⟩:_:=B3.ok (by simp) (lA (j:=4) hP aa) hE hPr hl;refine nG ?_
 refine⟨s1,(B'.ok ?_ (lA (j:=5) hP aa) ⟨0,?_⟩ ?_ (aG hg (lK (kU (aG cG (ff (jI 500 ht) 2)) 200) (by decide)))).1⟩
 .unfold tD;split<;>simp
 .unfold tD;split<;>trivial
 unfold tD;split<;>trivial
def Ow{α:Type}{P:α->Prop}{a:α}(h:P a):∀x∈[a],P x:=λx hx=>eO.mp hx▸h
def aa9{α:Type}{P:α->Prop}{a b:α}(h:P a)(h':P b):∀x∈[a,b],P x:=λx hx=>(bZ.mp hx).elim (λe=>e▸h) (Ow h' x)
def HB(size lead:Nat)(hs:0<size)(hl:lead<size)(x:Int×Int):(∀mv∈dX size lead x,ZZ size mv)/\((∃m m',dX size lead x=[.deliver m,.deliver m'])\/((∀mv∈dX size lead x,Mv.j7 mv=false)/\((dX size lead x).filter Mv.cQ).length<=2/\(dX size lead x).length<=2)):=by
 intros size lead x _ hs hl;have hj:=cS x.1 (n:=12) (by decide);have hp:=cS (x.1.fdiv 12+x.2) hs;unfold dX;dsimp only;generalize ai x.1 12=j at*;generalize ai (x.1.fdiv 12+x.2) size=p at*;rcases TS hj with rfl|rfl|rfl|rfl|rfl|rfl|rfl|rfl|rfl|rfl|rfl|rfl<;>
  first
  |exact⟨aa9 trivial trivial,.inl ⟨_,_,rfl⟩⟩
  |exact⟨aa9 ⟨by assumption,trivial⟩ ⟨by assumption,trivial⟩,.inr ⟨aa9 aa aa,bW _,bW _⟩⟩
  |exact⟨Ow ⟨hp,trivial⟩,.inr ⟨Ow aa,b8 _,bz aa⟩⟩
  |exact⟨Ow trivial,.inr ⟨Ow aa,b8 _,bz aa⟩⟩
theorem u6{f:Int×Int->List Mv}(hf:∀x,(∃m m',f x=[.deliver m,.deliver m'])\/((∀mv∈f x,Mv.j7 mv=false)/\((f x).filter Mv.cQ).length<=2/\(f x).length<=2)):∀(xs:List (Int×Int)),∃d,(((xs.flatMap f).filter Mv.j7).length=2*d)/\d<=xs.length/\((xs.flatMap f).filter Mv.cQ).length<=2*(xs.length-d)/\(xs.flatMap f).length<=2*xs.length
 |[]=>⟨0,rfl,bW _,bW _,bW _⟩
 |x::xs=>by
  let ⟨d,h1,h2,h3,h4⟩:=u6 hf xs;rw[vH,oh,oh,bU,bU,bU,jL];rcases hf x with⟨m,m',e⟩|⟨e1,e2,e3⟩
  .rw[e];refine⟨d+1,?_,gw h2,?_,?_⟩
   .exact(cj (2+·) h1).trans (pJ 2 (2*d))
   .show 0+_<=_;rw[qJ,Wl];exact h3
   exact aG (fF (pJ 2 _)) (kU h4 2)
  refine⟨d,?_,vA h2,by rw[Nat.succ_sub h2,Ei,pJ];exact ig h3 e2,aG (ig e3 h4) (fF (pJ 2 _))⟩;rw[JM.mpr λmv h=>by rw[e1 mv h];decide];exact(qJ _).trans h1
theorem Di{f:Int×Int->List Mv}:∀(xs:List (Int×Int)) (k:Nat),∃m r,m<=xs.length/\(xs.flatMap f).take k=(xs.take m).flatMap f++r/\(r=[]\/∃x q,xs[m]?=some x/\f x=r++q/\q≠[])/\∀mv,(xs.flatMap f)[k]?=some mv->∃x q,xs[m]?=some x/\f x=r++mv::q
 |[],k=>⟨0,[],bW _,by simp,.inl aa,λmv h=>by simp at h⟩
 |x::xs,k=>by
  by_cases hk:k<(f x).length
  .refine⟨0,(f x).take k,b8 _,?_,.inr ⟨x,(f x).drop k,rfl,(Em k (f x)).symm,?_⟩,λmv h=>?_⟩
   .rw[vH,List.take_append_of_le_length (by exact ee ‹_›)];rfl
   .intro h;have:=cj ua h;rw[BK] at this;exact vz.2 hk (Wx this)
   rw[vH,List.getElem?_append_left hk] at h;refine⟨x,(f x).drop (k+1),rfl,?_⟩;have e:=(iR.mp h).2;rw[<-e,W6,Em]
  let ⟨m,r,h1,h2,h3,h4⟩:=Di (f:=f) xs (k-(f x).length);refine⟨m+1,r,by simp;assumption,?_,?_,λmv h=>?_⟩
  .rw[vH,Xc,pL (by exact jb.mp ‹_›),h2,List.take_succ_cons,vH,jJ]
  .exact h3
  rw[vH,Pg (by exact jb.mp ‹_›)] at h;exact h4 mv h
def VL{size lead:Nat}(hs:0<size)(hl:lead<size){xs:List (Int×Int)}(hx:xs.length<=12){a b:Int}:aa3 size ([.at lead .run,.deliver a,.deliver b]++xs.flatMap (dX size lead)):=by
 intros size lead xs a b _ hs hl hx;have hk:=λx=>(HB size lead hs hl x).2
 have pre:∀k,∃k',([Mv.at lead .run,.deliver a,.deliver b]++xs.flatMap (dX size lead)).take k=([Mv.at lead .run,.deliver a,.deliver b]:List Mv).take k++(xs.flatMap (dX size lead)).take k'/\(3<=k->k'=k-3)/\(k<3->k'=0):=λk=>⟨k-3,by rw[Xc];rfl,λv=>rfl,λh=>Ws (ee h)⟩
 have pp:∀k,((([Mv.at lead .run,.deliver a,.deliver b]:List Mv).take k).filter Mv.cQ).length=0:=λk=>by
  match k with
  |0=>rfl
  |1=>rfl
  |2=>rfl
  |k+3=>rw[pL (iQ 3 k)];rfl
 have pd:∀k,((([Mv.at lead .run,.deliver a,.deliver b]:List Mv).take k).filter Mv.j7).length<=2:=λk=>by
  match k with
  |0=>exact b8 _
  |1=>exact b8 _
  |2=>exact jr _
  |k+3=>rw[pL (iQ 3 k)];exact bW _
 refine⟨λmv h=>?_,?_,λk=>?_,λk m hm hd=>?_⟩
 .rcases dY.mp h with h|h
  .simp at h;rcases h with rfl|rfl|rfl
   .exact⟨hl,trivial⟩
   .trivial
   trivial
  let ⟨x,_,hx⟩:=je.mp h;exact(HB size lead hs hl x).1 mv hx
 .let ⟨d,_,_,_,h4⟩:=u6 hk xs;rw[bU];exact aG (ff (aG h4 (jI 2 hx)) 3) (bz aa)
 .let ⟨k',e,_⟩:=pre k;rw[e,oh,bU,pp];let ⟨d,_,h2,h3,_⟩:=u6 hk xs;have:(((xs.flatMap (dX size lead)).take k').filter Mv.cQ).length<=((xs.flatMap (dX size lead)).filter Mv.cQ).length:=((WC k' _).filter _).length_le;exact aG (fF (qJ _)) (aG this (aG h3 (aG (jI 2 (aG (vt _ _) hx)) (bz aa))))
 let ⟨k',e,e1,e2⟩:=pre k;rw[e,oh,bU] at hd⊢;rw[pp];have hd2:=pd k
 by_cases hk3:k<3
 .rw[e2 hk3] at hd⊢;simp
 rw[Pg (by show 3<=k;exact jb.mp ‹_›)] at hm;have hm:(xs.flatMap (dX size lead))[k-3]?=some (.deliver m):=hm;rw[e1 (by exact jb.mp ‹_›)] at hd⊢;let ⟨mm,r,h1,h2,h3,h4⟩:=Di (f:=dX size lead) xs (k-3);let ⟨x,q,hx',hq⟩:=h4 _ hm;rw[h2,oh,bU] at hd⊢;let ⟨d,g1,g2,g3,_⟩:=u6 hk (xs.take mm);have eG:mm<xs.length:=(iR.mp hx').1;rw[pO,n8 (by assumption)] at g2 g3;rcases hk x with⟨m1,m2,e'⟩|⟨e',_,_⟩
 .rw[e'] at hq
  have hr:(r.filter Mv.j7).length<=1/\(r.filter Mv.cQ).length=0:=by
   cases r with
   |nil=>exact⟨b8 _,rfl⟩
   |cons y r=>
    cases r with
    |nil=>cases hq;exact⟨bW _,rfl⟩
    |cons z w=>exact aK (cj ua hq) (by simp)
  rw[g1] at hd
  have Rm:1<=d:=by
   cases d with
   |zero=>exact aK (aG hd (ig hd2 (aG (fF (qJ _)) hr.1))) (by decide)
   |succ n=>exact Eg n
  rw[qJ,hr.2];exact aG g3 (aG (jI 2 (Wo (aG (mQ (jD eG hx)) (ff Rm 10)))) (bz aa))
 have:=e' (.deliver m) (by rw[hq];simp);cases this
section
variable {g:G0}{P:Params}(W:WL g P)
include W
def acf{n:Node}{c d e:Int}(hs:0<n.size):yj g 1 168 [.d (bK n),.d (.int c),.d (.int d),.d (.int e)] (λy=>True) (.lst [dc (.msg (gC n c d e)),dc (tD e)]):=by
 intros g P n c d e _ W hs;refine rA (n:=0) (L2 W.toWW) aa λcx L hg hn y=>?_
 subst hg;let ⟨t1,t2,t3,t4,t5⟩:=aes n c d e
 have em:dc (.msg (gC n c d e))=.tup [.str "message",.tup ([.str (Sd c),aD (fU n c d),.int (ai (n.me+d) n.size:Nat),.int n.me]++Bm (gC n c d e))]:=by
  show ou [.str "message",bG (gC n c d e)]=_;rw[Bo,t2,t3,t4,t5];rfl
 rw[em];have hj:=cS c (n:=6) (by decide);unfold S3 bodyPick;apply wM (names:=["me","size","ballot"]) (Q:=λc' vs=>c'=(cx.fn (A9 P) 168 L λy=>False)/\vs=[.d (.int n.me),.d (.int n.size),.d (aD n.af)])
 .apply zZ;refine br ?_ (br ?_ (br ?_ fj))
  .exact bE (ds:=[.int n.me,.int n.size,aD n.promised,.lst (n.acc.map bM),.lst (n.ak.map gJ),.str (j9 n.phase),aD n.af,.lst (fZ n)]) (j:=0) (aj aa) aN aa aa
  .exact bE (ds:=[.int n.me,.int n.size,aD n.promised,.lst (n.acc.map bM),.lst (n.ak.map gJ),.str (j9 n.phase),aD n.af,.lst (fZ n)]) (j:=1) (aj aa) aN aa aa
  exact bE (ds:=[.int n.me,.int n.size,aD n.promised,.lst (n.acc.map bM),.lst (n.ak.map gJ),.str (j9 n.phase),aD n.af,.lst (fZ n)]) (j:=6) (aj aa) aN aa aa
 .intro x hx;simp at hx;rcases hx with rfl|rfl|rfl<;>exact cD
 intro c' vs cu z2;let ⟨zy,z3⟩:=z2;subst z3;refine⟨rfl,?_⟩
 have KA:∀{c':C} {ρ:Nm} {p1 p2 p3:Pos},fR ρ "d" (.d (.int d))->fR ρ "size" (.d (.int n.size))->Ev c' ρ (.BinOp (.Name "d" p1) .Mod (.Name "size" p2) p3) (.d (.int (ai d n.size:Nat))):=λh1 h2=>by
  rw[<-gV _ hs];exact dU (aj h1) (aj h2) (jW (nz hs))
 apply gS (x:="kind") (v:=.d (.str (Sd c)))
 .apply bE (ds:=[.str "promise",.str "refuse",.str "accepted",.str "accept",.str "prepare",.str "chosen"]) (k:=c.fmod 6) (j:=ai c 6)
  .left
  .exact dU (aj aa) aN (jW (by decide))
  .rw[show c.fmod 6=((ai c 6:Nat):Int) from gV c (n:=6) (by decide)];exact aZ hj
  unfold Sd;rcases lt6 hj with h|h|h|h|h|h<;>(rw[h];rfl)
  left
 .exact cD
 apply gS (x:="about") (v:=.d (aD (fU n c d)))
 .have h2:∀{c':C} {ρ:Nm} {p1 p2 p3 p4 p5:Pos} {q1 q2:Nat},fR ρ "c" (.d (.int c))->Ev c' ρ (.BinOp (.BinOp (.Name "c" p1) .FloorDiv (.Constant (.int 6) q1 p2) p3) .Mod (.Constant (.int 3) q2 p4) p5) (.d (.int ((c.fdiv 6).fmod 3))):=λh=>dU (dU (aj h) aN (Qh (by decide) (by decide))) aN (jW (by decide))
  rcases aa6 (c.fdiv 6) with h|h|h
  .unfold fU;rw[ay (by rw[h];decide)];refine bE (ds:=[aD n.af,aD (n.promised.1,(ai d n.size:Nat)),aD n.af]) (k:=0) (j:=0) ?_ (by rw[<-h];exact h2 aa) aa aa;exact cI (aP (aj aa) (aP (cI (ds:=[.int n.promised.1,.int (ai d n.size:Nat)]) (aP (bE (ds:=[.int n.promised.1,.int n.promised.2]) (j:=0) (bE (ds:=[.int n.me,.int n.size,aD n.promised,.lst (n.acc.map bM),.lst (n.ak.map gJ),.str (j9 n.phase),aD n.af,.lst (fZ n)]) (j:=2) (x:=aD n.promised) (aj aa) aN aa aa) aN aa aa) (aP (KA aa aa) bq aa) aa) (bz aa)) (aP (aj aa) bq aa) aa) aa) (bz aa)
  .unfold fU;rw[aq h];refine bE (ds:=[aD n.af,aD (n.promised.1,(ai d n.size:Nat)),aD n.af]) (k:=1) (j:=1) ?_ (by rw[<-h];exact h2 aa) aa aa;exact cI (aP (aj aa) (aP (cI (ds:=[.int n.promised.1,.int (ai d n.size:Nat)]) (aP (bE (ds:=[.int n.promised.1,.int n.promised.2]) (j:=0) (bE (ds:=[.int n.me,.int n.size,aD n.promised,.lst (n.acc.map bM),.lst (n.ak.map gJ),.str (j9 n.phase),aD n.af,.lst (fZ n)]) (j:=2) (x:=aD n.promised) (aj aa) aN aa aa) aN aa aa) (aP (KA aa aa) bq aa) aa) (bz aa)) (aP (aj aa) bq aa) aa) aa) (bz aa)
  unfold fU;rw[ay (by rw[h];decide)];refine bE (ds:=[aD n.af,aD (n.promised.1,(ai d n.size:Nat)),aD n.af]) (k:=2) (j:=2) ?_ (by rw[<-h];exact h2 aa) aa aa;exact cI (aP (aj aa) (aP (cI (ds:=[.int n.promised.1,.int (ai d n.size:Nat)]) (aP (bE (ds:=[.int n.promised.1,.int n.promised.2]) (j:=0) (bE (ds:=[.int n.me,.int n.size,aD n.promised,.lst (n.acc.map bM),.lst (n.ak.map gJ),.str (j9 n.phase),aD n.af,.lst (fZ n)]) (j:=2) (x:=aD n.promised) (aj aa) aN aa aa) aN aa aa) (aP (KA aa aa) bq aa) aa) (bz aa)) (aP (aj aa) bq aa) aa) aa) (bz aa)
 .exact cD
 generalize hab:fU n c d=ab at*;apply gS (x:="slot") (v:=.d (.int (1+e.fmod 3)))
 .exact dU aN (dU (aj aa) aN (jW (by decide))) pP
 .exact cD
 apply gS (x:="rest") (v:=.d (.tup (Bm (gC n c d e))))
 .rw[<-t1];unfold tlD;rw[hab];apply Rz
  .refine .cons (dZ (by decide+kernel)) ?_ (.cons (dZ (by decide+kernel)) ?_ (.cons (dZ (by decide+kernel)) ?_ (.cons (dZ (by decide+kernel)) ?_ .nil)))
   .refine cI (aP (cH (fH (aP (cI (aP (aj aa) (aP (cI (aP ?_ (aP aN bq aa) aa) (bz aa)) (aP (dZ (by decide+kernel)) bq aa) aa) aa) (bz aa)) bq aa) (bz aa))) bq aa) (bz aa);exact dU (dU (aj aa) aN (jW (by decide))) aN (Bin.mul (IntMulOk.of_right (by decide+kernel)))
   .refine cI (aP (cI (aP ?_ (aP (KA aa aa) bq aa) aa) (bz aa)) bq aa) (bz aa);exact dU (bE (ds:=[.int ab.1,.int ab.2]) (j:=0) (aj aa) aN aa aa) (dU (aj aa) aN (jW (by decide))) pP
   .exact cI (aP (aj aa) bq aa) (bz aa)
   exact cI bq (bz aa)
  .show(["promise","refuse","accepted","prepare"]:List Str).Nodup;decide+kernel
  .simp
  .exact bz aa
  .exact aj aa
  .exact cI (aP (aj aa) (aP (dZ (by decide+kernel)) bq aa) aa) (bz aa)
  left
 .exact cD
 apply jX
 case hr=>rfl
 apply kM;apply cH;refine fH (aP (cI (aP (dZ (by decide+kernel)) (aP (dU (v₁:=.d (.tup [.str (Sd c),aD ab,.int (ai (n.me+d) n.size:Nat),.int n.me])) (v₂:=.d (.tup (Bm (gC n c d e)))) ?_ (aj aa) (uw ?_)) bq aa) aa) (bz aa)) (aP ?_ bq aa) aa) (bz aa)
 .refine cI (aP (aj aa) (aP (aj aa) (aP ?_ (aP (aj aa) bq aa) aa) aa) aa) (bz aa);rw[<-gV _ hs];exact dU (dU (aj aa) (aj aa) pP) (aj aa) (jW (nz hs))
 .have:(Bm (gC n c d e)).length<=2:=by cases gC n c d e<;>exact bz aa
  rw[bU];show 4+_<=1000000;exact aG (ff ‹_› _) (by decide)
 have h2:∀{c':C} {ρ:Nm} {p1 p2 p3 p4 p5:Pos} {q1 q2:Nat},fR ρ "e" (.d (.int e))->Ev c' ρ (.BinOp (.BinOp (.Name "e" p1) .FloorDiv (.Constant (.int 3) q1 p2) p3) .Mod (.Constant (.int 2) q2 p4) p5) (.d (.int ((e.fdiv 3).fmod 2))):=λh=>dU (dU (aj h) aN (Qh (by decide) (by decide))) aN (jW (by decide))
 unfold tD;rcases Mm (e.fdiv 3) with h|h
 .rw[aq h];refine bE (ds:=[dc .run,dc (.aO (some "z"))]) (k:=0) (j:=0) ?_ (by rw[<-h];exact h2 aa) aa aa;left
 rw[ay (by rw[h];decide)];refine bE (ds:=[dc .run,dc (.aO (some "z"))]) (k:=1) (j:=1) ?_ (by rw[<-h];exact h2 aa) aa aa;left;left;left;left;left;left
end
def aba{c c':C}(h:c'={c with M:=c'.M,σ:=c'.σ,wr:=c'.wr,B:=c'.B}):∃M σ wr B,c'={c with M:=M,σ:=σ,wr:=wr,B:=B}:=⟨_,_,_,_,h⟩
def Jm(ds:List D){a b:Nat}(h:b<=ds.length)(hab:a<=b):iy ds (some (a:Int)) (some (b:Int))=(ds.drop a).take (b-a):=by
 unfold iy;simp only[BV,oz];rw[n8 h,n8 (show a<=ds.length by exact aG ‹_› ‹_›)]
def jz(s:Int):Nat:=([3,2,4,3,1]:List Nat).getD (ai s 5) 1
def lt5{j:Nat}(h:j<5):j=0\/j=1\/j=2\/j=3\/j=4:=(show ∀j,j<5->j=0\/j=1\/j=2\/j=3\/j=4 by decide) j h
def Ox(s:Int):0<jz s/\jz s<=4:=by
 unfold jz;have hj:=cS s (n:=5) (by decide);rcases lt5 hj with h|h|h|h|h<;>rw[h]<;>decide
def abb(b:bg):(aD b).dep=1:=rfl
def Sf(m:cR):(bG m).dep<=4:=by
 cases m<;>simp only[bG,D.dep,D.dK,abb,Ab]<;>try decide
 rename_i ks;have:=yd ks;exact gw (mz (HD (by decide) (mz (mz (zm (lA this aa))))))
def Sh(n:Node):(bK n).dep<=6:=by
 intros n;unfold bK fZ;have h1:=yd n.acc
 have h2:D.dK (n.ak.map gJ)<=1:=iM λd hd=>by
  let ⟨x,_,zy⟩:=cg.mp hd;simp[gJ,D.dep,D.dK,Ab]
 have h3:D.dK (if n.phase=1 then n.hp.map kc else if n.phase=2 then n.hl.map kg else[])<=4:=iM λd hd=>by
  split at hd
  .let ⟨x,_,zy⟩:=cg.mp hd;have:=yd x.2;simp only[kc,D.dep,D.dK];exact gw (mz (zm (lA this aa)))
  split at hd
  .let ⟨x,_,zy⟩:=cg.mp hd
   have:D.dK (bA x.2.2)<=0:=iM λd hd=>by
    let ⟨y,_,zy⟩:=cg.mp hd;exact bW _
   simp only[kg,D.dep,D.dK,Ab];exact gw (mz (mz (zm (lA this aa))))
  cases hd
 simp only[D.dep,D.dK,abb];exact gw (mz (mz (HD (by decide) (HD (lA h1 aa) (HD (lA h2 aa) (mz (HD (by decide) (zm (lA h3 aa)))))))))
def TU(ns:List Node):(kJ (ns.map bK)).dep<=7:=by
 have:D.dK (ns.map bK)<=6:=iM λd hd=>by
  let ⟨x,_,zy⟩:=cg.mp hd;exact Sh x
 simp only[D.dep];exact lA ‹_› rfl
def TV(ms:List cR):(kJ (ms.map bG)).dep<=5:=by
 have:D.dK (ms.map bG)<=4:=iM λd hd=>by
  let ⟨x,_,zy⟩:=cg.mp hd;exact Sf x
 simp only[D.dep];exact lA ‹_› rfl
def VM(size:Nat)(S:LS)(bH:List Mv)(k:Nat):D.dK (tC size S bH k)<=7:=by
 induction k with
 |zero=>exact iM λd hd=>by rw[eO.mp hd];exact TU _
 |succ k ih=>
  rw[xJ];refine iM λd hd=>?_
  rcases dY.mp hd with h|h
  .exact aG (Ky h) ih
  rw[eO.mp h];exact TU _
def acg(mv:Mv):(g6 mv).dep<=6:=by
 rw[Je]
 have:D.dK (mvR mv)<=5:=by
  cases mv with
  |«at» i e=>
   cases e with
   |aO v=>exact iM λd hd=>by rw[eO.mp hd,Ab];exact b8 _
   |msg m=>exact iM λd hd=>by rw[eO.mp hd];exact aG (Sf m) (by decide)
   |_=>exact b8 _
  |_=>exact b8 _
 simp only[D.dep,D.dK];exact f6 ‹_› (by decide)
def abc(bH:List Mv):(kJ (bH.map g6)).dep<=7:=by
 have:D.dK (bH.map g6)<=6:=iM λd hd=>by
  let ⟨x,_,zy⟩:=cg.mp hd;exact acg x
 simp only[D.dep];exact lA ‹_› rfl
section
variable {c:C}{ρ:Nm}{e₁ e₂:aU}{pos:Pos}{x:D}
def iH.ach(bF:Ev c ρ e₁ (.d x))(bN:Ev c ρ e₂ (.d x))(hd:x.dep<=400)(hm:behindInMarks .NotEq e₂=false:=by with_unfolding_all rfl):iH c ρ (.Compare e₁ [.NotEq] [e₂] pos) false:=by
 have:=bR (pos:=pos) bF bN (ur (c:=c) (x:=x) (y:=x) (aG (lW _ _) hd)) hm;rw[D.beq_refl] at this;exact this
end
def Jo(size lead:Nat)(x:Int×Int):(dX size lead x).length<=2:=by
 intros size lead x;have hj:=cS x.1 (n:=12) (by decide);unfold dX;dsimp only;generalize ai x.1 12=j at*;rcases TS hj with rfl|rfl|rfl|rfl|rfl|rfl|rfl|rfl|rfl|rfl|rfl|rfl<;>exact bz aa
noncomputable def Oz(lead:Nat):List Mv:=[.at lead .run,.deliver 0,.deliver (-1)]
def DY(bD:List Int):List Mv:=Oz (ai (bD.getD 1 0) (jz (bD.getD 0 0)))++(((bD.drop 2).take 12).zip ((bD.drop 3).take 12)).flatMap (dX (jz (bD.getD 0 0)) (ai (bD.getD 1 0) (jz (bD.getD 0 0))))
open Mine.iH renaming ach->HC
def abd(bD:List Int)(size lead:Nat)(bH:List Mv):Nm:=[("script",.d (.lst (bA bD))),("size",.d (.int size)),("lead",.d (.int lead)),("acts",.d (.lst (bH.map g6)))]
theorem Ev.bD{c:C}{ρ:Nm}{p1 p2 p3:Pos}{q:Nat}{bD:List Int}(i:Nat)(h:i<bD.length)(hn:fR ρ "script" (.d (.lst (bA bD)))):Ev c ρ (.Subscript (.Name "script" p1) (.Constant (.int (i:Nat)) q p2) p3) (.d (.int (bD.getD i 0))):=by
 refine pQ (ds:=bA bD) (j:=i) (aj hn) aa aN (aZ (by unfold bA;rw[aR];exact h)) ?_;unfold bA;rw[dh,iF h,List.getD_eq_getElem?_getD,iF h];rfl
def VN{α Str:Type}{as:List α}{bs:List Str}{i:Nat}{a:α}{b:Str}(ha:as[i]?=some a)(hb:bs[i]?=some b):(as.zip bs)[i]?=some (a,b):=by
 rw[List.getElem?_zip_eq_some];exact⟨ha,hb⟩
section
variable {g:G0}{P:Params}(W:WL g P)
include W
def VO{cx:C}{L:Addr}(hg:cx.toG0=g)(hn:17<=cx.n){bD:List Int}(cG:19<=bD.length)(hz:bD.length<=63){Pp:C->Nm->Prop}{R:C->D->Prop}
 (r:∀c' ρ,c'={cx.fn (iV P) 173 L (λz=>False) with M:=c'.M,σ:=c'.σ,wr:=c'.wr}->Sub (abd bD (jz (bD.getD 0 0)) (ai (bD.getD 1 0) (jz (bD.getD 0 0))) (DY bD)) ρ->Ex c' ρ [(s7 P).drop 5] Pp R):
 Ex (cx.fn (iV P) 173 L λz=>False) [("script",.d (.lst (bA bD)))] [(s7 P).drop 1] Pp R:=by
 intros g P cx L bD Pp R _ W hg hn cG hz r;subst hg;have jt:=Ox (bD.getD 0 0);unfold DY at r;generalize hS:jz (bD.getD 0 0)=size at*;generalize hL:ai (bD.getD 1 0) size=lead at*;unfold s7 bodyPick at r⊢;apply gS (x:="size") (v:=.d (.int (size:Nat)))
 .have hj:=cS (bD.getD 0 0) (n:=5) (by decide);apply bE (ds:=[.int 3,.int 2,.int 4,.int 3,.int 1]) (k:=(bD.getD 0 0).fmod 5) (j:=ai (bD.getD 0 0) 5)
  .left
  .exact dU (Ev.bD 0 (by exact aG (iQ 1 _) ‹_›) aa) aN (jW (by decide))
  .rw[show(bD.getD 0 0).fmod 5=((ai (bD.getD 0 0) 5:Nat):Int) from gV _ (n:=5) (by decide)];exact aZ hj
  rw[<-hS];unfold jz;rcases lt5 hj with h|h|h|h|h<;>(rw[h];rfl)
  left
 .exact cD
 apply gS (x:="lead") (v:=.d (.int (lead:Nat)))
 .rw[<-hL,<-gV _ jt.1];exact dU (Ev.bD 1 (by exact aG (iQ _ _) ‹_›) aa) (aj aa) (jW (nz jt.1))
 .exact cD
 apply gS (x:="acts") (v:=.d (.lst ((Oz lead).map g6)))
 .refine cH (fH (aP ?_ (aP ?_ (aP ?_ bq aa) aa) aa) (bz aa))
  .exact cI (aP (dZ (by decide+kernel)) (aP (aj aa) bq aa) aa) (bz aa)
  .exact cI (aP (dZ (by decide+kernel)) (aP aN bq aa) aa) (bz aa)
  exact cI (aP (dZ (by decide+kernel)) (aP (Kq aN) bq aa) aa) (bz aa)
 .exact cD
 have l1:(bA bD).length=bD.length:=by unfold bA;rw[aR]
 have l2:((bD.drop 2).take 12).length=12:=by rw[pO,BK];exact YC (aG (bz aa) ‹19<=_›)
 have l3:((bD.drop 3).take 12).length=12:=by rw[pO,BK];exact YC (aG (bz aa) ‹19<=_›)
 have i1:∀xs:List Int,(bA xs).length=xs.length:=λxs=>by unfold bA;rw[aR]
 apply Ex.abS (ds:=bA ((bD.drop 2).take 12)) (es:=bA ((bD.drop 3).take 12)) (Inv:=λi c' ρ'=>Sub (abd bD size lead (Oz lead++((((bD.drop 2).take 12).zip ((bD.drop 3).take 12)).take i).flatMap (dX size lead))) ρ')
 .have e:bA ((bD.drop 2).take 12)=iy (bA bD) (some ((2:Nat):Int)) (some ((14:Nat):Int)):=by
   rw[Jm _ (aG (aG (by decide) ‹19<=bD.length›) (fF l1.symm)) (by decide)];unfold bA;rw[Eu,JR]
  rw[e];exact cH (zE (aj aa) aa (.int aN) (.int aN))
 .have e:bA ((bD.drop 3).take 12)=iy (bA bD) (some ((3:Nat):Int)) (some ((15:Nat):Int)):=by
   rw[Jm _ (aG (aG (by decide) ‹19<=bD.length›) (fF l1.symm)) (by decide)];unfold bA;rw[Eu,JR]
  rw[e];exact cH (zE (aj aa) aa (.int aN) (.int aN))
 .rw[i1,i1,l2,l3]
 .intro c' _;exact .cons aa (.cons aa (.cons aa (.cons aa .nil)))
 .intro i d e c' ρ' cu hd he hI;intros i d e c' ρ' _ cu hd he hI;let ⟨M,σ,wr,B,zy⟩:=aba cu;intros M σ wr B _ cu;unfold bA at hd he;rw[dh] at hd he;cases ha:((bD.drop 2).take 12)[i]? with
  |none=>rw[ha] at hd;cases hd
  |some x=>
   cases hb:((bD.drop 3).take 12)[i]? with
   |none=>rw[hb] at he;cases he
   |some y=>
    rw[ha] at hd;rw[hb] at he;cases hd;cases he;have hi:i<12:=l2▸(iR.mp ha).1;have nS:((((bD.drop 2).take 12).zip ((bD.drop 3).take 12)).take (i+1)).flatMap (dX size lead)=((((bD.drop 2).take 12).zip ((bD.drop 3).take 12)).take i).flatMap (dX size lead)++dX size lead (x,y):=yP _ (VN ha hb);refine⟨_,q9 (.cons cD (.cons cD .nil)),?_⟩;refine kN (ρ':=("d",.d (.int y))::("c",.d (.int x))::abd bD size lead (Oz lead++((((bD.drop 2).take 12).zip ((bD.drop 3).take 12)).take i).flatMap (dX size lead))) ?_ hI.both.both;rw[nS];have Ca:=nJ (dX size lead) 2 ((((bD.drop 2).take 12).zip ((bD.drop 3).take 12)).take i) λx z=>Jo size lead x
    rw[pO] at Ca;have Fc:=Jo size lead (x,y);generalize((((bD.drop 2).take 12).zip ((bD.drop 3).take 12)).take i).flatMap (dX size lead)=fl at*;apply gS (x:="acts") (v:=.d (.lst ((Oz lead++(fl++dX size lead (x,y))).map g6)))
    .rw[<-jJ,eB];apply cH;refine Cb (v₂:=.d (.lst ((dX size lead (x,y)).map g6))) (aj aa) ?_ aa aa ?_
     .apply mw
      .exact ace W (c:=x) (d:=y) (size:=size) (lead:=lead) jt.1
      .exact W.abU
      .exact(Th W.toWW).keep
      .exact br (aj aa) (br (aj aa) (br (aj aa) (br (aj aa) fj)))
      .exact g8 hn aa
      .trivial
      left
     rw[bU,aR,aR,bU];exact aG (ig (ff (aG Ca (jI 2 (aG (lW ..) (ee hi)))) 3) Fc) (bz aa)
    .exact cD
    apply aT;apply dM;exact .cons aa (.cons aa (.cons aa (.cons aa .nil)));left
 intro c' ρ' cu z2;let ⟨M',B',hI⟩:=z2;refine r c' ρ' cu ?_;have e:(bA ((bD.drop 2).take 12)).length=12:=by rw[i1,l2]
 rw[e,pL (by rw[Xd,l2,l3];exact bW _)] at hI;exact hI;left;left;left;left
end
open Mine.Ev renaming bD->Ad
def Si(size:Nat)(S:LS)(bH:List Mv)(k:Nat):(tC size S bH k)[k]?=some (.lst (dR size (lst size S (bH.take k)).1)):=by
 cases k with
 |zero=>rfl
 |succ k=>
  rw[xJ];rw[Pg (by rw[uZ];exact bW _),uZ,Nat.sub_self];rfl
structure Tl where
 size:Nat
 i:Nat
 l:aY
 e0:eZ
 e1:eZ
instance:Nonempty Tl:=⟨⟨0,0,[],.run,.run⟩⟩
def Tl.lk(t:Tl):Nat->aY
 |0=>t.l
 |1=>(aH t.l (ao t.l (t.i:Int) t.size) t.e0).1
 |_=>(aH (aH t.l (ao t.l (t.i:Int) t.size) t.e0).1 (ao (aH t.l (ao t.l (t.i:Int) t.size) t.e0).1 (t.i:Int) t.size) t.e1).1
noncomputable def Tl.ev(t:Tl):Nat->eZ
 |0=>t.e0
 |_=>t.e1
def Tl.step(t:Tl){k:Nat}(h:k<2):t.lk (k+1)=(aH (t.lk k) (ao (t.lk k) (t.i:Int) t.size) (t.ev k)).1:=by
 match k,h with
 |0,_=>rfl
 |1,_=>rfl
def abe(e:eZ):(dc e).dep<=5:=by
 cases e with
 |aO v=>simp[dc,D.dep,D.dK,Ab]
 |msg m=>have:=Sf m;simp only[dc,D.dep,D.dK];exact gw (mz (zm this))
 |_=>simp[dc,D.dep,D.dK]
def TX(bD:List Int)(t:Tl)(a:Addr)(n:Node):Nm:=[("size",.d (.int t.size)),("logs",.r a),("i",.d (.int t.i)),("events",.d (.lst [dc t.e0,dc t.e1])),("saved",.d (.lst [dc t.e0,dc t.e1])),("node",.d (bK n)),("twin",.d (bK n))]
section
variable {g:G0}{P:Params}(W:WL g P)
include W
def VP{cx:C}{L:Addr}(hg:cx.toG0=g)(hn:17<=cx.n){bD:List Int}{t:Tl}{a p:Addr}{ps:List Addr}{M σ wr}{ρ:Nm}(Ak:ps[t.i]?=some p)(Mn:a≠p)(hv:σ a=some (.v (ps.map .r)))(hl:σ p=some (.l (gA t.l)))(hw:wr p)(hS:Sub (TX bD t a (ao t.l (t.i:Int) t.size)) ρ)
 (k7:∀k,k<2->ye t.size t.i (t.lk k) (t.ev k)):
 Ex (jY (cx.fn (iV P) 173 L λz=>False) M σ wr) ρ [(s7 P).drop 15] (λz z=>D.bool true=.none) (λz d=>d=.bool true):=by
 intros g P cx L bD t a _ W hg hn p ps M σ wr ρ Ak Mn hv hl hw hS k7;intros p ps M σ wr ρ _ W hg hn Ak Mn hv hl hw hS k7;subst hg;have wQ:t.i<(ps.map gn).length:=by rw[aR];exact(iR.mp Ak).1
 have hpv:(ps.map gn)[t.i]?=some (gn p):=by rw[dh,Ak];rfl
 unfold s7 bodyPick;apply Ex.for (ds:=[dc t.e0,dc t.e1]) (Inv:=λk c' ρ'=>c'.σ a=some (.v (ps.map .r))/\c'.σ p=some (.l (gA (t.lk k)))/\c'.wr p/\Sub (TX bD t a (ao (t.lk k) (t.i:Int) t.size)) ρ')
 .exact i6 (aj (hS "events" _ aa))
 .exact⟨hv,hl,hw,hS⟩
 .intro k d c' ρ' cu hd z2;let ⟨g1,g2,g3,g4⟩:=z2;intros k d c' ρ' _ cu hd g1 g2 g3 g4;let ⟨M,σ,wr,zy⟩:=bY (c:=cx.fn (iV P) 173 L λz=>False) cu;intros M σ wr _ cu g1 g2 g3;have hk:k<2:=(iR.mp hd).1
  have hd:d=dc (t.ev k):=by
   match k,hk,hd with
   |0,_,hd=>exact(eF hd).symm
   |1,_,hd=>exact(eF hd).symm
  subst hd;have O:=k7 k hk;rw[t.step hk];generalize t.lk k=l at*;generalize t.ev k=e at*;refine⟨_,i7 cD,?_⟩;refine kN (ρ':=("event",.d (dc e))::TX bD t a (ao l (t.i:Int) t.size)) ?_ g4.both;have FL:=Ot W.toWW (pl:=p) O.lf;have FS:=L7 W.toWW O.sf;rw[O.eq] at FS;have ho:=O.o;have mu:=O.nd;generalize hr:aH l (ao l (t.i:Int) t.size) e=r at*;apply Ci
  .apply uH
   .exact FL
   .exact W.NZ
   .exact(GZ W.toWW).keep
   .refine br ?_ (br (aj aa) (br (aj aa) fj));exact zW (aj aa) g1 (aj aa) (aZ wQ) hpv
   .exact g8 hn aa
   .intro b e;subst e;exact g3
   .exact g2
   left
  .exact cD
  .intro c1 v1 gv z2;refine aM λnG=>?_;obtain⟨A,d,rfl,h3,rfl⟩:_:=z2;refine nG ?_;clear nG
   have g1':=A.sg a _ Mn g1;have g3':=A.ww p g3;let ⟨M,σ,wr,zy⟩:=bY (c:=cx.fn (iV P) 173 L λz=>False) gv;intros M σ wr _ gv A h3 g1' g3';apply gS (x:="after") (v:=.d (bK (ao r.1 (t.i:Int) t.size)))
   .apply mw
    .exact TG W.toWW (pl:=p) mu
    .exact W.Te
    .exact(L1 W.toWW).keep
    .exact br (zW (aj aa) g1' (aj aa) (aZ wQ) hpv) (br (aj aa) (br (aj aa) fj))
    .exact g8 hn aa
    .exact h3
    left
   .exact cD
   apply gS (x:="answer") (v:=.d (.tup [bK (ao r.1 (t.i:Int) t.size),.lst (r.2.map bG)]))
   .apply mw
    .exact FS
    .exact W.LU
    .exact(DT W.toWW).keep
    .exact br (aj aa) (br (aj aa) fj)
    .exact g8 hn aa
    .trivial
    left
   .exact cD
   apply cP (b:=false||(false||(false||false)))
   .apply iZ;apply sU
    .refine HC (x:=.tup [bK (ao r.1 (t.i:Int) t.size),.lst (r.2.map bG)]) (aj aa) (cI (aP (aj aa) (aP (aj aa) bq aa) aa) (bz aa)) ?_;have h1:=Sh (ao r.1 (t.i:Int) t.size);have h2:=TV r.2;simp only[D.dep,D.dK] at h1 h2⊢;exact gw (HD (lK h1 aa) (zm (lK h2 aa)))
    intro _;apply sU
    .exact HC (aj aa) (aj aa) (aG (Sh _) (by decide))
    intro _;apply sU
    .refine HC (x:=.lst [dc t.e0,dc t.e1]) (aj aa) (aj aa) ?_;have h1:=abe t.e0;have h2:=abe t.e1;simp only[D.dep,D.dK];exact gw (HD (lK h1 aa) (zm (lK h2 aa)))
    intro _;exact KC
   .intro hb;cases hb
   intro hb;apply aT;apply wM (names:=["node","twin"]) (Q:=λc' vs=>c'=(jY (cx.fn (iV P) 173 L λz=>False) M σ wr)/\vs=[.d (bK (ao r.1 (t.i:Int) t.size)),.d (bK (ao r.1 (t.i:Int) t.size))])
   .apply zZ;refine br ?_ (br (aj aa) fj);exact bE (ds:=[bK (ao r.1 (t.i:Int) t.size),.lst (r.2.map bG)]) (j:=0) (aj aa) aN aa aa
   .intro x hx;simp at hx;rcases hx with rfl|rfl<;>exact cD
   intro c' vs cu z2;let ⟨zy,z3⟩:=z2;subst z3;refine⟨rfl,?_⟩;apply aT;apply dM;exact⟨g1',h3,g3',.cons aa (.cons aa (.cons aa (.cons aa (.cons aa (.cons aa (.cons aa .nil))))))⟩;left;left;left
  left
 intro c' ρ' cu z2;let ⟨g1,g2,g3,g4⟩:=z2;intros c' ρ' _ cu g1 g2 g3 g4;let ⟨M,σ,wr,zy⟩:=bY (c:=cx.fn (iV P) 173 L λz=>False) cu;exact jX (kM Ev.bool) aa;left
def abf(bD:List Int)(size:Nat)(a:Addr)(hist:List D)(w:D):Nm:=[("script",.d (.lst (bA bD))),("size",.d (.int size)),("logs",.r a),("want",.d (.tup [.lst hist,w])),("got",.d (.tup [.lst hist,w]))]
def abg{cx:C}{L:Addr}(hg:cx.toG0=g)(hn:17<=cx.n){bD:List Int}(cG:19<=bD.length){size:Nat}(hs:0<size){aX:List aY}{l:aY}{hist:List D}{w:D}{k:Nat}{a p:Addr}{ps:List Addr}{M σ wr}{ρ:Nm}(hS:Sub (abf bD size a hist w) ρ)
 (hh:hist[k]?=some (.lst (dR size aX))) (Hy:hist.length=k+1) (Ie:aX[ai (bD.getD 15 0) size]?=some l)
 (Ak:ps[ai (bD.getD 15 0) size]?=some p) (Mn:a≠p) (hv:σ a=some (.v (ps.map .r))) (hl:σ p=some (.l (gA l))) (hw:wr p)
 (h0:ye size (ai (bD.getD 15 0) size) l (.msg (gC (ao l (ai (bD.getD 15 0) size:Nat) size) (bD.getD 16 0) (bD.getD 17 0) (bD.getD 18 0))))
 (h1:ye size (ai (bD.getD 15 0) size) (aH l (ao l (ai (bD.getD 15 0) size:Nat) size) (.msg (gC (ao l (ai (bD.getD 15 0) size:Nat) size) (bD.getD 16 0) (bD.getD 17 0) (bD.getD 18 0)))).1 (tD (bD.getD 18 0))):
 Ex (jY (cx.fn (iV P) 173 L λz=>False) M σ wr) ρ [(s7 P).drop 11] (λz z=>D.bool true=.none) (λz d=>d=.bool true):=by
 intros g P cx L bD size aX l hist _ W hg hn cG hs w k a p ps M σ wr ρ hS hh Hy Ie Ak Mn hv hl hw h0 h1;intros w k a p ps M σ wr ρ _ W hg hn cG hs hS hh Hy Ie Ak Mn hv hl hw h0 h1;have DB:=hg;subst hg;have jt:(ao l (ai (bD.getD 15 0) size:Nat) size).size=size:=rfl;refine kN ?_ hS
 have lp:=λ(c':C)=>VP W (cx:=cx) (L:=L) DB hn (bD:=bD) (t:=⟨size,ai (bD.getD 15 0) size,l,.msg (gC (ao l (ai (bD.getD 15 0) size:Nat) size) (bD.getD 16 0) (bD.getD 17 0) (bD.getD 18 0)),tD (bD.getD 18 0)⟩) (a:=a) (p:=p) (ps:=ps) (M:=M) (σ:=σ) (wr:=wr) (ρ:=TX bD ⟨size,ai (bD.getD 15 0) size,l,.msg (gC (ao l (ai (bD.getD 15 0) size:Nat) size) (bD.getD 16 0) (bD.getD 17 0) (bD.getD 18 0)),tD (bD.getD 18 0)⟩ a (ao l (ai (bD.getD 15 0) size:Nat) size)) Ak Mn hv hl hw xA (λk hk=>by
  match k,hk with
  |0,_=>exact h0
  |1,_=>exact h1)
 have abh:∀{c':C} {ρ':Nm} {e:aU} {q:Nat} {p1 p2 p3 p4 p5:Pos},Ev c' ρ' e (.d (.tup [.lst hist,w]))->Ev c' ρ' (.Subscript (.Subscript e (.Constant (.int 0) q p1) p2) (.UnaryOp .USub (.Constant (.int 1) q p3) p4) p5) (.d (.lst (dR size aX))):=λh=>by
  refine pQ (ds:=hist) (k:=-1) (j:=k) (bE (ds:=[.lst hist,w]) (j:=0) h aN aa aa) aa (Kq aN) ?_ hh;rw[Hy];exact rQ (Eg k)
 generalize hI:ai (bD.getD 15 0) size=i at*;have Z5:i<(dR size aX).length:=by rw[rR];exact(iR.mp Ie).1
 have dg:=Hx (size:=size) Ie;unfold s7 bodyPick at lp⊢;apply gS (x:="i") (v:=.d (.int (i:Nat)))
 .rw[<-hI,<-gV _ hs];exact dU (Ad 15 (jD (by decide) ‹19<=_›) aa) (aj aa) (jW (nz hs))
 .exact cD
 apply wM (names:=["node","twin"]) (Q:=λc' vs=>c'=(jY (cx.fn (iV P) 173 L λz=>False) M σ wr)/\vs=[.d (bK (ao l (i:Int) size)),.d (bK (ao l (i:Int) size))])
 .apply zZ;refine br ?_ (br ?_ fj)
  .exact pQ (ds:=dR size aX) (j:=i) (abh (aj aa)) aa (aj aa) (aZ Z5) dg
  exact pQ (ds:=dR size aX) (j:=i) (abh (aj aa)) aa (aj aa) (aZ Z5) dg
 .intro x hx;simp at hx;rcases hx with rfl|rfl<;>exact cD
 intro c' vs cu z2;let ⟨zy,z3⟩:=z2;subst z3;refine⟨rfl,?_⟩;have FT:=acf W (n:=ao l (i:Int) size) (c:=bD.getD 16 0) (d:=bD.getD 17 0) (e:=bD.getD 18 0) (by rw[jt];exact hs);generalize gC (ao l (i:Int) size) (bD.getD 16 0) (bD.getD 17 0) (bD.getD 18 0)=tm at*;generalize tD (bD.getD 18 0)=te at*;apply gS (x:="events") (v:=.d (.lst [dc (.msg tm),dc te]))
 .apply mw
  .exact FT
  .exact W.Tf
  .exact(L2 W.toWW).keep
  .exact br (aj aa) (br (Ad 16 (jD (by decide) ‹19<=_›) aa) (br (Ad 17 (by exact ee ‹_›) aa) (br (Ad 18 (by assumption) aa) fj)))
  .exact g8 hn aa
  .trivial
  left
 .exact cD
 apply gS (x:="saved") (v:=.d (.lst [dc (.msg tm),dc te]))
 .apply mw
  .exact FT
  .exact W.Tf
  .exact(L2 W.toWW).keep
  .exact br (aj aa) (br (Ad 16 (jD (by decide) ‹19<=_›) aa) (br (Ad 17 (by exact ee ‹_›) aa) (br (Ad 18 (by assumption) aa) fj)))
  .exact g8 hn aa
  .trivial
  left
 .exact cD
 exact kN (lp cx) (Sub.cons aa (.cons aa (.cons aa (.cons aa (.cons aa (.cons aa (.cons aa .nil)))))));left;left;left;left
end
def TY{a:Addr}{ps:List Addr}{ds:List D}:tU a ps ds a=some (.v (ps.map .r)):=aq aa
def aci{a p:Addr}{ps:List Addr}{ds:List D}(h:p∈ps)(hn:(a::ps).Nodup):tU a ps ds p=some (.l ds):=by
 unfold tU;rw[ay (λe:p=a=>(ir.mp hn).1 (e▸h)),aq h]
section
variable {g:G0}{P:Params}(W:WL g P)
include W
def aet:m8 g 173 (iV P) (s7 P) ["script"] where
 at':=⟨_,W.sP _ _ (by rw[W.hK];exact abN P),rfl⟩
 code:=codeRec_of W.sP (by rw[W.hK];rfl)
 body:=rfl
 clo:=rfl
 globals:=rfl
 builtins:=rfl
 kind:=rfl
 gen:=rfl
 co:=rfl
 bind:=cK λx0=>all0 aa
 nd:=by decide
 par:=by rfl
 keep:=by rw[W.hK];rfl
def aeu{bD:List Int}(hz:bD.length<=63):yj g 18 173 [.d (.lst (bA bD))] (λz=>True) (.bool true):=by
 intros g P bD _ W hz;refine rA (n:=17) (aet W) aa λcx L hg hn z=>?_
 have DB:=hg;have li:(bA bD).length=bD.length:=by unfold bA;rw[aR]
 have hd:=λ(cG:19<=bD.length)=>VO W (cx:=cx) (L:=L) hg hn cG hz (Pp:=λz z=>D.bool true=.none) (R:=λz d=>d=.bool true)
 have Ja:=@abg g P W cx L hg hn bD;subst hg;unfold s7 bodyPick at hd⊢;apply cP (b:=decide (bD.length<19))
 .have e:decide (bD.length<19)=decide (((bA bD).length:Int)<19):=by rw[li];exact decide_eq_decide.mpr (by exact gE.symm)
  rw[e];apply bR
  .exact uC (aj aa) aa
  .exact aN
  .exact Cmp.lt
  left
 .intro _;exact jX (kM Ev.bool) aa
 intro hb;have cG:19<=bD.length:=jb.mp (of_decide_eq_false hb);apply aT;refine hd cG λc' ρ cu hS=>?_
 clear hd;let ⟨M,σ,wr,zy⟩:=bY (c:=cx.fn (iV P) 173 L λz=>False) cu;clear cu;refine kN ?_ hS;clear hS;have jt:=Ox (bD.getD 0 0);have hH:aa3 (jz (bD.getD 0 0)) (DY bD):=VL (a:=0) (b:=-1) (xs:=((bD.drop 2).take 12).zip ((bD.drop 3).take 12)) jt.1 (cS _ jt.1) (by rw[Xd,pO,pO];exact aG (lW ..) (lW ..));generalize Ih:DY bD=bH at*;generalize jz (bD.getD 0 0)=size at*;generalize ai (bD.getD 1 0) size=lead at*;have h4:=jt.2;have Dt:=hH.len;let ⟨G,ep⟩:=xK h4 hH bH.length (bW _);rw[qO] at G ep;have abi:=Ov h4 hH bH.length (bW _);have FP:=ab8 W.toWW (size:=size) (bH:=bH) h4 (by exact lK ‹_› rfl) λk mv h=>⟨(HA h4 hH h).1,(u0 h4 hH k (ee (iR.mp h).1)).2.2.1,(u0 h4 hH k (ee (iR.mp h).1)).2.2.2⟩
 rw[abi,ep] at FP;have FLP:=λ(ps:List Addr) (pv:Addr) (h1:ps.length=size) (h2:ps.Nodup) (h3:pv∉ps)=>aa1 W.toWW (size:=size) (bH:=bH) (ps:=ps) (pv:=pv) h4 (by exact lK ‹_› rfl) h1 h2 h3 λk mv h=>⟨(HA h4 hH h).2,by rw[(u0 h4 hH k (ee (iR.mp h).1)).1];exact h4,(u0 h4 hH k (ee (iR.mp h).1)).2.1⟩
 have hli:ai (bD.getD 15 0) size<(lst size (lS size) bH).1.length:=by rw[G.len];exact cS _ jt.1
 obtain⟨l,hl⟩:∃l,(lst size (lS size) bH).1[ai (bD.getD 15 0) size]?=some l:=⟨_,iF hli⟩;have hP:=hH.p bH.length;rw[qO] at hP;have TK:=aa8 G h4 hP (by assumption) hl (bD.getD 16 0) (bD.getD 17 0) (bD.getD 18 0);have Nt:=Si size (lS size) bH bH.length;rw[qO] at Nt;have Ie:=uZ size (lS size) bH bH.length;have hdh:=VM size (lS size) bH bH.length;clear abi;have vY:(fP size (lst size (lS size) bH).1).map bK=dR size (lst size (lS size) bH).1:=rfl;generalize tC size (lS size) bH bH.length=hist at*;have hGl:=G.len;have hw1:=TV (lst size (lS size) bH).2;have KN:=abc bH;clear G ep hP;generalize lst size (lS size) bH=S at*;have Ja:=λ(a p:Addr) (ps:List Addr) (M σ wr) (ρ:Nm)=>Ja cG (size:=size) jt.1 (aX:=S.1) (l:=l) (hist:=hist) (w:=.lst (S.2.map bG)) (k:=bH.length) (a:=a) (p:=p) (ps:=ps) (M:=M) (σ:=σ) (wr:=wr) (ρ:=ρ)
 unfold s7 bodyPick at Ja;apply gS (x:="same") (v:=.d (.lst (bH.map g6)))
 .exact cH (Rx (aj aa) aa)
 .exact cD
 apply Ex.aas (x:="logs") (ds:=dW 0 size) (ds₀:=gA C5)
 .rfl
 .exact bz aa
 .exact kK (uB (n:=(size:Int)) (aj aa) (by exact Kd ‹_› (by decide)))
 .intro La cs M X i d hd;refine⟨_,i7 cD,?_,?_⟩
  .exact bV aa fT
  refine fH (aP ?_ (aP ?_ bq aa) aa) (bz aa)
  .exact cI (aP (dZ (by decide+kernel)) (aP aN (aP aN bq aa) aa) aa) (bz aa)
  exact cI (aP (dZ (by decide+kernel)) (aP (dZ (by decide+kernel)) (aP (cI (aP aN (aP aN bq aa) aa) (bz aa)) bq aa) aa) aa) (bz aa)
 .unfold dW;rw[aR,pM];exact lim ‹_› rfl
 .rfl
 .exact cD
 intro a ps wQ mu hfr;have wQ:ps.length=size:=by rw[wQ];unfold dW;rw[aR,pM]
 have Fp:=ir.mp mu;obtain⟨p,hp⟩:∃p,ps[ai (bD.getD 15 0) size]?=some p:=⟨_,iF (by rw[wQ];exact cS _ jt.1)⟩;have xB:=jK hp;have Mn:a≠p:=λe=>Fp.1 (e▸xB)
 have rX:∀q∈ps,tU a ps (gA C5) q=some (.l (gA C5)):=λq hq=>aci hq mu
 apply Ci
 .apply uH
  .exact FLP ps a wQ Fp.2 Fp.1
  .exact W.aav
  .exact(N8 W.toWW).keep
  .exact br (aj aa) (br (aj aa) (br (aj aa) fj))
  .exact g8 hn aa
  .intro q hq;exact .inr (by rw[rX q hq];simp)
  .exact⟨Cs TY,λq hq=>Cs (rX q hq)⟩
  left
 .exact cD
 .intro c2 v2 oi z2;refine aM λnG=>?_;obtain⟨A,d,rfl,abj,rfl⟩:_:=z2;refine nG ?_
  have hv2:c2.σ a=some (.v (ps.map .r)):=A.sg a _ Fp.1 (Cs TY);have hw2:c2.wr p:=A.ww p (.inr (by rw[rX p xB];simp));have B4:c2.σ p=some (.l (gA l)):=abj _ p l hp hl;clear A abj;let ⟨M,σ,wr,zy⟩:=bY (c:=cx.fn (iV P) 173 L λz=>False) oi;apply gS (x:="got") (v:=.d (.tup [.lst hist,.lst (S.2.map bG)]))
  .apply mw
   .exact FP
   .exact W.abT
   .exact(Tg W.toWW).keep
   .exact br (aj aa) (br (aj aa) fj)
   .exact g8 hn aa
   .trivial
   left
  .exact cD
  apply cP (b:=false||(false||false))
  .apply iZ;apply sU
   .refine HC (x:=.tup [.lst hist,.lst (S.2.map bG)]) (aj aa) (aj aa) ?_;simp only[D.dep,D.dK] at hw1⊢;exact gw (HD (lA ‹_› rfl) (zm (lK hw1 aa)))
   intro _;apply sU
   .exact HC (aj aa) (aj aa) (aG KN (by decide))
   intro _;exact KC
  .intro hb;cases hb
  intro hb;apply aT;apply Ex.for (ds:=dR size S.1) (Inv:=λi c' ρ'=>c'=(jY (cx.fn (iV P) 173 L λz=>False) M σ wr)/\Sub (abf bD size a hist (.lst (S.2.map bG))) ρ')
  .apply i6;refine pQ (ds:=hist) (k:=-1) (j:=bH.length) (bE (ds:=[.lst hist,.lst (S.2.map bG)]) (j:=0) (aj aa) aN aa aa) aa (Kq aN) ?_ Nt;rw[Ie];exact rQ (Eg _)
  .exact⟨rfl,.cons aa (.cons aa (.cons aa (.cons aa (.cons aa .nil))))⟩
  .intro i d c' ρ' cu hd z2;let ⟨zy,g2⟩:=z2;unfold dR at hd;rw[dh] at hd;cases Us:(fP size S.1)[i]? with
   |none=>rw[Us] at hd;cases hd
   |some n=>
    rw[Us] at hd;cases hd;refine⟨_,i7 cD,?_⟩;refine kN (ρ':=("n",.d (bK n))::abf bD size a hist (.lst (S.2.map bG))) ?_ g2.both;apply cP (b:=!(true&&(true&&(true&&(true&&true)))))
    .apply iH.not;apply iZ;refine gQ (LN (i:=n.me) ?_) λz=>gQ (LN (i:=n.size) ?_) λz=>gQ (LN (i:=n.promised.1) ?_) λz=>gQ (LN (i:=n.af.1) ?_) λz=>pR
     .exact bE (ds:=[.int n.me,.int n.size,aD n.promised,.lst (n.acc.map bM),.lst (n.ak.map gJ),.str (j9 n.phase),aD n.af,.lst (fZ n)]) (j:=0) (aj aa) aN aa aa
     .exact bE (ds:=[.int n.me,.int n.size,aD n.promised,.lst (n.acc.map bM),.lst (n.ak.map gJ),.str (j9 n.phase),aD n.af,.lst (fZ n)]) (j:=1) (aj aa) aN aa aa
     .exact bE (ds:=[.int n.promised.1,.int n.promised.2]) (j:=0) (bE (ds:=[.int n.me,.int n.size,aD n.promised,.lst (n.acc.map bM),.lst (n.ak.map gJ),.str (j9 n.phase),aD n.af,.lst (fZ n)]) (j:=2) (x:=aD n.promised) (aj aa) aN aa aa) aN aa aa
     exact bE (ds:=[.int n.af.1,.int n.af.2]) (j:=0) (bE (ds:=[.int n.me,.int n.size,aD n.promised,.lst (n.acc.map bM),.lst (n.ak.map gJ),.str (j9 n.phase),aD n.af,.lst (fZ n)]) (j:=6) (x:=aD n.af) (aj aa) aN aa aa) aN aa aa
    .intro hb;cases hb
    intro _;apply aT;apply aT;apply dM;exact⟨rfl,.cons aa (.cons aa (.cons aa (.cons aa (.cons aa .nil))))⟩
  intro c' ρ' cu z2;let ⟨zy,g2⟩:=z2;exact Ja a p ps M σ wr ρ' g2 Nt Ie hl hp Mn hv2 B4 hw2 TK.1 TK.2;left;left
 left;left;left
end
end Sx
theorem Sj{P:Params}{h:Heap}{vs:List Value}{xs:List Int}(r:WellAll P h vs (xs.map λi=>WData.int i)):aC h (λz=>False) vs (bA xs):=by
 induction xs generalizing vs with
 |nil=>cases r;exact .nil
 |cons x xs ih=>
  cases r with
  |cons a b=>
   cases a;exact .cons (.int x _) (ih b)
theorem abk{afL:ExcName->Option Value}{mg mb:Str->Option Value}{h:Heap}(T:Top viewP (looseW viewP []) afL mg mb h):∀x∈jU,mg x=none:=λx hx=>
 T.free x ((by decide+kernel:∀x∈jU,x∉startupNames) x hx) ((by decide+kernel:∀x∈jU,x∉looseW viewP []) x hx) ((by decide+kernel:∀x∈jU,x∉(recsOf viewP).map (·.name)) x hx) ((by decide+kernel:∀x∈jU,x∉(litsOf viewP).map (·.1)) x hx) ((by decide+kernel:∀x∈jU,x∉(clssOf viewP (looseW viewP [])).map (·.name)) x hx)
theorem Sl(xs:List Int):ofPy (.list (xs.map PyData.int))=.list (xs.map λi=>WData.int i):=by
 have:∀xs:List Int,ofPys (xs.map PyData.int)=xs.map λi=>WData.int i:=λxs=>by
  induction xs with
  |nil=>rfl
  |cons x xs ih=>rw[List.map_cons,List.map_cons,<-ih];rfl
 show WData.list _=_;rw[this]
theorem acj:acr 18 callerA:=⟨rfl,by decide+kernel,by decide+kernel⟩
theorem top:rw_sx_r018_2.Holds:=hd (by
 intro w af4 ah mg mb G Y fa o pm cd doc dV kV ho hd Gp hD hmg hg args vals as afM afN hrd UR hlo;have KX:=kIn_of Y;have ZY:=G.X;clear hd Gp hD Y ho;refine Ground.open G ?_;intro T B D TE TW
 have Qu:fa=173:=by
  have e:=mg_of KX T.g (n:="law") (v:=.ref 173) (by kernel_rfl);have e':mg "law"=some (.ref fa):=hmg;rw[e] at e';cases e';rfl
 subst Qu;clear hmg
 wrow_args afM afN hrd UR hlo
 rename_i bD hs afV hLy hr1 B4 wa wb a vs wc hL ra w1 r0 hI hr gv oi;have hz:bD.length<=63:=Int.ofNat_le.1 (Int.not_lt.1 ‹_›)
 have WLg:WL ⟨rw_sx_r018_2.row.prog,w,ah.heap,88,hd.heap_1 w.params,mg,mb⟩ w.params:=
  ⟨⟨rfl,KX,rfl,mg_of KX T.g (by kernel_rfl),mg_of KX T.g (by kernel_rfl),mg_of KX T.g (by kernel_rfl),mg_of KX T.g (by kernel_rfl),mg_of KX T.g (by kernel_rfl),mg_of KX T.g (by kernel_rfl),mg_of KX T.g (by kernel_rfl),mg_of KX T.g (by kernel_rfl),mg_of KX T.g (by kernel_rfl),mg_of KX T.g (by kernel_rfl),mg_of KX T.g (by kernel_rfl),mg_of KX T.g (by kernel_rfl),mg_of KX T.g (by kernel_rfl),mg_of KX T.g (by kernel_rfl)⟩,mg_of KX T.g (by kernel_rfl)⟩
 have F:=aeu WLg hz;rw[Sl] at w1⊢
 have rep:Rep ah.heap (λz=>False) (.ref a) (.lst (bA bD)):=by
  cases w1 with
  |list e wl=>exact .lst ⟨_,e⟩ (λh=>h) (by unfold bA;rw[List.length_map];(first|(refine lim ‹_› ?_;rfl)|(refine oZ ‹_› ?_;rfl)|(show _<=1000000;lia))) (Sj wl)
 have Bs0:Bs {prog:=rw_sx_r018_2.row.prog,w:=w,h₀:=ah.heap,cls:=88,K:=hd.heap_1 w.params,mg:=mg,mb:=mb,A:=callerA,env:=callEnvC (iV w.params) 0 0,M:=λz=>False,X:=λz=>False,own:=[],n:=18,σ:=λz=>none,wr:=λz=>False,B:=λz=>False} ah:=
  ⟨λz z e=>e,⟨KX,T.g,T.b,T.nolimit,T.builtins,abk T,Option.isSome_iff_exists.mp ZY⟩,acj,λz h=>h.elim,λz h=>h,λz h=>h.elim,λz z h=>(by cases h),λz h=>h.elim,λz h=>h⟩
 refine wpAny_mono (wpAny_call (F _ rfl (Nat.le_refl _) trivial ah [.ref a] (λv s'=>Kp ah s'/\v=.bool true) Bs0 (.cons rep .nil) λs' u k r=>⟨k,by cases r;rfl⟩)) (λv s' h=>?_) λz z h=>h.elim
 obtain⟨k,rfl⟩:=h;exact GoodW.toG ⟨.inl ⟨_,.bool true,[],rfl,λz=>rfl,.bool _,(by first|kernel_rfl|rfl|decide),λz=>⟨List.nodup_nil,λz h=>by cases h⟩⟩,k.keep,k.os,k.gens.trans hg⟩)
end
end Mine
theorem PySem.Challenge.cw_sx_r018_2_holds : PySem.Challenge.rw_sx_r018_2.Holds :=
 Mine.top
