import PyProof.Rows.All
import KE.KDictLaws
import KE.KDictOf
import KE.KDictSum
import KE.KSetDisp
import KE.KSortTup
import Lean
import OpenK.AllK
import PySem.Machine
import Wide.All
import Wide.FinOn
import PySem.Challenge.RW_sx_r018_1
set_option Elab.async false
set_option maxRecDepth 100000
set_option maxHeartbeats 8000000
set_option linter.all false
set_option genInjectivity false
set_option genSizeOf false
set_option genCtorIdx false
set_option bootstrap.genMatcherCode false
namespace Mine
open PySem PySem.W PySem.Calls PyProof.Rows PySem.SeqAt PySem.MeetsSeq PySem.Challenge
noncomputable section
open _root_.Nat renaming le_trans->aj,le_of_ble_eq_true->bM,le_of_eq->cj,le_refl->cB,zero_le->cL,add_le_add->dQ,lt_of_le_of_lt->eK,ne_of_lt->eN,le_add_right->fz,succ_le_succ->fG,add_le_add_left->gc,le_of_lt->gf,add_le_add_right->gg,not_lt->gO,le_succ->jw,le_add_left->jK,lt_of_lt_of_le->jL,le_sub_of_add_le->kJ,add_comm->kK,le_of_lt_succ->lu,mul_le_mul_left->lz,lt_succ_self->l7,le_antisymm->mW,min_le_left->oA,ne_of_gt->pR,succ_pos->pT,zero_add->rB,add_assoc->rC,lt_or_eq_of_le->sP,min_eq_left->sQ,lt_or_ge->uv,le_sub_one_of_lt->vO,sub_le->vP,lt_succ_of_lt->vQ,not_le->vR,le_of_succ_le->vS,min_le_right->vU,le_succ_of_le->xV,lt_irrefl->z9,add_right_comm->Aa,lt_of_le_of_ne->Ab,lt_trans->Ac,mul_le_mul_right->Ad,div_pos->Ae,add_sub_of_le->Co,rec->Cq,le_of_succ_le_succ->Cr,lt_add_of_pos_right->Cs,succ_mul->Ct,sub_le_sub_left->FN,two_pos->FO,le_zero->FP,not_lt_zero->FQ,sub_zero->FT,min_self->FU,succ_ne_zero->FW,ble->FY,le_max_left->FZ,le_max_right->F0,succ_lt_succ->F3,lt_succ_of_le->F4,mul_comm->F7,sub_lt->KR,one_pos->KS,add_sub_cancel_left->KU,le_div_iff_mul_le->KV,succ_add->KW,not_succ_le_zero->KY,sub_succ_lt_self->KZ,not_succ_le_self->K0,le_of_sub_eq_zero->K1,div_lt_iff_lt_mul->K2,add_sub_cancel->K3,sub_self->K4,lt_of_succ_le->K5
open _root_.PySem renaming Addr->ak,wpAny_bind->ay,Value->aC,wpAny_pure->aM,Expr->aT,Heap->bY,wpAny_holding->dW,Scope->gh,Builtin->gX,wpAny_mono->kL,intKind_is->kM,wpAny_standAt->lB,CmpOp->l8,wpAny_askSetting->pU,wpAny_call_entry->pV,codeAny_builtin->pW,plainId_quiet->pX,sizeLine_eq->pY,wpAny_rule->rD,Result->rE,wpAny_of_eq->rF,wpAny_field->rG,Flow->sR,DictEntry->sS,wpAny_call->uw,SetTable->vV,wpAny_typeOf->vW,ReadsAll->vX,wpAny_setState_of->xW,wpAny_pyIter_list->xX,wpAny_callSpecial?_slot->xY,Reads->xZ,IsPart->yb,wpAny_tryCatch->yc,wpAny_letGo->yd,wpAny_alloc->Af,wpAny_truthy_bool->Ag,Comprehension->Ah,NameKind->Ai,call_meets->Aj,wpAny_seqItems->Ak,typeLookup_type->Cu,builtinLookup_eq_fast->Cv,wpAny_ite_split->Cw,wpAny_attempt->Cx,wpAny_specialOf->Cy,wpAny_Tuple_spliced->Cz,wpAny_pyNext_list_item->CA,wpAny_assign_Name->CB,pushCells_keeps->CC,wpAny_newList->CD,wpAny_execs_cons->CE,assign->CF,codeAny_of_tree->F8,codeAny_mono->F9,codeAny_call_builtin->Ga,isSubtype_type->Gb,signature?_of->Gd,wpAny_pyIter_slot->Ge,wpAny_setEntries_of->Gf,wpAny_setField->Gg,wpAny_isInstance->Gh,wpAny_List_spliced->Gi,wpAny_isTrue_Compare1->Gj,richCompare_meets_room->Gk,wpAny_Slice->Gl,wpAny_pyNext_list_end->Gm,wpAny_assign_Tuple->Gn,Fin->Gp,wpAny_Assign_Name->Gq,PlainAttrs->Gr,wpAny_release->Gs,wpAny_dictSet_pairs->Gu,fits_of_scanBound->K6,entryFor_of_tree->K7,entryFor_alias->K8,wpAny_fieldsOf->K9,isSubtype_stop->Lb,noFill_tuple_add->Lc,wpAny_loadPart'->Ld,wpAny_getItem_list->Le,wpAny_getItem_list_neg->Lf,slicePick_plain->Lg,wpAny_getItem_list_slice->Lh,wpAny_sequenceKey->Li,wpAny_execs_nil->Lj,wpAny_Call_method_late->Lk,slot_list_setitem->Ll,assign_Subscript->Lm,wpAny_loadPart->Ln,callType_codes->Lp,wpAny_pyIter_tuple->Lq,wpAny_setField_rec->Lr,wpAny_pyIter_zip->Ls
open _root_.List renaming length_map->aP,mem_map->aY,mem_cons->bN,length_append->bO,map_map->bV,map_append->cy,getElem?_map->cC,mem_filter->cH,append_nil->c8,mem_singleton->dh,map_cons->dM,getElem?_eq_getElem->dZ,mem_append->eE,range->eT,forall_mem_cons->eU,append_assoc->e9,nodup_cons->ff,mem_flatMap->fB,getElem?_eq_some_iff->fH,length_filter_le->fZ,filter_cons->gk,length_range->gx,contains_iff_mem->gy,length_cons->iz,lookup_cons->iF,mem_of_getElem?->iZ,foldl_cons->i6,find?_cons->jg,not_mem_nil->jy,nodup_append->jz,pairwise_map->jA,nil_append->jM,pairwise_singleton->jZ,map_congr_left->j0,foldl_append->j3,takeWhile_cons->j4,getD->kN,ext_getElem?->kO,cons_ne_nil->lC,getElem?_eq_none->l9,mem_append_left->mh,getElem?_set_self->mj,filter_eq_nil_iff->mq,getElem?_mapIdx->mX,length_set->mY,map->oB,filter_append->oE,take_length->oF,getElem?_set_ne->oG,getElem?_range->pZ,pairwise_cons->qa,length_mapIdx->qb,getD_eq_getElem?_getD->qc,filter_congr->qd,take_add_one->rH,forall_mem_singleton->rI,filter_eq_self->rJ,getElem_mem->sU,mem_cons_self->sV,flatMap_cons->sW,reverse_cons->ux,nodup_nil->uy,map_id->uz,mem_map_of_mem->uA,mem_range->uB,length_take->uC,toArray->vY,mem_cons_of_mem->vZ,zip_cons_cons->v7,cons_append->v8,range_succ->v9,perm_middle->we,length_take_le'->wg,all_cons->ye,flatten_cons->yf,mem_reverse->yg,any_eq_true->yh,length->yi,length_reverse->yj,map_nil->yk,map_flatMap->yl,flatMap_def->ym,forIn_cons->Al,length_eq_zero_iff->Am,getElem?_nil->An,take_of_length_le->Aq,flatten_append->Ar,all_eq_true->Au,any_eq_false->Aw,find?_some->Ax,any_cons->Ay,forall_mem_nil->Az,map_take->AA,flatMap_append->AB,mem_append_right->AD,getElem_range->AE,mem_of_mem_take->AF,foldl_map->AG,takeWhile_sublist->AH,take_append_drop->CG,eraseIdx_eq_take_drop_succ->CH,mem_of_find?_eq_some->CI,contains_cons->CJ,length_zip->CK,map_set->CL,filter_sublist->CM,take_left->CN,filter_nil->CO,set->CP,filter_filter->CQ,filterMap_map->Gv,reverse_reverse->Gw,size_toArray->Gx,find?_cons_of_neg->Gy,foldl->Gz,map_eq_nil_iff->GA,length_nil->GC,pairwise_append->GD,filter_map->GF,flatMap_eq_nil_iff->GG,length_drop->GH,findIdx?->Lu,length_eraseIdx_of_lt->Lv,getElem?_of_mem->Lw,take_sublist->Ly,findIdx?_cons->Lz,lookup->LA,length_eraseIdx_le->LB,of_mem_zip->LC,any_toArray->LD,toList_toArray->LF,perm_ext_iff_of_nodup->LG,pairwise_lt_range->LH,getElem_of_mem->LK,exists_cons_of_length_eq_add_one->LL,filterMap_cons->LM,ne_nil_of_mem->LN,length_pos_iff->LP,set_set->LQ,getElem?_append_right->LR,mem_flatten->LS,mapIdx_append->LU,takeWhile_nil->LW,take_nil->LX,take_append_of_le_length->LY,set_eq_take_append_cons_drop->LZ,mem_mapIdx->L1,contains_eq_mem->L2,map_reverse->L3,sum_append->L4,forall_mem_append->L5
open _root_.PySem.Heap renaming get?_push_of_some->cG,get?_push_size->dw,lt_size->d7,SameBut->iG,get?_update_self->rK,get?_update_other->sX,size_push->wj,ExtBut->L6,get?_update_ne->L7,get?_none_of_le->L8
open _root_.Ne renaming symm->cS
open _root_.Int renaming ofNat_lt->dB,le_trans->dN,natCast_nonneg->fJ,not_lt->iI,le_of_lt->iJ,ofNat_le->iK,toNat_natCast->j5,le_refl->lE,lt_irrefl->mu,eq_ofNat_of_zero_le->mZ,lt_trans->oH,not_le->qe,toNat_of_nonneg->qf,lt_of_lt_of_le->rL,le_antisymm->sY,lt_succ->sZ,le_of_eq->uD,toNat_le->wo,lt_of_le_of_lt->yo,max_eq_right->yp,toNat_lt->AI,neg_le_neg->CS,add_le_add_right->CT,le_max_left->CU,fmod_nonneg_of_pos->CV,zero_add->GI,ediv_one->GJ,sub_add_cancel->GK,add_sub_cancel->GL,add_comm->GN,add_assoc->GO,sub_zero->GP,le_add_of_nonneg_left->GQ,max_eq_left->GR,lt_add_one_of_le->GS,fdiv_eq_ediv_of_nonneg->GU,min_eq_left->Mb,mul_one->Mc,sub_nonneg_of_le->Me,add_zero->Mf,lt_iff_le_and_ne->Mg,lt_toNat->Mh,add_lt_add_right->Mi,max_le->Mj,le_max_right->Ml,fmod_lt_of_pos->Mm,ne_of_lt->Mn,ne_of_gt->Mp
open _root_.Option.some renaming inj->dF,injEq->AJ
open _root_.Prod renaming ext->fh,snd->GV,fst->GW
open _root_.Array renaming getElem?_toList->gP,length_toList->jN,getElem?_eq_none->wu,getElem?_eq_getElem->yq,getD->AK,toList_push->AL,toList_append->GX,size_push->Mq,getElem?_append_left->Mr,getElem?_push->Mt,getElem?_extract->Mu,isEmpty_iff->Mw,toList_inj->Mx
open _root_.Bool renaming and_eq_true->gQ,false_ne_true->i7,eq_iff_iff->oJ,false_eq_true->qg,eq_false_iff->rM,not_eq_true'->uE,and_false->wz,or_false->wA,noConfusion->yr,and_true->yt,or_true->AM,or_eq_true->CW,false_and->CX,not_true->CY,not_eq_true->My,or_eq_false_iff->Mz,true_and->MA
open _root_.PySem.Obj renaming mapSeq->gR,mapFields->GY
open _root_.PySem.W renaming kas_desc->i8,kas_rev->lF,mg_of->oK,kas_place->qh,KasT->rN,kas_asc->rO,kas_descPart->uF,kas_count->wB,kas_tail3->yu,kas_sort->CZ,plainGet_of->GZ
open _root_.PySem.SetTable renaming below->jO,insertAt->yv,has->C0,bits->MC,fill->MD
open _root_.PySem.PyData renaming eqv->jP,canLayAll0->s6,keyHash->s7,strOk->uG,eqvAll->C2,canLay0->G3,depth->ME,depthAll->MF,int->MG
open _root_.Exists renaming imp->kP
open _root_.PySem.Value renaming int->lG,none->oM,type->qi,ref->uH,bool->C3
open _root_.PySem.Calls renaming spliced_cons->m8,spliced_nil->qj,Name_function_global->MH
open _root_.Option renaming none->m9,map->rP,isSome_iff_exists->AN,map_some->AP,ne_none_iff_exists'->AQ,map_eq_some_iff->G4,or_none->G5,isSome_some->MI
open _root_.Int.ofNat renaming inj->oN
open _root_.PySem.Heap.SameBut renaming update->qk,refl->TP
open _root_.PySem.NameKind renaming cell->ql,free->uI
open _root_.PySem.Around renaming under_plainId->rQ,under_of_weight->MJ
open _root_.Classical renaming byContradiction->rR
open _root_.Function renaming comp_def->s8,comp_apply->AR,comp->C4
open _root_.PySem.F renaming called_set->uJ,plain_max_loop->uK,slot_enumerate_next->AS,plain_extend_loop->C5,plainAttrs_list->G6,slot_list_getattribute->G7,entry_max_loop->G8,slot_set_add->MK,plain_set_new->ML,slot_set_iter->MM,slot_tuple_add->MO,entry_tuple_add->MP,args_tuple_add_2->MQ,slot_list_append->MR,slot_list_pop->MS,slot_list_iadd->MT,plainAttrs_dict->MU,slot_dict_setdefault->MV,plain_max->MW,entry_max->MX,kind_max->MY,slot_dict_values->MZ,entry_enumerate_next->M0,args_enumerate_next_1->M1,slot_enumerate_iter->M3,entry_extend_loop->M4,slot_list_index->M5
open _root_.PySem.Builtin.Range renaming rangeFitsLong->uL,rangeSize->C6,small->TQ
open _root_.PySem.Str renaming ofString->wC
open _root_.PyProof.Rows renaming tail_any->wD,size_push'->wF,IntsAre->AU,SetOf_congr->C7,Subscript_->C8,step_dedup->C9,get?_update_seq->Dc,mirror_size->G9,callWith_type1->Hf,Assign_Tuple->Hg,slicePart_none->M6,slot_tuple_getitem->M7,callWith_builtin1->M8,getItem_tuple->TR
open _root_.Iff renaming rfl->wG
open _root_.ForInStep renaming yield->yw
open _root_.Nat.succ renaming inj->yy
open _root_.PySem.W.KasT renaming ret->Dd
open _root_.PySem.Builtin.Slice renaming slicePlaces->De,sliceAdjust->Hh,sliceApplied->M9,slicePartIndex->TS,sliceFields->TU
open _root_.PySem.Code renaming builtin->Df
open _root_.List.cons renaming inj->Dg
open _root_.PySem.Builtin.Builtins renaming bindParams->Dh
open _root_.List.Mem renaming tail->Di
open _root_.Nonempty renaming elim->Hi
open _root_.PyProof.Rows.F renaming plain_set_update_loop->Hj,entry_set_update_loop->Na
open _root_.PySem.Builtin.List renaming listLengthHint->Hl,listExtendWith->Ho,listTooLong->Nb,listUpdate->Nc,listItems->Nd,listSameRef->Nf,listSubscript?->TV,listTouch->TX
open _root_.PySem.Heap.IsSliceOf renaming new->Hp
open _root_.PySem.Flow renaming ret->Hq
open _root_.PySem.Builtin.Tuple renaming tupleExact->Hr,tupleCompareSizes->TY,tupleItemsOf->TZ,tupleIsExact->T3
open _root_.PySem.Heap.DictOf renaming new->Hs
open _root_.PyProof.Rows.SortSt renaming mk'->Ht
open _root_.List.Pairwise renaming nil->Hu,imp->Hv,filter->T4
open _root_.Except renaming ok->Hw
open _root_.PySem.Challenge renaming rw_sx_r018_1->Hx
open _root_.PySem.Builtin.SmallTypes renaming ownedTupleIsFree->Hy,ownedTupleHandOut->T5,newRecord->T6,ownedTupleFields->T7
open _root_.PySem.W.WData renaming int->Hz
open _root_.Array.Perm renaming refl->Ng
open _root_.PySem.Builtin.Frozenset renaming addrOf->Nh,oneOther->T8,newClass->T9,updateFrom->Ua,slot0->Ub,sizeOf->Uc
open _root_.PySem.Walks renaming list->Ni
open _root_.List.Sublist renaming length_le->Nj,map->Ud
open _root_.PySem.Builtin.Dict renaming updateFrom->Nl,pairItems->Ue,addKeywords->Ug,selfAndRest->Uh
open _root_.PySem.Pairs renaming nil->Nn
open _root_.List.Perm renaming cons->Np
open _root_.PySem.Manifest renaming signature?->Nq
open _root_.PySem.Bind renaming checkArgs->Nr
open _root_.PySem.Value.ref renaming inj->Nt
open _root_.PySem.W.RowW renaming records->Nu
open _root_.PySem.W.OpenRow renaming toRowW->Nv
open _root_.PySem.W.OpenLaw renaming row->Nx
open _root_.PySem.SetTable.probe renaming go->Ui
open _root_.PySem.AutoListH renaming list_append_list_val_0->Uj
open _root_.PySem.AutoSeq1 renaming list___iadd___list_list_0->Uk
abbrev jQ:=List (Int×(Option Str×List Int))
abbrev bR:=List (Int×Option Str)
abbrev dG:=List (Option Str)
abbrev bZ:=List (Int×Int)
abbrev bz:=Option Str
abbrev aF:=List Int
abbrev cQ:=List Value
abbrev eV:=List (List Stmt)
abbrev dH:=List Stmt
abbrev cN:=List Expr
abbrev i9:=List Addr
abbrev bC:=Addr->Prop
abbrev cI:=Value->Shared->Prop
open _root_.List renaming length->aa
open _root_.Option renaming some->U,none->ai
open _root_.Bool renaming true->af,false->aA
section
variable {a:Type}[Nonempty a]{b:Type}[Nonempty b]{c:Type}[Nonempty c]{d:Type}[Nonempty d]{e:Type}[Nonempty e]{f:Type}[Nonempty f]{g:Type}[Nonempty g]{i:Type}[Nonempty i]{j:Type}[Nonempty j]{l:Type}[Nonempty l]{m:Type}[Nonempty m]{n:Type}[Nonempty n]
noncomputable def ep1(b:a->Prop):a:=Classical.epsilon λc=>¬b c
def all1{P:a->Prop}(h:P (ep1 P))(b:a):P b:=Classical.byContradiction λc=>Classical.epsilon_spec (p:=λb=>¬P b) ⟨b,c⟩ h
noncomputable def ep2(d:a->b->Prop):a×b:=ep1 λc=>d c.1 c.2
def all2{c:a->b->Prop}(h:c (ep2 c).1 (ep2 c).2)(d:a)(f:b):c d f:=all1 (P:=λe:a×b=>c e.1 e.2) h (d,f)
noncomputable def ep3(e:a->b->c->Prop):a×b×c:=ep1 λd=>e d.1 d.2.1 d.2.2
def all3{d:a->b->c->Prop}(h:d (ep3 d).1 (ep3 d).2.1 (ep3 d).2.2)(f:a)(i:b)(g:c):d f i g:=all1 (P:=λe:a×b×c=>d e.1 e.2.1 e.2.2) h (f,i,g)
noncomputable def ep4(f:a->b->c->d->Prop):a×b×c×d:=ep1 λe=>f e.1 e.2.1 e.2.2.1 e.2.2.2
def all4{e:a->b->c->d->Prop}(h:e (ep4 e).1 (ep4 e).2.1 (ep4 e).2.2.1 (ep4 e).2.2.2)(i:a)(k:b)(j:c)(g:d):e i k j g:=all1 (P:=λf:a×b×c×d=>e f.1 f.2.1 f.2.2.1 f.2.2.2) h (i,k,j,g)
noncomputable def ep5(g:a->b->c->d->e->Prop):a×b×c×d×e:=ep1 λf=>g f.1 f.2.1 f.2.2.1 f.2.2.2.1 f.2.2.2.2
def all5{f:a->b->c->d->e->Prop}(h:f (ep5 f).1 (ep5 f).2.1 (ep5 f).2.2.1 (ep5 f).2.2.2.1 (ep5 f).2.2.2.2)(j:a)(l:b)(k:c)(i:d)(m:e):f j l k i m:=all1 (P:=λg:a×b×c×d×e=>f g.1 g.2.1 g.2.2.1 g.2.2.2.1 g.2.2.2.2) h (j,l,k,i,m)
noncomputable def ep6(h:a->b->c->d->e->f->Prop):a×b×c×d×e×f:=ep1 λg=>h g.1 g.2.1 g.2.2.1 g.2.2.2.1 g.2.2.2.2.1 g.2.2.2.2.2
def all6{g:a->b->c->d->e->f->Prop}(h:g (ep6 g).1 (ep6 g).2.1 (ep6 g).2.2.1 (ep6 g).2.2.2.1 (ep6 g).2.2.2.2.1 (ep6 g).2.2.2.2.2)(l:a)(o:b)(m:c)(k:d)(j:e)(n:f):g l o m k j n:=all1 (P:=λi:a×b×c×d×e×f=>g i.1 i.2.1 i.2.2.1 i.2.2.2.1 i.2.2.2.2.1 i.2.2.2.2.2) h (l,o,m,k,j,n)
noncomputable def ep7(i:a->b->c->d->e->f->g->Prop):a×b×c×d×e×f×g:=ep1 λh=>i h.1 h.2.1 h.2.2.1 h.2.2.2.1 h.2.2.2.2.1 h.2.2.2.2.2.1 h.2.2.2.2.2.2
def all7{i:a->b->c->d->e->f->g->Prop}(h:i (ep7 i).1 (ep7 i).2.1 (ep7 i).2.2.1 (ep7 i).2.2.2.1 (ep7 i).2.2.2.2.1 (ep7 i).2.2.2.2.2.1 (ep7 i).2.2.2.2.2.2)(k:a)(n:b)(l:c)(q:d)(o:e)(p:f)(m:g):i k n l q o p m:=all1 (P:=λj:a×b×c×d×e×f×g=>i j.1 j.2.1 j.2.2.1 j.2.2.2.1 j.2.2.2.2.1 j.2.2.2.2.2.1 j.2.2.2.2.2.2) h (k,n,l,q,o,p,m)
noncomputable def ep8(j:a->b->c->d->e->f->g->i->Prop):a×b×c×d×e×f×g×i:=ep1 λh=>j h.1 h.2.1 h.2.2.1 h.2.2.2.1 h.2.2.2.2.1 h.2.2.2.2.2.1 h.2.2.2.2.2.2.1 h.2.2.2.2.2.2.2
def all8{j:a->b->c->d->e->f->g->i->Prop}(h:j (ep8 j).1 (ep8 j).2.1 (ep8 j).2.2.1 (ep8 j).2.2.2.1 (ep8 j).2.2.2.2.1 (ep8 j).2.2.2.2.2.1 (ep8 j).2.2.2.2.2.2.1 (ep8 j).2.2.2.2.2.2.2)(l:a)(o:b)(m:c)(s:d)(p:e)(q:f)(n:g)(r:i):j l o m s p q n r:=all1 (P:=λk:a×b×c×d×e×f×g×i=>j k.1 k.2.1 k.2.2.1 k.2.2.2.1 k.2.2.2.2.1 k.2.2.2.2.2.1 k.2.2.2.2.2.2.1 k.2.2.2.2.2.2.2) h (l,o,m,s,p,q,n,r)
noncomputable def ep9(k:a->b->c->d->e->f->g->i->j->Prop):a×b×c×d×e×f×g×i×j:=ep1 λh=>k h.1 h.2.1 h.2.2.1 h.2.2.2.1 h.2.2.2.2.1 h.2.2.2.2.2.1 h.2.2.2.2.2.2.1 h.2.2.2.2.2.2.2.1 h.2.2.2.2.2.2.2.2
def all9{k:a->b->c->d->e->f->g->i->j->Prop}(h:k (ep9 k).1 (ep9 k).2.1 (ep9 k).2.2.1 (ep9 k).2.2.2.1 (ep9 k).2.2.2.2.1 (ep9 k).2.2.2.2.2.1 (ep9 k).2.2.2.2.2.2.1 (ep9 k).2.2.2.2.2.2.2.1 (ep9 k).2.2.2.2.2.2.2.2)(m:a)(p:b)(n:c)(u:d)(q:e)(r:f)(o:g)(t:i)(s:j):k m p n u q r o t s:=all1 (P:=λl:a×b×c×d×e×f×g×i×j=>k l.1 l.2.1 l.2.2.1 l.2.2.2.1 l.2.2.2.2.1 l.2.2.2.2.2.1 l.2.2.2.2.2.2.1 l.2.2.2.2.2.2.2.1 l.2.2.2.2.2.2.2.2) h (m,p,n,u,q,r,o,t,s)
noncomputable def ep10(k:a->b->c->d->e->f->g->i->j->l->Prop):a×b×c×d×e×f×g×i×j×l:=ep1 λh=>k h.1 h.2.1 h.2.2.1 h.2.2.2.1 h.2.2.2.2.1 h.2.2.2.2.2.1 h.2.2.2.2.2.2.1 h.2.2.2.2.2.2.2.1 h.2.2.2.2.2.2.2.2.1 h.2.2.2.2.2.2.2.2.2
def all10{k:a->b->c->d->e->f->g->i->j->l->Prop}(h:k (ep10 k).1 (ep10 k).2.1 (ep10 k).2.2.1 (ep10 k).2.2.2.1 (ep10 k).2.2.2.2.1 (ep10 k).2.2.2.2.2.1 (ep10 k).2.2.2.2.2.2.1 (ep10 k).2.2.2.2.2.2.2.1 (ep10 k).2.2.2.2.2.2.2.2.1 (ep10 k).2.2.2.2.2.2.2.2.2)(n:a)(r:b)(o:c)(w:d)(s:e)(t:f)(q:g)(v:i)(u:j)(p:l):k n r o w s t q v u p:=all1 (P:=λm:a×b×c×d×e×f×g×i×j×l=>k m.1 m.2.1 m.2.2.1 m.2.2.2.1 m.2.2.2.2.1 m.2.2.2.2.2.1 m.2.2.2.2.2.2.1 m.2.2.2.2.2.2.2.1 m.2.2.2.2.2.2.2.2.1 m.2.2.2.2.2.2.2.2.2) h (n,r,o,w,s,t,q,v,u,p)
noncomputable def ep11(k:a->b->c->d->e->f->g->i->j->l->m->Prop):a×b×c×d×e×f×g×i×j×l×m:=ep1 λh=>k h.1 h.2.1 h.2.2.1 h.2.2.2.1 h.2.2.2.2.1 h.2.2.2.2.2.1 h.2.2.2.2.2.2.1 h.2.2.2.2.2.2.2.1 h.2.2.2.2.2.2.2.2.1 h.2.2.2.2.2.2.2.2.2.1 h.2.2.2.2.2.2.2.2.2.2
def all11{k:a->b->c->d->e->f->g->i->j->l->m->Prop}(h:k (ep11 k).1 (ep11 k).2.1 (ep11 k).2.2.1 (ep11 k).2.2.2.1 (ep11 k).2.2.2.2.1 (ep11 k).2.2.2.2.2.1 (ep11 k).2.2.2.2.2.2.1 (ep11 k).2.2.2.2.2.2.2.1 (ep11 k).2.2.2.2.2.2.2.2.1 (ep11 k).2.2.2.2.2.2.2.2.2.1 (ep11 k).2.2.2.2.2.2.2.2.2.2)(o:a)(s:b)(p:c)(y:d)(t:e)(u:f)(r:g)(w:i)(v:j)(q:l)(x:m):k o s p y t u r w v q x:=all1 (P:=λn:a×b×c×d×e×f×g×i×j×l×m=>k n.1 n.2.1 n.2.2.1 n.2.2.2.1 n.2.2.2.2.1 n.2.2.2.2.2.1 n.2.2.2.2.2.2.1 n.2.2.2.2.2.2.2.1 n.2.2.2.2.2.2.2.2.1 n.2.2.2.2.2.2.2.2.2.1 n.2.2.2.2.2.2.2.2.2.2) h (o,s,p,y,t,u,r,w,v,q,x)
noncomputable def ep12(k:a->b->c->d->e->f->g->i->j->l->m->n->Prop):a×b×c×d×e×f×g×i×j×l×m×n:=ep1 λh=>k h.1 h.2.1 h.2.2.1 h.2.2.2.1 h.2.2.2.2.1 h.2.2.2.2.2.1 h.2.2.2.2.2.2.1 h.2.2.2.2.2.2.2.1 h.2.2.2.2.2.2.2.2.1 h.2.2.2.2.2.2.2.2.2.1 h.2.2.2.2.2.2.2.2.2.2.1 h.2.2.2.2.2.2.2.2.2.2.2
def all12{k:a->b->c->d->e->f->g->i->j->l->m->n->Prop}(h:k (ep12 k).1 (ep12 k).2.1 (ep12 k).2.2.1 (ep12 k).2.2.2.1 (ep12 k).2.2.2.2.1 (ep12 k).2.2.2.2.2.1 (ep12 k).2.2.2.2.2.2.1 (ep12 k).2.2.2.2.2.2.2.1 (ep12 k).2.2.2.2.2.2.2.2.1 (ep12 k).2.2.2.2.2.2.2.2.2.1 (ep12 k).2.2.2.2.2.2.2.2.2.2.1 (ep12 k).2.2.2.2.2.2.2.2.2.2.2)(p:a)(u:b)(q:c)(A:d)(v:e)(w:f)(t:g)(y:i)(x:j)(s:l)(z:m)(r:n):k p u q A v w t y x s z r:=all1 (P:=λo:a×b×c×d×e×f×g×i×j×l×m×n=>k o.1 o.2.1 o.2.2.1 o.2.2.2.1 o.2.2.2.2.1 o.2.2.2.2.2.1 o.2.2.2.2.2.2.1 o.2.2.2.2.2.2.2.1 o.2.2.2.2.2.2.2.2.1 o.2.2.2.2.2.2.2.2.2.1 o.2.2.2.2.2.2.2.2.2.2.1 o.2.2.2.2.2.2.2.2.2.2.2) h (p,u,q,A,v,w,t,y,x,s,z,r)
end
section
universe u v w x
variable {Z:Prop}{p:Sort u}{q:Sort v}{r:Sort w}{s:Sort x}
section
variable {A B C D E F G H I:Prop}
def e0a2(h:A/\B)(a:A->B->Z):Z:=a h.1 h.2
def e0a3(h:A/\B/\C)(a:A->B->C->Z):Z:=a h.1 h.2.1 h.2.2
def e0a4(h:A/\B/\C/\D)(a:A->B->C->D->Z):Z:=a h.1 h.2.1 h.2.2.1 h.2.2.2
def e0a5(h:A/\B/\C/\D/\E)(a:A->B->C->D->E->Z):Z:=a h.1 h.2.1 h.2.2.1 h.2.2.2.1 h.2.2.2.2
def e0a6(h:A/\B/\C/\D/\E/\F)(a:A->B->C->D->E->F->Z):Z:=a h.1 h.2.1 h.2.2.1 h.2.2.2.1 h.2.2.2.2.1 h.2.2.2.2.2
def e0a7(h:A/\B/\C/\D/\E/\F/\G)(a:A->B->C->D->E->F->G->Z):Z:=a h.1 h.2.1 h.2.2.1 h.2.2.2.1 h.2.2.2.2.1 h.2.2.2.2.2.1 h.2.2.2.2.2.2
def e0a8(h:A/\B/\C/\D/\E/\F/\G/\H)(a:A->B->C->D->E->F->G->H->Z):Z:=a h.1 h.2.1 h.2.2.1 h.2.2.2.1 h.2.2.2.2.1 h.2.2.2.2.2.1 h.2.2.2.2.2.2.1 h.2.2.2.2.2.2.2
end
section
variable {A B C D E F G H I:p->Prop}
def e1a1(h:∃a,A a)(b:∀a,A a->Z):Z:=h.elim b
def e1a2(h:∃a,A a/\B a)(b:∀a,A a->B a->Z):Z:=h.elim λa h=>e0a2 h (b a)
def e1a3(h:∃a,A a/\B a/\C a)(b:∀a,A a->B a->C a->Z):Z:=h.elim λa h=>e0a3 h (b a)
def e1a4(h:∃a,A a/\B a/\C a/\D a)(b:∀a,A a->B a->C a->D a->Z):Z:=h.elim λa h=>e0a4 h (b a)
def e1a5(h:∃a,A a/\B a/\C a/\D a/\E a)(b:∀a,A a->B a->C a->D a->E a->Z):Z:=h.elim λa h=>e0a5 h (b a)
def e1a6(h:∃a,A a/\B a/\C a/\D a/\E a/\F a)(b:∀a,A a->B a->C a->D a->E a->F a->Z):Z:=h.elim λa h=>e0a6 h (b a)
def e1a7(h:∃a,A a/\B a/\C a/\D a/\E a/\F a/\G a)(b:∀a,A a->B a->C a->D a->E a->F a->G a->Z):Z:=h.elim λa h=>e0a7 h (b a)
def e1a8(h:∃a,A a/\B a/\C a/\D a/\E a/\F a/\G a/\H a)(b:∀a,A a->B a->C a->D a->E a->F a->G a->H a->Z):Z:=h.elim λa h=>e0a8 h (b a)
end
section
variable {A B C D E F G H I:p->q->Prop}
def e2a1(h:∃a b,A a b)(c:∀a b,A a b->Z):Z:=h.elim λa h=>e1a1 h (c a)
def e2a2(h:∃a b,A a b/\B a b)(c:∀a b,A a b->B a b->Z):Z:=h.elim λa h=>e1a2 h (c a)
def e2a3(h:∃a b,A a b/\B a b/\C a b)(c:∀a b,A a b->B a b->C a b->Z):Z:=h.elim λa h=>e1a3 h (c a)
def e2a4(h:∃a b,A a b/\B a b/\C a b/\D a b)(c:∀a b,A a b->B a b->C a b->D a b->Z):Z:=h.elim λa h=>e1a4 h (c a)
def e2a5(h:∃a b,A a b/\B a b/\C a b/\D a b/\E a b)(c:∀a b,A a b->B a b->C a b->D a b->E a b->Z):Z:=h.elim λa h=>e1a5 h (c a)
def e2a6(h:∃a b,A a b/\B a b/\C a b/\D a b/\E a b/\F a b)(c:∀a b,A a b->B a b->C a b->D a b->E a b->F a b->Z):Z:=h.elim λa h=>e1a6 h (c a)
def e2a8(h:∃a b,A a b/\B a b/\C a b/\D a b/\E a b/\F a b/\G a b/\H a b)(c:∀a b,A a b->B a b->C a b->D a b->E a b->F a b->G a b->H a b->Z):Z:=h.elim λa h=>e1a8 h (c a)
end
section
variable {A B C D E F G H I:p->q->r->Prop}
def e3a1(h:∃a b c,A a b c)(d:∀a b c,A a b c->Z):Z:=h.elim λa h=>e2a1 h (d a)
def e3a2(h:∃a b c,A a b c/\B a b c)(d:∀a b c,A a b c->B a b c->Z):Z:=h.elim λa h=>e2a2 h (d a)
def e3a3(h:∃a b c,A a b c/\B a b c/\C a b c)(d:∀a b c,A a b c->B a b c->C a b c->Z):Z:=h.elim λa h=>e2a3 h (d a)
def e3a4(h:∃a b c,A a b c/\B a b c/\C a b c/\D a b c)(d:∀a b c,A a b c->B a b c->C a b c->D a b c->Z):Z:=h.elim λa h=>e2a4 h (d a)
def e3a8(h:∃a b c,A a b c/\B a b c/\C a b c/\D a b c/\E a b c/\F a b c/\G a b c/\H a b c)(d:∀a b c,A a b c->B a b c->C a b c->D a b c->E a b c->F a b c->G a b c->H a b c->Z):Z:=h.elim λa h=>e2a8 h (d a)
end
section
variable {A B C D E F G H:p->q->r->s->Prop}
def e4a1(h:∃a c d b,A a c d b)(e:∀a c d b,A a c d b->Z):Z:=h.elim λa h=>e3a1 h (e a)
def e4a2(h:∃a c d b,A a c d b/\B a c d b)(e:∀a c d b,A a c d b->B a c d b->Z):Z:=h.elim λa h=>e3a2 h (e a)
def e4a3(h:∃a c d b,A a c d b/\B a c d b/\C a c d b)(e:∀a c d b,A a c d b->B a c d b->C a c d b->Z):Z:=h.elim λa h=>e3a3 h (e a)
def e4a4(h:∃a c d b,A a c d b/\B a c d b/\C a c d b/\D a c d b)(e:∀a c d b,A a c d b->B a c d b->C a c d b->D a c d b->Z):Z:=h.elim λa h=>e3a4 h (e a)
def e4a8(h:∃a c d b,A a c d b/\B a c d b/\C a c d b/\D a c d b/\E a c d b/\F a c d b/\G a c d b/\H a c d b)(e:∀a c d b,A a c d b->B a c d b->C a c d b->D a c d b->E a c d b->F a c d b->G a c d b->H a c d b->Z):Z:=h.elim λa h=>e3a8 h (e a)
end
end
def minZ{a b:Nat}:min a 0<=b:=Nat.le_trans (Nat.min_le_right _ _) (Nat.zero_le _)
def lK{n a k:Nat}(h:n<=a)(b:Nat.ble a k=true):n<=k:=Nat.le_trans h (Nat.le_of_ble_eq_true b)
def lA{n a k j:Nat}(h:n<=a)(b:Nat.ble (a+j) k=true):n+j<=k:=Nat.le_trans (Nat.add_le_add_right h j) (Nat.le_of_ble_eq_true b)
def Dj{n i k:Nat}(h:n-i=k+1):n-(i+1)=k:=congrArg Nat.pred h
def HA{n i k:Nat}(h:n-i=k+1):i<n:=Nat.lt_of_sub_eq_succ h
def Ny{n i:Nat}(h:n-i=0)(hi:i<=n):i=n:=Nat.le_antisymm hi (Nat.le_of_sub_eq_zero h)
def Ul{n i:Nat}(h:i<n):n-(i+1)+1=n-i:=Nat.succ_pred (Nat.sub_ne_zero_of_lt h)
def Nz{i:Nat}(h:¬i=0):i-1+1=i:=Nat.succ_pred h
def NC{a b e d c:Nat}(h:c<=a+1)(f:b+1=e)(g:a+e<=d):c+b<=d:=Nat.le_trans (Nat.add_le_add_right h b) (Nat.le_trans (Nat.le_of_eq ((Nat.add_assoc a 1 b).trans (congrArg (a+·) ((Nat.add_comm 1 b).trans f)))) g)
def uM{u n a d k:Nat}(e:d<=400)(c:u+50*n+500<a)(b:Nat.ble k 100=true):u+k+d<a:=Nat.lt_of_le_of_lt (Nat.le_trans (Nat.le_of_eq (Nat.add_assoc u k d)) (Nat.add_le_add (Nat.le_add_right u (50*n)) (Nat.add_le_add (Nat.le_of_ble_eq_true b) e))) c
def ND{u n a k:Nat}(h:1<=n)(c:u+50*n+500<a)(b:Nat.ble k 50=true):u+k+50*(n-1)+500<a:=
 Nat.lt_of_le_of_lt (Nat.add_le_add_right (Nat.le_trans (Nat.le_of_eq (Nat.add_assoc u k _)) (Nat.add_le_add_left (Nat.le_trans (Nat.add_le_add_right (Nat.le_of_ble_eq_true b) _) (Nat.le_of_eq ((Nat.add_comm 50 _).trans ((Nat.mul_succ 50 (n-1)).symm.trans (congrArg (50*·) (Nat.sub_add_cancel h)))))) u)) 500) c
def NF{u n a:Nat}(h:1<=n)(b:u+n<a):u+1+(n-1)<a:=Nat.lt_of_le_of_lt (Nat.le_of_eq ((Nat.add_assoc u 1 _).trans (congrArg (u+·) (Nat.add_sub_of_le h)))) b
def AV{n a:Nat}(h:n<=a)(b:Nat.ble a 1000000=true):-1000000<=(n:Int)/\(n:Int)<=1000000:=⟨Int.le_trans (by decide) (Int.natCast_nonneg n),Int.ofNat_le.mpr (Nat.le_trans h (Nat.le_of_ble_eq_true b))⟩
def Um{a d b c k i n:Nat}(h:a+d<=b)(f:c<=a+k*i)(g:i<n)(e:Nat.ble (k*n) d=true):c+k<=b:=Nat.le_trans (Nat.add_le_add_right f k) (Nat.le_trans (Nat.le_of_eq (Nat.add_assoc a (k*i) k)) (Nat.le_trans (Nat.add_le_add_left (Nat.le_trans (Nat.mul_le_mul_left k g) (Nat.le_of_ble_eq_true e)) a) h))
def Dk{a d b c i n:Nat}(h:a+d<=b)(f:c<=a+i)(g:i<n)(e:Nat.ble n d=true):c+1<=b:=Nat.le_trans (Nat.succ_le_succ f) (Nat.le_trans (Nat.add_le_add_left (Nat.le_trans g (Nat.le_of_ble_eq_true e)) a) h)
def Dm{a:Int}{i n:Nat}(h:a<=n)(b:i<a.toNat):i<n:=Nat.lt_of_lt_of_le b (Int.toNat_le.mpr h)
def Un{a:Int}{n:Nat}(h:a<=n)(b:Nat.ble n 1000000=true):(a+1-1).toNat<=1000000:=(Int.add_sub_cancel a 1).symm▸Nat.le_trans (Int.toNat_le.mpr h) (Nat.le_of_ble_eq_true b)
def Uo{a c d:Int}(h1:a<=d)(h2:c<=a)(e:decide (-1000000<=c+1)=true)(b:decide (d+1<=1000000)=true):-1000000<=a+1/\a+1<=1000000:=⟨Int.le_trans (of_decide_eq_true e) (Int.add_le_add_right h2 1),Int.le_trans (Int.add_le_add_right h1 1) (of_decide_eq_true b)⟩
def wH{a b k:Nat}(h:a<=k)(c:b<=k):max a b<=k:=Nat.max_le.2 ⟨h,c⟩
def mz{a k:Nat}(h:a<=k):max 0 a<=k:=wH (Nat.zero_le _) h
def zm{a k:Nat}(h:a<=k):max a 0<=k:=wH h (Nat.zero_le _)
def nz{n:Nat}(h:0<n):¬(n:Int)=0:=λa=>Nat.ne_of_gt h (Int.ofNat.inj a)
@[elab_as_elim] theorem rwm {a:Sort u} {c b:a} {d:a->Prop} (h:c=b) (e:d b):d c:=h▸e
@[elab_as_elim] theorem rwl {a:Sort u} {c b:a} {d:a->Prop} (h:b=c) (e:d b):d c:=h▸e
def nsn{a:Type u}{b:a}(h:some b=none):False:=nomatch h
def qz{n:Nat}{a:Prop}(h:0=n+1):a:=Nat.noConfusion h
def Dp{a:Prop}(h:1=2):a:=qz (Nat.succ.inj h)
def yz{a:Prop}(h:2=1):a:=Dp h.symm
def oO{a:Prop}(h:false=true):a:=Bool.noConfusion h
def s9{a:Prop}(h:true=false):a:=Bool.noConfusion h
def gS{a:Type u}{b:a}{c:Prop}(h:b∈([]:List a)):c:=absurd h List.not_mem_nil
def J:=@rfl
theorem Uq(h:True:=by rfl):True:=h
def aI:Lean.Syntax:=Uq._auto_1
theorem Ur(h:True:=by intro _;rfl):True:=h
def lH:Lean.Syntax:=Ur._auto_1
def eZ:=@of_decide_eq_true
def az:=@if_pos
def aB:=@if_neg
def aV:=@absurd
def aR:=@congrArg
section Sx
set_option compiler.extract_closed false
set_option compiler.reuse false
def rp(n:Nat)(f:Nat→String):=String.join ((List.range n).map f)
def en(b:Bool)(a:List Lean.Syntax)(s:String):Lean.MacroM Lean.Syntax:=
 let r x y(s:String):=String.intercalate y (s.splitOn x)
 if b then pure (Lean.mkNullNode (((r "&" "Lean.Parser.Term." (r "^" "Lean.Parser.Tactic." (r "#" "? _ &syntheticHole 2" (r "~" "null 1 ^tacticSeq1Indented 1 ^tacticSeq 1" (r "*" "by decide + kernel % ^posConfigItem 2 ^configItem 1 null 1 ^optConfig 1 ^decide 2 ~ &byTactic 2" (r "{" " null 1 &app 2" (r "!" " ^exact 2 null 2 | exact " s))))))).splitOn " ").foldl (fun k w=>
  let h:=k.headD .missing
  let t:=k.tail
  match w.toNat? with
  |some n=>if n<50 then .cons (.node .none h.getAtomVal.toName (t.take n).reverse.toArray) (t.drop n) else .cons a[n-50]! k
  |none=>if w="%" then .cons (Lean.mkIdent h.getAtomVal.toName) t else if w="$" then .cons h[1] t else .cons (.atom .none w) k) []).reverse.toArray) else Lean.Macro.throwUnsupported
local macro_rules (kind:=Lean.Parser.Command.declaration)
 |x=>en x.getPos?.isSome [x.rewriteBottomUp (·.setInfo .none)] "50"
local macro_rules (kind:=Lean.Parser.Tactic.tacticLet__)
 |x=>
  let d:=x[2][0]
  let p:=d[0][1].getSepArgs
  let n:=p.size
  en (d[0].isOfKind `Lean.Parser.Term.anonymousCtor) [d[4],Lean.mkNullNode p] ("first"++rp n (fun k=>s!" | refine e{k}a{n-k} % 50 fun 51 null 0 => # &basicFun 4 &fun 2 null 2 &app 2 ^refine 2 null 2")++s!" null {n} ^first 2 first | clear 50 null 1 ^clear 2 null 2 | skip ^skip 1 null 2 null 2 ^first 2 repeat subst zy % null 1 ^subst 2 ~ ^tacticRepeat_ 2")
local macro_rules (kind:=Lean.Parser.Tactic.intros)
 |x=>
  let x:=x[1].getArgs
  let k:=x.findIdx (!·.isIdent)
  let y:=x.drop (k+1)
  let h s:=if y.isEmpty then "" else s
  let r n s:=rp n fun _=>s
  let g i a b:=" generalize null 0 "++a++r i "Prod.snd % "++s!"@ ep{k} % &explicit 2 .. &ellipsis 1\{"++r i "{"++b++s!" = {i+52} ^generalizeArg 4 null 1 null 0 ^generalize 3"
  en (0<k) (Lean.mkNullNode y::Lean.mkNullNode (x.take k)::x.toList) (h "revert 50 ^revert 2 "++s!"revert 51 ^revert 2 refine no_implicit_lambda% all{k} % #\{ &noImplicitLambda 2 ^refine 2"++rp (k-1) (g · "Prod.fst % " "{")++g (k-1) "" ""++h " intro 50 ^intro 2")
local macro_rules (kind:=Lean.Parser.Tactic.rwSeq)
 |x=>
  let r:=x[2][1].getSepArgs
  en x[3].isNone r.toList (rp r.size (fun i=>s!"first | refine {if r[i]![0].isNone then "rwm" else "rwl"} % {i+50} $ .. &ellipsis 1\{ # null 2 &app 2 ^refine 2 null 2 | rewrite null 0 ^optConfig 1 [ {i+50} null 1 ] ^rwRuleSeq 3 null 0 ^rewriteSeq 4 null 2 null 2 ^first 2 ")++"first | with_reducible rfl ^tacticRfl 1 ~ ^withReducible 2 null 2 | skip ^skip 1 null 2 null 2 ^first 2")
local macro_rules (kind:=Lean.Parser.Tactic.show)
 |x=>en true [x[1]] "refine (  % hygieneInfo 1 &hygienicLParen 2 # : 50 null 1 ) &typeAscription 5 ^refine 2"
local macro_rules (kind:=Lean.Parser.Tactic.cases)
 |x=>
  let h:=x[1][0][1]
  en (h.isIdent&&x[3].isNone) [h] "first | exact Bool.noConfusion % 50{!False.elim % nsn % 50{{!False.elim % nsn % Eq.symm % 50{{{ ^exact 2 null 2 | have null 0 &letConfig 1 zy % &letId 1 null 0 null 0 := Option.some.inj % 50{ &letIdDecl 5 &letDecl 1 ^tacticHave__ 3 clear 50 null 1 ^clear 2 subst zy % null 1 ^subst 2 null 3 null 2 | cases null 0 (  % hygieneInfo 1 &hygienicLParen 2 50 ) &paren 3 ^elimTarget 2 null 1 null 0 null 0 ^cases 4 null 2 null 5 ^first 2"
local macro_rules (kind:=Lean.Parser.Tactic.obtain)
 |x=>en x[2].isNone [x[1],x[3]] "refine Classical.byContradiction % fun nG % null 1 null 0 => # &basicFun 4 &fun 2{ ^refine 2 obtain 50 : _ &hole 1 null 2 51 ^obtain 4 refine nG % #{ ^refine 2 clear nG % null 1 ^clear 2"
local macro_rules (kind:=Lean.Parser.Tactic.tacticErw___)
 |x=>en true [x[2][1][0][1]] "exact 50 ^exact 2"
local macro_rules (kind:=«term∅»)
 |x=>return (←en true [] "by decide null 0 ^optConfig 1 ^decide 2 ~ &byTactic 2")[0]
local macro_rules (kind:=PySem.W.tacticO_law)
 |x=>en true [] "refine holds_law % * fun said % null 1 null 0 => # &basicFun 4 &fun 2 null 2 &app 2 ^refine 2"
local macro_rules (kind:=PySem.W.tacticO_head_)
 |x=>en true [x[1],Lean.Syntax.mkNumLit "2000"] "refine holds_open % ( q % := viewP % ) &namedArgument 5 ( loose % := [ null 0 ] «term[_]» 3 ) &namedArgument 5 ( Xt % := xT % ) &namedArgument 5 ( XP % := xP % ) &namedArgument 5 ( Yf % := Hook.obs % 50{ ) &namedArgument 5 ( Ya % := Hook.val % 50{ ) &namedArgument 5 ( YP % := Hook.says % 50{ ) &namedArgument 5 ( N % := 51 ) &namedArgument 5 ? hl % &syntheticHole 2 Hook.of % 50{ Hook.keeps % 50{ xT2 % xTk % rfl % rfl % rfl % xT1 % rfl % by first | assumption ^assumption 1 null 2 | decide + kernel % ^posConfigItem 2 ^configItem 1 null 1 ^optConfig 1 ^decide 2 null 2 null 2 ^first 2 ~ &byTactic 2 * ⟨ rfl % , rfl % , rfl % , rfl % , rfl % , * null 11 ⟩ &anonymousCtor 3 ? hw % &syntheticHole 2 ? hc % &syntheticHole 2 null 23 &app 2 ^refine 2 case hl % Lean.binderIdent 1 null 0 ^caseArg 2 null 1 => exact fun w % null 1 null 0 => by kernel_rfl tacticKernel_rfl 1 ~ &byTactic 2 &basicFun 4 &fun 2 ^exact 2 ~ ^case 4"
instance:Nonempty PySem.Drawn:=⟨{}⟩
noncomputable def cO{a:Type}(b:Nat->Nat->Bool):rN a->a
 |.ret e=>e
 |.ask f c d=>cO b (d (b f c))
theorem yC{d g:Type}(b:Nat->Nat->Bool)(c:d->rN g):∀a:rN d,cO b (a.bind c)=cO b (c (cO b a))
 |.ret i=>rfl
 |.ask h e f=>yC b c (f (b h e))
def HB{a:Type}(n:Nat):rN a->Prop
 |.ret _=>True
 |.ask d b c=>d<n/\b<n/\∀e,HB n (c e)
theorem NG{j:Type}{n:Nat}{lt:Nat->Nat->Bool}{e:Nat->Nat->(Bool->Shared->Prop)->Shared->Prop}{d:Shared}(g:∀i b (C:Bool->Shared->Prop),i<n->b<n->C (lt i b) d->e i b C d){f:j->Shared->Prop}:∀c:rN j,HB n c->f (cO lt c) d->c.kasWp e f d
 |.ret a,_,h=>h
 |.ask i b k,hi,h=>g i b _ hi.1 hi.2.1 (NG g (k (lt i b)) (hi.2.2 _) h)
def ja{a:Type}(n:Nat)(b:a->Prop):rN a->Prop
 |.ret e=>b e
 |.ask f c d=>f<n/\c<n/\∀g,ja n b (d g)
theorem ja.jB{c:Type}{n:Nat}{d:c->Prop}:∀{b:rN c},ja n d b->HB n b
 |.ret a,_=>trivial
 |.ask i j k,h=>⟨h.1,h.2.1,λe=>(h.2.2 e).jB⟩
theorem ja.bind{c g:Type}{n:Nat}{d:c->Prop}{H:g->Prop}{f:c->rN g}(e:∀a,d a->ja n H (f a)):∀{b:rN c},ja n d b->ja n H (b.bind f)
 |.ret a,h=>e a h
 |.ask i j k,h=>⟨h.1,h.2.1,λl=>(h.2.2 l).bind e⟩
def Rg(n:Nat)(a:Array Nat):Prop:=a.Perm (vY (eT n))
theorem Rg.size(h:Rg n a):a.size=n:=by have:=h.size_eq;simpa using this
def Rg.lt{n:Nat}{a:Array Nat}(h:Rg n a)(d:0<n)(i:Nat):a.getD i 0<n:=by
 by_cases b:i<a.size
 .have c:a.getD i 0=a[i]:=by simp[AK,b]
  rw[c];have:a[i]∈vY (eT n):=h.mem_iff.mp (Array.getElem_mem b)
  simpa using this
 simp[AK,b];exact d
def Rg.rev(h:Rg n a)(i b:Nat):Rg n (lF a i b):=(mirror_perm _ _ _ _).trans h
theorem Rg.bubble(h:Rg n a)(i b:Nat):Rg n (bubble a i b):=(bubble_perm _ _ _).trans h
section
variable {n:Nat}(hn:0<n)
include hn
theorem NH(h:Rg n c):∀(b a:Nat),ja n (λz=>True) (rO c b a):=by
 intro e
 induction e with
 |zero=>
  intro a;exact trivial
 |succ b d=>
  intro a;exact⟨h.lt hn _,h.lt hn _,λf=>by
  cases f
  .exact d (a+1)
  trivial⟩
theorem Us:∀(d:Nat) (b:Array Nat) (c a:Nat),Rg n b->ja n (λe:Array Nat×Nat×Nat=>Rg n e.1) (i8 d b c a):=by
 intro i
 induction i with
 |zero=>
  intro b c a f;exact f
 |succ d g=>
  intro b c a f;exact⟨f.lt hn _,f.lt hn _,λh=>by
  cases h with
  |true=>
   show ja n _ (if a>0 then _ else _);split
   .exact g _ _ _ (f.rev _ _)
   exact g _ _ _ f
  |false=>exact⟨f.lt hn _,f.lt hn _,λh=>by
   cases h
   .exact g _ _ _ f
   exact f⟩⟩
theorem NI{c:Array Nat}(h:Rg n c)(b e:Nat):ja n (λa:Nat×Array Nat=>Rg n a.2) (yu b e c):=
 (NH hn (h.rev 0 b) _ _).bind (H:=λa:Nat×Array Nat=>Rg n a.2) (f:=λd=>.ret (d,lF c 0 b)) λz z=>h.rev 0 b
theorem NJ{b:Array Nat}(h:Rg n b)(e d:Nat):ja n (λa:Nat×Array Nat=>Rg n a.2) (uF e d b):=
 (Us hn _ b _ _ h).bind λa c=>by
  show ja n _ (if a.2.2>0 then _ else _);split
  .exact NI hn (c.rev _ _) _ _
  exact NI hn c _ _
theorem NK{p:Array Nat}(h:Rg n p)(b:Nat):ja n (λa:Nat×Array Nat=>Rg n a.2) (wB b p):=
 (NH hn h _ _).bind λc z=>by
  show ja n _ (if(c==b)=af then _ else if c>1 then _ else _);split
  .exact h
  split
  .exact⟨h.lt hn _,h.lt hn _,λd=>by
    cases d
    .exact NJ hn (h.rev _ _) _ _
    exact h⟩
  exact NJ hn h _ _
theorem Ut(h:Rg n d)(k:Nat):∀(c a b:Nat),ja n (λz=>True) (qh d k c a b):=by
 intro f
 induction f with
 |zero=>
  intro a b;exact trivial
 |succ c e=>
  intro a b;unfold qh;split
  .trivial
  exact⟨h.lt hn _,h.lt hn _,λg=>by
   cases g
   .exact e _ _
   exact e _ _⟩
theorem Uu:∀(b:Nat) (a:Array Nat) (k:Nat),Rg n a->ja n (Rg n) (kas_bin b a k):=by
 intro e
 induction e with
 |zero=>
  intro a k c;exact c
 |succ b d=>
  intro a k c;exact(Ut hn c k _ _ _).bind λf z=>d _ _ (c.bubble _ _)
theorem NL:ja n (Rg n) (CZ n):=
 (NK hn (p:=vY (eT n)) (Ng _) n).bind λb a=>by
  show ja n _ (if b.1<n then _ else _);split
  .exact Uu hn _ _ _ a
  exact a
end
theorem ja.ev{d:Type}{n:Nat}{e:d->Prop}(c:Nat->Nat->Bool):∀{b:rN d},ja n e b->e (cO c b)
 |.ret a,h=>h
 |.ask i j k,h=>(h.2.2 (c i j)).ev c
section
variable (key:Nat->Int)
noncomputable def kv(a:Array Nat)(i:Nat):Int:=key (a.getD i 0)
noncomputable def cA(i a:Nat):Bool:=decide (key i<key a)
theorem AW(h:c[i]?=b[a]?):kv key c i=kv key b a:=by
 unfold kv;simp only[Array.getD_eq_getD_getElem?];rw[h]
theorem NN(hj:a<=b.size)(k:Nat):kv key (lF b i a) k=if i<=k/\k<a then kv key b (i+a-1-k) else kv key b k:=by
 have c:=getElem?_mirror_all (i:=i) hj k;unfold lF
 by_cases d:i<=k/\k<a
 .rw[az d] at c⊢;exact AW key c
 rw[aB d] at c⊢;exact AW key c
theorem NO(c:m<=a.size)(b:k<m):kv key (lF a 0 m) k=kv key a (m-1-k):=(NN key c k).trans ((az ⟨cL _,b⟩).trans (aR (λd=>kv key a (d-1-k)) (rB m)))
theorem yE(h:i<a):a-1<a:=KR (eK (cL _) h) KS
theorem HC(hj:b<=a.size)(d:∀k,i<=k->k<b->kv key a k=kv key a (b-1))(k:Nat):kv key (lF a i b) k=kv key a k:=by
 rw[NN key hj];split
 .rename_i c;exact(d _ (kJ (kJ (gc c.2 i))) (eK (aj (FN c.1 _) (cj ((Nat.sub_right_comm (i+b) 1 i).trans (aR (·-1) (KU ..))))) (yE c.2))).trans (d k c.1 c.2).symm
 rfl
theorem NP(hs:a<b.size)(g:d<=a)(k:Nat):kv key (bubble b a d) k=if k=a-d then kv key b a else if a-d<k/\k<=a then kv key b (k-1) else kv key b k:=by
 have c:=getElem?_bubble hs d g k
 by_cases f:k=a-d
 .rw[az f] at c⊢;exact AW key c
 rw[aB f] at c⊢
 by_cases e:a-d<k/\k<=a
 .rw[az e] at c⊢;exact AW key c
 rw[aB e] at c⊢;exact AW key c
def Up(b:Array Nat)(d:Nat):Prop:=∀c a,c<=a->a<d->kv key b c<=kv key b a
def Dn(b:Array Nat)(d:Nat):Prop:=∀c a,c<=a->a<d->kv key b a<=kv key b c
theorem Up.more(h:Up key b a)(h1:1<=a)(i:kv key b (a-1)<=kv key b a):Up key b (a+1):=λd g f j=>
 (sP (lu j)).elim (h d g f) λe=>e▸(sP (e▸f:d<=a)).elim (λc=>dN (h d (a-1) (vO c) (yE h1)) i) λc=>c▸lE _
theorem Dn.more(h:Dn key b a)(h1:1<=a)(i:kv key b a<=kv key b (a-1)):Dn key b (a+1):=λd g f j=>
 (sP (lu j)).elim (h d g f) λe=>e▸(sP (e▸f:d<=a)).elim (λc=>dN i (h d (a-1) (vO c) (yE h1))) λc=>c▸lE _
theorem Dn.eqv(h:Dn key a m)(c:∀k,kv key b k=kv key a k):Dn key b m:=λe d f g=>(c d).symm▸(c e).symm▸h e d f g
theorem NQ(c:Array Nat):∀(b a:Nat),1<=a->Up key c a->a<=cO (cA key) (rO c b a)/\cO (cA key) (rO c b a)<=a+b/\Up key c (cO (cA key) (rO c b a))/\
 (cO (cA key) (rO c b a)<a+b->kv key c (cO (cA key) (rO c b a))<kv key c (cO (cA key) (rO c b a)-1)):=by
 intro k
 induction k with
 |zero=>
  intro a h g;exact⟨cB _,cB _,g,λd=>aV d (z9 _)⟩
 |succ b i=>
  intro a h g;have e:cO (cA key) (rO c (b+1) a)=cO (cA key) (if cA key (c.getD a 0) (c.getD (a-1) 0)=af then .ret a else rO c b (a+1)):=rfl;rw[e]
  by_cases f:cA key (c.getD a 0) (c.getD (a-1) 0)=af
  .rw[az f];exact⟨cB _,fz _ _,g,λz=>eZ f⟩
  rw[aB f]
  have j:kv key c (a-1)<=kv key c a:=by
   have:¬key (c.getD a 0)<key (c.getD (a-1) 0):=λd=>f (decide_eq_true d)
   exact iI.mp this
  let ⟨n,o,m,l⟩:=i (a+1) (jK 1 a) (g.more key h j);have e:a+1+b=a+(b+1):=Aa a 1 b;exact⟨aj (jw a) n,e▸o,m,λd=>l (e▸d)⟩
theorem Uv:∀(d:Nat) (b:Array Nat) (a c:Nat),c+1<=a->a+d<=b.size->Dn key b a->(∀e,a-(c+1)<=e->e<a->kv key b e=kv key b (a-1))->
 (cO (cA key) (i8 d b a c)).1.size=b.size/\a<=(cO (cA key) (i8 d b a c)).2.1/\(cO (cA key) (i8 d b a c)).2.1<=a+d/\Dn key (cO (cA key) (i8 d b a c)).1 (cO (cA key) (i8 d b a c)).2.1/\
 (cO (cA key) (i8 d b a c)).2.2+1<=(cO (cA key) (i8 d b a c)).2.1/\∀e,(cO (cA key) (i8 d b a c)).2.1-((cO (cA key) (i8 d b a c)).2.2+1)<=e->e<(cO (cA key) (i8 d b a c)).2.1->kv key (cO (cA key) (i8 d b a c)).1 e=kv key (cO (cA key) (i8 d b a c)).1 ((cO (cA key) (i8 d b a c)).2.1-1):=by
 intro K
 induction K with
 |zero=>
  intro b a c j E h i;exact⟨rfl,cB _,cB _,h,j,i⟩
 |succ d z=>
  intro b a c j E h i
  have I:cO (cA key) (i8 (d+1) b a c)=cO (cA key) (if cA key (b.getD a 0) (b.getD (a-1) 0)=af then(if c>0 then i8 d (lF b (a-(c+1)) a) (a+1) 0 else i8 d b (a+1) 0)
   else .ask (b.getD (a-1) 0) (b.getD a 0) λf=>if f=af then .ret (b,a,c) else i8 d b (a+1) (c+1)):=rfl
  rw[I];have x:1<=a:=aj (jK 1 c) j;have q:a+1+d<=b.size:=(Aa a 1 d).symm▸E;have w:∀{l:Nat},a+1<=l->a<=l:=λg=>aj (jw a) g
  have A:∀{l:Nat},l<=a+1+d->l<=a+(d+1):=λg=>(Aa a 1 d)▸g
  have C:∀t:Array Nat,∀e,a+1-(0+1)<=e->e<a+1->kv key t e=kv key t (a+1-1):=λt e y r=>aR (kv key t) (mW (lu r) y)
  by_cases s:cA key (b.getD a 0) (b.getD (a-1) 0)=af
  .rw[az s];have F:kv key b a<=kv key b (a-1):=iJ (eZ s)
   by_cases B:c>0
   .rw[az B];have D:(lF b (a-(c+1)) a).size=b.size:=G9 _ _ _ _;let ⟨k,o,n,f,p,m⟩:=z (lF b (a-(c+1)) a) (a+1) 0 (jK 1 a) (by rw[D];exact q) ((h.more key x F).eqv key (HC key (aj (aj (fz a 1) (fz _ d)) q) i)) (C _);exact⟨k.trans D,w o,A n,f,p,m⟩
   rw[aB B];let ⟨k,o,n,f,p,m⟩:=z b (a+1) 0 (jK 1 a) q (h.more key x F) (C _);exact⟨k,w o,A n,f,p,m⟩
  rw[aB s];have J:cO (cA key) (.ask (b.getD (a-1) 0) (b.getD a 0) λf=>if f=af then Dd (b,a,c) else i8 d b (a+1) (c+1))=cO (cA key) (if cA key (b.getD (a-1) 0) (b.getD a 0)=af then Dd (b,a,c) else i8 d b (a+1) (c+1)):=rfl;rw[J];have y:kv key b (a-1)<=kv key b a:=iI.mp λg=>s (decide_eq_true g)
  by_cases u:cA key (b.getD (a-1) 0) (b.getD a 0)=af
  .rw[az u];exact⟨rfl,cB _,fz _ _,h,j,i⟩
  rw[aB u];have r:kv key b a<=kv key b (a-1):=iI.mp λg=>u (decide_eq_true g)
  let ⟨k,o,n,f,p,m⟩:=z b (a+1) (c+1) (fG j) q (h.more key x r) (λe G H=>(sP (lu H)).elim (λv=>(i e (Nat.add_sub_add_right a 1 (c+1)▸G) v).trans (sY y r)) λv=>aR (kv key b) v);exact⟨k,w o,A n,f,p,m⟩
theorem NR(h1:1<=a)(e:a<=c)(hz:c<=b.size)(h:Dn key b a):1<=(cO (cA key) (yu a c b)).1/\(cO (cA key) (yu a c b)).1<=c/\Up key (cO (cA key) (yu a c b)).2 (cO (cA key) (yu a c b)).1:=by
 unfold yu;rw[yC];have f:=aj e hz
 have j:Up key (lF b 0 a) a:=λn o g d=>by
  rw[NO key f (eK g d),NO key f d];exact h _ _ (FN g _) (eK (vP _ _) (yE h1))
 let ⟨l,m,k,i⟩:=NQ key (lF b 0 a) (c-a) a h1 j;clear i;exact⟨aj h1 l,aj m (cj (Co e)),k⟩
theorem NT{c:Array Nat}{a b:Nat}(h1:1<=a)(k:a+1<=b)(hz:b<=c.size)(i:Dn key c (a+1)):1<=(cO (cA key) (uF a b c)).1/\(cO (cA key) (uF a b c)).1<=b/\Up key (cO (cA key) (uF a b c)).2 (cO (cA key) (uF a b c)).1:=by
 intros key c a b _ h1 k hz i;unfold uF;rw[yC];have en:a+1+(b-(a+1))=b:=Co k;let ⟨f,m,e,g,p,j⟩:=Uv key (b-(a+1)) c (a+1) 0 (jK 1 a) (en.symm▸hz) i (λq h1 n=>aR (kv key c) (mW (lu n) h1));rw[en] at e;generalize cO (cA key) (i8 (b-(a+1)) c (a+1) 0)=d at f m e g p j;have o:d.2.1<=d.1.size:=f.symm▸aj e hz;have l:=aj (jK 1 a) m
 by_cases h:d.2.2>0
 .rw[az h];exact NR key l e (by rw[show(lF d.1 (d.2.1-(d.2.2+1)) d.2.1).size=d.1.size from G9 _ _ _ _,f];exact hz) (g.eqv key (HC key o j))
 rw[aB h];exact NR key l e (f.symm▸hz) g
theorem Uw{p:Array Nat}{b:Nat}(h1:1<=b)(hz:b<=p.size):1<=(cO (cA key) (wB b p)).1/\(cO (cA key) (wB b p)).1<=b/\Up key (cO (cA key) (wB b p)).2 (cO (cA key) (wB b p)).1:=by
 intros key p b _ h1 hz;unfold wB;rw[yC]
 have u:Up key p 1:=λd j i g=>by
  have:d=j:=mW i (aj (lu g) (cL d));subst this;exact lE _
 let ⟨c,h,e,l⟩:=NQ key p (b-1) 1 (cB _) u;rw[Co h1] at h l;generalize cO (cA key) (rO p (b-1) 1)=a at c h e l
 by_cases q:(a==b)=af
 .rw[az q];exact⟨c,h,e⟩
 rw[aB q];have n:a<b:=Ab h λm=>q (beq_iff_eq.mpr m)
 have t:=l n;have mz:a<=p.size:=aj h hz
 by_cases r:a>1
 .rw[az r];have v:cO (cA key) (.ask (p.getD 0 0) (p.getD (a-1) 0) λe=>if e=af then Dd (a,p) else uF a b (lF p 0 a))=cO (cA key) (if cA key (p.getD 0 0) (p.getD (a-1) 0)=af then Dd (a,p) else uF a b (lF p 0 a)):=rfl;rw[v]
  by_cases o:cA key (p.getD 0 0) (p.getD (a-1) 0)=af
  .rw[az o];exact⟨c,h,e⟩
  rw[aB o];have x:kv key p (a-1)<=kv key p 0:=iI.mp λm=>o (decide_eq_true m)
  have k:∀f,0<=f->f<a->kv key p f=kv key p (a-1):=λf z s=>sY (e f (a-1) (vO s) (yE s)) (dN x (e 0 f (cL _) s))
  have dn:Dn key p a:=λd j i g=>(k j (cL _) g).trans (k d (cL _) (eK i g)).symm▸lE _
  exact NT key c n (by rw[show(lF p 0 a).size=p.size from G9 _ _ _ _];exact hz) ((dn.more key c (iJ t)).eqv key (HC key mz k))
 rw[aB r];have w:a=1:=mW (gO.mp r) c;subst w;exact NT key c n hz (Dn.more key (λd j i g=>by
  have:d=j:=mW i (aj (lu g) (cL d));subst this;exact lE _) c (iJ t))
theorem Ux(h:a<b):a<=(a+b)/2:=(KV FO).mpr ((Nat.mul_two a).symm▸gc (gf h) a)
theorem Uy(h:b<a):(b+a)/2<a:=Nat.div_lt_of_lt_mul ((Nat.two_mul a).symm▸Nat.add_lt_add_right h a)
theorem Uz(t:Up key c k):∀(d b a:Nat),b<=a->a<=k->a-b<=d->(∀i,i<b->kv key c i<=kv key c k)->(∀i,a<=i->i<k->kv key c k<kv key c i)->
 cO (cA key) (qh c k d b a)<=k/\(∀i,i<cO (cA key) (qh c k d b a)->kv key c i<=kv key c k)/\(∀i,cO (cA key) (qh c k d b a)<=i->i<k->kv key c k<kv key c i):=by
 intro v
 induction v with
 |zero=>
  intro b a p e j o l;have:b=a:=mW p (Nat.sub_eq_zero_iff_le.mp (FP.mp j));subst this;exact⟨e,o,l⟩
 |succ d r=>
  intro b a p e j o l;unfold qh
  by_cases g:b>=a
  .rw[az g];have:b=a:=mW p g;subst this;exact⟨e,o,l⟩
  rw[aB g];have s:=Nat.lt_of_not_ge g;have h:=Ux s;have f:=Uy s;have u:cO (cA key) (.ask (c.getD k 0) (c.getD ((b+a)/2) 0) λx=>if x=af then qh c k d b ((b+a)/2) else qh c k d ((b+a)/2+1) a)=cO (cA key) (if cA key (c.getD k 0) (c.getD ((b+a)/2) 0)=af then qh c k d b ((b+a)/2) else qh c k d ((b+a)/2+1) a):=rfl;rw[u];generalize(b+a)/2=n at h f
  by_cases m:cA key (c.getD k 0) (c.getD n 0)=af
  .rw[az m];exact r b n h (aj (gf f) e) (lu (jL (Nat.sub_lt_sub_right h f) j)) o λi q y=>rL (eZ m) (t _ _ q y)
  rw[aB m];exact r (n+1) a f e (aj (FN (fG h) a) (show a-b-1<=d from Nat.sub_le_of_le_add j)) (λi q=>dN (t i n (lu q) (jL f e)) (iI.mp λw=>m (decide_eq_true w))) l
theorem UA{b:Array Nat}{k a:Nat}(p:k<b.size)(l:Up key b k)(h1:a<=k)(h2:∀i,i<a->kv key b i<=kv key b k)(r:∀i,a<=i->i<k->kv key b k<kv key b i):Up key (bubble b k (k-a)) (k+1):=by
 intros key b k a _ p l h1 h2 r;exact λi c h t=>by
  have g:=lu t;have o:a<c->c-1<k:=λs=>jL (yE s) g
  rw[NP key p (vP _ _),NP key p (vP _ _),Nat.sub_sub_self h1]
  by_cases m:i=a
  .rw[az m]
   by_cases d:c=a
   .rw[az d];exact lE _
   have e:a<c:=Ab (m▸h) (cS d);rw[aB d,az ⟨e,g⟩];exact iJ (r (c-1) (vO e) (o e))
  rw[aB m]
  by_cases j:a<i/\i<=k
  .have e:=jL j.1 h;rw[az j,aB (pR e),az ⟨e,g⟩];exact l _ _ (Nat.sub_le_sub_right h 1) (o e)
  have q:i<a:=Ab (gO.mp λn=>j ⟨n,aj h g⟩) m;rw[aB j]
  by_cases d:c=a
  .rw[az d];exact h2 i q
  rw[aB d]
  by_cases f:a<c/\c<=k
  .rw[az f];exact l _ _ (vO (Ac q f.1)) (o f.1)
  rw[aB f];exact l _ _ h (jL (Ab (gO.mp λn=>f ⟨n,g⟩) d) h1)
theorem UB:∀(a:Nat) (b:Array Nat) (k:Nat),k+a<=b.size->Up key b k->Up key (cO (cA key) (kas_bin a b k)) (k+a):=by
 intro l
 induction l with
 |zero=>
  intro b k _ d;exact d
 |succ a h=>
  intro b k f d;unfold kas_bin;rw[yC];let ⟨e,c,g⟩:=Uz key d k 0 k (cL _) (cB _) (vP _ _) (λj n=>aV n (FQ _)) (λj e c=>aV c (gO.mpr e));generalize cO (cA key) (qh b k k 0 k)=m at e c g;have i:k+1+a=k+(a+1):=Aa k 1 a;rw[<-i] at f⊢;exact h (bubble b k (k-m)) (k+1) (by rw[bubble_size];exact f) (UA key (jL (l7 k) (aj (fz _ a) f)) d e c g)
theorem UC{n:Nat}(b:1<=n):Up key (cO (cA key) (CZ n)) n:=by
 intros key n _ b;unfold CZ;rw[yC];let ⟨g,e,d⟩:=Uw key (p:=vY (eT n)) b (by simp);have f:=(NK (n:=n) b (p:=vY (eT n)) (Ng _) n).ev (cA key);generalize cO (cA key) (wB n (vY (eT n)))=a at g e d f;have h:=Rg.size f
 by_cases c:a.1<n
 .rw[az c];have en:a.1+(n-a.1)=n:=Co e;rw[Nat.max_eq_left g];have:=UB key (n-a.1) a.2 a.1 (cj (en.trans h.symm)) d;rw[en] at this;exact this
 rw[aB c];have:a.1=n:=mW e (gO.mp c);show Up key a.2 n;rw[<-this];exact d
end
def aS{g:Type}{M:Model}{i:Around}{e:Sem g}{d c:g->Shared->Prop}{f:cI}{b:Shared}(h:wpAny M i e d f b)(j:∀a b,d a b->c a b):wpAny M i e c f b:=kL h j λz z h=>h
instance:Nonempty Shared:=⟨{}⟩
instance:Nonempty Around:=⟨{}⟩
instance:Nonempty World:=⟨⟨λz z=>0,{strHash:=λz=>0,shareClass:=λz=>0,mergeTok:=id,idOf:=λz=>0,idOfShared:=λz z=>0,followText:=λz=>aA,idOfImm:=λz=>0}⟩⟩
instance:Nonempty PySem.Params:=Hi (inferInstance:Nonempty World) λa=>⟨a.params⟩
noncomputable def fK(b:Nat):Array Nat:=((eT 4).filter λa=>b.testBit a).toArray
def oQ(b:Bool)(f:Array (Int×aC))(a:vV):Prop:=
 a.mask=7/\a.dummies=#[]/\a.plain=af/\a.led=!b/\(∃g,g<16/\a.place=fK g)/\f.size=a.place.size/\∀(d:Nat) (c:Int×aC),f[d]?=U c->∃(e:Nat) (h:Tok),a.place[d]?=U e/\c.2=lG (e:Int) h
def ng(b:Bool)(h:bY)(f:ak):Prop:=∃c a e d,h.get? f=U c/\c.data=.set a e d/\oQ b a d
def HD(l:ng b h c)(k:∀a,h.get? c=U a->d.get? c=U a):ng b d c:=by let ⟨a,e,g,j,f,i⟩:=l;exact⟨a,e,g,j,k a f,i⟩
def UD:∀a<16,∀i<4,a.testBit i=aA->(fK a)[jO (fK a) i]?≠U i/\jO (fK a) i<=(fK a).size/\yv (fK a) (jO (fK a) i) i=fK (a|||2^i)/\a|||2^i<16/\(fK a).size<=3:=by decide+kernel
def NU:∀a<16,(fK a).size<=4:=by decide+kernel
def UE:∀a<16,∀i<4,a.testBit i=af->∃b<4,(fK a)[b]?=U i:=by decide+kernel
def NV{k:Type}(b:Array k)(a:Nat)(e:k)(l:a<=b.size)(c:Nat):(yv b a e)[c]?=if c<a then b[c]? else if c=a then U e else b[c-1]?:=by
 unfold yv;have g:(b.extract 0 a).size=a:=by rw[Array.size_extract,sQ l,FT]
 have f:((b.extract 0 a).push e).size=a+1:=by rw[Mq,g]
 by_cases d:c<a
 .rw[az d,Mr (f▸vQ d),Mt,aB (g.symm▸eN d),Mu,FT,sQ l,az d,rB]
 rw[aB d]
 by_cases h:c=a
 .subst h;rw[az J,Mr (f▸l7 _),Mt,az g.symm]
 let ⟨j,zy⟩:=Nat.exists_eq_add_of_le (Ab (gO.mp d) (cS h))
 rewrite [aB h,Array.getElem?_append_right (f▸fz _ _),f,Mu,KU,FU,KW,Nat.succ_sub_one]
 by_cases i:a+j<b.size
 .rewrite [az (Nat.lt_sub_of_add_lt (kK a j▸i))];rfl
 rw[aB λe=>i (Nat.add_lt_of_lt_sub' e),wu (gO.mp i)]
def oQ.lay(h:oQ b c a)(h0:0<=i)(w:i<4)(v:∀e∈c.toList,∀d,e.2≠.int i d):∃f d,layNew a c (hashInt i) (.int i tok)=(f,d,aA,aA)/\oQ b f d/\d.tooFull=aA:=by
 intros b c a i tok _ h h0 w v;let ⟨r,p,E,C,N,s,q⟩:=h;let ⟨k,x,m⟩:=N;intros k _ r p E C s q x m;let ⟨g,zy⟩:=mZ h0;intros g _ h0 w v;have t:g<4:=dB.mp w
 have Q:k.testBit g=aA:=by
  cases u:k.testBit g with
  |false=>rfl
  |true=>
   let ⟨l,L,n⟩:=UE k x g t u;intros l _ L n
   have S:l<c.size:=by
    rw[s,m];rcases uv l (fK k).size with h|h
    .exact h
    rw[wu h] at n;cases n
   let ⟨O,B,z,G⟩:=q l c[l] (yq S);intros O B _ z G;rw[m,n] at z;cases z;exact aV G (v c[l] (by simp) B)
 let ⟨J,D,A,f4,f5⟩:=UD k x g t Q;have P:hashInt (g:Int)=(g:Int):=(show ∀l,l<4->hashInt ((l:Nat):Int)=(l:Int) by decide+kernel) g t
 have V:a.slot g=.empty:=by
  unfold SetTable.slot;rw[m,p];have:((fK k)[jO (fK k) g]?==U g)=aA:=by simpa using J
  simp only[this,qg,if_false];have:C0 #[] g=aA:=by unfold C0;simp
  rw[this];rfl
 have T:a.freeSlot (g:Int)=U (g,aA):=by
  unfold SetTable.freeSlot SetTable.probe;have u:MC (g:Int)=g:=(show ∀l,l<4->MC ((l:Nat):Int)=l by decide+kernel) g t
  have H:(a.probeStart (g:Int)).j=g/\(a.probeStart (g:Int)).dummy=ai:=by
   unfold SetTable.probeStart;rw[u,r];exact⟨Nat.mod_eq_of_lt (Ac t ∅),rfl⟩
  have K:10*SetTable.turns a.mask=219+1:=by rw[r];rfl
  rw[K];unfold Ui;rw[H.1,V];dsimp only;rw[H.2];rfl
 have R:a.put g=({a with place:=fK (k|||2^g)},jO (fK k) g):=by
  unfold SetTable.put;dsimp only;rw[m,A,p];have:C0 #[] g=aA:=by unfold C0;simp
  rw[this];simp only[qg,if_false]
 have F:(yv c (jO (fK k) g) ((g:Int),.int (g:Int) tok)).size=(fK (k|||2^g)).size:=by
  rw[<-A];unfold yv;rw[m] at s;simp[s]
 have M:({a with place:=fK (k|||2^g)}:vV).fits (yv c (jO (fK k) g) ((g:Int),.int (g:Int) tok)).size=af:=by
  unfold SetTable.fits MD;rw[F,p];have:=NU (k|||2^g) f4;simp[r];exact lK ‹_› rfl
 refine⟨_,{a with place:=fK (k|||2^g)},?_,⟨r,p,E,C,⟨_,f4,rfl⟩,F,?_⟩,?_⟩
 .unfold layNew;rw[P,T];dsimp only;rw[R];dsimp only;unfold SetTable.orStandIn;rw[M];rfl
 .intro l e o;intros l e _ o;dsimp only;have I:jO (fK k) g<=c.size:=by rw[s,m];exact D
  rw[NV c _ _ I] at o;rw[<-A,NV (fK k) _ _ D];split at o
  .rename_i n;rw[az n];rw[m] at q;exact q l e o
  rename_i n;rw[aB n];split at o
  .rename_i y;rw[az y];cases o;exact⟨g,tok,rfl,rfl⟩
  rename_i y;rw[aB y];rw[m] at q;exact q _ e o
 unfold SetTable.tooFull MD;dsimp only;rw[p,r];have:=NU (k|||2^g) f4;simp;exact eK (Ad 5 this) ∅
section
variable {prog:Program}{w:World}{A:Around}{E:cI}{s:Shared}{b:Bool}
def HE{g:ak}{e:Int->Bool}{n:Nat}{i:Int}{j:Tok}{I:Bool->Shared->Prop}(h0:0<=i)(W:i<4)(Y:s.heap.SetOf (intKind prog w) g e n)(q:ng b s.heap g)(S:n+1<scanBound)
 (h:∀c,iG g s.heap c->c.SetOf (intKind prog w) g (λa=>e a||decide (a=i)) (if e i then n else n+1)->ng b c g->I (!e i) {s with heap:=c}):
 wpAny (model prog w) A (setAddHashed g (.int i j) ((intKind prog w).hash i)) I E s:=by
 intros prog w A E s b g e n i j I _ h0 W Y q S h;have M:=kM prog w i j;let ⟨F,f,L,r,l,D,k,u,t,C,B,y⟩:=Y;intros F f L r _ l D k u t C B y;let ⟨ax,aw,au,z,G,N,a7⟩:=q;revert a7;intro q;intros ax aw au z _ G N q;rw[l] at G;cases G;rw[k] at N;cases N;have bj:f.size+1<scanBound:=by rw[y];exact S
 unfold setAddHashed setAddHashedIn;refine dW (ay (xW l k B ?_));dsimp only;rw[byScan_of (knd:=intKind prog w) J C u];simp only[↓reduceIte];unfold setAddByScan;refine ay ?_;refine ay (rD ?_);refine ay (wpAny_setScan_of (knd:=intKind prog w) M l k B u ?_);cases hr:Lu (λd=>(intKind prog w).is i d.2) f.toList with
 |some a8=>
  dsimp only;let ⟨a9,av,_⟩:=List.findIdx?_eq_some_iff_getElem.mp hr;have p:e i=af:=(t i).mpr ⟨f.toList[a8],sU a9,av⟩;refine aM (aM ?_);have d:s={s with heap:=s.heap}:=by cases s;rfl
  have:=h s.heap (TP g s.heap) ⟨F,f,L,r,l,D,k,u,λa=>by
   rw[CW,decide_eq_true_eq,<-t a];exact⟨λP=>P.elim id (λd=>d▸p),.inl⟩,C,B,by rw[p];exact y⟩ ⟨F,f,L,r,l,k,q⟩
  rw[p] at this;rw[d];exact this
 |none=>
  dsimp only;have X:=List.findIdx?_eq_none_iff.mp hr
  have p:e i=aA:=by
   cases P:e i with
   |false=>rfl
   |true=>let ⟨d,v,R⟩:=(t i).mp P;intros d _ v R;have:=X d v;rw[R] at this;cases this
  have ae:∀d∈f.toList,∀z,d.2≠.int i z:=λd v z bo=>by
   have:=X d v;rw[bo,kM] at this;cases this
  let ⟨m,H,O,Q,Z⟩:=q.lay (tok:=j) h0 W ae;intros m H _ O Q Z;have o:=layNew_perm r f (hashInt i) (.int i j);have K:=layNew_fits r f (hashInt i) (.int i j);have bk:(intKind prog w).hash i=hashInt i:=rfl;rw[bk,O];rw[O] at o K;dsimp only at o K⊢;rw[AL] at o;have a4:ElemsOf (intKind prog w) m.toList:=(u.push M J).perm o;have a5:∀a,(e a||decide (a=i))=af↔∃d∈m.toList,(intKind prog w).is a d.2=af:=mem_push_iff M t o;have V:m.size<scanBound:=by rw[<-jN,o.length_eq,bO,jN];simpa using bj
  have a6:m.size=n+1:=by rw[<-jN,o.length_eq,bO,jN,y];rfl
  refine ay (aM ?_);rw[Q.2.2.1];simp only[↓reduceIte];refine ay ?_;rw[hashByValue_scannable 8 (x:=.int i j) J];refine aM ?_;have a3:plainKind (.int i j)=af:=rfl;rw[a3];simp only[↓reduceIte];refine ay (wpAny_storeSet_of l k ?_ (K6 V));rw[Z];simp only[wz,qg,if_false];let ⟨bp,T⟩:=SetOf_store (knd:=intKind prog w) l D k a4 a5 V K;have a0:=qk s.heap g (Obj.putSet m H);rw[a6] at T;have:=h _ a0 (by rw[p];exact T) ⟨_,m,_,H,bp,rfl,Q⟩;rw[p] at this;exact aM (aM this)
end
noncomputable def fC(a:World):Bool:=a.params.followText "set-order"
noncomputable def lJ(b:Bool):Obj:={cls:=.type "set",dict:=ai,data:=.set #[] 0 (.fresh 0 0 (!b))}
def NW(b:Bool)(c:h.get? a=U (lJ b)):ng b h a:=
 ⟨_,#[],0,_,c,rfl,rfl,rfl,rfl,rfl,⟨0,by decide,rfl⟩,rfl,λd c h=>by simp at h⟩
def NX{prog:Program}{w:World}(b:Bool){h:bY}{a:ak}(c:h.get? a=U (lJ b)):h.SetOf (intKind prog w) a (λz=>aA) 0:=(setObjOf_fresh (knd:=intKind prog w) (!b)).setOf c ∅
section
variable {prog:Program}{w:World}{A:Around}{E:cI}{s:Shared}
def UG(h:a (.ref s.heap.objs.size) {s with heap:=s.heap.push (lJ (fC w))}):wpAny (model prog w) A (newSet (.type "set")) a E s:=by
 unfold newSet setsByText;refine ay (ay (pU (aM ?_)));dsimp only;simp only[newObj];exact ay (Af (aM h))
def UH(h0:0<=i)(k:i<4)(g:s.heap.SetOf (intKind prog w) c e n)(o:ng b s.heap c)(l:n+1<scanBound)
 (h:∀a,iG c s.heap a->a.SetOf (intKind prog w) c (λd=>e d||decide (d=i)) (if e i then n else n+1)->ng b a c->f .none {s with heap:=a,toks:=s.toks+1}):
 wpAny (model prog w) A (call (.builtin "set.add") [.ref c,.int i tok]) f E s:=by
 refine pV MK g.typeIs PySem.F.entry_set_add ?_ (PySem.F.args_set_add_2 _ _);unfold gX.«set.add» T8;simp only[List.isEmpty_nil,bind_assoc];unfold Nh setAdd;refine ay (aM ?_)
 try dsimp only
 refine ay (aM ?_)
 try dsimp only
 refine ay ?_;refine dW ?_;refine ay ((intKind prog w).pyHash (kM _ _ i tok) ?_);refine HE (s:={s with toks:=s.toks+1}) h0 k g o l λa p j m=>?_
 exact aM ⟨_,rfl,h a p j m⟩
def UI(j:(NY==.constants)=aA)(l:(NY==.unsure)=aA)
 (h:wpAny (model prog w) A (evalAll [g]) (λd c=>∃a,d=[a]/\wpAny (model prog w) A (setAdd s.heap.objs.size a) (λz f=>e (.ref s.heap.objs.size) f) E c) E {s with heap:=s.heap.push (lJ (fC w))}):
 wpAny (model prog w) A (setDisplay NY b [(aA,g)]) e E s:=by
 unfold setDisplay
 try dsimp only
 rw[aB (by rw[j];exact i7)];refine ay (UG ?_);dsimp only;refine ay (dW ?_);refine ay (kL h (λd c ⟨a,k,n⟩=>?_) λz z i=>i);subst k;refine ay (dW ?_);rw[Al];refine ay (ay (ay (kL n (λz o m=>?_) λz z i=>i)));refine aM ?_;rw[l];simp only[qg,if_false];rw[List.forIn_nil];refine aM ?_;refine aM ?_;exact aM (aM m)
end
section
variable {prog:Program}{w:World}{A:Around}{R:rE->Shared->Prop}{I:ak}{fp wr:i9}{G:Array GenState->Array GenState->Prop}{n:Nat}{P:Nat->aC->Prop}{St:Nat->Shared->Prop}
def UJ(W:WalksS prog w A.in1 I fp wr G n P St)(g:ak)(t:g∉fp)(h:Nat->Int)(B:∀i f,P i f->∃e,f=.int (h i) e)(p:∀i,i<n->0<=h i/\h i<4)(j:n+1<scanBound):
 ∀(k i:Nat) (c:Shared),n-i=k->i<=n->St i c->c.heap.SetOf (intKind prog w) g (λd=>(firstMet h i).any (·==d)) (firstMet h i).length->ng b c.heap g->
  (∀a,Moved (g::wr) G c a->a.heap.SetOf (intKind prog w) g (λd=>(firstMet h n).any (·==d)) (firstMet h n).length->ng b a.heap g->R (.ok (.ret .none)) a)->
  codeAny (model prog w) A (.builtin "set.update.loop" ⟨[.ref g,.ref I],[]⟩) R c:=by
 intros prog w A R I fp wr _ G n P St b W g t h B p j;intros G n P St b g h _ W t B p j;have r:g∉wr:=λq=>t (W.sub _ q)
 have K:∀b∈wr,b∈g::wr:=λb j=>vZ _ j
 intro k
 induction k with
 |zero=>
  intro i c v E D H F y;have p:i=n:=Ny v E;subst p;refine pW Na ?_;rw[rQ Hj _];show wpAny _ A.in1 (pyNext (.ref I)>>=_) _ _ c;refine ay (W.done c _ _ D λa o=>?_);show wpAny _ A.in1 (ret oM) _ _ a;exact aM (y a (o.mono K) (by
   let ⟨l,x,z,e,J,C⟩:=H;exact⟨l,x,z,e,o.heap g _ r J,C⟩) (HD F λl m=>o.heap g _ r m))
 |succ k O=>
  intro i c v E D H F y;have u:i<n:=HA v;refine pW Na ?_;rw[rQ Hj _];show wpAny _ A.in1 (pyNext (.ref I)>>=_) _ _ c;refine ay (W.item i c _ _ u D λf a S Z o=>?_);let ⟨e,zy⟩:=B i f S
  have T:a.heap.SetOf (intKind prog w) g (λd=>(firstMet h i).any (·==d)) (firstMet h i).length:=by
   let ⟨l,x,z,au,J,C⟩:=H;exact⟨l,x,z,au,o.heap g _ r J,C⟩
  have ae:ng b a.heap g:=HD F λl m=>o.heap g _ r m
  show wpAny _ A.in1 (holding [lG (h i) e] (setAdd g (.int (h i) e))>>=_) _ _ a;refine ay (dW ?_);unfold setAdd;refine dW ?_;refine ay ((intKind prog w).pyHash (k:=h i) (kM _ _ _ _) ?_);have X:(firstMet h i).length+1<scanBound:=eK (gg (aj (firstMet_length_le h i) E) 1) j;refine HE (s:={a with toks:=a.toks+1}) (p i u).1 (p i u).2 T ae X λQ L av M=>?_
  have ax:Q.SetOf (intKind prog w) g (λd=>(firstMet h (i+1)).any (·==d)) (firstMet h (i+1)).length:=
   C7 av (λd=>by rw[firstMet_succ,step_any]) (by rw[firstMet_succ,step_length])
  refine aM ⟨pX Hj _,O (i+1) _ (Dj v) u (W.frame _ a _ _ Z (jw _) λb j l m=>?_) ax M λaw V Y N=>?_⟩
  .rw[L.2 b (λq:b=g=>t (by rw[<-q];exact j))];exact m
  .refine y aw (Moved.trans W.gtrans ((o.mono K).then_heap (jw _) λb l j m=>?_) V) Y N;rw[L.2 b (λq:b=g=>j (by rw[q];exact sV))];exact m
end
section
variable {prog:Program}{w:World}{A:Around}{E:cI}{s:Shared}
def UK(a:aC){b:cI}(h:b (.ref s.heap.objs.size) {s with heap:=s.heap.push (lJ (fC w))}):
 codeAny (model prog w) A (.call (.builtin "set.__new__") ⟨[.type "set",a],[]⟩) (wants b E) s:=by
 intros prog w A E s a b _ h;refine F8 ?_;show wpAny _ A.in1 (do checkBuiltinCall "set.__new__" ⟨[.type "set",a],[]⟩;again (.builtin "set.__new__" ⟨[.type "set",a],[]⟩)) _ _ s;refine ay (rF (PySem.F.newCall_set_1 a) (aM ⟨pX ML _,pW PySem.F.entry_set_new ?_⟩));rw[rQ ML _];unfold gX.«set.__new__» T9;have c:=sub_set_self;obtain⟨g,i,f,d,e⟩:=s;dsimp only
 wp_walk
 refine pU (aM ?_);dsimp only;simp only[newObj];refine ay (Af (aM ?_));exact aM h
def UL(h:codeAny (model prog w) A c (wants (λb s=>R (.ok (.ret b)) s) λa s=>R (.error a) s) s):codeAny (model prog w) A c R s:=
 F9 h λf s d=>by
  cases f with
  |error a=>exact d
  |ok e=>cases e with
   |ret b=>exact d
   |_=>exact d.elim
def UM{j g:ak}{f:Array aC}{ns:aF}{o:Fin->Shared->Prop}(x:A.handled=ai)(n:s.heap.get? g=U (lJ (fC w)))(hl:s.heap.IsList j f)(B:j≠g)(hi:AU f.toList ns)(p:∀k∈ns,0<=k/\k<4)(l:f.size+1<scanBound)
 (h:∀(a:bY) (d:Nat),a.SetOf (intKind prog w) g (λe=>(firstMet (λi=>ns.getD i 0) f.size).any (·==e)) (firstMet (λi=>ns.getD i 0) f.size).length->ng (fC w) a g->
  (∀b c,b≠g->s.heap.get? b=U c->a.get? b=U c)->o (.done (.ret .none)) {s with heap:=a,toks:=d}):
 wpAny (model prog w) A (gX.«set.__init__» ⟨[.ref g,.ref j],[]⟩) o E s:=by
 intros prog w A E s j g f ns o _ x n hl B hi p l h;obtain⟨K,r,q,S,v⟩:=hl;obtain⟨au,Y,aw,Z⟩:=K;simp only at q v;subst q;subst v;have av:=PySem.F.sub_list_set;have ae:=PySem.F.sub_list_frozenset;have ax:(qi "list"==qi "dict")=aA:=by decide
 have z:s.heap.IsList j f:=⟨_,r,rfl,S,rfl⟩;have D:j≠s.heap.objs.size:=eN (d7 r);have SI:g≠s.heap.objs.size:=eN (d7 n);have M:=n;unfold gX.«set.__init__» noKeywords Ua;generalize V:pyIter=PI;unfold lJ at n
 wp_walk
 subst V;refine xX z ?_;refine ay (wpAny_runValue ?_);have y:f.size=aa ns:=by have:=IntsAre.length hi;simpa using this
 have t:(s.heap.push {cls:=.type "list_iterator",data:=.fields #[.ref j,.int 0 0]}).get? g=U (lJ (fC w)):=cG _ M;refine UJ (b:=fC w) ((Ni (by simp[x]) _ j D f).toS) g
  (by simp only[bN,dh,jy,or_false,not_or];exact⟨SI,B.symm⟩) (λi=>ns.getD i 0) (λi X H=>IntsAre.int_at hi i X (by rw[gP];exact H))
  (λi C=>p _ (by
   have:ns.getD i 0=ns[i]'(y▸C):=by simp[kN,show i<aa ns from y▸C]
   rw[this];exact sU _)) l (f.size-0) 0 _ J (cL _)
  ⟨⟨_,dw _ J,rfl,rfl⟩,(z.push _)⟩ (C7 (NX (fC w) t) (λ_=>rfl) J) (NW (fC w) t) ?_
 intro R m L P;obtain⟨a,W,I,N,T⟩:=R;have Q:W=s.gens:=m.gens;have O:I=s.drawn:=m.drawn;have G:T=s.os:=m.os;subst Q;subst O;subst G;show wpAny _ _ _ _ _ _;refine aM ?_;show wpAny _ _ (ret oM) _ _ _;refine aM (h a N L P λb c l u=>m.heap b c ?_ (cG _ u));simp only[bN,dh,jy,or_false,not_or];exact⟨l,eN (d7 u)⟩
def UN{ns:aF}(o:A.handled=ai)(hl:s.heap.IsList a c)(hi:AU c.toList ns)(n:∀k∈ns,0<=k/\k<4)(l:c.size+1<scanBound)
 (h:∀(d:bY) (f:Nat),d.SetOf (intKind prog w) s.heap.objs.size (λj=>(firstMet (λi=>ns.getD i 0) c.size).any (·==j)) (firstMet (λi=>ns.getD i 0) c.size).length->ng (fC w) d s.heap.objs.size->
  (∀b e,b<s.heap.objs.size->s.heap.get? b=U e->d.get? b=U e)->g (.ref s.heap.objs.size) {s with heap:=d,toks:=f}):
 wpAny (model prog w) A (call (.type "set") [.ref a]) g E s:=by
 intros prog w A E s a c ns g _ o hl hi n l h;let ⟨O,L,D⟩:=uJ.mro;have P:=uJ.made;have K:=uJ.sub;refine uw (F8 ?_);show wpAny _ _ (callAny (.type "set") _) _ _ _;refine aM ⟨Code.quiet_builtin _ (by decide+kernel),pW PySem.F.entry_type_call ?_⟩;rw[Around.under_plain (weight_type_call_type "set" [.ref a] []) J];have N:=uJ.notType;have C:=uJ.canCreate;have I:=PySem.F.typeCall_set_1 (.ref a)
 repeat (any_goals (first|assumption|wp_step))
 refine UL (UK (.ref a) ?_);have m:(s.heap.push (lJ (fC w))).get? s.heap.objs.size=U (lJ (fC w)):=dw _ J;have p:Shared.TypeIs {s with heap:=s.heap.push (lJ (fC w))} (.ref s.heap.objs.size) "set":=⟨_,m,rfl⟩;have M:=uJ.init.lookup;have Q:=uJ.init.bind (.ref s.heap.objs.size);have r:=m;have y:(s.heap.push (lJ (fC w))).IsList a c:=hl.push _;have z:a<s.heap.objs.size:=by let ⟨G,t,_⟩:=hl;exact d7 t
 generalize u:lJ (fC w)=H at m p
 repeat (any_goals (first|assumption|wp_step))
 subst u;refine Ga uJ.init.plain PySem.F.entry_set_init (check_set_init_1 p (UM (by simp[o]) r y (eN z) hi n l λd f q v B=>?_))
 repeat (any_goals (first|assumption|wp_step))
 exact h _ _ q v λb e l x=>B b e (eN l) (cG _ x)
end
def yF:Slot "set_iterator" "__next__" "set_iterator.__next__":=
 .of (owner:="set_iterator") (n:="__next__") (by rw[Cu,Cv];kernel_rfl) (by decide+kernel) (by decide+kernel) (by decide+kernel)
  (by first|exact .inl (by decide+kernel)|exact .inr (by decide+kernel)) (by rw[Gb];kernel_rfl)
def NZ:Slot "set_iterator" "__iter__" "set_iterator.__iter__":=
 .of (owner:="set_iterator") (n:="__iter__") (by rw[Cu,Cv];kernel_rfl) (by decide+kernel) (by decide+kernel) (by decide+kernel)
  (by first|exact .inl (by decide+kernel)|exact .inr (by decide+kernel)) (by rw[Gb];kernel_rfl)
def N3:entryFor table "set_iterator.__next__"=U gX.«set_iterator.__next__»:=K7 (by kernel_rfl)
def UO:entryFor table "set_iterator.__iter__"=U gX.«dict_keyiterator.__iter__»:=K8 (id':="dict_keyiterator.__iter__") (by kernel_rfl) J (by decide+kernel) (by kernel_rfl)
def UP:entryFor table "set.__iter__"=U gX.«frozenset.__iter__»:=K8 (id':="frozenset.__iter__") (by kernel_rfl) J (by decide+kernel) (by kernel_rfl)
def N5:Manifest.owners.lookup (String.ofList ['r','o','t','a','r','e','t','i','_','t','e','s'].reverse)=U Manifest.sig_set_iterator:=by kernel_rfl
def N6(a:aC):argsOk "set_iterator.__next__" ⟨[a],[]⟩:=by
 unfold argsOk;rw[Gd (id:="set_iterator.__next__") (n:=['_','_','t','x','e','n','_','_']) (o:=['r','o','t','a','r','e','t','i','_','t','e','s']) (by kernel_rfl) N5];kernel_rfl
def UQ(a:aC):argsOk "set_iterator.__iter__" ⟨[a],[]⟩:=by
 unfold argsOk;rw[Gd (id:="set_iterator.__iter__") (n:=['_','_','r','e','t','i','_','_']) (o:=['r','o','t','a','r','e','t','i','_','t','e','s']) (by kernel_rfl) N5];kernel_rfl
def N7:∀a<16,jO (fK a) 0=0:=by decide+kernel
def N8:∀a<16,∀i<(fK a).size,jO (fK a) ((fK a).getD i 0+1)=i+1:=by decide+kernel
theorem N9{c:Type}:∀(b:List c) (i:Nat) (h:i<aa b),([b[i]]++b.eraseIdx i).Perm b
 |[],i,h=>by simp at h
 |a::b,0,h=>.refl _
 |a::b,i+1,h=>by
  have:=N9 b i (by simpa using h);simp only[List.getElem_cons_succ,List.eraseIdx_cons_succ,List.singleton_append] at this⊢;exact(List.Perm.swap a _ _).trans (this.cons a)
def UR{e:Type}(next:Nat->Nat):∀(b k:Nat) (left:List e) (a:Array e),b=aa left->(pickOrder.go next b k left a).toList.Perm (a.toList++left):=by
 intro g
 induction g with
 |zero=>
  intro k left a c;have:left=[]:=Am.mp c.symm;subst this;show a.toList.Perm _;simp
 |succ b f=>
  intro k left a c;have d:next k%(aa left)<aa left:=Nat.mod_lt _ (c▸pT b)
  unfold pickOrder.go;rw[dZ d];dsimp only;refine(f (k+1) _ _ ((aR (·-1) c).trans (Lv d).symm)).trans ?_;rw[AL,e9];refine List.Perm.append_left _ ?_;exact N9 left _ d
def Oa{b:Type}(next:Nat->Nat)(a:Array b):(pickOrder next a).toList.Perm a.toList:=by
 have:=UR next a.size 0 a.toList #[] (by simp)
 simpa [pickOrder] using this
def oR(b:World)(d:ak)(c:Nat)(a:Array (Int×aC)):Array (Int×aC):=if fC b then pickOrder (b.params.setOrder d c) a else a
def Ob(d:World)(c:ak)(b:Nat)(a:Array (Int×aC)):(oR d c b a).toList.Perm a.toList:=by
 unfold oR;split
 .exact Oa _ _
 exact .refl _
def Oc(d:World)(c:ak)(b:Nat)(a:Array (Int×aC)):(oR d c b a).size=a.size:=by
 have:=(Ob d c b a).length_eq;simpa using this
def gY(b:World)(a:vV)(i:Nat):Nat:=if fC b then 0 else if i=0 then 0 else a.place.getD (i-1) 0+1
def uN(e:World)(c:ak)(b:Nat)(a:Array (Int×aC))(d:vV)(i:Nat):Obj:={cls:=.type "set_iterator",data:=.fields #[.int (gY e d i) 0,.int i 0,.ref c,.int a.size 0,.int b 0]}
section
variable {prog:Program}{w:World}{A:Around}{E:cI}{s:Shared}{a I:ak}{o:Obj}{es:Array (Int×aC)}{ep:Nat}{t:vV}
def US(ho:s.heap.get? a=U o)(f:o.ExactSet)(e:o.data=.set es ep t)(d:t.fits es.size=af)(h:oQ (fC w) es t)
 (c:b (.ref s.heap.objs.size) {s with heap:=s.heap.push (uN w a ep es t 0)}):wpAny (model prog w) A (pyIter (.ref a)) b E s:=by
 intros prog w A E s a o es ep t b _ ho f e d h c;have g:s.TypeIs (.ref a) "set":=⟨o,ho,f.1⟩;refine Ge g MM (pV MM g UP ?_ (PySem.F.args_set_iter_1 _));unfold gX.«frozenset.__iter__» Ub Uc Nh;refine ay (ay (aM (aM ?_)));refine ay (ay (Gf ho e d (aM ?_)));let ⟨j,m,i,k,n,p,u⟩:=h;let ⟨z,B,r⟩:=n;have l:gY w t 0=0:=by unfold gY;split<;>rfl
 unfold uN at c;rw[l] at c;obtain⟨G,place,C,y,x,D,plain⟩:=t;dsimp only at j m i k r p u;subst i;unfold setDrawn setsByText;refine ay (ay (xW ho e d ?_));dsimp only;refine ay (ay (pU (aM ?_)));refine aM ?_;rw[aB (λv=>by
  have q:=((gQ _ _).mp v).2;exact yr (show aA=af from q))]
 refine ay (aM ?_);refine ay (wpAny_setEpoch_of ho e d ?_);unfold newFields;refine ay (wpAny_newObj_type (aM ⟨_,rfl,"set_iterator",_,⟨_,dw _ J,rfl⟩,yF.lookup,?_⟩));exact c
def UT(y:oQ (fC w) es t)(n:t.fits es.size=af){i:Nat}{b:Int×aC}{d:Option (aC×Nat)->Shared->Prop}(ho:s.heap.get? a=U o)(r:o.data=.set es ep t)(c:(oR w a ep es)[i]?=U b)(h:d (U (b.2,gY w t (i+1))) s):
 wpAny (model prog w) A (setNext a (gY w t i) i ep) d E s:=by
 intros prog w A E s a o _ es ep t y n i b d ho r c h;intros es ep t i b d _ y n ho r c h;let ⟨K,L,F,v,N,p,O⟩:=y;let ⟨f,B,u⟩:=N;unfold setNext setsByText;refine ay (xW ho r n ?_);dsimp only;refine ay (ay (pU (aM ?_)));have C:w.params.followText "set-order"=fC w:=rfl;show wpAny _ _ (if(w.params.followText "set-order")=af then _ else _) _ _ _;rw[C];cases hb:fC w with
 |true=>
  rw[az J];rw[aB (by simp)];unfold setWalk setsByText;refine ay (ay (xW ho r n ?_));dsimp only;refine ay (ay (pU (aM ?_)));show wpAny _ _ (if(w.params.followText "set-order")=af then _ else _) _ _ _;rw[C,hb,az J];refine ay (pU (aM ?_));refine aM ?_;have l:(pickOrder (w.params.setOrder a ep) es)[i]?=U b:=by rw[oR,hb,az J] at c;exact c
  show d (rP _ (pickOrder (w.params.setOrder a ep) es)[i]?) s;rw[l];unfold gY at h⊢;rw[hb,az J] at h;rw[hb,az J];exact h
 |false=>
  rw[aB ∅];obtain⟨m,place,g,e,P,k,plain⟩:=t;dsimp only at K L F v u p O;rw[hb] at v;subst F;subst v;refine Cw (λM=>yr (show aA=af from M)) (λZ=>?_);refine ay (rF (a:=()) J ?_);have l:es[i]?=U b:=by rw[oR,hb,aB ∅] at c;exact c
  have D:i<es.size:=by
   rcases uv i es.size with h|h
   .exact h
   rw[wu h] at l;cases l
  rw[u] at p
  have H:jO place (gY w ⟨m,place,g,e,af,k,af⟩ i)=i:=by
   unfold gY;rw[hb,aB ∅,u]
   by_cases q:i=0
   .rw[az q,q];exact N7 f B
   rw[aB q];show jO (fK f) ((fK f).getD (i-1) 0+1)=i;rw[N8 f B (i-1) (eK (vP _ _) (p▸D))];exact Nz q
  show wpAny _ _ (pure (match es[jO place (gY w ⟨m,place,g,e,af,k,af⟩ i)]?,place[jO place (gY w ⟨m,place,g,e,af,k,af⟩ i)]? with
   |some (_,x),U j=>U (x,j+1)
   |_,_=>ai)) _ _ _
  rw[H,l];have G:place[i]?=U (place.getD i 0):=by rw[u];simp[AK,show i<(fK f).size from p▸D]
  rw[G];refine aM ?_
  have I:gY w ⟨m,place,g,e,af,k,af⟩ (i+1)=place.getD i 0+1:=by
   unfold gY;rw[hb,aB ∅,aB (FW i)];rfl
  have z:d (U (b.2,gY w ⟨m,place,g,e,af,k,af⟩ (i+1))) s:=h;rw[I] at z;exact z
def UU(u:oQ (fC w) es t)(g:t.fits es.size=af)(ho:s.heap.get? a=U o)(n:o.data=.set es ep t)(h:b ai s):
 wpAny (model prog w) A (setNext a (gY w t es.size) es.size ep) b E s:=by
 intros prog w A E s a o es ep t b _ u g ho n h;let ⟨z,B,v,e,D,k,G⟩:=u;let ⟨d,q,p⟩:=D;unfold setNext setsByText;refine ay (xW ho n g ?_);dsimp only;refine ay (ay (pU (aM ?_)));have r:w.params.followText "set-order"=fC w:=rfl;show wpAny _ _ (if(w.params.followText "set-order")=af then _ else _) _ _ _;rw[r];cases hb:fC w with
 |true=>
  rw[az J];rw[aB (by simp)];unfold setWalk setsByText;refine ay (ay (xW ho n g ?_));dsimp only;refine ay (ay (pU (aM ?_)));show wpAny _ _ (if(w.params.followText "set-order")=af then _ else _) _ _ _;rw[r,hb,az J];refine ay (pU (aM ?_));refine aM ?_;have I:(pickOrder (w.params.setOrder a ep) es).size=es.size:=by have:=(Oa (w.params.setOrder a ep) es).length_eq;simpa using this
  have F:(pickOrder (w.params.setOrder a ep) es)[es.size]?=ai:=wu (by exact cj ‹_›);show b (rP _ (pickOrder (w.params.setOrder a ep) es)[es.size]?) s;rw[F];exact h
 |false=>
  rw[aB ∅];obtain⟨m,place,i,f,H,l,plain⟩:=t;dsimp only at z B v e p k G;rw[hb] at e;subst v;subst e;refine Cw (λC=>yr (show aA=af from C)) (λZ=>?_);refine ay (rF (a:=()) J ?_);rw[p] at k
  have y:jO place (gY w ⟨m,place,i,f,af,l,af⟩ es.size)=es.size:=by
   unfold gY;rw[hb,aB ∅,p]
   by_cases c:es.size=0
   .rw[az c,c];exact N7 d q
   rw[aB c];show jO (fK d) ((fK d).getD (es.size-1) 0+1)=es.size;rw[N8 d q (es.size-1) (jL (KR (Nat.pos_of_ne_zero c) KS) (cj k))];exact Nz c
  show wpAny _ _ (pure (match es[jO place (gY w ⟨m,place,i,f,af,l,af⟩ es.size)]?,place[jO place (gY w ⟨m,place,i,f,af,l,af⟩ es.size)]? with
   |some (_,x),U j=>U (x,j+1)
   |_,_=>ai)) _ _ _
  rw[y,wu (cB _)];exact aM h
end
section
variable {prog:Program}{w:World}{A:Around}{E:cI}{s:Shared}{a I:ak}{o:Obj}{es:Array (Int×aC)}{ep:Nat}{t:vV}
def UW(k:oQ (fC w) es t)(f:t.fits es.size=af){i:Nat}{e:Int×aC}{d:Option aC->Shared->Prop}(ho:s.heap.get? a=U o)(g:o.data=.set es ep t)(c:s.heap.get? I=U (uN w a ep es t i))(h:(oR w a ep es)[i]?=U e)
 (j:∀b,iG I s.heap b->b.get? I=U (uN w a ep es t (i+1))->d (U e.2) {s with heap:=b}):wpAny (model prog w) A (pyNext (.ref I)) d E s:=by
 intros prog w A E s a I _ o es ep t k f i e d ho g c h j;intros o es ep t i e d _ k f ho g c h j;have l:s.TypeIs (.ref I) "set_iterator":=⟨_,c,rfl⟩;unfold pyNext;refine ay (Cx (xY (name:=wC "__next__") l yF (pV yF l N3 ?_ (N6 _))));unfold gX.«set_iterator.__next__»;refine ay (aM ?_);refine ay (K9 c J ?_);dsimp only;refine ay (Gf ho g f ?_);rw[aB (by simp)];refine ay ?_;have p:((gY w t i:Nat):Int).toNat=gY w t i:=j5 _;have q:((i:Nat):Int).toNat=i:=j5 _;have n:((ep:Nat):Int).toNat=ep:=j5 _;rw[p,q,n];refine UT k f ho g h ?_;dsimp only;refine ay (Gg c J (by simp) ?_)
 have m:(s.heap.update I (GY (·.setIfInBounds 0 (rawInt (gY w t (i+1)))))).get? I=U {cls:=.type "set_iterator",data:=.fields #[.int (gY w t (i+1)) 0,.int i 0,.ref a,.int es.size 0,.int ep 0]}:=by
  rw[rK _ c (by rfl)];rfl
 refine ay (Gg m J (by simp) ?_)
 have r:((s.heap.update I (GY (·.setIfInBounds 0 (rawInt (gY w t (i+1)))))).update I (GY (·.setIfInBounds 1 (rawInt ((i:Int)+1))))).get? I=U (uN w a ep es t (i+1)):=by
  rw[rK _ m (by rfl)];rfl
 exact aM ⟨_,rfl,aM (j _ ((qk ..).trans (qk ..)) r)⟩
def UX(j:A.handled=ai)(k:oQ (fC w) es t)(f:t.fits es.size=af)(ho:s.heap.get? a=U o)(g:o.data=.set es ep t)(e:s.heap.get? I=U (uN w a ep es t es.size))
 (h:∀c,L6 I s.heap c->d ai {s with heap:=c}):wpAny (model prog w) A (pyNext (.ref I)) d E s:=by
 intros prog w A E s a I o es ep t d _ j k f ho g e h;have i:s.TypeIs (.ref I) "set_iterator":=⟨_,e,rfl⟩;unfold pyNext;refine ay (Cx (xY (name:=wC "__next__") i yF (pV yF i N3 ?_ (N6 _))));unfold gX.«set_iterator.__next__»;refine ay (aM ?_);refine ay (K9 e J ?_);dsimp only;refine ay (Gf ho g f ?_);rw[aB (by simp)];refine ay ?_;have n:((gY w t es.size:Nat):Int).toNat=gY w t es.size:=j5 _;have p:((es.size:Nat):Int).toNat=es.size:=j5 _;have l:((ep:Nat):Int).toNat=ep:=j5 _;rw[n,p,l];refine UU k f ho g ?_;dsimp only;refine ay (Gg e J (by simp) ?_);show wpAny _ _ (newExc (.type "StopIteration") []>>=_) _ _ _;refine ay ?_;simp only[newExc,newTuple];refine ay (wpAny_newObj_type ?_ (by size_fits));refine ay (m:=firstArgMember _ _) (rF (a:=oM) (by first|rfl|(simp only[firstArgMember];rfl)) ?_);refine wpAny_newObj_type ?_ (by size_fits);simp only[raiseNew];refine ay (wpAny_handled ?_);rw[show A.in1.handled=ai from j];refine ay (aM (wpAny_throw ?_));refine ay (Gh (T:="StopIteration") (b:=af) ⟨_,dw _ J,rfl⟩ Lb ?_);exact aM (h _ (((qk ..).extBut.push _).push _))
def UY(y:A.handled=ai)(v:a≠I)(u:oQ (fC w) es t)(p:t.fits es.size=af)(m:o.data=.set es ep t):
 Walks prog w A I [I,a] [I] es.size (λi c=>∃b,(oR w a ep es)[i]?=U b/\c=b.2) (λi h=>h.get? I=U (uN w a ep es t i)/\h.get? a=U o) where
 sub:=λg e=>by simp at e;simp[e]
 frame:=λZ Z Z d r=>⟨r I (by simp) _ d.1,r a (by simp) _ d.2⟩
 item:=λi s n E x d f=>by
  obtain⟨b,l⟩:∃b,(oR w a ep es)[i]?=U b:=⟨_,yq (by rw[Oc];exact x)⟩;refine UW u p d.2 m d.1 l λk q z=>?_
  exact f b.2 k s.toks ⟨b,l,rfl⟩ ⟨z,(q.2 a v).trans d.2⟩ λg o e b=>q.extBut g o (λh=>e (by simp[h])) b
 done:=λs n E d f=>UX y u p d.2 m d.1 λk B=>f k s.toks λg o e b=>B g o (λh=>e (by simp[h])) b
 self:=λi s n E d f=>by
  have j:s.TypeIs (.ref I) "set_iterator":=⟨_,d.1,rfl⟩;refine Ge j NZ (pV NZ j UO ?_ (UQ _));show wpAny _ _ (ret (.ref I)) _ _ s;exact aM ⟨_,rfl,"set_iterator",_,j,yF.lookup,f⟩
def UZ(d:s.TypeIs (.ref a) "set")(h:c aA s):wpAny (model prog w) A (Hl (.ref a)) c E s:=by
 intros prog w A E s a c _ d h;unfold Hl;refine ay (Cy d PySem.F.slot_set_len.lookup ?_);generalize f:("set.__len__":String)=g
 wp_delta
 rw[show splitId g=U ("set","__len__") from by subst f;decide+kernel];subst f;refine ay (Gh (T:="set") (b:=af) d (by rw[Gb];kernel_rfl) ?_);refine Cw (λe=>aV e ∅) (λz=>?_);refine Cw (λz=>?_) (λe=>aV (by decide+kernel) e);refine ay (vW d ?_);exact aM h
def U0(e:o.ExactSet)(k:oQ (fC w) es t)(j:t.fits es.size=af)(g:o.data=.set es ep t):KdlSrc prog w "set" a a es.size (λi c=>∃b,(oR w a ep es)[i]?=U b/\c=b.2) (λh=>h.get? a=U o) where
 type:=λz d=>⟨o,d,e.1⟩
 there:=λz d=>⟨d7 d,d7 d⟩
 keep:=λz z d l=>l a (.inl J) o d
 notList:=by decide
 notTuple:=by decide
 hint:=λz z z z d f=>UZ ⟨o,d,e.1⟩ f
 iter:=λz s m d=>⟨uN w a ep es t 0,_,(λz z f=>US d e g j k f),UY m (eN (d7 d)) k j g,⟨dw _ J,cG _ d⟩⟩
end
def ns{a:Type}{b:Option a}{e:a}{d:Prop}(f:b=ai)(c:b=U e):d:=nomatch f.symm.trans c
set_option genInjectivity true in
set_option genCtorIdx true in
inductive D where
 |none
 |bool (b:Bool)
 |int (i:Int)
 |str (x:Str)
 |tup (ds:List D)
 |lst (ds:List D)
noncomputable def bf:Nat:=1000000
def lim{n a:Nat}(h:n<=a)(b:FY a 1000000=af):n<=bf:=aj h (bM b)
def uO(h:n<=a)(b:FY (a+k) 1000000=af):n+k<=bf:=aj (gg h k) (bM b)
def iQ{a b n:Nat}(h:b<=n)(c:FY (a+1) b=af):a<=n-1:=kJ (aj (bM c) h)
def gZ(h:n<=bf):n<=sizeLine:=by rw[pY];unfold bf at h;exact lK ‹_› rfl
def tu(h:n<=bf):(n:Int)<2^63:=yo (iK.2 h) ∅
def PL(h:bY)(b:ak)(c:Array aC):Prop:=∃a,IsL h b c a
def PT(h:bY)(b:ak)(c:Array aC):Prop:=∃a,IsT h b c a
theorem PL.isList(d:PL h a b):h.IsList a b:=let ⟨_,c⟩:=d;c.isList
def PT.AX(e:PT h a b):h.IsTuple a b:=let ⟨c,d⟩:=e;⟨_,d,rfl,c,rfl⟩
def PT.isTup(e:PT h a b):IsTup h a b:=let ⟨c,d⟩:=e;⟨_,d,rfl,c,rfl⟩
def PL.at{h c:bY}{b:ak}{d:Array aC}(g:PL h b d)(k:∀a,h.get? b=U a->c.get? b=U a):PL c b d:=let ⟨e,f⟩:=g;⟨e,k _ f⟩
def PT.at{h c:bY}{b:ak}{d:Array aC}(g:PT h b d)(k:∀a,h.get? b=U a->c.get? b=U a):PT c b d:=let ⟨e,f⟩:=g;⟨e,k _ f⟩
mutual
inductive Rep(h:bY)(M:bC):aC->D->Prop
 |none:Rep h M oM D.none
 |bool (b:Bool):Rep h M (C3 b) (D.bool b)
 |int (i:Int) (t:Tok):Rep h M (lG i t) (D.int i)
 |str (x:Str) (t:Tok):uG x=af->Rep h M (Value.str x t) (D.str x)
 |tup {a:ak} {vs:Array aC} {ds:List D}:PT h a vs->¬M a->aa ds<=bf->aW h M vs.toList ds->Rep h M (uH a) (D.tup ds)
 |lst {a:ak} {vs:Array aC} {ds:List D}:PL h a vs->¬M a->aa ds<=bf->aW h M vs.toList ds->Rep h M (uH a) (D.lst ds)
inductive aW(h:bY)(M:bC):cQ->List D->Prop
 |nil:aW h M [] []
 |cons {v:aC} {vs:cQ} {d:D} {ds:List D}:Rep h M v d->aW h M vs ds->aW h M (v::vs) (d::ds)
end
def jR(b:Obj):Prop:=∃c a,b.data=.seq c a
section
variable {h h':bY}{M M':bC}(hk:∀a o,¬M a->jR o->h.get? a=U o->h'.get? a=U o/\¬M' a){a:ak}{us:Array aC}{es:List D}
include hk
theorem Od(i:PT h a us)(n:¬M a)(e:aa es<=bf)(f:aW h' M' us.toList es):Rep h' M' (.ref a) (.tup es):=i.elim λc d=>have b:=hk _ _ n ⟨_,c,rfl⟩ d;.tup ⟨c,b.1⟩ b.2 e f
theorem Oe(i:PL h a us)(n:¬M a)(e:aa es<=bf)(f:aW h' M' us.toList es):Rep h' M' (.ref a) (.lst es):=i.elim λc d=>have b:=hk _ _ n ⟨_,c,rfl⟩ d;.lst ⟨c,b.1⟩ b.2 e f
theorem Rep.mono{a:aC}{d:D}(i:Rep h M a d):Rep h' M' a d:=
 Rep.rec (motive_1:=λa d z=>Rep h' M' a d) (motive_2:=λg f z=>aW h' M' g f) .none .bool .int .str (λc b e z=>Od hk c b e) (λc b e z=>Oe hk c b e) .nil (λz z=>.cons) i
theorem aW.mono{b:cQ}{a:List D}(i:aW h M b a):aW h' M' b a:=
 aW.rec (motive_1:=λg f z=>Rep h' M' g f) (motive_2:=λb a z=>aW h' M' b a) .none .bool .int .str (λd c e z=>Od hk d c e) (λd c e z=>Oe hk d c e) .nil (λz z=>.cons) i
end
section
variable {h h':bY}{M M':bC}{v:aC}{d:D}{vs ws:cQ}{ds es:List D}
def Rep.keep(i:Rep h M v d)(a:∀b c,h.get? b=U c->h'.get? b=U c):Rep h' M v d:=i.mono λg c e z f=>⟨a g c f,e⟩
def aW.keep(g:aW h M vs ds)(c:∀b a,h.get? b=U a->h'.get? b=U a):aW h' M vs ds:=g.mono λf a d z e=>⟨c f a e,d⟩
def Rep.lM(e:Rep h M v d)(f:∀c,M' c->M c):Rep h M' v d:=e.mono λc z a z b=>⟨b,λg=>a (f c g)⟩
def aW.lM(d:aW h M vs ds)(e:∀a,M' a->M a):aW h M' vs ds:=d.mono λa z b z c=>⟨c,λf=>b (e a f)⟩
def aW.fresh{e:ak}(g:aW h M vs ds)(n:h.get? e=ai)(f:∀b a,h.get? b=U a->h'.get? b=U a):aW h' (λb=>M b\/b=e) vs ds:=g.mono λb a i z d=>⟨f b a d,λc=>c.elim i λc=>ns (c▸n) d⟩
def aW.ind{m:cQ->List D->Prop}(a:aW h M vs ds)(n:m [] [])(c:∀{v:aC} {vs:cQ} {d:D} {ds:List D},Rep h M v d->aW h M vs ds->m vs ds->m (v::vs) (d::ds)):m vs ds:=
 aW.rec (motive_1:=λz z z=>True) (motive_2:=λvs ds z=>m vs ds) trivial (λz=>trivial) (λz z=>trivial) (λz z z=>trivial) (λz z z z z=>trivial) (λz z z z z=>trivial) n (λe a z b=>c e a b) a
def aW.length(a:aW h M vs ds):aa vs=aa ds:=a.ind (m:=λvs ds=>aa vs=aa ds) J λz z b=>aR Nat.succ b
def aW.append(b:aW h M vs ds)(a:aW h M ws es):aW h M (vs++ws) (ds++es):=b.ind (m:=λvs ds=>aW h M (vs++ws) (ds++es)) a λc z d=>.cons c d
def aW.get(e:aW h M vs ds):∀{k:Nat} {d:D},ds[k]?=U d->∃v,vs[k]?=U v/\Rep h M v d:=
 e.ind (m:=λvs ds=>∀(k:Nat) (d:D),ds[k]?=U d->∃v,vs[k]?=U v/\Rep h M v d) (λz z a=>nomatch An.symm.trans a) (λc z b k d=>Cq (λa=>⟨_,rfl,dF a▸c⟩) (λk z=>b k d) k) _ _
def aW.get'(e:aW h M vs ds):∀{k:Nat} {v:aC},vs[k]?=U v->∃d,ds[k]?=U d/\Rep h M v d:=
 e.ind (m:=λvs ds=>∀(k:Nat) (v:aC),vs[k]?=U v->∃d,ds[k]?=U d/\Rep h M v d) (λz z a=>nomatch An.symm.trans a) (λc z b k d=>Cq (λa=>⟨_,rfl,dF a▸c⟩) (λk z=>b k d) k) _ _
theorem aW.drop(a:aW h M vs ds):∀k:Nat,aW h M (vs.drop k) (ds.drop k):=
 a.ind (m:=λvs ds=>∀k:Nat,aW h M (vs.drop k) (ds.drop k)) (fun|0=>.nil|_+1=>.nil) λb a c=>fun|0=>.cons b a|k+1=>c k
theorem aW.take(b:aW h M vs ds):∀k:Nat,aW h M (vs.take k) (ds.take k):=
 b.ind (m:=λvs ds=>∀k:Nat,aW h M (vs.take k) (ds.take k)) (fun|0=>.nil|_+1=>.nil) λa z c=>fun|0=>.nil|k+1=>.cons a (c k)
def aW.one(a:Rep h M v d):aW h M [v] [d]:=.cons a .nil
def aW.mem(f:aW h M vs ds)(c:v∈vs):∃d∈ds,Rep h M v d:=by
 let ⟨g,e⟩:=Lw c;let ⟨d,b,a⟩:=f.get' e;exact⟨d,iZ b,a⟩
end
theorem aW.size{h:bY}{M:bC}{b:Array aC}{a:List D}(c:aW h M b.toList a):b.size=aa a:=c.length
def aW.Dq(f:aW h M c (d::ds)):∃a b,c=a::b/\Rep h M a d/\aW h M b ds:=by
 cases f with|cons e g=>exact⟨_,_,rfl,e,g⟩
def aW.HF(b:aW h M a []):a=[]:=by cases b;rfl
def Rep.qm(a:Rep h M e (.tup d)):∃c f,e=.ref c/\PT h c f/\¬M c/\aa d<=bf/\aW h M f.toList d:=by
 intros h M e d _ a;cases a with|tup c i g b=>exact⟨_,_,rfl,c,i,g,b⟩
def Rep.eF(a:Rep h M d (.int i)):∃c,d=.int i c:=by
 intros h M d i _ a;cases a with|int _ c=>exact⟨c,rfl⟩
def Rep.U1(a:Rep h M e (.lst d)):∃c f,e=.ref c/\PL h c f/\¬M c/\aa d<=bf/\aW h M f.toList d:=by
 intros h M e d _ a;cases a with|lst c i g b=>exact⟨_,_,rfl,c,i,g,b⟩
structure Kp(s s':Shared):Prop where
 gens:s'.gens=s.gens
 os:s'.os=s.os
 keep:∀b o,s.heap.get? b=U o->s'.heap.get? b=U o
def Kp.refl(a:Shared):Kp a a:=⟨rfl,rfl,λz z b=>b⟩
theorem Kp.trans(b:Kp a d)(e:Kp d c):Kp a c:=⟨e.gens.trans b.gens,e.os.trans b.os,λg f h=>e.keep g f (b.keep g f h)⟩
theorem Kp.toks(a:Shared)(c:Nat):Kp a {a with toks:=c}:=⟨rfl,rfl,λz z b=>b⟩
theorem Kp.push(a:Shared)(b:Obj):Kp a {a with heap:=a.heap.push b}:=⟨rfl,rfl,λz z c=>cG b c⟩
noncomputable def oS:List Str:=["len","range","sorted","max","min","list","dict","set","enumerate","zip","type","int","tuple"]
structure U3(h:bY)(K:Frag)(mg mb:Str->Option aC):Prop where
 jB:K.In h
 g:h.Ns mainGlobals mg
 b:h.Ns builtinsNs mb
 lim:h.NoLimit
 bi:∀x:Str,x≠"__name__"->mb x=bootBuiltins x
 bn:∀x∈oS,mg x=ai
 sm:∃o,h.get? sysModules=U o
structure Of(n:Nat)(A:Around):Prop where
 hh:A.handled=ai
 u:A.units+50*n+500<cLine
 d:A.depth+n<recursionLimit
inductive DR{K α:Type}(R:aC->α->Prop):List (K×aC)->List (K×α)->Prop
 |nil:DR R [] []
 |cons {k:K} {u:aC} {x:α} {us:List (K×aC)} {kvs:List (K×α)}:R u x->DR R us kvs->DR R ((k,u)::us) ((k,x)::kvs)
def DR.mono{c g:Type}{R d:aC->g->Prop}{e:List (c×aC)}{f:List (c×g)}(j:DR R e f)(hr:∀b a,R b a->d b a):DR d e f:=by
 induction j with
 |nil=>exact .nil
 |cons i _ h=>exact .cons (hr _ _ i) h
def DR.length{a d:Type}{R:aC->d->Prop}{b:List (a×aC)}{c:List (a×d)}(f:DR R b c):aa b=aa c:=by
 induction f with
 |nil=>rfl
 |cons g _ e=>rw[iz,iz,e]
def mw{i:Program}{j:World}{c:Type}[DecidableEq c]{d:KeyKind i j c}{h f:bY}{b:ak}{e:List (c×aC)}(g:h.DictOf d b e)(k:∀a,h.get? b=U a->f.get? b=U a):f.DictOf d b e:=
 kP (λa=>kP λl=>kP λm h=>⟨k a h.1,h.2⟩) g
def tw(e:Program)(c:World)(h:bY)(b:ak)(a:aF):Prop:=h.SetOf (intKind e c) b (λd=>a.contains d) (aa a)/\a.Nodup/\ng (fC c) h b
def AY{d:Program}{g:World}{h f:bY}{b:ak}{e:aF}(c:tw d g h b e)(k:∀a,h.get? b=U a->f.get? b=U a):tw d g f b e:=
 ⟨kP (λa=>kP λj=>kP λl=>kP λi h=>⟨k a h.1,h.2⟩) c.1,c.2.1,HD c.2.2 k⟩
set_option genCtorIdx true in
inductive V where
 |d (x:D)
 |r (a:ak)
set_option genCtorIdx true in
inductive Cn where
 |l (ds:List D)
 |v (vs:List V)
 |i (kvs:List (Int×V))
 |s (ks:aF)
 |k (kvs:List (Str×D))
 |o (d:ak)
 |t (dg:List (Str×V))
structure G0 where
 prog:Program
 w:World
 h₀:bY
 cls:ak
 K:Frag
 mg:Str->Option aC
 mb:Str->Option aC
structure C extends G0 where
 A:Around
 env:Env
 M:ak->Prop
 X:ak->Prop
 own:List Str
 n:Nat
 σ:ak->Option Cn
 wr:ak->Prop
 B:ak->Prop
instance:Nonempty D:=⟨.none⟩
instance:Nonempty V:=⟨.r 0⟩
instance:Nonempty Cn:=⟨.l []⟩
instance:Nonempty G0:=Hi (inferInstance:Nonempty World) λa=>⟨⟨default,a,{},0,[],λz=>ai,λz=>ai⟩⟩
instance:Nonempty C:=Hi (inferInstance:Nonempty G0) λa=>⟨⟨a,{},default,λz=>True,λz=>True,[],0,λz=>ai,λz=>True,λz=>True⟩⟩
def VR(M:bC)(h:bY):V->aC->Prop
 |.d x,v=>Rep h M v x
 |.r a,v=>v=.ref a
abbrev fD(c:C)(h:bY)(a:aC)(b:V):Prop:=VR c.M h b a
inductive d8(M:bC)(h:bY):cQ->List V->Prop
 |nil:d8 M h [] []
 |cons {x:aC} {xs:cQ} {v:V} {vs:List V}:VR M h v x->d8 M h xs vs->d8 M h (x::xs) (v::vs)
abbrev nh(c:C)(h:bY)(a:cQ)(b:List V):Prop:=d8 c.M h a b
def CR(c:G0)(M:bC)(h:bY)(b:ak):Cn->Prop
 |.l p=>∃d,PL h b d/\aa p<=bf/\aW h M d.toList p
 |.v n=>∃d,PL h b d/\aa n<=bf/\d8 M h d.toList n
 |.i f=>∃e,h.DictOf (intKind c.prog c.w) b e/\aa f<=bf/\DR (λj a=>VR M h a j) e f
 |.s x=>tw c.prog c.w h b x
 |.k f=>∃e,h.DictOf (strKind c.prog c.w) b e/\aa f<=bf/\DR (Rep h M) e f
 |.o y=>h.get? b=U ⟨.ref c.cls,U y,.plain,#[]⟩
 |.t m=>∃g r,h.get? b=U (dictOf g r)/\aa g=aa m/\(∀u∈g,∃a z,u.key=.str a z)/\(∀a q,m.lookup a=U q->∃j,getL a g=U (U j)/\handedIn j=af/\VR M h q j)/\∀a,m.lookup a=ai->getL a g=U ai
section
variable {M M':bC}{h h':bY}
def VR.mono(hr:∀{u:aC} {d:D},Rep h M u d->Rep h' M' u d){a:V}{u:aC}(b:VR M h a u):VR M' h' a u:=by
 cases a with
 |d c=>exact hr b
 |r e=>exact b
theorem d8.mono(hr:∀{u:aC} {d:D},Rep h M u d->Rep h' M' u d){a:cQ}{b:List V}(f:d8 M h a b):d8 M' h' a b:=by
 induction f with
 |nil=>exact .nil
 |cons e _ c=>exact .cons (e.mono hr) c
def d8.length(b:d8 M h xs a):aa xs=aa a:=by
 induction b with
 |nil=>rfl
 |cons d _ c=>simp[c]
theorem d8.size{b:Array aC}{a:List V}(c:d8 M h b.toList a):b.size=aa a:=c.length
def d8.nl{a:cQ}{G:cQ->Prop}(b:d8 M h a [])(c:G []):G a:=by cases b;exact c
def d8.un{b:cQ}{e:V}{d:List V}{c:cQ->Prop}(i:d8 M h b (e::d))(f:∀a b,VR M h e a->d8 M h b d->c (a::b)):c b:=by cases i with|cons g j=>exact f _ _ g j
def d8.e1{b:cQ}{c:V}{G:cQ->Prop}(e:d8 M h b [c])(g:∀a,VR M h c a->G [a]):G b:=e.un λa z d f=>f.nl (G:=λb=>G (a::b)) (g a d)
def d8.e2{c:cQ}{e f:V}{d:cQ->Prop}(k:d8 M h c [e,f])(i:∀a b,VR M h e a->VR M h f b->d [a,b]):d c:=k.un λa z j l=>l.e1 (G:=λc=>d (a::c)) λb g=>i a b j g
def aW.Og(hr:∀{u:aC} {d:D},Rep h M u d->Rep h' M' u d){a:cQ}{c:List D}(b:aW h M a c):aW h' M' a c:=by
 induction a generalizing c with
 |nil=>cases b;exact .nil
 |cons g a e=>cases b with|cons f b=>exact .cons (hr f) (e b)
theorem CR.mono{w:G0}(hr:∀{u:aC} {d:D},Rep h M u d->Rep h' M' u d){n:ak}(f:∀a,h.get? n=U a->h'.get? n=U a){r:Cn}(b:CR w M h n r):CR w M' h' n r:=by
 cases r with
 |l I=>let ⟨p,c,m,e⟩:=b;revert e;intro b;exact⟨p,c.at f,m,b.Og hr⟩
 |v H=>let ⟨p,c,m,e⟩:=b;revert e;intro b;exact⟨p,c.at f,m,b.mono hr⟩
 |i B=>let ⟨q,c,j,e⟩:=b;revert e;intro b;exact⟨q,mw c f,j,b.mono λZ Z g=>g.mono hr⟩
 |s J=>exact AY b f
 |k B=>let ⟨q,c,j,e⟩:=b;revert e;intro b;exact⟨q,mw c f,j,b.mono λZ Z g=>hr g⟩
 |o d=>exact f _ b
 |t K=>let ⟨C,j,c,m,g,e,A⟩:=b;revert e;intro b;exact⟨C,j,f _ c,m,g,λx E y=>let ⟨u,G,z,F⟩:=b x E y;⟨u,G,z,F.mono hr⟩,A⟩
end
theorem VR.keep(j:fD f h c e)(g:∀b a,h.get? b=U a->d.get? b=U a):fD f d c e:=j.mono λi=>i.keep g
theorem d8.keep(g:d8 M h xs c)(e:∀b a,h.get? b=U a->d.get? b=U a):d8 M d xs c:=g.mono λf=>f.keep e
structure Bs(c:C)(s:Shared):Prop where
 keep:∀b o,c.h₀.get? b=U o->s.heap.get? b=U o
 base:U3 c.h₀ c.K c.mg c.mb
 room:Of c.n c.A
 fR:∀a,c.M a->∃o,s.heap.get? a=U o
 xm:∀a,c.X a->c.M a
 jS:∀a,c.M a->c.h₀.get? a=ai
 dc:∀a cn,c.σ a=U cn->c.M a/\¬c.X a/\CR c.toG0 c.M s.heap a cn
 iR:∀a,c.wr a->c.M a/\¬c.X a/\∃cn,c.σ a=U cn
 bm:∀a,c.B a->c.M a
def Bs.chg(a:Bs c i)(p:∀b f,c.h₀.get? b=U f->g.heap.get? b=U f)(k:∀e,c.M e->∃f,g.heap.get? e=U f)(hr:∀{u:aC} {d:D},Rep i.heap c.M u d->Rep g.heap c.M u d)
 (n:∀e h,c.σ e=U h->∀f,i.heap.get? e=U f->g.heap.get? e=U f):Bs c g:=
 ⟨p,a.base,a.room,k,a.xm,a.jS,λe h j=>let ⟨o,l,m⟩:=a.dc e h j;⟨o,l,m.mono hr (n e h j)⟩,a.iR,a.bm⟩
def Bs.kp(g:Bs f e)(k:Kp e d):Bs f d:=
 g.chg (λh a b=>k.keep h a (g.keep h a b)) (λc j=>let ⟨a,b⟩:=g.fR c j;⟨a,k.keep c a b⟩) (λi=>i.keep k.keep) λc z z a b=>k.keep c a b
def Bs.wI(b:Bs d e)(a:ak)(h:d.X a):d.h₀.get? a=ai:=b.jS a (b.xm a h)
def Bs.new{c:C}{b:Shared}(e:Bs c b){a:ak}(h:b.heap.get? a=ai):¬c.M a:=λf=>by
 let ⟨g,d⟩:=e.fR a f;exact ns h d
def Bs.tB{b:C}{c:Shared}(f:Bs b c){a:ak}(h:c.heap.get? a=ai):b.h₀.get? a=ai:=by
 cases e:b.h₀.get? a with
 |none=>rfl
 |some d=>exact ns h (f.keep a d e)
def dX(h:bY):h.get? h.objs.size=ai:=by
 cases e:h.get? h.objs.size with
 |none=>rfl
 |some a=>exact aV (d7 e) (z9 _)
def Bs.Oh(c:Bs e f)(h:e.h₀.get? d=ai):(d==sysModules)=aA:=beq_eq_false_iff_ne.mpr λb=>by
 let ⟨g,a⟩:=c.base.sm;rw[<-b,h] at a;cases a
theorem Bs.size(a:Bs e d):¬e.M d.heap.objs.size:=a.new (dX _)
def Holds(d:Shared)(a:Env)(b:Str)(c:aC):Prop:=
 (a.kindOf b=U .local/\∃f,d.heap.Ns a.locals f/\f b=U c)\/
 ((a.kindOf b=U .cell\/a.kindOf b=U .free)/\∃e,a.cells.lookup b=U e/\d.heap.IsCell e (U c))
def Holds.keep(j:Holds h env d g)(i:∀b c,h.heap.get? b=U c->f.heap.get? b=U c):Holds f env d g:=by
 rcases j with⟨a,m,n,e⟩|⟨a,b,l,q⟩
 .exact .inl ⟨a,m,n.keeps i,e⟩
 exact .inr ⟨a,b,l,q.keeps i⟩
structure St(c:C)(ρ:List (Str×V))(s:Shared):Prop where
 bs:Bs c s
 kind:c.env.scope.kind=.function
 globals:c.env.globals=mainGlobals
 builtins:c.env.builtins=builtinsNs
 inj:∀x y a,c.env.cells.lookup x=U a->c.env.cells.lookup y=U a->x=y
 qo:∀x a,c.env.cells.lookup x=U a->∃v,s.heap.IsCell a v
 vars:∀x v,ρ.lookup x=U v->(x==("__debug__":Str))=aA/\(x==("__classdict__":Str))=aA/\∃u,Holds s c.env x u/\fD c s.heap u v
theorem St.kp(a:St e g f)(k:Kp f d):St e g d:=
 ⟨a.bs.kp k,a.kind,a.globals,a.builtins,a.inj,λb h l=>(a.qo b h l).elim λc j=>⟨c,j.keeps k.keep⟩,λb c i=>by let ⟨h,o,p,m,n⟩:=a.vars b c i;exact⟨h,o,p,m.keep k.keep,n.keep k.keep⟩⟩
abbrev no:aC->Shared->Prop:=λz z=>False
abbrev C.m(a:C):Model:=model a.prog a.w
structure Dr(c:C)(s:Shared)(v:V)(x:aC)(s':Shared):Prop where
 k:Kp s s'
 r:fD c s'.heap x v
inductive Oi(c:C)(s:Shared)(ds:List D)(x:aC)(s':Shared):Prop
 |mk (k:Kp s s') (a:ak) (vs:Array aC) (e:x=.ref a) (n:s.heap.get? a=ai) (i:PL s'.heap a vs) (z:aa ds<=bf) (r:aW s'.heap (λb=>c.M b\/b=a) vs.toList ds)
structure AZ{α:Type}(s:Shared)(b:α)(x:α)(s':Shared):Prop where
 k:Kp s s'
 r:x=b
structure Oj(M:bC)(s:Shared)(ds:List D)(xs:cQ)(s':Shared):Prop where
 k:Kp s s'
 r:aW s'.heap M xs ds
def Ev(a:C)(e:List (Str×V))(c:aT)(d:V):Prop:=
 ∀b,St a e b->wpAny a.m a.A (eval c a.env) (Dr a b d) no b
def cF(a:C)(e:List (Str×V))(c:aT)(d:List D):Prop:=
 ∀b,St a e b->wpAny a.m a.A (eval c a.env) (Oi a b d) no b
def bX(a:C)(e:List (Str×V))(d:aT)(b:Bool):Prop:=
 ∀c,St a e c->wpAny a.m a.A (isTrue d a.env (eval d a.env)) (AZ c b) no c
section
variable {c:C}{ρ:List (Str×V)}{e e₁ e₂:aT}{v v₁ v₂:V}
def Ev.U4(h:cF c ρ e ds):Ev c ρ e (.d (.lst ds)):=λk a=>
 aS (h k a) (λz m b=>by obtain⟨i,o,n,e,f,g,j,l⟩:=b;exact⟨i,e▸.lst g (a.bs.new f) j (l.lM λz h=>.inl h)⟩)
theorem Ev.int{k b}:Ev c ρ (.Constant (.int i) k b) (.d (.int i)):=λa z=>wpAny_Constant_int ⟨Kp.toks a _,.int i _⟩
theorem Ev.str{k e}(h:uG a=af):Ev c ρ (.Constant (.str a) k e) (.d (.str a)):=λb z=>Constant_str ⟨Kp.toks b _,.str a _ h⟩
theorem Ev.none{k b}:Ev c ρ (.Constant .none k b) (.d .none):=λa z=>by
 rw[eval_Constant];exact aM ⟨Kp.refl a,.none⟩
theorem Ev.bool{k e}:Ev c ρ (.Constant (.bool b) k e) (.d (.bool b)):=λa z=>by
 rw[eval_Constant];exact aM ⟨Kp.refl a,.bool b⟩
def Holds.load{M:Model}{q:Around}{p:cI}{g:Shared}{j:Env}{d:Str}{v:aC}{k:cI}(h:Holds g j d v)(f:j.scope.kind=.function)(o:(d==("__classdict__":Str))=aA)(c:k v g):
 wpAny M q (loadName j d) k p g:=by
 rcases h with⟨a,m,n,e⟩|⟨a|a,b,l,i⟩
 .exact wpAny_loadName_local f a n e c
 .exact wpAny_loadName_cell f a l i c
 exact wpAny_loadName_free f a l i c o
def Ev.name{d}(h:ρ.lookup a=U v):Ev c ρ (.Name a d) v:=λg b=>by
 obtain⟨f,e,k,i,j⟩:=b.vars a v h;exact wpAny_Name (i.load b.kind e ⟨Kp.refl g,j⟩) f
def EvAll(c:C)(ρ:List (Str×V))(e:cN)(d:List D):Prop:=
 ∀a b,St c ρ a->wpAny c.m c.A (spliced (backTo b (starEach e c.env))) (Oj c.M a d) no a
noncomputable def cD:aT->Bool
 |.Starred ..=>af
 |_=>aA
def iL(a:Env)(h:cD e=aA)(b:cN):starEach (e::b) a=(aA,eval e a)::starEach b a:=by
 cases e<;>first|rfl|cases h
theorem EvAll.nil:EvAll c ρ [] []:=λa b z=>qj ⟨Kp.refl a,.nil⟩
theorem EvAll.cons{f:D}{j:cN}{g:List D}(h:Ev c ρ e (.d f))(o:EvAll c ρ j g)(hs:autoParam (cD e=aA) aI):EvAll c ρ (e::j) (f::g):=λn l i=>by
 rw[iL _ hs];refine m8 (aS (h n i) (λp m a=>?_));exact aS (o m l (i.kp a.k)) (λq s b=>⟨a.k.trans b.k,.cons (Rep.keep a.r b.k.keep) b.r⟩)
theorem Ev.tup{f:cN}{ds:List D}{k a}(h:EvAll c ρ f ds)(hz:aa ds<=bf:=by exact bM J):Ev c ρ (.Tuple f k a) (.d (.tup ds)):=λi b=>by
 refine Cz (aS (h i a b) (λl g j=>?_));rcases j with⟨k,q⟩
 refine⟨by rw[q.length];exact gZ hz,k.trans (Kp.push g _),?_⟩;exact .tup ⟨0,dw _ J⟩ (b.bs.kp k).size hz (q.keep λz z e=>cG _ e)
def cF.list{f:cN}{ds:List D}{b}(h:EvAll c ρ f ds)(hz:aa ds<=bf:=by exact bM J):cF c ρ (.List f b) ds:=λg i=>by
 refine Gi (aS (h g b i) (λj d a=>⟨by rw[a.r.length];exact gZ hz,a.k.trans (Kp.push d _),_,_,rfl,?_,⟨0,dw _ J⟩,hz,a.r.fresh (dX _) λz z e=>cG _ e⟩));cases e:g.heap.get? d.heap.objs.size with
 |none=>rfl
 |some l=>exact ns (dX _) (a.k.keep _ _ e)
end
abbrev aH:=List D
abbrev gm:=List V
abbrev d9:=C->D->Prop
abbrev rS:=C->V->Prop
open Mine.Ev renaming name->ah,int->aQ,U4->bF,tup->bQ,str->dR,none->HG
open Mine.EvAll renaming cons->aN,nil->aZ
open Mine.cF renaming list->eL
open Mine.D renaming tup->gn,int->iM,none->kQ,lst->oU
open Mine.V renaming r->gF,d->j6
open Mine.Kp renaming refl->gT,push->g8,toks->iS
open Mine.d8 renaming e1->mC,e2->A5
open Mine.Cn renaming i->mD
open Mine.Rep renaming int->qp,U1->wJ,keep->yG,tup->Ds,qm->Ol
mutual
noncomputable def D.py:D->PyData
 |.none=>.none
 |.bool d=>.bool d
 |.int b=>.int b
 |.str c=>.str c
 |.tup a=>.tuple (D.fS a)
 |.lst a=>.list (D.fS a)
noncomputable def D.fS:aH->List PyData
 |[]=>[]
 |d::ds=>D.py d::D.fS ds
end
mutual
noncomputable def D.dep:D->Nat
 |.tup a=>D.dO a+1
 |.lst a=>D.dO a+1
 |_=>0
noncomputable def D.dO:aH->Nat
 |[]=>0
 |d::ds=>max (D.dep d) (D.dO ds)
end
mutual
theorem D.uP:∀d:D,d.py.depth=d.dep
 |.none=>rfl
 |.bool _=>rfl
 |.int _=>rfl
 |.str _=>rfl
 |.tup a=>by rw[D.py,ME,D.dep,D.wK a]
 |.lst a=>by rw[D.py,ME,D.dep,D.wK a]
theorem D.wK:∀a:aH,MF (D.fS a)=D.dO a
 |[]=>rfl
 |d::a=>by rw[D.fS,MF,D.dO,D.uP d,D.wK a]
end
section
variable {h:bY}{M:bC}{a:ak}{us:Array aC}{es:aH}
def U5(i:PT h a us)(c:(∃b,vX h us.toList (D.fS es) b)/\s6 (D.fS es)=af):(∃b,xZ h (.ref a) (gn es).py b)/\(gn es).py.canLay0=af:=by
 rw[D.py,G3];exact⟨i.elim λf d=>c.1.elim λb e=>⟨_,.tuple d J J e⟩,c.2⟩
def U6(i:PL h a us)(c:(∃b,vX h us.toList (D.fS es) b)/\s6 (D.fS es)=af):(∃b,xZ h (.ref a) (oU es).py b)/\(oU es).py.canLay0=af:=by
 rw[D.py,G3];exact⟨i.elim λf d=>c.1.elim λb e=>⟨_,.list d J J e⟩,c.2⟩
def Om(a:(∃c,xZ h f d.py c)/\d.py.canLay0=af)(b:(∃c,vX h e (D.fS es) c)/\s6 (D.fS es)=af):(∃c,vX h (f::e) (D.fS (d::es)) c)/\s6 (D.fS (d::es))=af:=by
 rw[D.fS,s6,a.2,b.2];exact⟨a.1.elim λc g=>b.1.elim λj i=>⟨_,.cons g i⟩,rfl⟩
def Rep.reads(k:Rep h M e d):(∃c,xZ h e d.py c)/\d.py.canLay0=af:=
 Rep.rec (motive_1:=λe d z=>(∃c,xZ h e d.py c)/\d.py.canLay0=af) (motive_2:=λj f z=>(∃c,vX h j (D.fS f) c)/\s6 (D.fS f)=af)
  ⟨⟨_,.none⟩,rfl⟩ (λl=>⟨⟨_,.bool l⟩,rfl⟩) (λa b=>⟨⟨_,.int a b⟩,rfl⟩) (λg b i=>⟨⟨_,.str g b⟩,i⟩) (λa z z z=>U5 a) (λa z z z=>U6 a) ⟨⟨_,.nil⟩,rfl⟩ (λz z=>Om) k
theorem aW.reads(d:aW h M c b):(∃e,vX h c (D.fS b) e)/\s6 (D.fS b)=af:=
 d.ind (m:=λc b=>(∃e,vX h c (D.fS b) e)/\s6 (D.fS b)=af) ⟨⟨_,.nil⟩,rfl⟩ λa z f=>Om a.reads f
end
def D.beq(a b:D):Bool:=jP a.py b.py
def D.has(a:aH)(b:D):Bool:=(D.fS a).any λc=>jP c b.py
def iA(c:C):V->aH->Prop
 |.d (.lst ds),b=>ds=b
 |.r a,b=>c.σ a=U (.l b)
 |_,_=>False
def VR.qq{f:C}{g:Shared}{e:aC}{j:V}{i:aH}(h:fD f g.heap e j)(k:Bs f g)(c:iA f j i):∃a b,e=.ref a/\PL g.heap a b/\aa i<=bf/\aW g.heap f.M b.toList i:=by
 intros f g e j i _ h k c;cases j with
 |d e=>
  cases e with
  |lst o=>cases c;let ⟨a,b,c,m,_,n,h⟩:=wJ h;exact⟨a,b,c,m,n,h⟩
  |_=>cases c
 |r a=>obtain⟨_,_,b,l⟩:=k.dc a _ c;exact⟨a,b,h,l⟩
theorem VR.qm(f:fD c h e (.d (.tup ds))):∃a b,e=.ref a/\PT h a b/\¬c.M a/\aa ds<=bf/\aW h c.M b.toList ds:=by
 exact Ol f
theorem VR.eF(e:fD c h b (.d (.int i))):∃a,b=.int i a:=by
 exact Rep.eF e
def VR.is_bool(c:fD b h a (.d (.bool i))):a=.bool i:=by
 intros b h a i _ c;cases c with|bool i=>rfl
def Bin(a:C)(f:Operator)(h e g:V):Prop:=∀b c d,Bs a b->fD a b.heap c h->fD a b.heap d e->wpAny a.m a.A (binaryOp f c d) (Dr a b g) no b
def Cmp(a:C)(g:l8)(h f:V)(b:Bool):Prop:=∀c d e,Bs a c->fD a c.heap d h->fD a c.heap e f->wpAny a.m a.A (compareOp g d e) (AZ c (C3 b)) no c
section
variable {c:C}{ρ:List (Str×V)}{e e₁ e₂ A6:aT}{v v₁ v₂:V}{pos:Pos}
def Ev.bin(j:Ev c ρ e₁ v₁)(l:Ev c ρ e₂ v₂)(ho:Bin c op v₁ v₂ v):Ev c ρ (.BinOp e₁ op e₂ pos) v:=λi d=>
 wpAny_BinOp (aS (j i d) (λf g a=>aS (l g (d.kp a.k)) (λh m b=>
  aS (ho m f h (d.bs.kp (a.k.trans b.k)) (a.r.keep b.k.keep) b.r) (λz z e=>⟨(a.k.trans b.k).trans e.k,e.r⟩))))
def bX.cmp(n:Ev c ρ e₁ v₁)(p:Ev c ρ e₂ v₂)(ho:Cmp c op v₁ v₂ b)(j:behindInMarks op e₂=aA:=by with_unfolding_all rfl):bX c ρ (.Compare e₁ [op] [e₂] pos) b:=λm e=>
 Gj (aS (n m e) (λg k ⟨d,f⟩=>aS (p k (e.kp d)) (λl q ⟨a,h⟩=>
  aS (ho q g l (e.bs.kp (d.trans a)) (f.keep a.keep) h) (λ_ _ ⟨i,o⟩=>by subst o;exact Ag ⟨(d.trans a).trans i,rfl⟩)))) j
def Bin.add:Bin c .Add (.d (.int a)) (.d (.int b)) (.d (.int (a+b))):=λf h k i g e=>by
 let ⟨j,zy⟩:=g.eF;let ⟨l,zy⟩:=e.eF;exact add_int ⟨iS f _,qp _ _⟩
def Bin.sub:Bin c .Sub (.d (.int a)) (.d (.int b)) (.d (.int (a-b))):=λf h k i g e=>by
 let ⟨j,zy⟩:=g.eF;let ⟨l,zy⟩:=e.eF;exact sub_int ⟨iS f _,qp _ _⟩
def Bin.mul(f:IntMulOk a b):Bin c .Mult (.d (.int a)) (.d (.int b)) (.d (.int (a*b))):=λg i l j h e=>by
 let ⟨k,zy⟩:=h.eF;let ⟨m,zy⟩:=e.eF;exact mul_int ⟨iS g _,qp _ _⟩ f
def Bin.mod(e:b≠0):Bin c .Mod (.d (.int a)) (.d (.int b)) (.d (.int (a.fmod b))):=λg i l j h f=>by
 let ⟨k,zy⟩:=h.eF;let ⟨m,zy⟩:=f.eF;exact mod_int' e ⟨iS g _,qp _ _⟩
def Bin.div(e:b≠0)(hz:b.natAbs<1073741824):Bin c .FloorDiv (.d (.int a)) (.d (.int b)) (.d (.int (a.fdiv b))):=λg i l j h f=>by
 let ⟨k,zy⟩:=h.eF;let ⟨m,zy⟩:=f.eF;exact floordiv_int e ⟨iS g _,qp _ _⟩ (.inl (PyProof.noPylong_small hz))
def Ev.neg(h:Ev c ρ e (.d (.int a))):Ev c ρ (.UnaryOp .USub e pos) (.d (.int (-a))):=λj i=>by
 have f:eval (.UnaryOp .USub e pos) c.env=(do let v<-eval e c.env;standAt pos;holding [v] (unaryOp .USub v)):=rfl;rw[f];refine ay (aS (h j i) (λl g b=>ay (lB (dW ?_))));let ⟨m,zy⟩:=b.r.eF;exact neg_int ⟨b.k.trans (iS g _),qp _ _⟩
def Bin.U7(hz:(a++b).length<=bf):Bin c .Add (.d (.tup a)) (.d (.tup b)) (.d (.tup (a++b))):=by
 intros c a b _ hz;exact λo z B v s p=>by
  let ⟨r,k,zy,l,_,C,n⟩:=s.qm;let ⟨q,h⟩:=l;let ⟨t,j,zy,l,_,A,m⟩:=p.qm;let ⟨u,i⟩:=l
  have x:k.size+j.size<=sizeLine:=by
   have f:=n.size;have g:=m.size;rw[f,g,<-bO];exact gZ hz
  by_cases f:k.isEmpty=af
  .have y:a=[]:=by
    have:=n.length;simp only[Mw] at f;subst f;simpa using this.symm
   subst y;exact concat_meets ⟨_,h,rfl⟩ ⟨_,i,rfl⟩ Lc seq_tuple_add MO MP (MQ _ _)
    (tuple_addW0 r t k j q u ai ai #[] #[] f) ⟨h,i,gT o,p⟩
  by_cases g:j.isEmpty=af
  .have w:b=[]:=by
    have:=m.length;simp only[Mw] at g;subst g;simpa using this.symm
   subst w;rw[c8];exact concat_meets ⟨_,h,rfl⟩ ⟨_,i,rfl⟩ Lc seq_tuple_add MO MP (MQ _ _)
    (tuple_addW1 r t k j q u ai ai #[] #[] f g) ⟨h,i,gT o,s⟩
  refine P.add_tuple h i f g ⟨g8 o _,Ds ⟨0,dw _ J⟩ v.size hz ?_⟩ x;rw[GX];exact(n.append m).keep λZ Z e=>cG _ e
def fL(k:Kp a d)(h:d.heap.get? b=ai):a.heap.get? b=ai:=by
 cases e:a.heap.get? b with
 |none=>rfl
 |some c=>exact ns h (k.keep _ _ e)
theorem cF.add(u:Ev c ρ e₁ v₁)(v:Ev c ρ e₂ v₂)(w:iA c v₁ ds)(m:iA c v₂ es)(hz:(ds++es).length<=bf):cF c ρ (.BinOp e₁ .Add e₂ pos) (ds++es):=λt d=>
 wpAny_BinOp (aS (u t d) (λy p a=>aS (v p (d.kp a.k)) (λB x b=>by
  let ⟨D,q,zy,f,C,h⟩:=(a.r.keep b.k.keep).qq (d.bs.kp (a.k.trans b.k)) w;let ⟨z,j⟩:=f;let ⟨E,i,zy,f,A,g⟩:=b.r.qq (d.bs.kp (a.k.trans b.k)) m;let ⟨F,o⟩:=f
  have l:q.size+i.size<=sizeLine:=by
   have s:=h.size;have n:=g.size;rw[s,n,<-bO];exact gZ hz
  refine P.add_list j o ⟨(a.k.trans b.k).trans (g8 x _),_,_,rfl,fL (a.k.trans b.k) (dX _),⟨0,dw _ J⟩,hz,?_⟩ l;rw[GX];exact(h.append g).fresh (dX _) λy y e=>cG _ e)))
def Cmp.eq(l:min a.dep b.dep<=400):Cmp c .Eq (.d a) (.d b) (D.beq a b):=λn r v j o g=>by
 let ⟨e,h⟩:=Rep.reads o;let ⟨p,f⟩:=e;let ⟨e,i⟩:=Rep.reads g;let ⟨q,m⟩:=e;exact SeqAt.compareEq_reads f m h i (by rw[D.uP,D.uP];exact uM (k:=0) l j.room.u J) ⟨gT n,rfl⟩
def Cmp.ne(i:min x.dep y.dep<=400):Cmp c .NotEq (.d x) (.d y) (!D.beq x y):=λl p v h m e=>by
 let ⟨a,f⟩:=Rep.reads m;let ⟨n,b⟩:=a;let ⟨a,g⟩:=Rep.reads e;let ⟨o,j⟩:=a;exact SeqAt.compareNe_reads b j f g (by rw[D.uP,D.uP];exact uM (k:=0) i h.room.u J) ⟨gT l,rfl⟩
def VR.Oo(l:fD c b.heap d v)(h:Bs c b)(e:iA c v ds):(∃a,xZ b.heap d (.list (D.fS ds)) a)/\s6 (D.fS ds)=af:=by
 let ⟨p,n,zy,f,o,j⟩:=l.qq h e;let ⟨m,i⟩:=f;let ⟨f,k⟩:=j.reads;let ⟨a,g⟩:=f;exact⟨⟨_,.list i J J g⟩,k⟩
def Cmp.U8(n:iA c v ds)(j:min (D.dO ds) a.dep<=400):Cmp c .NotIn (.d a) v (!D.has ds a):=λm s r e o g=>by
 let ⟨b,h⟩:=Rep.reads o;let ⟨p,f⟩:=b;let ⟨b,i⟩:=g.Oo e n;let ⟨q,l⟩:=b;exact SeqAt.notIn_list_reads l f i h (by rw[D.uP,D.wK];exact uM (k:=1) j e.room.u J) ⟨gT m,rfl⟩
def Cmp.inT(l:min (D.dO ds) a.dep<=400):Cmp c .In (.d a) (.d (.tup ds)) (D.has ds a):=λm r q j n h=>by
 let ⟨e,i⟩:=Rep.reads n;let ⟨o,g⟩:=e;let ⟨e,b⟩:=Rep.reads h;let ⟨p,f⟩:=e;rw[D.py] at f b;exact SeqAt.in_tuple_reads f g (by rw[G3] at b;exact b) i (by rw[D.uP,D.wK];exact uM (k:=1) l j.room.u J) ⟨gT m,rfl⟩
def Cmp.lt{a b:Int}:Cmp c .Lt (.d (.int a)) (.d (.int b)) (decide (a<b)):=λf h k i g e=>by
 let ⟨j,zy⟩:=g.eF;let ⟨l,zy⟩:=e.eF;exact lt_int ⟨gT f,rfl⟩
def Cmp.le:Cmp c .LtE (.d (.int a)) (.d (.int b)) (decide (a<=b)):=λf h k i g e=>by
 let ⟨j,zy⟩:=g.eF;let ⟨l,zy⟩:=e.eF;exact le_int ⟨gT f,rfl⟩
def Cmp.gt:Cmp c .Gt (.d (.int a)) (.d (.int b)) (decide (a>b)):=λf h k i g e=>by
 let ⟨j,zy⟩:=g.eF;let ⟨l,zy⟩:=e.eF;exact gt_int ⟨gT f,rfl⟩
end
open Mine.bX renaming cmp->bS
open Mine.D renaming beq->dS,uP->yH,has->yI
open Mine.Ev renaming bin->dY
open Mine.Cmp renaming eq->gz,ne->uQ,gt->Dt
open Mine.VR renaming eF->jT,qq->yJ,qm->HH
open Mine.cF renaming add->mE
open Mine.Bin renaming U7->oV,add->qt,mod->qw,div->Du
open Mine.Rep renaming reads->yK
def kR(f:l8)(i:Around)(c:Shared)(h d:aC)(b:Bool):Prop:=
 ∀(e:Program) (j:World) (g:cI) (a:cI),a (.bool b) c->wpAny (model e j) i (richCompare f h d) a g c
inductive tC(op:l8)(A:Around)(s:Shared)(fin:Bool):List (aC×aC)->Bool->Prop
 |nil:tC op A s fin [] fin
 |skip {y x:aC} {zs:List (aC×aC)} {r:Bool}:EqAt A s y x af->tC op A s fin zs r->tC op A s fin ((y,x)::zs) r
 |stop {y x:aC} {zs:List (aC×aC)} {r:Bool}:EqAt A s y x aA->kR op A s y x r->tC op A s fin ((y,x)::zs) r
noncomputable def HJ:l8->Int->Int->Bool
 |.Lt,a,b=>decide (a<b)
 |.LtE,a,b=>decide (a<=b)
 |.Gt,a,b=>decide (a>b)
 |_,a,b=>decide (a>=b)
noncomputable def oW:l8->Nat->Nat->Bool
 |.Lt,a,b=>decide (a<b)
 |.LtE,a,b=>decide (a<=b)
 |.Gt,a,b=>decide (a>b)
 |_,a,b=>decide (a>=b)
noncomputable def A7:l8->Bool
 |.Lt|.LtE|.Gt=>af
 |_=>aA
def U9:∃f:String->l8->gX,(gX.«tuple.__lt__»=f "__lt__" .Lt/\gX.«tuple.__le__»=f "__le__" .LtE/\gX.«tuple.__gt__»=f "__gt__" .Gt)/\
 ∀(name:String) (a:l8) (i b:ak) (c d:Array aC) (n j:Nat) (g:Bool),A7 a=af->Meets (f name a ⟨[.ref i,.ref b],[]⟩)
  (λh R e=>IsT e.heap i c n/\IsT e.heap b d j/\tC a h.in1 e (oW a c.size d.size) (c.toList.zip d.toList) g/\R (.ok (.ret (.bool g))) e):=
 ⟨_,⟨rfl,rfl,rfl⟩,λname a i b c d n j g C=>.of_wp λr p h R e l=>by
  obtain⟨y,D,x,w,z⟩:=e;let ⟨F,E,v,k⟩:=l;revert k;intro l;have G:=AutoSeq1.sub_tuple_tuple;have B:TY a c.size d.size=.bool (oW a c.size d.size):=by cases a<;>first|rfl|cases C
  wp_walk using Ld F,Ld E,wpAny_forIn_list _ (λA b s=>b.1=ai/\s=⟨y,D,x,w,z⟩/\tC a h.in1 ⟨y,D,x,w,z⟩ (oW a c.size d.size) A g) _
  .intro k A b s m;obtain⟨I,J⟩:=k;obtain⟨u,rfl,q⟩:=m;cases q with
   |skip t o=>
    refine ay (t r p _ _ ?_)
    wp_walk
    exact⟨rfl,rfl,o⟩
   |stop t o=>
    refine ay (t r p _ _ ?_);clear v B;cases a<;>first
     |(refine ay (rD (ay (o r p _ _ (aM ?_))));exact aM ⟨_,rfl,l⟩)
     |cases C
  .intro k s m;obtain⟨H,K⟩:=k;obtain⟨u,rfl,q⟩:=m;simp only at u;subst u;cases q
   wp_walk
   exact⟨_,rfl,B▸l⟩
  exact⟨rfl,rfl,v⟩⟩
mutual
noncomputable def D.ord(op:l8):D->D->Option Bool
 |.int a,.int b=>U (HJ op a b)
 |.tup xs,.tup ys=>D.rT op (oW op (aa xs) (aa ys)) xs ys
 |_,_=>m9
noncomputable def D.rT(a:l8)(b:Bool):aH->aH->Option Bool
 |x::xs,y::ys=>if dS x y then D.rT a b xs ys else D.ord a x y
 |_,_=>U b
end
def yL(a:l8)(f:Bool)(b c:D)(d e:aH):D.rT a f (b::d) (c::e)=if dS b c then D.rT a f d e else D.ord a b c:=rfl
def HK(a:l8)(b c:aH):D.ord a (.tup b) (.tup c)=D.rT a (oW a (aa b) (aa c)) b c:=rfl
theorem kR.int(ho:A7 op=af):kR op e d (.int a c) (.int b u) (HJ op a b):=λg j i h f=>by
 cases op
 case Lt=>exact lt_int f
 case LtE=>exact le_int f
 case Gt=>exact gt_int f
 all_goals cases ho
def kR.tup{f:l8}(ho:A7 f=af){q:Around}{j:Shared}{g b:ak}{a d:Array aC}{n k:Nat}{e:Bool}(i:IsT j.heap g a n)(c:IsT j.heap b d k)(p:q.units<cLine)
 (h:tC f q.in1 j (oW f a.size d.size) (a.toList.zip d.toList) e):kR f q j (.ref g) (.ref b) e:=λw z A x m=>by
 have l:C3 e≠Value.notImplemented:=λr=>nomatch r
 let ⟨y,t,o⟩:=U9;let ⟨v,s,u⟩:=t;cases f
 case Lt=>exact Gk (op:=.Lt) ⟨_,i,rfl⟩ ⟨_,c,rfl⟩ F.slot_tuple_lt F.entry_tuple_lt (F.args_tuple_lt_2 _ _) (v▸o _ _ g b a d n k e J) ⟨i,c,h,⟨l,m⟩⟩ p
 case LtE=>exact Gk (op:=.LtE) ⟨_,i,rfl⟩ ⟨_,c,rfl⟩ F.slot_tuple_le F.entry_tuple_le (F.args_tuple_le_2 _ _) (s▸o _ _ g b a d n k e J) ⟨i,c,h,⟨l,m⟩⟩ p
 case Gt=>exact Gk (op:=.Gt) ⟨_,i,rfl⟩ ⟨_,c,rfl⟩ F.slot_tuple_gt F.entry_tuple_gt (F.args_tuple_gt_2 _ _) (u▸o _ _ g b a d n k e J) ⟨i,c,h,⟨l,m⟩⟩ p
 all_goals cases ho
def D.Dv(h:c∈a):c.dep<=D.dO a:=by
 induction a with
 |nil=>cases h
 |cons e a d=>
  rw[D.dO];exact(bN.mp h).elim (λb=>b▸FZ _ _) λh=>aj (d h) (F0 _ _)
def Oq(h:D.ord d c a=U b):(∃i g,c=.int i/\a=.int g/\b=HJ d i g)\/∃e f,c=.tup e/\a=.tup f/\D.rT d (oW d (aa e) (aa f)) e f=U b:=by
 intros d c a b _ h;cases c with
 |int i=>
  cases a with
  |int g=>exact .inl ⟨_,_,rfl,rfl,(dF h).symm⟩
  |_=>cases h
 |tup e=>
  cases a with
  |tup f=>exact .inr ⟨_,_,rfl,rfl,h⟩
  |_=>cases h
 |_=>cases h
def tC.rep{op:l8}{k:Around}{h:Shared}{M:bC}{l b:Bool}{j:aH}:∀{c:aH} {g f:cQ},(∀d∈j,(k.units+1+d.dep<cLine)/\∀a u e b,Rep h.heap M u d->Rep h.heap M e a->D.ord op d a=U b->kR op k.in1 h u e b)->
 aW h.heap M g j->aW h.heap M f c->D.rT op l j c=U b->tC op k.in1 h l (g.zip f) b:=by
 intros op k h M l b j
 induction j with
 |nil=>
  intro c g f _ m _ i;rw[m.HF];obtain rfl:=dF (show U l=U b from i);exact .nil
 |cons d j z=>
  intro c g f r m n i;obtain⟨u,g,rfl,t,m⟩:=m.Dq;cases c with
  |nil=>
   rw[n.HF,List.zip_nil_right];obtain rfl:=dF (show U l=U b from i);exact .nil
  |cons a c=>
   obtain⟨e,f,rfl,q,n⟩:=n.Dq;rw[yL] at i;have s:=r d (.head _);let ⟨p,w⟩:=yK t;let ⟨B,v⟩:=p;let ⟨p,x⟩:=yK q;let ⟨C,y⟩:=p;have o:EqAt k.in1 h u e (dS d a):=eqAt_reads d.py a.py k.in1 h u e B C v y w x (by rw[yH,yH];exact eK (gc (oA _ _) _) s.1);rw[v7];cases hb:dS d a with
   |true=>rw[hb] at o i;exact .skip o (z (λd A=>r d (.tail _ A)) m n i)
   |false=>rw[hb] at o i;exact .stop o (s.2 a u e b t q i)
theorem kR.rep(ho:A7 op=af):∀(n:Nat) (c d:D) (a:Around) (u e:aC) (b:Bool),c.dep<=n->Rep f.heap M u c->Rep f.heap M e d->D.ord op c d=U b->a.units+c.dep<cLine->kR op a f u e b:=by
 intros op f M _ ho;intro n
 induction n with
 |zero=>
  intro c d a u e b l j i g m;rcases Oq g with⟨q,p,rfl,rfl,rfl⟩|⟨ds,es,rfl,rfl,g⟩
  .let ⟨v,zy⟩:=j.eF;let ⟨z,zy⟩:=i.eF;exact kR.int ho
  rw[D.dep] at l;exact aV l (KY _)
 |succ n w=>
  intro c d a u e b l j i g m;rcases Oq g with⟨q,p,rfl,rfl,rfl⟩|⟨ds,es,rfl,rfl,g⟩
  .let ⟨v,zy⟩:=j.eF;let ⟨z,zy⟩:=i.eF;exact kR.int ho
  replace g:D.rT op (oW op (aa ds) (aa es)) ds es=U b:=g;obtain⟨C,G,rfl,⟨E,q⟩,_,_,j⟩:=j.qm;obtain⟨H,F,rfl,⟨B,p⟩,_,_,i⟩:=i.qm;rw[D.dep] at l m;have s:=j.length;have r:=i.length;rw[jN] at s r;have k:∀h∈ds,h.dep<=n/\a.units+1+h.dep<cLine:=λh k=>⟨aj (D.Dv k) (Cr l),eK (aj (cj (rC _ 1 _)) (gc (aj (cj (kK 1 _)) (fG (D.Dv k))) _)) m⟩
  rw[<-s,<-r] at g;exact kR.tup ho q p (eK (fz _ _) m) (.rep (λh o=>⟨(k h o).2,λx u y b A t g=>w h x a.in1 u y b (k h o).1 A t g (k h o).2⟩) j i g)
theorem Cmp.ord(k:D.ord op a e=U b)(j:a.dep<=400)(ho:autoParam (A7 op=af) aI):Cmp c op (.d a) (.d e) b:=λg o l i m h=>by
 have f:=kR.rep ho a.dep a e c.A o l b (cB _) m h k (eK (dQ (fz _ (50*c.n)) (aj j ∅)) i.room.u) c.prog c.w no (AZ g (C3 b)) ⟨gT g,rfl⟩;cases op
 case Lt=>exact f
 case LtE=>exact f
 case Gt=>exact f
 all_goals cases ho
open Mine.Cmp renaming ord->uR
noncomputable def uS:aT->Bool
 |.Slice ..=>af
 |_=>aA
def Dw(h:uS a=aA)(b i:aC):subscripted a aA b i=operate [b,i] (getItem b i):=by
 cases a<;>first|rfl|cases h
def Va{i:Int}{n c:Nat}(h:(if(decide (0<=i)&&decide (i<(n:Int)))=af then U i.toNat else ai)=U c):0<=i/\i<n/\c=i.toNat:=
 dite ((decide (0<=i)&&decide (i<(n:Int)))=af) (λa=>have b:=(gQ _ _).mp a;⟨eZ b.1,eZ b.2,(dF ((az a).symm.trans h)).symm⟩) λa=>nomatch (aB a).symm.trans h
def Dy(h:seqIndex? k n=U a):-(n:Int)<=k/\k<n/\a<n/\(0<=k->a=k.toNat)/\(k<0->a=(k+n).toNat):=by
 have b:=Va (i:=if k<0 then k+n else k) h
 by_cases c:k<0
 .rw[az c] at b;exact⟨Int.le_of_add_le_add_right (dN (uD (Int.add_left_neg _)) b.1),rL c (fJ n),b.2.2▸(AI b.1).mpr b.2.1,λd=>aV c (iI.mpr d),λz=>b.2.2⟩
 rw[aB c] at b;exact⟨dN (Int.neg_nonpos_of_nonneg (fJ n)) b.1,b.2.1,b.2.2▸(AI b.1).mpr b.2.1,λz=>b.2.2,λd=>aV d c⟩
section
variable {c:C}{ρ:List (Str×V)}{e e₁ e₂ A6:aT}{v v₁ v₂:V}{pos:Pos}
def Ev.sub(j:Ev c ρ e₁ v₁)(l:Ev c ρ e₂ v₂)
 (ho:∀a b d,Bs c a->fD c a.heap b v₁->fD c a.heap d v₂->wpAny c.m c.A (subscriptTail e₁ e₂ b d) (Dr c a v) no a):Ev c ρ (.Subscript e₁ e₂ pos) v:=λa g=>
 C8 (aS (j a g) (λb i e=>aS (l i (g.kp e.k)) (λd n f=>
  aS (ho n b d (g.bs.kp (e.k.trans f.k)) (e.r.keep f.k.keep) f.r) (λz z h=>⟨(e.k.trans f.k).trans h.k,h.r⟩))))
def Ev.Dz(v:Ev c ρ e₁ v₁)(u:iA c v₁ ds)(x:Ev c ρ e₂ (.d (.int k)))(t:seqIndex? k (aa ds)=U j)(q:ds[j]?=U a)(hs:autoParam (uS e₂=aA) aI):
 Ev c ρ (.Subscript e₁ e₂ pos) (.d a):=v.sub x λm C B p w o=>by
 let ⟨y,r,zy,f,s,i⟩:=w.qq p u;let ⟨z,zy⟩:=o.eF;let ⟨A,l,n⟩:=i.get q;have g:r.size=aa ds:=i.length;have b:=Dy t;have h:=tu s;refine wD f.isList.typeIs slot_list_getitem.lookup ?_ (Dw hs _ _)
 by_cases e:0<=k
 .exact Le f.isList e (oH b.2.1 h) (by rw[<-b.2.2.2.1 e,<-gP];exact l) ⟨gT m,n⟩
 exact Lf f.isList (qe.mp e) (g.symm▸b.1) (dN (CS (iJ h)) b.1) (by rw[g,<-b.2.2.2.2 (qe.mp e),<-gP];exact l) ⟨gT m,n⟩
def Ev.Vb(r:Ev c ρ e₁ (.d (.tup ds)))(t:Ev c ρ e₂ (.d (.int k)))(f:seqIndex? k (aa ds)=U j)(m:ds[j]?=U x)(hs:autoParam (uS e₂=aA) aI):
 Ev c ρ (.Subscript e₁ e₂ pos) (.d x):=r.sub t λp A z u s h=>by
 let ⟨v,n,zy,a,_,o,e⟩:=s.qm;let ⟨w,zy⟩:=h.eF;let ⟨y,l,q⟩:=e.get m;have i:n.size=aa ds:=e.length;have g:=Dy f;have b:=tu o;exact wD a.isTup.typeIs slot_tuple_getitem.lookup (TR a.isTup (dN (CS (iJ b)) g.1) (oH g.2.1 b) (by rw[i];exact f) (by rw[<-gP];exact l) ⟨gT p,q⟩) (Dw hs _ _)
inductive nq(c:C)(ρ:List (Str×V)):Option aT->Option Int->Prop
 |none:nq c ρ ai ai
 |int {e:aT} {k:Int}:Ev c ρ e (.d (.int k))->nq c ρ (U e) (U k)
def nq.run(h:nq c ρ g f)(d:Shared)(j:St c ρ d):wpAny c.m c.A (evalPart g c.env) (λa b=>Kp d b/\yb a f) no d:=by
 cases h with
 |none=>exact aM ⟨gT d,.none⟩
 |int h=>exact aS (h d j) (λa b e=>by obtain⟨i,k⟩:=e;exact⟨i,by let ⟨l,zy⟩:=k.eF;exact .int _ _⟩)
noncomputable def j7(a:aH)(b hi:Option Int):aH:=(a.drop (b.elim 0 (clipAt (aa a)))).take (hi.elim (aa a) (clipAt (aa a))-b.elim 0 (clipAt (aa a)))
def Ot(c:aW h M a.toList ds)(b hi:Option Int):aW h M (slicePick a b hi ai).toList (j7 ds b hi):=by
 have d:=c.size;rw[Lg,d];exact(c.drop _).take _
def Ou(a:aH)(b hi:Option Int):(j7 a b hi).length<=aa a:=aj (Nj (Ly ..)) (Nj (List.drop_sublist ..))
def Ov{c hi:Option aT}{b:Pos}(a i:aC):subscripted (.Slice c hi ai b) aA a i=operate [i,a] (getItem a i):=rfl
theorem cF.slice{j:aH}{i hi:Option aT}{f u:Option Int}{s:Pos}(m:Ev c ρ e₁ v₁)(l:iA c v₁ j)(hl:nq c ρ i f)(p:nq c ρ hi u):cF c ρ (.Subscript e₁ (.Slice i hi ai s) pos) (j7 j f u):=by
 intros c ρ e₁ v₁ pos j i hi f u s _ m l hl p;exact λx b=>by
  refine C8 (aS (m x b) (λH E a=>Gl (aS (hl.run E (b.kp a.k)) (λz v ⟨d,y⟩=>aS (p.run v (b.kp (a.k.trans d))) (λC w ⟨h,B⟩=>?_)))));rw[evalPart_none];refine aM ?_;have t:=(a.k.trans d).trans h;let ⟨G,F,zy,D,q,o⟩:=(a.r.keep (d.trans h).keep).qq (b.bs.kp ((a.k.trans d).trans h)) l;have g:=g8 w {cls:=.type "slice",data:=.fields #[z,C,.none]};have n:=D.at (g.keep G);have A:F.size<=sizeLine:=by rw[o.size];exact gZ q
  refine wD n.isList.typeIs slot_list_getitem.lookup (Lh n.isList (Hp ..) y B .none (by simp) ?_ A) (Ov _ _);refine⟨(t.trans g).trans (g8 _ _),_,_,rfl,fL (t.trans g) (dX _),⟨0,dw _ J⟩,aj (Ou _ _ _) q,?_⟩;exact((Ot o f u).keep g.keep).fresh (dX _) λZ Z e=>cG _ e
def Vc(n:Nat)(v:Int):(if v<0 then max (v+n) 0 else min v n)=((clipAt n v:Nat):Int):=by
 rw[clipAt_cast]
 by_cases a:v<0
 .rw[az a,az a,Mb (dN (CT (iJ a) _) (uD (GI _))),Int.max_comm]
 rw[aB a,aB a,yp (Int.le_min.mpr ⟨iI.mp a,fJ n⟩)]
def DA(n b:Nat):clipAt n (b:Int)=min b n:=by
 unfold clipAt;rw[aB (iI.mpr (fJ b))]
 by_cases a:b<=n
 .rw[Mb (iK.mpr a),yp (fJ b),sQ a];rfl
 have a:=gf (vR.mp a);rw[Int.min_eq_right (iK.mpr a),yp (fJ n),Nat.min_eq_right a];rfl
def g9{j n:Nat}(h:j<n):seqIndex? (j:Int) n=U j:=by
 have e:(if(j:Int)<0 then(j:Int)+n else(j:Int))=j:=aB (iI.mpr (fJ j));show(if(decide (0<=(if(j:Int)<0 then(j:Int)+n else(j:Int)))&&decide ((if(j:Int)<0 then(j:Int)+n else(j:Int))<(n:Int)))=af then U ((if(j:Int)<0 then(j:Int)+n else(j:Int)).toNat) else ai)=U j;rw[e,az ((gQ _ _).mpr ⟨decide_eq_true (fJ j),decide_eq_true (dB.mpr h)⟩)];rfl
def Vd(a hi:Option Int)(n:Nat):Hh a hi 1 (n:Int)=(((a.elim 0 (clipAt n):Nat):Int),((hi.elim n (clipAt n):Nat):Int)):=by
 intros a hi n;unfold Hh;have b:¬((1:Int)<0):=by decide
 simp only[b,if_false];cases a<;>cases hi<;>simp[Vc]
def Ve(a b:Nat):De (a:Int) (b:Int) 1=b-a:=by
 unfold De;rw[az ∅,GJ,GK];split
 .exact Int.toNat_sub b a
 rename_i c;exact(Nat.sub_eq_zero_of_le (iK.mp (iI.mp c))).symm
def Ow{d:Program}{i:World}{g:Around}{e:cI}{c:Shared}{v:aC}{a:Option Int}{b:Option Int->Shared->Prop}(f:yb v a)(h:b a c):wpAny (model d i) g (TS v) b e c:=by
 cases f with
 |none=>exact M6 h
 |int j k=>exact slicePart_int h
def Vf{k:Program}{o:World}{m:Around}{l:cI}{b:Shared}{g:ak}{c f:aC}{a hi:Option Int}{n:Nat}{i:Int×Int×Nat->Shared->Prop}(hs:b.heap.IsSliceOf g c f .none)(pl:yb c a)(j:yb f hi)
 (h:i (((a.elim 0 (clipAt n):Nat):Int),1,hi.elim n (clipAt n)-a.elim 0 (clipAt n)) b):wpAny (model k o) m (M9 (.ref g) (pure (n:Int))) i l b:=by
 let ⟨q,e,p,d⟩:=id hs;unfold M9 TU;refine ay (ay (rG e d (x:=c) J (ay (rG e d (x:=f) J (ay (rG e d (x:=.none) J (aM ?_)))))));refine ay (M6 ?_);show wpAny _ _ (if((1:Int)==0)=af then _ else _) _ _ b;rw[aB ∅];refine ay (Ow pl (ay (Ow j (ay (aM ?_)))));show wpAny _ _ (match Hh a hi 1 (n:Int) with|(a,hi)=>pure (a,(1:Int),De a hi 1)) _ _ b;rw[Vd];show wpAny _ _ (pure (((a.elim 0 (clipAt n):Nat):Int),(1:Int),De ((a.elim 0 (clipAt n):Nat):Int) ((hi.elim n (clipAt n):Nat):Int) 1)) _ _ b;rw[Ve];exact aM h
def Vg(b:Array aC)(a k:Nat):((eT k).filterMap λ(i:Nat)=>b[((a:Int)+(i:Int)*1).toNat]?).toArray=((b.toList.drop a).take k).toArray:=by
 have e:(λ(i:Nat)=>b[((a:Int)+(i:Int)*1).toNat]?)=λi=>b[a+i]?:=by
  funext i;have:((a:Int)+(i:Int)*1).toNat=a+i:=by rw[Mc];rfl
  rw[this]
 rw[e];have:=pick_run b a k;rw[Gv] at this;have d:((λc=>b[c]?)∘λc=>a+c)=λi=>b[a+i]?:=rfl
 rw[d] at this;rw[this]
def Vh{o:Program}{j:World}{i:Around}{h:cI}{c:Shared}{d k:ak}{a:Array aC}{n p:aC}{b hi:Option Int}{f:cI}(l:PT c.heap d a)(hs:c.heap.IsSliceOf k n p .none)(pl:yb n b)(u:yb p hi)
 (h1:(slicePick a b hi ai).toList=a.toList->f (.ref d) c)
 (h2:f (.ref c.heap.objs.size) {c with heap:=c.heap.push {cls:=.type "tuple",data:=.seq (slicePick a b hi ai)}})
 (r:a.size<=sizeLine):wpAny (model o j) i (getItem (.ref d) (.ref k)) f h c:=by
 intros o j i h c d k _ a n p b hi f l hs pl u h1 h2 r;intros a n p b hi f _ l hs pl u h1 h2 r;have v:slicePick a b hi ai=((a.toList.drop (b.elim 0 (clipAt a.size))).take (hi.elim a.size (clipAt a.size)-b.elim 0 (clipAt a.size))).toArray:=Lg a b hi;have q:sizeOk (.seq (slicePick a b hi ai)):=aj (slicePick_size_le a b hi ai) r;let ⟨G,H⟩:=id l;have g:=l.isTup;let ⟨A,D,y,F⟩:=id hs;have z:c.TypeIs (.ref k) "slice":=⟨A,D,y⟩;unfold getItem
 try with_reducible refine dW ?_
 first|refine ay (aM ?_)|skip
 refine ay (Li g.typeIs ∅ ?_);refine ay (xY (name:=wC "__getitem__") g.typeIs M7
  (pV M7 g.typeIs entry_tuple_getitem ?_ (args_tuple_getitem _ _)))
 show wpAny _ _ (TZ (.ref d)>>=_) _ _ c;refine ay (tupleItemsOf_ g ?_);refine ay (vW z ?_);rw[az ∅];refine ay (Vf hs pl u ?_);show wpAny _ _ (if(((b.elim 0 (clipAt a.size):Nat):Int)==0&&(1:Int)==1&&(hi.elim a.size (clipAt a.size)-b.elim 0 (clipAt a.size))==a.size)=af then _ else _) _ _ c;have w:wpAny (model o j) i.in1 (ret (.ref c.heap.objs.size)) (λw t=>∃x,w=Fin.done (Hq x)/\wpAny (model o j) i (pure x) f h t) (λe t=>h e t) {c with heap:=c.heap.push {cls:=.type "tuple",data:=.seq (slicePick a b hi ai)}}:=aM ⟨_,rfl,aM h2⟩;split
 .rename_i s;simp only[gQ,beq_iff_eq] at s;have C:b.elim 0 (clipAt a.size)=0:=oN s.1.1
  have E:(slicePick a b hi ai).toList=a.toList:=by
   rw[v,s.2,C];simp only[List.drop_zero];exact Aq (by simp)
  have B:T3 (.ref d)=(do return (<-typeOf (.ref d))==.type "tuple"):=rfl;rw[B];refine ay (ay (vW g.typeIs (aM ?_)));exact ay (rD (ay (aM (aM ⟨_,rfl,aM (h1 E)⟩))))
 rw[Vg,<-v]
 first
  |exact ay (m:=Hr _) (wpAny_newObj_type (aM ⟨_,rfl,aM h2⟩) q)
  |exact ay (m:=Hr _) (wpAny_newObj_type (ay (aM (aM ⟨_,rfl,aM h2⟩))) q)
  |exact ay (ay (m:=Hr _) (wpAny_newObj_type (aM (aM ⟨_,rfl,aM h2⟩)) q))
def Ev.Vi{h:aH}{i hi:Option aT}{a u:Option Int}{v:Pos}(p:Ev c ρ e₁ (.d (.tup h)))(hl:nq c ρ i a)(s:nq c ρ hi u):Ev c ρ (.Subscript e₁ (.Slice i hi m9 v) pos) (.d (.tup (j7 h a u))):=by
 intros c ρ e₁ pos h i hi a u v _ p hl s;exact λz f=>by
  refine C8 (aS (p z f) (λL G g=>Gl (aS (hl.run G (f.kp g.k)) (λB x ⟨l,A⟩=>aS (s.run x (f.kp (g.k.trans l))) (λE y ⟨o,D⟩=>?_)))));rw[evalPart_none];refine aM ?_;have m:=(g.k.trans l).trans o;let ⟨K,H,zy,F,I,t,q⟩:=(g.r.keep (l.trans o).keep).qm;have b:=g8 y {cls:=.type "slice",data:=.fields #[B,E,.none]};have j:=F.at (b.keep K);have C:H.size<=sizeLine:=by rw[q.size];exact gZ t
  have n:=(Ot q a u).keep b.keep;have w:(j7 h a u).length<=bf:=aj (Ou _ _ _) t;refine wD j.isTup.typeIs slot_tuple_getitem.lookup (Vh j (Hp ..) A D (λe=>⟨m.trans b,Ds j I w (e▸n)⟩) ?_ C) (Ov _ _);refine⟨(m.trans b).trans (g8 _ _),Ds ⟨0,dw _ J⟩ ?_ w ?_⟩
  .exact(f.bs.kp (m.trans b)).size
  exact n.keep λZ Z e=>cG _ e
noncomputable def DB(c:C):V->Option Bool
 |.d (.bool b)=>U b
 |.d (.int i)=>U (i !=0)
 |.d .none=>U aA
 |.d (.lst ds)=>U (!ds.isEmpty)
 |.r a=>match c.σ a with
  |some (.l ds)=>U (!ds.isEmpty)
  |_=>m9
 |_=>m9
def bX.val(h:Ev c ρ e v)(f:DB c v=U b)(j:autoParam (∀a,isTrue e c.env a=(do let v<-a;standAt e.pos;holding [v] (truthy v))) lH):bX c ρ e b:=by
 intros c ρ e v b _ h f j;exact λu t=>by
  refine isTrue_plain (aS (h u t) (λx s w=>?_)) (j _);obtain⟨i,k⟩:=w
  have p:∀g,iA c v g->b=!g.isEmpty->wpAny c.m c.A (truthy x) (AZ u b) no s:=λg o e=>by
   let ⟨E,B,zy,y,D,z⟩:=k.qq (t.bs.kp i) o;have q:=z.size
   have j:B.isEmpty=g.isEmpty:=by
    unfold Array.isEmpty;rw[q];cases g<;>rfl
   refine wpAny_truthy_list y.isList (by rw[q];exact tu D) ⟨i.trans (iS s _),?_⟩;rw[e,j]
  cases v with
  |d n=>
   cases n with
   |bool n=>cases f;obtain rfl:=k.is_bool;exact Ag ⟨i,rfl⟩
   |int n=>cases f;let ⟨F,zy⟩:=k.eF;exact truthy_int ⟨i,rfl⟩
   |none=>cases f;cases k;exact truthy_none ⟨i,rfl⟩
   |lst g=>cases f;exact p g J J
   |_=>cases f
  |r o=>
   unfold DB at f;dsimp only at f;cases e:c.σ o with
   |none=>rw[e] at f;cases f
   |some C=>
    rw[e] at f;cases C with
    |l g=>cases f;exact p g e J
    |_=>cases f
def bX.not(h:bX c ρ e b):bX c ρ (.UnaryOp .Not e pos) (!b):=λd f=>
 isTrue_not (aS (h d f) (λi g a=>⟨a.k,by rw[a.r]⟩))
def iT(c:C)(ρ:List (Str×V))(d:BoolOp)(e:cN)(b:Bool):Prop:=∀a,St c ρ a->wpAny c.m c.A (allTrue d e c.env) (AZ a b) no a
def bX.bool(h:iT c ρ op a b):bX c ρ (.BoolOp op a pos) b:=λd e=>h d e
def iT.Vj:iT c ρ .And [] af:=λa z=>aM ⟨gT a,rfl⟩
def iT.Vk:iT c ρ .Or [] aA:=λa z=>aM ⟨gT a,rfl⟩
def iT.and(h:bX c ρ e a)(q:a=af->iT c ρ .And d b):iT c ρ .And (e::d) (a&&b):=λj i=>by
 show wpAny c.m c.A (do
  match BoolOp.And,<-isTrue e c.env (eval e c.env) with
  |.And,aA=>pure aA
  |.Or,af=>pure af
  |_,_=>allTrue .And d c.env) _ _ j
 refine ay (aS (h j i) (λo p n=>?_));obtain⟨f,l⟩:=n;subst l;cases o with
 |false=>exact aM ⟨f,rfl⟩
 |true=>exact aS (q J p (i.kp f)) (λs t g=>⟨f.trans g.k,by rw[g.r];rfl⟩)
def iT.or(h:bX c ρ e a)(n:a=aA->iT c ρ .Or d b):iT c ρ .Or (e::d) (a||b):=λi g=>by
 show wpAny c.m c.A (do
  match BoolOp.Or,<-isTrue e c.env (eval e c.env) with
  |.And,aA=>pure aA
  |.Or,af=>pure af
  |_,_=>allTrue .Or d c.env) _ _ i
 refine ay (aS (h i g) (λj l o=>?_));rcases o with⟨k,q⟩
 subst q;cases j with
 |true=>exact aM ⟨k,rfl⟩
 |false=>exact aS (n J l (g.kp k)) (λp s f=>⟨k.trans f.k,by rw[f.r];rfl⟩)
def Ev.ite(i:bX c ρ e b)(l:b=af->Ev c ρ e₁ v₁)(n:b=aA->Ev c ρ e₂ v₂):Ev c ρ (.IfExp e e₁ e₂ pos) (if b then v₁ else v₂):=λg d=>by
 show wpAny c.m c.A (do if<-isTrue e c.env (eval e c.env) then eval e₁ c.env else eval e₂ c.env) _ _ g;refine ay (aS (i g d) (λh f o=>?_));rcases o with⟨k,q⟩
 subst q;cases h with
 |true=>exact aS (l J f (d.kp k)) (λj p a=>⟨k.trans a.k,a.r⟩)
 |false=>exact aS (n J f (d.kp k)) (λj p a=>⟨k.trans a.k,a.r⟩)
end
open Mine.Ev renaming Vb->br,Dz->kT,ite->DC
open Mine.iT renaming and->ia,or->tD,Vj->wL,Vk->Ox
open Mine.bX renaming bool->iU,val->rU,not->HL
open Mine.cF renaming slice->tE
open Mine.nq renaming none->HM
structure Kx(X:bC)(s s':Shared):Prop where
 gens:s'.gens=s.gens
 os:s'.os=s.os
 keep:∀b o,¬X b->s.heap.get? b=U o->s'.heap.get? b=U o
def Kx.refl(a:Shared):Kx X a a:=⟨rfl,rfl,λz z z b=>b⟩
theorem Kx.trans(b:Kx X a d)(e:Kx X d c):Kx X a c:=⟨e.gens.trans b.gens,e.os.trans b.os,λh g f i=>e.keep h g f (b.keep h g f i)⟩
def Kp.kx(b:Kp a c):Kx X a c:=⟨b.gens,b.os,λf e z d=>b.keep f e d⟩
def Kx.mono(f:Kx e a d)(h:∀b,e b->c b):Kx c a d:=⟨f.gens,f.os,λb k g i=>f.keep b k (λj=>g (h b j)) i⟩
def Kx.kp(e:Kx d a c)(h:∀b,d b->a.heap.get? b=ai):Kp a c:=⟨e.gens,e.os,λb i f=>e.keep b i (λg=>by exact ns (h b g) f) f⟩
def lN(b:Obj):Prop:=∃a,b.data=.fields a
def oX(h:jR a)(d:lN a):False:=by
 let ⟨f,e,c⟩:=h;let ⟨g,b⟩:=d;rw[c] at b;cases b
structure jC(prog:Program)(w:World)(A:Around)(I:ak)(fp wr:i9)(ds:aH)(T:(ak->Prop)->Nat->bY->Prop):Prop where
 sub:∀b∈wr,b∈fp
 has:∀M i h,T M i h->∀b∈fp,∃o,h.get? b=U o
 frame:∀M i h h',T M i h->(∀b o,(b∈fp\/(¬M b/\jR o))->h.get? b=U o->h'.get? b=U o)->T M i h'
 up:∀M M' i h,T M i h->(∀a o,h.get? a=U o->M' a->M a)->T M' i h
 off:∀M i h,T M i h->∀b∈wr,∀o,h.get? b=U o->lN o
 item:∀M i d tg (s:Shared) (Q:cI),ds[i]?=U d->T M i s.heap->(∀a,M a->∃o,s.heap.get? a=U o)->
  (∀v s',Rep s'.heap M v d->T M (i+1) s'.heap->Kx (·∈wr) s s'->Q v s')->
  wpAny (model prog w) A (pyNext (.ref I)) (λr fM=>∃v,r=U v/\wpAny (model prog w) A (letOwnedTupleGo tg (.ref I) v) (λz oY=>Q v oY) no fM) no s
 done:∀M (s:Shared) (Q:Shared->Prop),T M (aa ds) s.heap->(∀s',Kx (·∈wr) s s'->Q s')->wpAny (model prog w) A (pyNext (.ref I)) (λr fM=>r=ai/\Q fM) no s
 self:∀M i (s:Shared) (Q:cI),T M i s.heap->Q (.ref I) s->wpAny (model prog w) A (pyIter (.ref I)) Q no s
def DE(ho:s.heap.get? c=U a)(o:a.cls=.type T)
 (m:(["enumerate","zip","dict_itemiterator","dict_reverseitemiterator","odict_iterator","itertools.zip_longest","itertools.pairwise"]:List String).contains T=aA) (h:b () s):wpAny M g (letOwnedTupleGo e (.ref c) d) b f s:=by
 have i:wpAny M g (do
  let (.ref l,.ref k):=(uH c,d)|return
  let a<-load l
  match a.cls,a.data with
  |.type n,.fields j=>
   if["enumerate","zip","dict_itemiterator","dict_reverseitemiterator","odict_iterator","itertools.zip_longest","itertools.pairwise"].contains n&&j[0]?==U (rawInt k) then
    rule "for.unpacks-the-owned-tuple"
    updateField l 0 .none
  |_,_=>pure ():Sem Unit) b f s:=by
  cases d with
  |ref k=>
   refine ay (wpAny_load ho ?_);rw[o];cases hd:a.data with
   |fields j=>
    dsimp only;rw[m];exact aM h
   |_=>exact aM h
  |_=>exact aM h
 cases e with
 |Tuple=>exact i
 |List=>exact i
 |_=>exact aM h
def aW.off{h g:bY}{M:bC}{e:cQ}{d:aH}{wr:i9}(l:aW h M e d)(k:∀b a,b∉wr->h.get? b=U a->g.get? b=U a)(ho:∀b∈wr,∀a,h.get? b=U a->lN a):aW g M e d:=
 l.mono λf a j i c=>⟨k f a (λm=>oX i (ho f m a c)) c,j⟩
def Rep.off{h g:bY}{M:bC}{e:aC}{d:D}{wr:i9}(l:Rep h M e d)(k:∀b c,b∉wr->h.get? b=U c->g.get? b=U c)(ho:∀b∈wr,∀c,h.get? b=U c->lN c):Rep g M e d:=
 l.mono λf c j i a=>⟨k f c (λm=>oX i (ho f m c a)) a,j⟩
def jC.list{prog:Program}{w:World}{A:Around}(N:A.handled=ai)(j l:ak)(S:l≠j)(u:Array aC)(ds:aH)(hl:u.size=aa ds):
 jC prog w A j [j,l] [j] ds (λM i h=>h.IsListIter j l i/\PL h l u/\aW h M u.toList ds) where
 sub:=λc e=>by simp at e;simp[e]
 has:=λM i h m T C=>by
  let ⟨d,c,k⟩:=m;simp at C;rcases C with rfl|rfl
  .let ⟨a,b,_⟩:=d;exact⟨a,b⟩
  let ⟨g,b⟩:=c;exact⟨_,b⟩
 frame:=λM i h r D f=>by let ⟨d,c,k⟩:=D;exact⟨d.at λa b=>f j a (.inl (by simp)) b,c.at λa b=>f l a (.inl (by simp)) b,k.mono λd a g p b=>⟨f d a (.inr ⟨g,p⟩) b,g⟩⟩
 up:=λM V i h R f=>by let ⟨d,c,k⟩:=R;exact⟨d,c,k.mono λd a g p b=>⟨b,λH=>g (f d a b H)⟩⟩
 off:=λM i h m c e G n=>by
  let ⟨K,_,_⟩:=m;let ⟨a,b,_,q⟩:=K;simp at e;subst e;rw[b] at n;cases n;exact⟨_,q⟩
 item:=λM i q X o z O m W t=>by
  let ⟨d,c,k⟩:=m;let ⟨v,F,L⟩:=k.get O
  have y:∀c∈[j],∀a,o.heap.get? c=U a->lN a:=λc e G n=>by
   let ⟨a,b,_,q⟩:=d;simp at e;subst e;rw[b] at n;cases n;exact⟨_,q⟩
  refine CA d c.isList (x:=v) (by rw[<-gP];exact F) λr B I=>⟨v,rfl,?_⟩
  let ⟨a,b,P,dd⟩:=id B;have f:∀c a,c∉[j]->o.heap.get? c=U a->r.get? c=U a:=λc a e b=>I.extBut c a (by simpa using e) b
  exact DE (s:={o with heap:=r}) b P ∅ (t v _ (L.off f y) ⟨B,c.at λa b=>f l a (by simpa using S) b,k.off f y⟩ ⟨rfl,rfl,λc a g b=>f c a g b⟩)
 done:=λM o z E t=>by let ⟨d,c,k⟩:=E;exact Gm N d c.isList (by simp[hl]) λr Q=>⟨rfl,t _ ⟨rfl,rfl,λc a g b=>Q c a (by simpa using g) b⟩⟩
 self:=λM i o z J p=>by let ⟨d,_⟩:=J;exact wpAny_pyIter_listiter d p
noncomputable def gA(a:Int)(n:Nat):aH:=(eT n).map λ(b:Nat)=>iM (a+(b:Int))
def Oz{b:Int}{i:Nat}{d:D}(a:(gA 1 (b+1-1).toNat)[i]?=U d):d=.int ((i:Int)+1)/\i<b.toNat:=by
 rw[GL] at a;unfold gA at a;rw[cC] at a
 by_cases c:i<b.toNat
 .rw[pZ c] at a;cases a;exact⟨aR iM (GN ..),c⟩
 rw[l9 (by rw[gx];exact gO.mp c)] at a;cases a
def jC.range(A:c.handled=ai)(k:ak)(g:Int)(n:Nat):
 jC prog e c k [k] [k] (gA g n) (λM i h=>IsRangeIter h k (g+(i:Nat)) ((n:Int)-(i:Nat)) 1) where
 sub:=λZ d=>d
 has:=λM i h a b d=>by simp at d;subst d;exact⟨_,a⟩
 frame:=λM i h m a q=>q k _ (.inl (by simp)) a
 up:=λM F i h a Z=>a
 off:=λM i h a b d E u=>by
  simp at d;subst d;rw[show h.get? b=U _ from a] at u;cases u;exact⟨_,rfl⟩
 item:=λM i w H l r p a G o=>by
  have z:i<n:=by
   have:=(fH.mp p).1
   simpa [gA] using this
  have y:w=iM (g+i):=by
   simp[gA,z] at p;exact p.symm
  subst y;refine wpAny_pyNext_range_item a (Int.sub_pos_of_lt (dB.2 ‹_›)) λm t x=>⟨_,rfl,?_⟩
  have q:∀b f,b∉[k]->l.heap.get? b=U f->m.get? b=U f:=λb f d j=>x.extBut b f (by simpa using d) j
  refine DE (T:="range_iterator") (s:={l with heap:=m,toks:=l.toks+1}) t J ∅ (o _ _ (.int _ _) ?_ ⟨rfl,rfl,λb f n j=>q b f n j⟩);have B:g+((i+1:Nat):Int)=g+(i:Int)+1:=(GO g (i:Int) 1).symm;have C:(n:Int)-((i+1:Nat):Int)=(n:Int)-(i:Int)-1:=(Int.sub_sub (n:Int) (i:Int) 1).symm;rw[B,C];exact t
 done:=λM l r a o=>by
  have j:(gA g n).length=n:=by simp[gA]
  rw[j] at a;exact wpAny_pyNext_range_end A a (uD (Int.sub_self _)) λm D=>⟨rfl,o _ ⟨rfl,rfl,λb f n j=>D b f (by simpa using n) j⟩⟩
 self:=λM i l r a v=>wpAny_pyIter_rangeiter a v
open Mine.Kx renaming refl->HN
structure Vl(c:C)(s:Shared)(vs:gm)(xs:cQ)(s':Shared):Prop where
 k:Kp s s'
 r:nh c s'.heap xs vs
def EvVs(a:C)(f:List (Str×V))(e:cN)(d:gm):Prop:=
 ∀b c,St a f b->wpAny a.m a.A (spliced (backTo c (starEach e a.env))) (Vl a b d) no b
section
variable {c:C}{ρ:List (Str×V)}{e e₁ e₂ A6:aT}{v v₁ v₂:V}{pos p:Pos}
theorem EvVs.nil:EvVs c ρ [] []:=λa pos z=>qj ⟨gT a,.nil⟩
theorem EvVs.cons{g:cN}{f:gm}(h:Ev c ρ e v)(l:EvVs c ρ g f)(hs:autoParam (cD e=aA) aI):EvVs c ρ (e::g) (v::f):=λj pos d=>by
 rw[iL _ hs];refine m8 (aS (h j d) (λm i a=>?_));exact aS (l i pos (d.kp a.k)) (λn o b=>⟨a.k.trans b.k,.cons (a.r.keep b.k.keep) b.r⟩)
def St.tF(a:St c ρ f)(o:c.env.kindOf d=U .globalImplicit)(n:d∈oS)(i:bootBuiltins d=U g)(k:(d==("__debug__":Str))=aA)(l:d≠"__name__")(j:h g f):
 wpAny c.m c.A (eval (.Name d p) c.env) h no f:=by
 have e:=a.bs.base;refine MH a.kind o (loadGlobal_builtin (mg:=c.mg) (mb:=c.mb) ?_ (e.bn d n) ?_ ((e.bi d l).trans i) j) k
 .rw[a.globals];exact e.g.keeps a.bs.keep
 rw[a.builtins];exact e.b.keeps a.bs.keep
def ee(a:cN):Bool:=a.all λe=>!cD e
def rV(h:cD e=aA):ee [e]=af:=by simp[ee,h]
def DF(h:cD e=aA)(b:cD a=aA):ee [e,a]=af:=by simp[ee,h,b]
def qx(h:ee es=af)(pos:Pos)(a:Env):(backTo pos (starEach es a)).any (·.1)=aA:=by
 induction es with
 |nil=>rfl
 |cons e es b=>
  simp only[ee,ye,gQ,uE] at h;rw[iL _ h.1];show(aA||(backTo pos (starEach es a)).any (·.1))=aA;rw[b (by simpa [ee] using h.2)];rfl
def yM(h:wpAny c.m c.A (eval (.Name g p) c.env) (λf a=>wpAny c.m c.A (callWith pos f [] (backTo pos (starEach eW c.env)) []) d no a) no b):
 wpAny c.m c.A (eval (.Call (.Name g p) eW [] pos) c.env) d no b:=Call_ h
def OA{d:Str}{id:String}{f:cN}{l:gm}{g:Shared}{i:cI}(j:St c ρ g)(x:c.env.kindOf d=U .globalImplicit)(t:d∈oS)(n:bootBuiltins d=U (.builtin id))(q:(d==("__debug__":Str))=aA)(u:d≠"__name__")
 (w:EvVs c ρ f l) (hs:ee f=af) (s:f≠[]) (o:∀b a,Kp g b->nh c b.heap a l->wpAny c.m c.A (call (.builtin id) a) i no b):wpAny c.m c.A (eval (.Call (.Name d p) f [] pos) c.env) i no g:=by
 refine yM (j.tF x t n q u ?_);cases f with
 |nil=>exact aV J s
 |cons e y=>
  have z:=hs;simp only[ee,ye,gQ,uE] at hs;exact M8 (aS (w g pos j) (λa v h=>o v a h.k h.r)) (iL _ hs.1 y) (qx (by simpa [ee] using hs.2) pos c.env)
def nA(l:St c ρ f)(x:c.env.kindOf a=U .globalImplicit)(u:a∈oS)(n:bootBuiltins a=U (.type g))(q:(a==("__debug__":Str))=aA)(t:a≠"__name__")
 (w:EvVs c ρ eW i) (hs:ee eW=af) (s:eW≠[]) (o:∀d b,Kp f d->nh c d.heap b i->wpAny c.m c.A (call (.type g) b) h no d):wpAny c.m c.A (eval (.Call (.Name a p) eW [] pos) c.env) h no f:=by
 refine yM (l.tF x u n q t ?_);cases eW with
 |nil=>exact aV J s
 |cons e y=>
  have z:=hs;simp only[ee,ye,gQ,uE] at hs;exact Hf (aS (w f pos l) (λb v j=>o v b j.k j.r)) (iL _ hs.1 y) (qx (by simpa [ee] using hs.2) pos c.env)
noncomputable def DG(c:C):V->Option Nat
 |.d (.lst ds)=>U (aa ds)
 |.d (.tup ds)=>U (aa ds)
 |.r a=>match c.σ a with
  |some (.l ds)=>U (aa ds)
  |some (.i kvs)=>U (aa kvs)
  |some (.s ks)=>U (aa ks)
  |_=>ai
 |_=>ai
theorem Ev.len{n:Nat}(h:Ev c ρ e v)(a:DG c v=U n)(D:autoParam (c.env.kindOf "len"=U .globalImplicit) aI)(hs:autoParam (cD e=aA) aI):Ev c ρ (.Call (.Name "len" p) [e] [] pos) (.d (.int n)):=by
 intros c ρ e v pos p n _ h a D hs;exact λK w=>by
  refine OA w D ∅ boot_len ∅ ∅ (EvVs.cons h EvVs.nil hs) (by simp[ee,hs]) (lC _ _) λq R j t=>?_
  apply mC t;intro C t
  have B:∀f,iA c v f->n=aa f->wpAny c.m c.A (call (.builtin "len") [C]) (Dr c K (.d (.int n))) no q:=λf g e=>by
   let ⟨M,Q,zy,o,k,x⟩:=t.qq (w.bs.kp j) g;have b:=x.size;refine len_list o.isList (by rw[b];exact tu k) ⟨j.trans (iS q _),?_⟩;rw[e,<-b];exact qp _ _
  cases v with
  |d H=>
   cases H with
   |lst f=>cases a;exact B f J J
   |tup f=>
    cases a;let ⟨M,Q,zy,z,_,k,x⟩:=t.qm;let ⟨y,o⟩:=z;have b:=x.size;refine P.len_tuple o (by rw[b];exact qe.mpr (tu k)) ⟨j.trans (iS q _),?_⟩;rw[<-b];exact qp _ _
   |_=>cases a
  |r g=>
   have u:=w.bs.kp j;obtain rfl:C=.ref g:=t;unfold DG at a;dsimp only at a;cases e:c.σ g with
   |none=>rw[e] at a;cases a
   |some I=>
    rw[e] at a;cases I with
    |l f=>cases a;exact B f e J
    |i T=>
     cases a;obtain⟨y,_,Y,o,k,G⟩:=u.dc g _ e;have b:=G.length;refine call_len_dict (u.Oh (u.jS g y)) o (by rw[b];exact tu k) ⟨j.trans (iS q _),?_⟩;rw[<-b];exact qp _ _
    |s Z=>
     cases a;let ⟨y,_,z,_⟩:=u.dc g _ e;let ⟨W,V,X,S,O,F,N,_,_,E,L,b⟩:=z;refine call_len_set O F N L ?_ ⟨j.trans (iS q _),?_⟩
     .exact yo (iK.mpr (pY▸PySem.fits_of_scanBound E)) ∅
     rw[<-b];exact qp _ _
    |_=>cases a
inductive HO(N:bC)(c:C)(s:Shared)(ds:aH)(it:aC)(oY:Shared):Prop
 |mk (k:Kp s oY) (z:aa ds<=bf) (I:ak) (fp wr:i9) (T:(ak->Prop)->Nat->bY->Prop) (e:it=.ref I) (hw:∀b∈wr,s.heap.get? b=ai) (hf:∀b∈fp,¬N b) (ha:∀b∈fp,∃o,oY.heap.get? b=U o) (W:jC c.prog c.w c.A I fp wr ds T) (t:T c.M 0 oY.heap)
def A8(g:bC)(c:C)(ρ:List (Str×V))(e:aT)(d:aH):Prop:=∀a,St c ρ a->
 wpAny c.m c.A (eval e c.env) (λb f=>wpAny c.m c.A (pyIter b) (HO g c a d) no f) no a
abbrev It(c:C)(ρ:List (Str×V))(e:aT)(a:aH):Prop:=A8 c.X c ρ e a
abbrev eG(c:C)(ρ:List (Str×V))(e:aT)(a:aH):Prop:=A8 c.M c ρ e a
def eG.it(h:eG c ρ e ds):It c ρ e ds:=λu a=>aS (h u a) (λz z h=>aS h (λz z f=>by obtain⟨o,r,m,s,l,j,t,n,p,g,k,q⟩:=f;exact⟨o,r,m,s,l,j,t,n,λb d i=>p b d (a.bs.xm b i),g,k,q⟩))
def VR.Vm(k:Bs c g)(j:fD c g.heap b v)(e:iA c v h):∃a f,b=.ref a/\¬c.X a/\((∃i,v=.d i)->¬c.M a)/\PL g.heap a f/\aa h<=bf/\aW g.heap c.M f.toList h:=by
 intros c v g b h _ k j e;cases v with
 |d b=>
  cases b with
  |lst s=>cases e;cases j with|lst o l q j=>exact⟨_,_,rfl,λp=>l (k.xm _ p),λz=>l,o,q,j⟩
  |_=>cases e
 |r a=>obtain⟨_,b,f,m⟩:=k.dc a _ e;exact⟨a,f,j,b,(λn=>by let ⟨i,e⟩:=n;exact by cases e),m⟩
def It.ofList(h:Ev c ρ e v)(x:iA c v ds)(B:∀b,a b->c.M b)(y:∀b,(¬c.X b/\((∃f,v=.d f)->¬c.M b))->¬a b):A8 a c ρ e ds:=λw l=>aS (h w l) (λD k r=>by
 obtain⟨j,A⟩:=r;let ⟨o,t,zy,p,z,i,u,n⟩:=A.Vm (l.bs.kp j) x;have q:=n.size;have C:o<k.heap.objs.size:=by let ⟨s,m⟩:=i;revert m;intro i;exact d7 i
 refine xX i.isList ⟨j.trans (g8 k _),u,k.heap.objs.size,_,_,_,rfl,?_,?_,?_,jC.list l.bs.room.hh k.heap.objs.size o (eN C) t ds q,?_⟩
 .intro b g;simp at g;subst g;exact fL j (dX _)
 .intro b g;simp at g;rcases g with rfl|rfl
  .exact λh=>(l.bs.kp j).size (B _ h)
  exact y _ ⟨p,z⟩
 .intro b g;simp at g;rcases g with rfl|rfl
  .exact⟨_,dw _ J⟩
  let ⟨s,m⟩:=i;revert m;intro i;exact⟨_,cG _ i⟩
 exact⟨⟨_,dw _ J,rfl,rfl⟩,i.at λE e=>cG _ e,n.keep λZ Z e=>cG _ e⟩)
def eG.list(h:Ev c ρ e (.d (.lst ds))):eG c ρ e ds:=It.ofList h J (λz h=>h) λa h=>h.2 ⟨_,rfl⟩
def HR:bootBuiltins "range"=U (.type "range"):=by decide+kernel
def HS(c b:Int):C6 c b 1=((b-c).toNat:Int):=by
 unfold C6;rw[az ∅];split
 .rename_i a;rw[GJ,GK];exact(qf (Me (iJ a))).symm
 rename_i a;exact(aR Int.ofNat (Int.toNat_eq_zero.mpr (Int.sub_nonpos_of_le (iI.mp a)))).symm
def HT(h:-1000000<=a/\a<=2000000):uL a=af:=(gQ _ _).mpr ⟨decide_eq_true (dN ∅ h.1),decide_eq_true (yo h.2 ∅)⟩
def OB(a b:Int)(d:-1000000<=a/\a<=1000000)(c:-1000000<=b/\b<=1000000):TQ a b 1=af:=by
 have e:=HT ⟨c.1,dN c.2 ∅⟩;have f:uL (b+(1-1))=af:=(aR uL (Mf b)).trans e;show(uL a&&uL b&&uL 1&&uL (C6 a b 1)&&(C6 a b 1==0||uL (b+(1-1))))=af
 rewrite [HS,HT ⟨d.1,dN d.2 ∅⟩,e,HT ⟨dN ∅ (fJ _),(iK (m:=(b-a).toNat) (n:=2000000)).mpr (wo.mpr (Int.sub_le_sub c.2 d.1))⟩,f,AM]
 rfl
def It.ofRange(l:St c ρ f)(k:Kp f d)(hr:IsRange d.heap g a b 1 j u i)(p:-1000000<=a/\a<=1000000)(e:-1000000<=b/\b<=1000000)(hz:(b-a).toNat<=bf):
 wpAny c.m c.A (pyIter (.ref g)) (HO c.M c f (gA a (b-a).toNat)) no d:=by
 refine wpAny_pyIter_range hr (OB a b p e) ⟨k.trans (g8 d _),by simpa [gA] using hz,d.heap.objs.size,_,_,_,rfl,?_,?_,?_,jC.range l.bs.room.hh d.heap.objs.size a (b-a).toNat,?_⟩
 .intro b e;simp at e;subst e;exact fL k (dX _)
 .intro b e;simp at e;subst e;exact λn=>(l.bs.kp k).size n
 .intro b e;simp at e;subst e;exact⟨_,dw _ J⟩
 rw[HS];have:=dw (h:=d.heap) (o:={cls:=.type "range_iterator",data:=.fields #[rawInt a,rawInt ((b-a).toNat:Int),rawInt 1]}) J
 simpa [IsRangeIter] using this
def eG.Vn(h:Ev c ρ e (.d (.int n)))(b:-1000000<=n/\n<=1000000)(j:autoParam (c.env.kindOf "range"=U .globalImplicit) aI)(hs:autoParam (cD e=aA) aI):eG c ρ (.Call (.Name "range" p) [e] [] pos) (gA 0 n.toNat):=λo f=>by
 refine nA f j ∅ HR ∅ ∅ (EvVs.cons h EvVs.nil hs) (by simp[ee,hs]) (lC _ _) λi k g a=>?_
 apply mC a;intro l a;let ⟨m,zy⟩:=a.eF;refine call_range_1 ?_;have e:n.toNat=(n-0).toNat:=by rw[GP]
 rw[e];exact It.ofRange (c:=c) (ρ:=ρ) f (g.trans ((g8 i _).trans (iS _ _))) (dw _ J) ∅ b (wo.mpr (dN (uD (GP n)) b.2))
def eG.Vo(o:Ev c ρ e₁ (.d (.int a)))(q:Ev c ρ e₂ (.d (.int b)))(m:-1000000<=a/\a<=1000000)(i:-1000000<=b/\b<=1000000)(hz:(b-a).toNat<=bf)(n:autoParam (c.env.kindOf "range"=U .globalImplicit) aI)(h:autoParam (cD e₁=aA) aI)(f:autoParam (cD e₂=aA) aI):
 eG c ρ (.Call (.Name "range" p) [e₁,e₂] [] pos) (gA a (b-a).toNat):=λw g=>by
 refine nA g n ∅ HR ∅ ∅ (EvVs.cons o (EvVs.cons q EvVs.nil f) h) (by simp[ee,h,f]) (lC _ _) λl r k e=>?_
 apply A5 e;intro s u e j;let ⟨t,zy⟩:=e.eF;let ⟨v,zy⟩:=j.eF;refine call_range_2 ?_;exact It.ofRange (c:=c) (ρ:=ρ) g (k.trans ((g8 l _).trans (iS _ _))) (dw _ J) m i hz
end
open Mine.EvVs renaming cons->cR,nil->eX
open Mine.eG renaming list->dU,it->qy,Vn->A9,Vo->OC
open Mine.Ev renaming len->lO
def C.Y(a:C)(b:ak):Prop:=b=a.env.locals\/∃c∈a.own,a.env.cells.lookup c=U b
structure Lo(c:C)(s:Shared):Prop where
 ns:∃m,s.heap.Ns c.env.locals m
 yx:∀b,c.Y b->c.X b
 cell:∀x∈c.own,∃a v,c.env.cells.lookup x=U a/\s.heap.IsCell a v
def Vp{h:bY}{d:ak}{e a:Str->Option aC}(f:h.Ns d e)(l:h.Ns d a):e=a:=by
 let ⟨s,q,r,g,k,_,j⟩:=f;let ⟨o,m,p,b,c,_,i⟩:=l;rw[g] at b;cases b;rw[k] at c;cases c;funext n;rw[<-j n,<-i n]
def DH{h:bY}{c:ak}{j:Str->Option aC}{i:Option aC}(d:h.Ns c j)(g:h.IsCell c i):False:=by
 let ⟨o,m,n,e,f,_,l⟩:=d;let ⟨k,a,b⟩:=g;rw[e] at a;cases a;rw[f] at b;cases b
def Lo.kp(c:Lo g f)(k:∀b d,f.heap.get? b=U d->e.heap.get? b=U d):Lo g e:=
 ⟨let ⟨n,a⟩:=c.ns;⟨n,a.keeps k⟩,c.yx,λa m=>let ⟨i,h,l,j⟩:=c.cell a m;⟨i,h,l,j.keeps k⟩⟩
section
variable {c:C}{h h':bY}{Z:bC}(hk:∀b o,¬Z b->h.get? b=U o->h'.get? b=U o)(hm:∀b,Z b->c.M b)
include hk hm
theorem Rep.chg(g:Rep h c.M u d):Rep h' c.M u d:=g.mono λb i a z e=>⟨hk b i (λf=>a (hm b f)) e,a⟩
theorem aW.chg(f:aW h c.M us ds):aW h' c.M us ds:=f.mono λb g a z d=>⟨hk b g (λe=>a (hm b e)) d,a⟩
theorem VR.chg(d:fD c h u a):fD c h' u a:=d.mono λb=>Rep.chg hk hm b
end
def Bs.kx(c:Bs f i)(k:Kx h i g)(l:∀b,h b->f.X b)(m:∀d,f.M d->∃e,g.heap.get? d=U e):Bs f g:=
 c.chg (λb e j=>k.keep b e (λa=>by exact ns (c.wI b (l b a)) j) (c.keep b e j)) m (λo=>Rep.chg k.keep (λb a=>c.xm b (l b a)) o) λd n j e=>k.keep d e λa=>(c.dc d n j).2.1 (l d a)
def gH(b:C)(a:Str):Prop:=(b.env.kindOf a=U .local\/(b.env.kindOf a=U .cell/\a∈b.own))/\(a==("__debug__":Str))=aA/\(a==("__classdict__":Str))=aA
def gH.m(h:gH b a:=by first|exact⟨.inl J,rfl,rfl⟩|exact⟨.inr ⟨rfl,List.mem_of_elem_eq_true J⟩,rfl,rfl⟩):gH b a:=h
def gI{b a:Str}{d:V}{c:List (Str×V)}(h:a≠b):((b,d)::c).lookup a=c.lookup a:=by
 rw[iF];have:(a==b)=aA:=beq_eq_false_iff_ne.mpr h;rw[this]
def rW{b:Str}{a:V}{c:List (Str×V)}:((b,a)::c).lookup b=U a:=by
 rw[iF];simp
section
variable {c:C}{ρ:List (Str×V)}
def St.store{f:Shared}{n:Str}{u:aC}{v:V}{D:Unit->Shared->Prop}(g:St c ρ f)(q:Lo c f)(R:gH c n)(S:fD c f.heap u v)
 (M:∀d,Kx c.Y f d->St c ((n,v)::ρ) d->Lo c d->D () d):wpAny c.m c.A (storeName c.env n u) D no f:=by
 intros c ρ f n u v D _ g q R S M;let ⟨t,av,T⟩:=R
 have Q:∀(e:ak) (i:bY) (w:Nat),c.Y e->iG e f.heap i->(∃r,i.get? e=U r)->(∀(p:Str) b v,f.heap.IsCell b v->∃ae,i.IsCell b ae)->Lo c {f with heap:=i,toks:=w}->Holds {f with heap:=i,toks:=w} c.env n u->
  (∀k x,k≠n->Holds f c.env k x->Holds {f with heap:=i,toks:=w} c.env k x)->D () {f with heap:=i,toks:=w}:=by
  intro e i w O h W Z a3 ax B;have G:Kx (·=e) f {f with heap:=i,toks:=w}:=⟨rfl,rfl,λb r j a=>(h.2 b j).trans a⟩;have H:∀b,b=e->c.X b:=λb a=>a▸q.yx e O
  refine M _ (G.mono λb a=>a▸O) ⟨g.bs.kx G H (λb F=>?_),g.kind,g.globals,g.builtins,g.inj,λp b l=>let ⟨v,o⟩:=g.qo p b l;Z p b v o,λk x a=>?_⟩ a3
  .by_cases L:b=e
   .subst L;exact W
   let ⟨r,a⟩:=g.bs.fR b F;exact⟨r,(h.2 b L).trans a⟩
  by_cases I:k=n
  .subst I;rw[rW] at a;cases a;exact⟨av,T,u,ax,S.chg G.keep λb a=>g.bs.xm b (H b a)⟩
  rw[gI I] at a;obtain⟨au,aw,N,z,a0⟩:=g.vars k x a;exact⟨au,aw,N,B k N I z,a0.chg G.keep λb a=>g.bs.xm b (H b a)⟩
 rcases t with t|⟨t,ho⟩
 .let ⟨F,j⟩:=q.ns;refine wpAny_storeName_local t j (λi E h=>Q c.env.locals i _ (.inl J) h ?_ (λp b v s=>⟨v,s.sameBut h λa=>DH j (a▸s)⟩) ?_ (.inl ⟨t,_,E,by simp⟩) λk x B z=>?_) ?_
  .let ⟨r,_,_,a,_⟩:=E;exact⟨r,a⟩
  .exact⟨⟨_,E⟩,q.yx,λp K=>let ⟨e,v,l,o⟩:=q.cell p K;⟨e,v,l,o.sameBut h λa=>DH j (a▸o)⟩⟩
  .rcases z with⟨e,m',HU,a⟩|⟨e,b,l,o⟩
   .have:=Vp j HU;subst this;exact .inl ⟨e,_,E,by simp[B,a]⟩
   exact .inr ⟨e,b,l,o.sameBut h λa=>DH j (a▸o)⟩
  rw[g.kind];rfl
 let ⟨e,a4,l,o⟩:=q.cell n ho;let ⟨F,j⟩:=q.ns;have P:c.env.locals≠e:=λa=>DH j (a▸o)
 refine wpAny_storeName_cell g.kind t l o λi C h=>Q e i f.toks (.inr ⟨n,ho,l⟩) h ?_ ?_ ?_ (.inr ⟨.inl t,e,l,C⟩) λk x B z=>?_
 .let ⟨r,a,_⟩:=C;exact⟨r,a⟩
 .intro p b v s
  by_cases a:b=e
  .subst a;exact⟨_,C⟩
  exact⟨v,s.sameBut h a⟩
 .refine⟨⟨F,j.sameBut h P⟩,q.yx,λp K=>?_⟩;let ⟨b,v,y,s⟩:=q.cell p K
  by_cases a:b=e
  .subst a;exact⟨b,_,y,C⟩
  exact⟨b,v,y,s.sameBut h a⟩
 rcases z with⟨a',m',HU,a⟩|⟨a',b,y,s⟩
 .exact .inl ⟨a',m',HU.sameBut h P,a⟩
 exact .inr ⟨a',b,y,s.sameBut h λa=>B (g.inj k n e (a▸y) l)⟩
inductive uT(c:C):cN->aH->List (Str×V)->Prop
 |nil:uT c [] [] []
 |cons {x:Str} {p:Pos} {es:cN} {d:D} {ds:aH} {tb:List (Str×V)}:gH c x->uT c es ds tb->uT c (.Name x p::es) (d::ds) (tb++[(x,.d d)])
inductive iV(c:C):aT->D->List (Str×V)->Prop
 |name {x:Str} {p:Pos} {d:D}:gH c x->iV c (.Name x p) d [(x,.d d)]
 |tup {es:cN} {k:Nat} {p:Pos} {ds:aH} {tb:List (Str×V)}:uT c es ds tb->iV c (.Tuple es k p) (.tup ds) tb
def Kx.qA(c:Kp a e)(b:Kx X e d):Kx X a d:=c.kx.trans b
theorem uT.length(h:uT c a ds tb):(assignEach a c.env).length=aa ds/\(assignEach a c.env).findIdx? (·.1)=ai:=by
 induction h with
 |nil=>exact⟨rfl,rfl⟩
 |cons _ _ b=>
  refine⟨by show _+1=_+1;rw[b.1],?_⟩;show Lu _ ((aA,_)::_)=ai;rw[Lz];simp[b.2]
def uT.run(h:uT c g i j):∀{ρ:List (Str×V)} {a:Shared} {b:cQ} {e:Unit->Shared->Prop},St c ρ a->Lo c a->aW a.heap c.M b i->
 (∀f,Kx c.Y a f->St c (j++ρ) f->Lo c f->e () f)->wpAny c.m c.A (assignInOrder ((assignEach g c.env).map (·.2)) b) e no a:=by
 intros c g i j _ h
 induction h with
 |nil=>intro ρ a b e n l k o;cases k;exact aM (o a (HN a) n l)
 |@cons u s g D i j C _ F=>
  intro ρ a b e n l k o;cases k with
  |@cons J b _ _ k z=>
   show wpAny c.m c.A (holding b (assign (.Name u s) c.env J)>>=λZ=>assignInOrder ((assignEach g c.env).map (·.2)) b) e no a;refine ay (dW (CB (n.store l C (v:=.d D) k λK r y G=>?_)));refine F y G (z.mono λp H q Z x=>⟨r.keep p H (λE=>q (n.bs.xm p (l.yx p E))) x,q⟩) λI w t B=>o I (r.trans w) ?_ B
   rw[e9];exact t
theorem iV.run(h:iV c g d f)(k:St c ρ a)(n:Lo c a)(i:Rep a.heap c.M u d)
 (l:∀b,Kx c.Y a b->St c (f++ρ) b->Lo c b->e () b):wpAny c.m c.A (assign g c.env u) e no a:=by
 intros c ρ g d f a u e _ h k n i l;cases h with
 |name x=>exact CB (k.store n x (v:=.d d) i l)
 |tup h=>
  cases i with
  |@tup F D C t G E i=>
   have r:=i.size;refine Gn k.bs.room.hh t.AX (by rw[h.length.1,r]) h.length.2 λz s=>?_
   have j:Kp a {a with heap:=z}:=⟨rfl,rfl,λB y o=>s B y (eN (d7 o)) o⟩;exact h.run (k.kp j) (n.kp j.keep) (i.keep j.keep) λb p q w=>l b (Kx.qA j p) q w
end
open Mine.gH renaming m->aJ
open Mine.iV renaming name->cW,tup->j8
open Mine.Rep renaming chg->wM
inductive wN:aT->Prop
 |l {nB gens scope pos}:wN (.ListComp nB gens scope pos)
 |s {nB gens scope pos}:wN (.SetComp nB gens scope pos)
 |d {k v gens scope pos}:wN (.DictComp k v gens scope pos)
noncomputable def uU(f:aT)(d:aC)(c:Env):Sem Unit:=match f with
 |.ListComp b _ _ _=>do let _<-call (.builtin "list.append") [d,<-eval b c]
 |.SetComp b _ _ _=>do let a<-eval b c;standAt b.pos;let _<-call (.builtin "set.add") [d,a]
 |.DictComp e a _ _ _=>do
  let kv<-eval e c;let vv<-holding [kv] (eval a c)
  match d with
  |.ref g=>do
   standAt {e.pos with endLine:=a.pos.endLine,endCol:=a.pos.endCol}
   holding [kv,vv] (dictSet g kv vv)
  |_=>unsupported "internal:dictcomp"
 |_=>unsupported "internal:not-a-comprehension"
noncomputable def DI(d:cN)(b:Env):Sem Bool:=forIn d af λa c=>if c=af then do let ok<-isTrue a b (eval a b);pure (yw ok) else pure (yw c)
noncomputable def Ba(c:aT)(e:Nat)(b:aT)(d:aC)(a:Env):Sem Unit:=do
 let x<-eval b a
 standAt b.pos
 let x<-foldedSetIterable b a x;let _<-runOwn (.compStart c (e+1) (<-holding [x] (pyIter x)) d a) a
def uV(f:aT)(i:Nat)(c iter:aT)(g:cN)(e:Sem Unit)(b h:aC)(a:Env):Sem Gp:=do
 standAt iter.pos
 match<-pyNext b with
 |none=>pure (.done .next)
 |some d=>
  letOwnedTupleGo c b d
  assign c a d
  let ok<-DI g a
  if ok then e
  again (.compLoop f i b h a)
inductive lP(c:C)(ρ:List (Str×V)):cN->Bool->Prop
 |nil:lP c ρ [] af
 |cons {e:aT} {es:cN} {a b:Bool}:bX c ρ e a->(a=af->lP c ρ es b)->lP c ρ (e::es) (a&&b)
def Vq(i:c aA e):∀d:cN,
 wpAny M h (forIn d aA λa b=>if b=af then do let ok<-isTrue a f (eval a f);pure (yw ok) else pure (yw b)) c g e:=by
 intro k
 induction k with
 |nil=>
  exact aM i
 |cons l m j=>
  rw[Al];exact ay (aM (j))
def lP.run(h:lP f k j b):∀{d:Shared} {i:Bool->Shared->Prop},St f k d->(∀g,Kp d g->i b g)->wpAny f.m f.A (DI j f.env) i no d:=by
 intros f k j b _ h
 induction h with
 |nil=>intro d i e a;exact aM (a d (gT d))
 |@cons l j s b h t r=>
  intro d i e a;unfold DI;rw[Al,az J];refine ay (ay (aS (h d e) (λp q o=>aM ?_)));obtain⟨c,l⟩:=o;subst l;cases p with
  |true=>exact r J (e.kp c) λg n=>a g (c.trans n)
  |false=>exact Vq (a q c) j
structure yN(c:C)(Da:ak)(DJ:Shared->aH->Prop)(H:bC):Prop where
 tG:∀s s' done,DJ s done->(∀o,s.heap.get? Da=U o->s'.heap.get? Da=U o)->(∀a o,¬c.M a->¬lN o->s.heap.get? a=U o->s'.heap.get? a=U o)->(∀a o,H a->s.heap.get? a=U o->s'.heap.get? a=U o)->DJ s' done
 x:c.X Da
 ny:¬c.Y Da
def C.Z(c:C)(a b:ak):Prop:=c.Y b\/b=a
structure HV(c:C)(ρ:List (Str×V))(Da:ak)(DJ:Shared->aH->Prop)(s:Shared)(done:aH)(u:Unit)(s':Shared):Prop where
 k:Kx (c.Z Da) s s'
 S:St c ρ s'
 L:Lo c s'
 a:DJ s' done
def nC(a:C)(e:List (Str×V))(g:ak)(c:Shared->aH->Prop)(f:Sem Unit)(d:aH):Prop:=
 ∀b done,St a e b->Lo a b->c b done->(done++d).length<=bf->wpAny a.m a.A f (HV a e g c b (done++d)) no b
def yO(a:C)(e:List (Str×V))(g:ak)(c:Shared->aH->Prop)(f:Sem Unit)(done d:aH):Prop:=
 ∀b,St a e b->Lo a b->c b done->(done++d).length<=bf->wpAny a.m a.A f (HV a e g c b (done++d)) no b
def nC.at{c:C}{f:List (Str×V)}{b:ak}{d:Shared->aH->Prop}{a:Sem Unit}{done e:aH}(h:nC c f b d a e):yO c f b d a done e:=λg=>h g done
def Vr{c d:List (Str×V)}{b:Str}(h:∀a∈c,a.1≠b):(c++d).lookup b=d.lookup b:=by
 induction c with
 |nil=>rfl
 |cons a c g=>
  rw[v8,iF];have:(b==a.1)=aA:=beq_eq_false_iff_ne.mpr (h a (.head _)).symm;rw[this];exact g λe f=>h e (.tail _ f)
def St.drop{f:C}{e c:List (Str×V)}{g:Shared}(a:St f (e++c) g)(i:∀d∈e,c.lookup d.1=ai):St f c g:=
 ⟨a.bs,a.kind,a.globals,a.builtins,a.inj,a.qo,λh l b=>a.vars h l (by rw[Vr λd k j=>by rw[<-j,i d k] at b;cases b];exact b)⟩
def Holds.kx(h:Holds d env f g)(k:Kx X d e)(hl:∀c,d.heap.get? env.locals=U c->e.heap.get? env.locals=U c)(p:∀a u,d.heap.IsCell a u->¬X a):Holds e env f g:=by
 rcases h with⟨a,m,n,i⟩|⟨a,b,l,j⟩
 .exact .inl ⟨a,m,n.at' hl,i⟩
 have o:=p b _ j;let ⟨c,i,q⟩:=j;exact .inr ⟨a,b,l,c,k.keep b c o i,q⟩
def Holds.gen(h:Holds b env f e)(hl:∀c,b.heap.get? env.locals=U c->d.heap.get? env.locals=U c)(i:∀a u,b.heap.IsCell a u->d.heap.IsCell a u):Holds d env f e:=
 h.imp (λg=>⟨g.1,g.2.imp λj g=>⟨g.1.at' hl,g.2⟩⟩) λg=>⟨g.1,g.2.imp λa g=>⟨g.1,i a _ g.2⟩⟩
def DK(k:Kx X a b)(f:∀c u,a.heap.IsCell c u->¬X c)(c:ak)(u:Option aC)(i:a.heap.IsCell c u):b.heap.IsCell c u:=have e:=f c u i;i.imp λg d=>⟨k.keep c g e d.1,d.2⟩
theorem St.gen(b:St e j h)(l:Lo e h)(o:Bs {e with M:=M',σ:=σ',wr:=wr',B:=B'} g)(m:∀f u,h.heap.IsCell f u->g.heap.IsCell f u)(n:∀i,h.heap.get? e.env.locals=U i->g.heap.get? e.env.locals=U i)
 (hr:∀{u:aC} {d:D},Rep h.heap e.M u d->Rep g.heap M' u d):St {e with M:=M',σ:=σ',wr:=wr',B:=B'} j g/\Lo {e with M:=M',σ:=σ',wr:=wr',B:=B'} g:=
 ⟨⟨o,b.kind,b.globals,b.builtins,b.inj,λc f t=>(b.qo c f t).imp λk r=>m f k r,λc k q=>have a:=b.vars c k q;⟨a.1,a.2.1,a.2.2.imp λu a=>⟨a.1.gen n m,a.2.mono hr⟩⟩⟩,l.ns.imp λv p=>p.at' n,l.yx,λc s=>(l.cell c s).imp λf=>kP λk a=>⟨a.1,m f k a.2⟩⟩
def yP(a:Obj):Prop:=¬jR a/\∀b,a.data≠.cell b
def St.OE(m:St e i g)(r:Lo e g)(k:Kx wr g f)(ho:∀b,wr b->∀d,g.heap.get? b=U d->(¬e.M b->¬jR d)/\∀h,d.data≠.cell h)(v:∀b,wr b->e.h₀.get? b=ai)(n:∀b,wr b->e.M b->e.σ b=ai/\¬e.X b/\∃d,f.heap.get? b=U d):St e i f/\Lo e f:=
 have t:∀{o:aC} {s:D},Rep g.heap e.M o s->Rep f.heap e.M o s:=λx=>x.mono λa d q c j=>⟨k.keep a d (λl=>(ho a l d j).1 q c) j,q⟩
 m.gen (M':=e.M) (σ':=e.σ) (wr':=e.wr) (B':=e.B) r (m.bs.chg (λb d j=>k.keep b d (λc=>ns (v b c) j) (m.bs.keep b d j)) (λa l=>Classical.byCases (λc:wr a=>(n a c l).2.2) λc=>(m.bs.fR a l).imp λd j=>k.keep a d c j) t λa w j d=>k.keep a d λc=>ns (n a c (m.bs.dc a w j).1).1 j)
  (DK k λa o u l=>u.elim λd c=>(ho a l d c.1).2 _ c.2) (λd j=>k.keep _ d (λl=>have p:=r.yx _ (.inl J);(n _ l (m.bs.xm _ p)).2.1 p) j) t
theorem St.yP(n:St d h f)(j:Lo d f)(k:Kx wr f g)(ho:∀b,wr b->∀e,f.heap.get? b=U e->Mine.yP e)(m:∀b,wr b->d.h₀.get? b=ai)(l:∀b,wr b->¬d.M b):St d h g/\Lo d g:=
 n.OE j k (λb a e c=>⟨λz=>(ho b a e c).1,(ho b a e c).2⟩) m λb a i=>aV i (l b a)
def Vs{d:Data}{u:Option aC}{a:Array aC}(h:d=.cell u)(b:d=.fields a):False:=nomatch h.symm.trans b
def HW(h:lN a):yP a:=⟨λd=>oX d h,λe c=>h.elim λf b=>Vs c b⟩
def St.step{a:C}{f:List (Str×V)}{c e:Shared}{wr:i9}(l:St a f c)(h:Lo a c)(k:Kx (·∈wr) c e)(ho:∀b∈wr,∀d,c.heap.get? b=U d->lN d)(j:∀b∈wr,a.h₀.get? b=ai)(i:∀b∈wr,¬a.M b):St a f e/\Lo a e:=
 l.yP h k (λb m d g=>HW (ho b m d g)) j i
structure yQ(tg:aT)(prog:Program)(w:World)(A:Around)(I:ak)(fp wr hd:i9)(ds:aH)(T:(ak->Prop)->Nat->bY->Prop):Prop where
 sub:∀b∈wr,b∈fp
 hs:∀b∈hd,b∈wr
 has:∀M i h,T M i h->∀b∈fp,∃o,h.get? b=U o
 frame:∀M i h h',T M i h->(∀b o,(b∈fp\/(¬M b/\jR o))->h.get? b=U o->h'.get? b=U o)->T M i h'
 up:∀M M' i h,T M i h->(∀a o,h.get? a=U o->M' a->M a)->(∀b∈hd,M' b)->T M' i h
 off:∀M i h,T M i h->∀b∈wr,∀o,h.get? b=U o->lN o\/(M b/\∀v,o.data≠.cell v)
 item:∀M i d (s:Shared) (Q:cI),ds[i]?=U d->T M i s.heap->(∀a,M a->∃o,s.heap.get? a=U o)->
  (∀v s',Rep s'.heap M v d->T M (i+1) s'.heap->Kx (·∈wr) s s'->Q v s')->
  wpAny (model prog w) A (pyNext (.ref I)) (λr fM=>∃v,r=U v/\wpAny (model prog w) A (letOwnedTupleGo tg (.ref I) v) (λz oY=>Q v oY) no fM) no s
 done:∀M (s:Shared) (Q:Shared->Prop),T M (aa ds) s.heap->(∀s',Kx (·∈wr) s s'->Q s')->wpAny (model prog w) A (pyNext (.ref I)) (λr fM=>r=ai/\Q fM) no s
 self:∀M i (s:Shared) (Q:cI),T M i s.heap->Q (.ref I) s->wpAny (model prog w) A (pyIter (.ref I)) Q no s
def jC.z{i:aT}(W:jC prog g f e fp wr ds c):yQ i prog g f e fp wr [] ds c:=
 ⟨W.sub,λy d=>gS d,W.has,W.frame,λa k b d h r y=>W.up a k b d h r,λa b d h q j p l=>.inl (W.off a b d h q j p l),λa b n o m=>W.item a b n i o m,W.done,W.self⟩
inductive TB(c:C)(ρ:List (Str×V))(tg:aT)(ifs:cN)(d:D)(T:List (Str×V)->Prop)(E:Prop):Prop
 |mk (tb:List (Str×V)) (b:Bool) (t:iV c tg d tb) (n:∀p∈tb,ρ.lookup p.1=ai) (ts:lP c (tb++ρ) ifs b) (y:b=af->T (tb++ρ)) (e:b=aA->E)
def OF{c:C}{L:List (Str×V)}{j:aT}{B:Nat}{a8 iter:aT}{a9:cN}{a6:Sem Unit}{z:aC}{u s:ak}{done:aH}{bo wr H:i9}{r:aH}{G:(ak->Prop)->Nat->bY->Prop}{D:Shared->aH->Prop}{a7:bC}(o:List (aH))(bk:aa o=aa r)
 (au:wN j) (cp:compTurn j B (.ref u) z c.env=uV j B a8 iter a9 a6 (.ref u) z c.env) (W:yQ a8 c.prog c.w c.A u bo wr H r G) (I:yN c s D a7)
 (F:∀(i:Nat) d a,r[i]?=U d->o[i]?=U a->TB c L a8 a9 d (λg=>yO c g s D a6 (done++(o.take i).flatten) a) (a=[]))
 {y:Shared} (ax:St c L y) (ae:Lo c y) (ct:D y done) (a4:G c.M 0 y.heap) (P:∀b∈bo,¬c.X b) (cq:∀b∈wr,c.h₀.get? b=ai) (b4:∀b∈wr,c.M b->b∈H) (b2:∀b∈H,c.σ b=ai) (bj:∀b∈wr,¬a7 b) (cf:∀b,c.Y b->¬a7 b) (hz:(done++o.flatten).length<=bf)
 {R:rE->Shared->Prop} (cb:∀h f,Kx (λb=>c.Z s b\/b∈wr) y f->(H=[]->St c L f/\Lo c f)->(∃e,f.heap.Ns c.env.locals e)->D f (done++o.flatten)->R (.ok h) f):
 codeAny c.m c.A (.compLoop j B (.ref u) z c.env) R y:=by
 intros c L j B a8 iter a9 a6 z u s _ done bo wr H r G D a7 o bk au cp W I F y ax ae ct a4 P cq b4 b2 bj cf hz R cb;intros done bo wr H r G D a7 o y R _ bk au cp W I F ax ae ct a4 P cq b4 b2 bj cf hz cb
 have DM:∀{i:Nat} {t q:Shared},G c.M i t.heap->St c L t->Lo c t->Kx (·∈wr) t q->(∀b∈H,∃a,q.heap.get? b=U a)->St c L q/\Lo c q:=λ{i t q} a4 ax ae k hx=>
  ax.OE ae k (λb e a j=>(W.off c.M i t.heap a4 b e a j).elim (λl=>⟨λ_=>(HW l).1,(HW l).2⟩) λl=>⟨λp=>aV l.1 p,l.2⟩) cq λb e N=>have F:=b4 b e N;⟨b2 b F,P b (W.sub b e),hx b F⟩
 have dp:∀e:s∈wr,False:=λe=>P s (W.sub s e) I.x
 have c6:∀b,c.Z s b->c.X b:=λb l=>l.elim (ae.yx b) λj=>j▸I.x
 refine codeAny_loop (c:=.compLoop j B (.ref u) z c.env) (by cases au<;>rfl)
  (λp f=>∃i,p=aa r-i/\i<=aa r/\G c.M i f.heap/\St c L f/\Lo c f/\D f (done++(o.take i).flatten)/\Kx (λb=>c.Z s b\/b∈wr) y f) ?_ (aa r)
  ⟨0,rfl,cL _,a4,ax,ae,by simpa using ct,HN y⟩
 intro p t cm;let ⟨i,zy,eh,O,bt,a0,b1,b3⟩:=cm;intros t i _ eh O bt a0 b1 b3
 have eg:(c.m.den (.compLoop j B (.ref u) z c.env))=(compTurn j B (.ref u) z c.env).onRaise (λdk=>do noteFrame dk c.env;theTreesLotGoes dk):=by
  cases au<;>rfl
 have d0:c.A.under (.compLoop j B (.ref u) z c.env)=c.A:=by
  refine MJ ?_ ?_<;>(cases au<;>rfl)
 rw[eg,d0,cp];refine wpAny_onRaise ?_;obtain⟨aw,a3⟩:∃aw:Gp->Shared->Prop,aw=λd4 f=>match d4 with|.done ec=>R (.ok ec) f|.again d5=>d5=.compLoop j B (.ref u) z c.env/\∃e,e<aa r-i/\∃i,e=aa r-i/\i<=aa r/\G c.M i f.heap/\St c L f/\Lo c f/\D f (done++(o.take i).flatten)/\Kx (λb=>c.Z s b\/b∈wr) y f:=⟨_,rfl⟩;intros aw _ a3
 refine kL (Q:=aw) (E:=no) ?_ (λ_ _ l=>by rw[a3] at l;exact l) λ_ _ l=>l.elim
 unfold uV;refine ay (lB (ay ?_));rcases uv i (aa r) with rX|hge
 .have H:r[i]?=U r[i]:=dZ rX;have d2:i<aa o:=by rw[bk];exact rX
  have c4:o[i]?=U o[i]:=dZ d2;obtain⟨eu,b,dC,de,ek,dA,ej⟩:=F i r[i] o[i] H c4
  have bp:(o.take (i+1)).flatten=(o.take i).flatten++o[i]:=by
   rw[rH,c4,Ar];simp only[Option.toList_some,yf,List.flatten_nil,c8]
  have dv:((done++(o.take i).flatten)++o[i]).length<=bf:=by
   rw[e9,<-bp];refine aj ?_ hz;rw[bO,bO]
   have:(o.take (i+1)).flatten++(o.drop (i+1)).flatten=o.flatten:=by
    rw[<-Ar,CG]
   rw[<-this,bO];exact gc (fz ..) _
  refine aS (W.item c.M i r[i] t (λcx q=>wpAny c.m c.A (do
   assign a8 c.env cx
   let ok<-DI a9 c.env
   if ok then a6
   again (.compLoop j B (.ref u) z c.env)) aw no q) H O bt.bs.fR ?_) (λer q l=>?_)
  .intro cx q ed cz v;have cw:=W.off c.M i t.heap O;let ⟨dj,b5⟩:=DM O bt a0 v λb F=>W.has c.M (i+1) q.heap cz b (W.sub b (W.hs b F))
   have dy:D q (done++(o.take i).flatten):=I.tG t q _ b1 (λa j=>v.keep s a dp j) (λn a p N j=>v.keep n a (λe=>(cw n e a j).elim N λl=>p l.1) j) λn a p j=>v.keep n a (λe=>bj n e p) j
   refine ay (dC.run dj b5 ed λT av dq d1=>?_);have df:∀n,¬c.M n->¬c.Y n:=λn p a5=>p (dj.bs.xm n (b5.yx n a5))
   have dE:D T (done++(o.take i).flatten):=I.tG q T _ dy (λa j=>av.keep s a I.ny j) (λn a p N j=>av.keep n a (df n p) j) λn a p j=>av.keep n a (λa5=>cf n a5 p) j
   have ea:G c.M (i+1) T.heap:=W.frame c.M (i+1) q.heap T.heap cz λb a l j=>av.keep b a (l.elim (λl a5=>P b l (b5.yx b a5)) λl=>df b l.1) j
   refine ay (ek.run dq λK S=>?_);have b6:=dq.kp S;have c0:=d1.kp S.keep;have c3:G c.M (i+1) K.heap:=W.frame c.M (i+1) T.heap K.heap ea λb a l j=>S.keep b a j
   have c5:D K (done++(o.take i).flatten):=I.tG T K _ dE (λa j=>S.keep s a j) (λn a p N j=>S.keep n a j) λn a p j=>S.keep n a j
   have dr:Kx (λb=>c.Z s b\/b∈wr) y K:=((b3.trans (v.mono λb l=>.inr l)).trans (av.mono λb l=>.inl (.inl l))).trans S.kx;cases b with
   |false=>
    rw[ej J,c8] at bp;exact aM (by rw[a3];exact⟨rfl,aa r-(i+1),KZ _ _ rX,i+1,rfl,rX,c3,b6.drop de,c0,by rw[bp];exact c5,dr⟩)
   |true=>
    show wpAny c.m c.A (a6>>=λ_=>again (.compLoop j B (.ref u) z c.env)) _ no K;refine ay (aS (dA J K b6 c0 c5 dv) (λ_ c2 dt=>?_));obtain⟨di,eb,dT,d6⟩:=dt;have d3:G c.M (i+1) c2.heap:=W.frame c.M (i+1) K.heap c2.heap c3 λb a l j=>di.keep b a (λc7=>l.elim (λl=>P b l (c6 b c7)) λl=>l.1 (b6.bs.xm b (c6 b c7))) j
    exact aM (by rw[a3];exact⟨rfl,aa r-(i+1),KZ _ _ rX,i+1,rfl,rX,d3,eb.drop de,dT,by rw[bp,<-e9];exact d6,dr.trans (di.mono λb l=>.inl l)⟩)
  let ⟨cx,zy,cm⟩:=l;revert cm;intro l;exact ay l
 have j:i=aa r:=by exact mW ‹_› ‹_›
 subst j;refine aS (W.done c.M t (λq=>R (.ok .next) q) O λq v=>?_) (λer q et=>by let ⟨ei,dz⟩:=et;exact by subst ei;exact aM (by rw[a3];exact dz));have cw:=W.off c.M (aa r) t.heap O;refine cb _ q (b3.trans (v.mono λb l=>.inr l)) (λdu=>DM O bt a0 v λb F=>gS ((du▸F:b∈([]:i9)))) (a0.ns.imp λe p=>p.at' λa j=>v.keep _ a (λe=>P _ (W.sub _ e) (a0.yx _ (.inl J))) j) ?_;rw[Aq (by rw[bk];exact cB _)] at b1;exact I.tG t q _ b1 (λa j=>v.keep s a dp j) (λn a p N j=>v.keep n a (λe=>(cw n e a j).elim N λl=>p l.1) j) λn a p j=>v.keep n a (λe=>bj n e p) j
open Mine.lP renaming nil->mF
def OG{c:C}{b:aT}{e:Nat}{d f:aC}{tg iter:aT}{ifs:cN}{R:rE->Shared->Prop}{g:Shared}(i:wN b)(k:(clausesOf b)[e]?=U ⟨tg,iter,ifs,0⟩)
 (h:codeAny c.m c.A (.compLoop b e d f c.env) R g) (hi:∀a:aC->Shared->Prop,a d g->wpAny c.m c.A (pyIter d) a no g):codeAny c.m c.A (.compStart b e d f c.env) R g:=by
 intros c b e d f tg iter ifs R g _ i k h hi;refine F8 ?_
 have s:(c.m.den (.compStart b e d f c.env))=(compStart b e d f c.env).onRaise (λo=>do noteFrame o c.env;standAt theWindowsPlace):=by
  cases i<;>rfl
 have q:c.A.under (.compStart b e d f c.env)=c.A:=by
  refine MJ ?_ ?_<;>(cases i<;>rfl)
 have p:(Code.compLoop b e d f c.env).quiet=af:=by cases i<;>rfl
 rw[s,q];refine wpAny_onRaise ?_;refine kL (E:=no) (Q:=λl j=>l=.again (.compLoop b e d f c.env)/\j=g) ?_ (λl j n=>by let ⟨t,r⟩:=n;exact by subst t r;exact⟨p,h⟩) λz z h=>h.elim
 unfold compStart;rw[k];show wpAny _ _ (ask>>=_) _ _ g;refine ay (pU ?_);show wpAny _ _ (if _=af then _ else _) _ _ g;split
 .exact aM ⟨rfl,rfl⟩
 exact ay (rD (ay (lB (ay (hi _ (aM ⟨rfl,rfl⟩))))))
def yR(d:C)(c:ak)(a:Shared)(done:aH):Prop:=∃b,PL a.heap c b/\aa done<=bf/\aW a.heap d.M b.toList done
def yR.ok(l:b.X a)(k:¬b.Y a):yN b a (yR b a) c:=
 ⟨λt s done f o j z=>by let ⟨m,h,n,q⟩:=f;exact⟨m,h.at o,n,q.mono λp r d e g=>⟨j p r d (λi=>oX e i) g,d⟩⟩,l,k⟩
def nC.OH{c:C}{I:List (Str×V)}{e:ak}{s:aT}{S:List Ah}{scope:gh}{T:Pos}{G:D}(W:c.X e)(Q:¬c.Y e)(h:Ev c I s (.d G)):nC c I e (yR c e) (uU (.ListComp s S scope T) (.ref e) c.env) [G]:=by
 intros c I e s S scope T G _ W Q h;exact λN done g O z E=>by
  let ⟨bj,H,p,v⟩:=z;show wpAny c.m c.A (eval s c.env>>=λf=>call (.builtin "list.append") [.ref e,f]>>=λ_=>pure ()) _ _ N;refine ay (aS (h N g) (λbk u au=>?_));obtain⟨j,a3⟩:=au;have Z:=H.at (j.keep e);have ae:=v.size;refine ay (wpAny_list_append_plain Z (λx L n=>aM ?_) (by rw[ae];exact gZ p));have t:Kx (·=e) u {u with heap:=x}:=⟨rfl,rfl,λi l k b=>(n.2 i k).trans b⟩;have w:∀i,i=e->c.X i:=λi b=>b▸W
  have a5:∀a,c.M a->∃l,x.get? a=U l:=λa B=>by
   by_cases b:a=e
   .subst b;let ⟨k,q⟩:=L;exact⟨_,q⟩
   let ⟨l,q⟩:=(g.kp j).bs.fR a B;exact⟨l,(n.2 a b).trans q⟩
  have J:=O.kp j.keep;have P:c.env.locals≠e:=λb=>Q (.inl b.symm)
  have y:∀a f,u.heap.IsCell a f->a≠e:=λa f z o=>by
   let ⟨l,b,ax⟩:=z;subst o;let ⟨k,q⟩:=Z;have o:=b.symm.trans q;cases o;cases ax
  refine⟨(j.kx.trans (t.mono λi b=>.inr b)),⟨(g.bs.kp j).kx t w a5,g.kind,g.globals,g.builtins,g.inj,λp a F=>let ⟨f,r⟩:=(g.kp j).qo p a F;⟨f,r.sameBut n (y a f r)⟩,λa4 a0 b=>?_⟩,?_,?_⟩
  .obtain⟨a8,aw,av,a9,a7⟩:=(g.kp j).vars a4 a0 b;exact⟨a8,aw,av,a9.kx t (λl b=>(n.2 _ P).trans b) (λa f H=>y a f H),a7.chg t.keep λi b=>g.bs.xm i (w i b)⟩
  .refine⟨let ⟨B,k⟩:=J.ns;⟨B,k.sameBut n P⟩,O.yx,λp E=>?_⟩;let ⟨a,f,F,r⟩:=J.cell p E;exact⟨a,f,F,r.sameBut n (y a f r)⟩
  refine⟨bj.push bk,L,E,?_⟩;rw[AL];have a6:∀{R:cQ} {K:aH},aW u.heap c.M R K->aW x c.M R K:=λv=>v.mono λa l k _ b=>⟨(n.2 a λo=>k (g.bs.xm a (w a o))).trans b,k⟩
  exact a6 ((v.keep j.keep).append (.one a3))
noncomputable def ie(scope:gh):List Str:=(scope.names.filter (·.2==.cell)).map (·.1)
noncomputable def Vt(a:Env)(scope:gh)(b:ak)(c:List (Str×ak)):Env:={scope:=relabel scope a,locals:=b,globals:=a.globals,cells:=c,qual:=a.qual,func:=ai,code:=a.code,frame:=a.frame,builtins:=a.builtins}
def C.into(a:C)(scope:gh)(b:ak)(c:List (Str×ak))(M d:bC):C:={a with env:=Vt a.env scope b c,M:=M,X:=d,own:=ie scope}
def OI:∀(d:List (Str×Ai)) (h:bY) (c:List (Str×ak)),
 (∀a∈(d.filter (·.2==.cell)).map (·.1),∃b,(cellsFrom h.objs.size d c).lookup a=U b/\h.get? b=ai/\(pushCells h d).IsCell b ai/\h.objs.size<=b)/\
 (∀a,a∉(d.filter (·.2==.cell)).map (·.1)->(cellsFrom h.objs.size d c).lookup a=c.lookup a)/\
 (∀a e b,a∈(d.filter (·.2==.cell)).map (·.1)->e∈(d.filter (·.2==.cell)).map (·.1)->(cellsFrom h.objs.size d c).lookup a=U b->(cellsFrom h.objs.size d c).lookup e=U b->a=e):=by
 intro I
 induction I with
 |nil=>
  intro h c;exact⟨λa i=>by simp at i,λa Z=>rfl,λa e b i=>by simp at i⟩
 |cons K f B=>
  rcases K with⟨g,k⟩
  intro h c
  by_cases C:k=.cell
  .subst C;have G:(h.push {cls:=.type "cell",data:=.cell ai}).objs.size=h.objs.size+1:=wj ..;let ⟨l,o,q⟩:=B (h.push {cls:=.type "cell",data:=.cell ai}) ((g,h.objs.size)::c);rw[G] at l o q;have y:cellsFrom h.objs.size ((g,ql)::f) c=cellsFrom (h.objs.size+1) f ((g,h.objs.size)::c):=rfl;have z:pushCells h ((g,ql)::f)=pushCells (h.push {cls:=.type "cell",data:=.cell ai}) f:=rfl;have w:(((g,ql)::f).filter (·.2==.cell)).map (·.1)=g::(f.filter (·.2==.cell)).map (·.1):=rfl;rw[y,z,w]
   have E:∀b,(h.push {cls:=.type "cell",data:=.cell ai}).get? b=ai->h.get? b=ai:=λb x=>by
    cases v:h.get? b with
    |none=>rfl
    |some O=>exact ns x (cG _ v)
   have self:g∉(f.filter (·.2==.cell)).map (·.1)->(cellsFrom (h.objs.size+1) f ((g,h.objs.size)::c)).lookup g=U h.objs.size:=λD=>by
    rw[o g D];simp
   refine⟨λa i=>?_,λa i=>?_,λa e b i j r t=>?_⟩
   .by_cases A:a∈(f.filter (·.2==.cell)).map (·.1)
    .let ⟨b,F,N,L,p⟩:=l a A;exact⟨b,F,E b N,L,by exact gf ‹_›⟩
    rcases bN.mp i with rfl|i
    .exact⟨h.objs.size,self A,dX h,⟨_,CC f _ _ _ (dw _ J),rfl⟩,cB _⟩
    exact aV i A
   .rw[o a λv=>i (vZ _ v),iF];have:(a==g)=aA:=beq_eq_false_iff_ne.mpr λx=>i (x▸sV)
    rw[this]
   by_cases s:a∈(f.filter (·.2==.cell)).map (·.1)
   .by_cases m:e∈(f.filter (·.2==.cell)).map (·.1)
    .exact q a e b s m r t
    rcases bN.mp j with rfl|j
    .let ⟨M,n,H,_,p⟩:=l a s;rw[self m] at t;cases t;rw[r] at n;cases n;exact aV p (K0 _)
    exact aV j m
   rcases bN.mp i with rfl|i
   .by_cases m:e∈(f.filter (·.2==.cell)).map (·.1)
    .let ⟨M,n,H,_,p⟩:=l e m;rw[self s] at r;cases r;rw[t] at n;cases n;exact aV p (K0 _)
    rcases bN.mp j with rfl|j
    .rfl
    exact aV j m
   exact aV i s
  have u:(k==ql)=aA:=by simpa using C
  let ⟨l,o,q⟩:=B h c;have y:cellsFrom h.objs.size ((g,k)::f) c=cellsFrom h.objs.size f c:=by show(if(k==ql)=af then _ else _)=_;rw[u];rfl
  have z:pushCells h ((g,k)::f)=pushCells h f:=by show(if(k==ql)=af then _ else _)=_;rw[u];rfl
  have w:(((g,k)::f).filter (·.2==.cell)).map (·.1)=(f.filter (·.2==.cell)).map (·.1):=by
   rw[gk];simp[u]
  rw[y,z,w];exact⟨l,o,q⟩
noncomputable def fj(scope:gh)(b:List (Str×V)):List (Str×V):=b.filter λa=>scope.names.lookup a.1==U .free
def Vu{q:Str->Bool}{c:List (Str×V)}{b:Str}{f:V}(h:(c.filter λa=>q a.1).lookup b=U f):q b=af/\c.lookup b=U f:=by
 intros q c b f _ h
 induction c with
 |nil=>simp at h
 |cons a c e=>
  rw[gk] at h
  by_cases d:q a.1=af
  .rw[az d,iF] at h;rw[iF];cases hx:b==a.1 with
   |true=>rw[hx] at h;rw[beq_iff_eq.mp hx];exact⟨d,h⟩
   |false=>rw[hx] at h;exact e h
  rw[aB d] at h;rw[iF];cases hx:b==a.1 with
  |true=>exact aV ((beq_iff_eq.mp hx)▸(e h).1) d
  |false=>exact e h
theorem OJ{c:Env}:∀{b:List (Str×Ai)} {a:Str},b.lookup a=U .free->
 (b.map λ(n,k)=>if(k==uI&&c.scope.kind==.function&&c.kindOf n==U .cell) then(n,ql) else(n,k)).lookup a=U .cell\/
 (b.map λ(n,k)=>if(k==uI&&c.scope.kind==.function&&c.kindOf n==U .cell) then(n,ql) else(n,k)).lookup a=U .free
 |[],_,h=>by simp at h
 |(n,k)::r,a,h=>by
  have d:=@OJ c r a;show LA a ((if(k==uI&&c.scope.kind==.function&&c.kindOf n==U .cell)=af then(n,ql) else(n,k))::_)=_\/LA a ((if(k==uI&&c.scope.kind==.function&&c.kindOf n==U .cell)=af then(n,ql) else(n,k))::_)=_;cases hx:a==n with
  |true=>
   simp only[iF,hx] at h;cases h;split
   .left;simp[iF,hx]
   right;simp[iF,hx]
  |false=>
   simp only[iF,hx] at h;split
   .simp only[iF,hx];exact d h
   simp only[iF,hx];exact d h
def Vv(l:Env):∀(f:List (Str×Ai)) (e:List (Str×ak)),(∀a∈f,a.2=.free->∃c,l.cells.lookup a.1=U c)->
 ∃d,(forIn f e λ(a:Str×Ai) (g:List (Str×ak))=>if(a.2==.free)=af then do let c<-cellOf l a.1;pure (yw ((a.1,c)::g)) else pure (yw g):Sem (List (Str×ak)))=pure d/\
  (∀b c,d.lookup b=U c->e.lookup b=U c\/l.cells.lookup b=U c)/\(∀b,(e.lookup b).isSome=af->(d.lookup b).isSome=af)/\(∀a∈f,a.2=.free->(d.lookup a.1).isSome=af):=by
 intro y
 induction y with
 |nil=>
  intro e _;exact⟨e,rfl,λb c j=>.inl j,λb j=>j,λa i=>by simp at i⟩
 |cons z A v=>
  rcases z with⟨n,k⟩
  intro e j;have w:∀a∈A,a.2=.free->∃c,l.cells.lookup a.1=U c:=λa i=>j a (vZ _ i)
  by_cases t:k=.free
  .subst t;let ⟨c,u⟩:=j (n,.free) sV J;let ⟨d,s,h,p,r⟩:=v ((n,c)::e) w;have x:(d.lookup n).isSome=af:=p n (by simp);refine⟨d,?_,λb B q=>?_,λb m=>p b ?_,λa i o=>?_⟩
   .rw[Al];have:cellOf l n=pure c:=by unfold cellOf;rw[u]
    simp only[beq_self_eq_true,if_true,this,pure_bind];exact s
   .rcases h b B q with h|h
    .rw[iF] at h;cases m:b==n with
     |true=>rw[m] at h;cases h;rw[beq_iff_eq.mp m];exact .inr u
     |false=>rw[m] at h;exact .inl h
    exact .inr h
   .rw[iF];cases hyn:b==n with
    |true=>rfl
    |false=>exact m
   rcases bN.mp i with rfl|i
   .exact x
   exact r a i o
  let ⟨d,s,h,p,r⟩:=v e w;refine⟨d,?_,h,p,λa i o=>?_⟩
  .have q:(k==uI)=aA:=by simpa using t
   rw[Al];simp only[q,qg,if_false,pure_bind];exact s
  rcases bN.mp i with rfl|i
  .exact aV o t
  exact r a i o
def Vw(scope:gh)(e:Env)(h:∀b∈scope.names,b.2=.free->∃a,e.cells.lookup b.1=U a):
 ∃c,closureFor scope e=pure c/\(∀d a,c.lookup d=U a->e.cells.lookup d=U a)/\(∀b∈scope.names,b.2=.free->∃a,c.lookup b.1=U a):=by
 let ⟨c,i,f,_,g⟩:=Vv e scope.names [] h;refine⟨c,?_,λd a k=>(f d a k).resolve_left (by simp),λb l j=>AN.mp (g b l j)⟩;unfold closureFor;rw[<-bind_pure (pure c:Sem _),<-i]
def Vx
 (h:∀c,c=pushCells (a.heap.push {cls:=.type "dict",data:=.dict #[]}) scope.names->d {scope,locals:=a.heap.objs.size,globals,cells:=cellsFrom (a.heap.objs.size+1) scope.names e,qual,func:=ai,code:=HX.code,frame:=HX.frame,builtins:=HX.builtins} {a with heap:=c}):
 wpAny M g (newFunctionEnv scope globals e [] qual ai .none (U HX) b) d f a:=by
 simp only[newFunctionEnv,MI,if_true];refine ay (Af (ay (wpAny_layCells _ (λj i cells=>by cases Vy:i==ql<;>simp[Vy]) _ _ _ _ ?_)));rw[show({a with heap:=a.heap.push {cls:=.type "dict",data:=.dict #[]}}:Shared).heap.objs.size=a.heap.objs.size+1 from wj ..];exact ay (aM (aM (h _ J)))
def XN(f:C)(scope:gh)(c b:ak)(d:List (Str×ak))(a:ak):Prop:=f.X a\/a=c\/a=b\/∃e∈ie scope,d.lookup e=U a
def MN(b:C)(scope:gh)(d c:ak)(e:List (Str×ak))(a:ak):Prop:=b.M a\/XN b scope d c e a
structure kW(c:C)(ρ:List (Str×V))(scope:gh)(La Da:ak)(cs cl:List (Str×ak))(s:Shared)(h:bY):Prop where
 S:St c ρ s
 kk:∀b o,s.heap.get? b=U o->h.get? b=U o
 gD:∃o,h.get? Da=U o
 nL:h.Ns La (λw=>ai)
 dD:s.heap.get? Da=ai
 dL:s.heap.get? La=ai
 OL:∀x∈ie scope,∃a,cs.lookup x=U a/\s.heap.get? a=ai/\h.IsCell a ai/\a≠Da/\a≠La
 OM:∀z,z∉ie scope->cs.lookup z=cl.lookup z
 Vz:∀x y a,x∈ie scope->y∈ie scope->cs.lookup x=U a->cs.lookup y=U a->x=y
 ON:∀x a,cl.lookup x=U a->c.env.cells.lookup x=U a
section
variable {c:C}{ρ:List (Str×V)}{scope:gh}{La Da a b:ak}{cs cl:List (Str×ak)}{s:Shared}{h:bY}{x:Str}{o:Obj}(F:kW c ρ scope La Da cs cl s h)
include F
theorem kW.cell(c:x∈ie scope)(d:cs.lookup x=U a):s.heap.get? a=ai/\h.IsCell a ai/\a≠Da/\a≠La:=(F.OL x c).elim λz b=>dF (b.1.symm.trans d)▸b.2
theorem kW.old(b:x∉ie scope)(d:cs.lookup x=U a):c.env.cells.lookup x=U a:=F.ON x a ((F.OM x b).symm.trans d)
theorem kW.wI(b:XN c scope La Da cs a):c.X a\/s.heap.get? a=ai:=b.imp id λb=>b.elim (λd=>d▸F.dL) λb=>b.elim (λd=>d▸F.dD) λb=>b.elim λz b=>(F.cell b.1 b.2).1
theorem kW.HY(e:s.heap.get? a=U o)(b:MN c scope La Da cs a):c.M a:=b.elim id λb=>(F.wI b).elim (F.S.bs.xm a) λd=>ns d e
theorem kW.rep(f:Rep s.heap c.M u d):Rep h (MN c scope La Da cs) u d:=f.mono λa o e z b=>⟨F.kk a o b,λg=>e (F.HY b g)⟩
theorem kW.nx(e:c.M a)(n:¬c.X a):¬XN c scope La Da cs a:=λb=>(F.wI b).elim n λb=>(F.S.bs.fR a e).elim λz d=>ns b d
theorem kW.fR(d:c.M a):∃o,h.get? a=U o:=(F.S.bs.fR a d).imp λo b=>F.kk a o b
theorem kW.VA(b:XN c scope La Da cs a):∃o,h.get? a=U o:=b.elim (λb=>F.fR (F.S.bs.xm a b)) λb=>b.elim (λd=>d▸(by let ⟨o,_,_,d,_⟩:=F.nL;exact⟨o,d⟩)) λb=>b.elim (λd=>d▸F.gD) λb=>b.elim λz b=>(F.cell b.1 b.2).2.1.imp λz b=>b.1
theorem kW.bs:Bs (c.into scope La cs (MN c scope La Da cs) (XN c scope La Da cs)) {s with heap:=h}:=
 ⟨
  λb o e=>F.kk b o (F.S.bs.keep b o e),F.S.bs.base,F.S.bs.room,λa g=>g.elim F.fR F.VA,λa d=>.inr d,λa d=>d.elim (F.S.bs.jS a) λd=>(F.wI d).elim (F.S.bs.wI a) F.S.bs.tB,
  λa f e=>have d:=F.S.bs.dc a f e;⟨.inl d.1,F.nx d.1 d.2.1,d.2.2.mono F.rep (F.kk a)⟩,λa d=>have d:=F.S.bs.iR a d;⟨.inl d.1,F.nx d.1 d.2.1,d.2.2⟩,λa d=>.inl (F.S.bs.bm a d)⟩
theorem kW.no(f:x∈ie scope)(e:d∉ie scope)(c:cs.lookup x=U a)(g:cs.lookup d=U a):False:=(F.S.qo d a (F.old e g)).elim λz b=>b.elim λz b=>ns (F.cell f c).1 b.1
theorem kW.st(n:scope.kind=.function)(w:∀x∈scope.names,x.2=.free->(c.env.kindOf x.1=U .cell\/c.env.kindOf x.1=U .free)/\(ρ.lookup x.1).isSome=af)(o:∀x,scope.names.lookup x=U .free->(x,uI)∈scope.names/\x∉ie scope)
 (p:∀x∈scope.names,x.2=.free->∃a,cl.lookup x.1=U a):St (c.into scope La cs (MN c scope La Da cs) (XN c scope La Da cs)) (fj scope ρ) {s with heap:=h}:=by
 intros c ρ scope La Da cs cl s h _ F n w o p;refine⟨F.bs,n,F.S.globals,F.S.builtins,λx i a f g=>?_,λx a r=>?_,λx v y=>?_⟩
 .by_cases d:x∈ie scope
  .by_cases e:i∈ie scope
   .exact F.Vz x i a d e f g
   exact(F.no d e f g).elim
  by_cases e:i∈ie scope
  .exact(F.no e d g f).elim
  exact F.S.inj x i a (F.old d f) (F.old e g)
 .by_cases d:x∈ie scope
  .exact⟨_,(F.cell d r).2.1⟩
  exact(F.S.qo x a (F.old d r)).imp λv D=>D.keeps F.kk
 have t:=Vu (q:=λx=>scope.names.lookup x==U .free) y;have u:scope.names.lookup x=U .free:=beq_iff_eq.mp t.1;have j:=o x u;obtain⟨B,z,A,h,C⟩:=F.S.vars x v t.2;let ⟨a,m⟩:=p (x,.free) j.1 J;rcases h with⟨l,_⟩|⟨_,b,lb,ib⟩
 .exact(w (x,.free) j.1 J).1.elim (λk=>nomatch l.symm.trans k) λk=>nomatch l.symm.trans k
 obtain rfl:=dF ((F.ON x a m).symm.trans lb);exact⟨B,z,A,.inr ⟨OJ u,a,(F.OM x j.2).trans m,ib.keeps F.kk⟩,C.mono F.rep⟩
theorem kW.lo:Lo (c.into scope La cs (MN c scope La Da cs) (XN c scope La Da cs)) {s with heap:=h}:=
 ⟨⟨_,F.nL⟩,λb d=>d.elim (λd=>.inr (.inl d)) λd=>.inr (.inr (.inr d)),λx e=>(F.OL x e).imp λa d=>⟨_,d.1,d.2.2.1⟩⟩
theorem kW.y(a:(c.into scope La cs (MN c scope La Da cs) (XN c scope La Da cs)).Y b):s.heap.get? b=ai:=a.elim (λd=>(show b=La from d)▸F.dL) λa=>a.elim λz a=>(F.cell a.1 a.2).1
theorem kW.yD(b:Da≠La):¬(c.into scope La cs (MN c scope La Da cs) (XN c scope La Da cs)).Y Da:=λa=>a.elim b λa=>a.elim λz a=>(F.cell a.1 a.2).2.2.1 J
end
inductive VB(tg:aT)(c:C)(ρ:List (Str×V))(s:Shared)(ds:aH)(it:aC)(oY:Shared):Prop
 |mk (k:Kp s oY) (z:aa ds<=bf) (I:ak) (fp wr hd:i9) (T:(ak->Prop)->Nat->bY->Prop) (M':bC) (e:it=.ref I) (hw:∀b∈wr,s.heap.get? b=ai) (hf:∀b∈fp,¬c.X b) (ha:∀b∈fp,∃o,oY.heap.get? b=U o) (W:yQ tg c.prog c.w c.A I fp wr hd ds T)
  (S:St {c with M:=M'} ρ oY) (hM:∀b,c.M b->M' b) (hM':∀b,M' b->c.M b\/b∈hd) (hh:∀b∈hd,M' b) (t:T M' 0 oY.heap)
def uW(h:aT)(a:C)(c:List (Str×V))(e:aT)(f:aH):Prop:=∀b,St a c b->
 wpAny a.m a.A (eval e a.env) (λd g=>wpAny a.m a.A (pyIter d) (VB h a c b f) no g) no b
theorem A8.z{p:aT}(h:It a c b ds):uW p a c b ds:=λt e=>aS (h t e) (λy y h=>aS h (λy y f=>by obtain⟨d,q,l,r,k,i,s,m,n,g,j,o⟩:=f;exact⟨d,q,l,r,k,[],i,a.M,s,m,n,g,j.z,e.kp d,λy h=>h,λy h=>.inl h,λy h=>gS h,o⟩))
def VC(d:Bs c b)(h:b.heap.get? a=ai):c.σ a=ai:=by
 cases e:c.σ a with
 |none=>rfl
 |some g=>exact(d.fR a (d.dc a g e).1).elim λz f=>ns h f
def DN{D:C}{a0:List (Str×V)}{e:aT}{scope:gh}{d1:Pos}{cm:Sem aC}{uX:Obj->Prop}{Z iter:aT}{ae:cN}{bp:List Ah}{aw:Option (aC->Sem Unit)}{av:cI}{a5:aH}
 {rY:C->ak->Shared->aH->Prop} {inner:aC->Env->Sem Unit} {H:bC} (R:List (aH)) (cf:aa R=aa a5) {Q:Shared} (hH:∀b,H b->∃j,Q.heap.get? b=U j)
 (a7:wN e) (a9:clausesOf e=⟨Z,iter,ae,0⟩::bp) (cz:∀v z B,compTurn e 0 v z B=uV e 0 Z iter ae (inner z B) v z B) (hs:∀k,foldedSetIterable iter D.env k=pure k)
 (bo:scope.kind=.function) (c0:∀k∈scope.names,k.2=.local->scope.names.lookup k.1=U .local)
 (bt:∀k∈scope.names,k.2=.free->(D.env.kindOf k.1=U .cell\/D.env.kindOf k.1=U .free)/\(a0.lookup k.1).isSome=af) (b4:∀k,scope.names.lookup k=U .free->(k,uI)∈scope.names/\k∉ie scope)
 (S:St D a0 Q) (cb:uW Z D a0 iter a5)
 (cp:∀(p:Shared) (x:cI),(∀n,uX n->x (.ref p.heap.objs.size) {p with heap:=p.heap.push n})->wpAny D.m D.A cm x no p) (a4:∀n,uX n->n.isFreed=aA)
 (c5:∀o p a n,uX n->p.heap.get? a=U n->(∀b,H b->∃j,p.heap.get? b=U j)->rY o a p []) (b3:∀(o:C) a,o.X a->¬o.Y a->yN o a (rY o a) H)
 (I:∀f h M s a,(D.into scope f h M s).X a->¬(D.into scope f h M s).Y a->∀(i:Nat) d j,a5[i]?=U d->R[i]?=U j->TB (D.into scope f h M s) (fj scope a0) Z ae d (λF=>yO (D.into scope f h M s) F a (rY (D.into scope f h M s) a) (inner (.ref a) (D.into scope f h M s).env) (R.take i).flatten j) (j=[]))
 (hz:(R.flatten).length<=bf)
 (ct:∀(o:C) a f r,o.prog=D.prog->o.w=D.w->(∀l,D.M l->o.M l)->Kp Q r->Q.heap.get? a=ai->Q.heap.get? f=ai->a≠f->rY o a r (R.flatten)->(∃q,r.heap.Ns f q)->(o.M f)->(o.M a)->
  (match (generalizing:=false) aw with
   |none=>∀t,iG f r.heap t->av (.ref a) {r with heap:=t}
   |some u=>wpAny D.m D.A (u (.ref a)) (λ_ E=>∃q,E.heap.Ns f q/\∀t,iG f E.heap t->av .none {E with heap:=t}) no r)):
 wpAny D.m D.A (comprehension e scope D.env d1 cm aA (eval iter D.env) aw) av no Q:=by
 intros D a0 e scope d1 cm uX Z iter ae _ bp aw av a5 rY inner H R cf Q hH a7 a9 cz hs bo c0 bt b4 S cb cp a4 c5 b3 I hz ct;intros bp aw av a5 rY inner H R Q _ cf hH a7 a9 cz hs bo c0 bt b4 S cb cp a4 c5 b3 I hz ct
 have eC:∀k∈scope.names,k.2=.free->∃l,D.env.cells.lookup k.1=U l:=λk c3 ej=>by
  let ⟨a6,eA⟩:=bt k c3 ej;let ⟨eD,ea⟩:=AN.mp eA;obtain⟨_,_,u,d6,_⟩:=S.vars k.1 eD ea;rcases d6 with⟨l,_⟩|⟨_,l,cw,_⟩
  .rw[l] at a6;rcases a6 with a6|a6<;>cases a6
  exact⟨l,cw⟩
 let ⟨bk,di,dT,dr⟩:=Vw scope D.env eC;intros bk _ di dT dr;refine wpAny_comprehension_free (g:=⟨Z,iter,ae,0⟩) (gs:=bp) a9 hs di bo c0 (aS (cb Q S) (λk p de=>aS de (λv K dE=>?_)));intros k p v K _ de dE;obtain⟨N,ek,c7,eg,d5,eu,dp,L,rfl,ax,dv,c4,W,d0,dz,d4,du,dk⟩:=dE;intros c7 eg d5 eu dp L _ N ek ax dv c4 W d0 dz d4 du dk;refine cp K _ λn c2=>Vx λO a3=>?_;intros n O _ c2 a3
 have a4:=a4 n c2;have cx:(K.heap.push n).objs.size=K.heap.objs.size+1:=wj ..;obtain⟨a,au⟩:∃a,a=K.heap.objs.size:=⟨_,rfl⟩;intros a _ au;obtain⟨f,T⟩:∃f,f=(K.heap.push n).objs.size:=⟨_,rfl⟩;intros f _ T;obtain⟨h,a8⟩:∃h,h=cellsFrom (f+1) scope.names bk:=⟨_,rfl⟩;intros h _ a8;have b5:((K.heap.push n).push {cls:=.type "dict",data:=.dict #[]}).objs.size=f+1:=by rw[T];exact wj ..
 let ⟨d3,df,dy⟩:=OI scope.names ((K.heap.push n).push {cls:=.type "dict",data:=.dict #[]}) bk;rw[b5,<-a8,<-a3] at d3;rw[b5,<-a8] at df dy
 have b2:∀b j,K.heap.get? b=U j->O.get? b=U j:=λb j e=>by
  rw[a3];exact CC _ _ _ _ (cG _ (cG _ e))
 have d2:O.get? a=U n:=by rw[a3,au];exact CC _ _ _ _ (cG _ (dw _ a4))
 have et:O.Ns f (λ_=>ai):=by rw[a3,T];exact(Heap.Ns.new _ _).keeps (CC _ _)
 have b6:K.heap.get? a=ai:=by rw[au];exact dX _
 have dq:K.heap.get? f=ai:=by
  cases G:K.heap.get? f with
  |none=>rfl
  |some j=>exact aV (d7 G) (by rw[T,cx];exact gO.mpr (jw _))
 have cq:a≠f:=eN (by rw[au,T,cx];exact l7 _)
 have er:∀k∈ie scope,∃l,h.lookup k=U l/\K.heap.get? l=ai/\O.IsCell l ai/\l≠a/\l≠f:=λk c3=>by
  let ⟨l,cw,ec,eI,eb⟩:=d3 k c3;have dA:f+1<=l:=b5▸eb;have eh:a<f:=by rw[au,T,cx];exact l7 _
  refine⟨l,cw,?_,eI,pR (Ac eh dA),pR dA⟩;cases G:K.heap.get? l with
  |none=>rfl
  |some j=>exact ns ec (cG _ (cG _ G))
 have P:kW {D with M:=L} a0 scope f a h bk K O:=⟨d0,b2,⟨_,d2⟩,et,b6,dq,er,df,dy,dT⟩;have body:=I f h (MN {D with M:=L} scope f a h) (XN {D with M:=L} scope f a h) a (.inr (.inr (.inl J))) (P.yD cq);have c6:dp (MN {D with M:=L} scope f a h) 0 O:=W.frame _ 0 K.heap O (W.up L _ 0 K.heap dk (λl j e G=>P.HY e G) λb I=>.inl (du b I)) λb j _ e=>b2 b j e
 have ez:codeAny D.m D.A (.compStart e 0 (.ref c7) (.ref a) (D.into scope f h (MN {D with M:=L} scope f a h) (XN {D with M:=L} scope f a h)).env) (compPost D.m D.A no aw av (.ref a) f) {K with heap:=O}:=by
  refine OG (c:=D.into scope f h (MN {D with M:=L} scope f a h) (XN {D with M:=L} scope f a h)) a7 (tg:=Z) (iter:=iter) (ifs:=ae) (by rw[a9];rfl) ?_ (λx G=>W.self (MN {D with M:=L} scope f a h) 0 _ x c6 G);refine OF (c:=D.into scope f h (MN {D with M:=L} scope f a h) (XN {D with M:=L} scope f a h)) (done:=[]) R cf a7 (cz _ _ _) W (b3 _ a (.inr (.inr (.inl J))) (P.yD cq)) body (P.st bo bt b4 dr) P.lo (c5 _ _ a n c2 d2 λb I=>(hH b I).imp λj e=>b2 b j (N.keep b j e)) c6 (λb I G=>(P.wI G).elim (dv b I) λG=>(c4 b I).elim λ_ e=>ns G e) (λb I=>S.bs.tB (ax b I)) (λb I G=>(c4 b (W.sub b I)).elim λj e=>(d4 b (P.HY e G)).elim (λq=>aV q (S.bs.new (ax b I))) id) (λb I=>(VC (c:=D) S.bs (ax b (W.hs b I)):)) (λb I G=>(hH b G).elim λ_ e=>ns (ax b I) e) (λb G I=>(hH b I).elim λj e=>ns (P.y G) (N.keep b j e)) (by simpa using hz) λed dj b1 ei bj dC=>?_;intros ed dj _ b1 ei bj dC
  have dt:=ct (D.into scope f h (MN {D with M:=L} scope f a h) (XN {D with M:=L} scope f a h)) a f dj J J (λl q=>.inl (dz l q)) ⟨b1.gens.trans N.gens,b1.os.trans N.os,λb j e=>b1.keep b j (λG=>G.elim (λG=>G.elim (λG=>ns (P.y G) (N.keep b j e)) λG=>ns b6 (G▸N.keep b j e)) λG=>ns (ax b G) e) (b2 b j (N.keep b j e))⟩ (fL N b6) (fL N dq) cq (by simpa using dC) bj (.inr (.inr (.inl J))) (.inr (.inr (.inr (.inl J))));cases aw with
  |none=>exact⟨bj.choose,bj.choose_spec,dt⟩
  |some u=>exact dt
 subst au T a8;exact ez
open Mine.yR renaming ok->HZ
def nC.nest{j:C}{t:List (Str×V)}{r:ak}{n:Shared->aH->Prop}{e:aT}{q:Nat}{v:aC}{tg iter:aT}{ifs:cN}{L:Sem Unit}{y:aH}{o:List (aH)}(ae:aa o=aa y)
 (D:wN e) (S:(clausesOf e)[q+1]?=U ⟨tg,iter,ifs,0⟩) (bj:∀f,compTurn e (q+1) f v j.env=uV e (q+1) tg iter ifs L f v j.env) (hs:∀b,foldedSetIterable iter j.env b=pure b) (F:yN j r n (λ_=>False)) (Z:It j t iter y)
 (l:∀(i:Nat) d a,y[i]?=U d->o[i]?=U a->TB j t tg ifs d (λg=>nC j g r n L a) (a=[])):
 nC j t r n (Ba e q iter v j.env) o.flatten:=λx done p a3 b2 a4=>by
 unfold Ba;refine ay (aS (Z x p) (λb cm Y=>ay (lB (ay (rF (hs b) (ay (dW (aS Y (λf H a9=>?_)))))))));obtain⟨m,cf,b4,cb,E,b6,rfl,B,au,cp,W,I⟩:=a9;have bt:=p.kp m;have X:=a3.kp m.keep;have bo:∀h∈E,j.h₀.get? h=ai:=λh l=>p.bs.tB (B h l)
 have a0:∀h∈E,¬j.M h:=λh l=>p.bs.new (B h l)
 have av:n H done:=F.tG x H _ b2 (λa e=>m.keep _ a e) (λG a _ _ e=>m.keep G a e) λG a w _=>w.elim
 refine ay (wpAny_runOwn (F9 (R:=λO K=>∃s,O=.ok s/\HV j t r n x (done++o.flatten) () K) ?_ λO K P=>by let ⟨s,b3,u⟩:=P;exact by subst b3;exact aM u));refine OG (c:=j) D S ?_ (λb1 u=>W.self j.M 0 _ b1 I u);refine OF o ae D (bj _) W.z F (λi d a a7 T=>let ⟨a5,h,a6,bk,ax,Q,bp⟩:=l i d a a7 T;⟨a5,h,a6,bk,ax,λk=>(Q k).at,bp⟩) bt X av I au bo (λh l aw=>aV aw (a0 h l)) (λ_ k=>gS k) (λ_ _ k=>k) (λ_ _ k=>k) a4 λs b5 A N _ a8=>⟨s,rfl,⟨?_,(N J).1,(N J).2,a8⟩⟩
 exact⟨A.gens.trans m.gens,A.os.trans m.os,λh a w e=>A.keep h a (λk=>k.elim w λk=>ns (B h k) e) (m.keep h a e)⟩
def kX(b:Str->Option Ai)(c:Str->Bool)(scope:gh):Bool:=
 scope.kind==.function&&scope.names.all λa=>match a.2 with
  |.local=>scope.names.lookup a.1==U .local
  |.free=>(b a.1==U .cell||b a.1==U .free)&&c a.1&&!(ie scope).contains a.1
  |_=>af
def VD{c:Type}:∀{b:List (Str×c)} {n:Str} {a:c},b.lookup n=U a->(n,a)∈b:=mem_of_lookup
def DO(h:kX b has scope=af):scope.kind=.function/\(∀a∈scope.names,a.2=.local->scope.names.lookup a.1=U .local)/\
 (∀a∈scope.names,a.2=.free->(b a.1=U .cell\/b a.1=U .free)/\has a.1=af)/\(∀a,scope.names.lookup a=U .free->(a,uI)∈scope.names/\a∉ie scope):=by
 simp only[kX,gQ,beq_iff_eq,Au] at h;let ⟨k,e⟩:=h;refine⟨k,λa d c=>?_,λa d c=>?_,λa j=>?_⟩
 .have:=e a d;rw[c] at this;simpa using this
 .have:=e a d;rw[c] at this;simp only[gQ,CW,beq_iff_eq] at this;exact⟨this.1.1,this.1.2⟩
 have g:=mem_of_lookup j;have:=e _ g;simp only[gQ,uE] at this;refine⟨g,λi=>?_⟩;have f:=this.2;rw[gy.mpr i] at f;cases f
section
variable {c:C}{ρ:List (Str×V)}{e e₁ e₂ A6:aT}{v v₁ v₂:V}{pos p:Pos}
def VE(d b:aC)(c:Env):
 compTurn (.ListComp nB [⟨a,iter,ifs,0⟩] scope pos) 0 d b c=uV (.ListComp nB [⟨a,iter,ifs,0⟩] scope pos) 0 a iter ifs (uU (.ListComp nB [⟨a,iter,ifs,0⟩] scope pos) b c) d b c:=
 rfl
def OO{B y iter:aT}{z:cN}{scope:gh}{I:Option (aC->Sem Unit)}{C:cI}{w:Shared}{D:aH}{x:List (aH)}(W:aa x=aa D)(hz:aa x.flatten<=bf)(P:St c ρ w)(R:uW y c ρ iter D)
 (K:∀a n M q (i:Nat) d f,D[i]?=U d->x[i]?=U f->TB (c.into scope a n M q) (fj scope ρ) y z d (λt=>∃h,Ev (c.into scope a n M q) t B (.d h)/\f=[h]) (f=[]))
 (b2:kX c.env.kindOf (λh=>(ρ.lookup h).isSome) scope=af) (hs:∀h,foldedSetIterable iter c.env h=pure h)
 (au:∀b a g o,Kp w g->w.heap.get? b=ai->w.heap.get? a=ai->PL g.heap b o->aW g.heap (λj=>(c.M j\/j=a)\/j=b) o.toList x.flatten->(∃r,g.heap.Ns a r)->b≠a->
  (match (generalizing:=false) I with
   |none=>∀k,iG a g.heap k->C (.ref b) {g with heap:=k}
   |some u=>wpAny c.m c.A (u (.ref b)) (λ_ s=>∃r,s.heap.Ns a r/\∀k,iG a s.heap k->C .none {s with heap:=k}) no g)):
 wpAny c.m c.A (comprehension (.ListComp B [⟨y,iter,z,0⟩] scope pos) scope c.env p (newList []) aA (eval iter c.env) I) C no w:=by
 let ⟨a6,O,Y,av⟩:=DO b2;refine DN (H:=λ_=>False) (hH:=λ_ v=>v.elim) (rY:=yR) (inner:=λQ Z=>uU (.ListComp B [⟨y,iter,z,0⟩] scope pos) Q Z) (uX:=λf=>f={cls:=.type "list",data:=.seq #[]}) x W .l J VE hs a6 O Y av P R
  (λbo b5 L=>CD (L _ J) ∅) (λf e=>by subst e;rfl) (λG bo b f e V _=>by subst e;exact⟨#[],⟨0,V⟩,by decide,.nil⟩) (λG b F E=>HZ F E) ?_ hz ?_
 .intro a n M q b F E i d f a8 bj;obtain⟨a4,b3,S,ae,a7,T,a9⟩:=K a n M q i d f a8 bj;refine⟨a4,b3,S,ae,a7,λe=>?_,a9⟩;let ⟨h,aw,zy⟩:=T e;exact(nC.OH F E aw).at
 intro G b a g _ _ ax a5 bp bk N a3 X a0 bt;let ⟨o,i,b4,b1⟩:=a3;exact au b a g o a5 bp bk i (b1.lM λj v=>v.elim (λv=>v.elim (ax j) λe=>e▸a0) λe=>e▸bt) X N
def cF.comp{s q iter:aT}{u:cN}{scope:gh}{o:aH}{m:List (aH)}(z:aa m=aa o)(hz:aa m.flatten<=bf)(x:uW q c ρ iter o)
 (v:∀f g M h (i:Nat) d a,o[i]?=U d->m[i]?=U a->TB (c.into scope f g M h) (fj scope ρ) q u d (λj=>∃b,Ev (c.into scope f g M h) j s (.d b)/\a=[b]) (a=[]))
 (J:kX c.env.kindOf (λb=>(ρ.lookup b).isSome) scope=af) (hs:∀b,foldedSetIterable iter c.env b=pure b):cF c ρ (.ListComp s [⟨q,iter,u,0⟩] scope pos) m.flatten:=λL B=>by
 rw[eval_ListComp];refine OO z hz B x v J hs λt f y C p D A i F K w I G=>?_
 have r:∀k a,k≠f->y.heap.get? k=U a->I.get? k=U a:=λk a l e=>(G.2 k l).trans e
 refine⟨⟨p.gens,p.os,λk a e=>r k a (λn=>ns (n▸A) e) (p.keep k a e)⟩,t,C,rfl,D,i.at λa e=>r t a w e,hz,F.mono λE a l Z e=>⟨r E a (λn=>l (.inl (.inr n))) e,λH=>l (H.imp .inl id)⟩⟩
def cF.OP{n:Type}{ts:List n}{enc g:n->D}{q:n->Bool}{t o iter:aT}{s:cN}{scope:gh}(u:uW o c ρ iter (ts.map enc))
 (r:∀f i M j a,a∈ts->∃b,iV (c.into scope f i M j) o (enc a) b/\(∀p∈b,(fj scope ρ).lookup p.1=ai)/\lP (c.into scope f i M j) (b++fj scope ρ) s (q a)/\(q a=af->Ev (c.into scope f i M j) (b++fj scope ρ) t (.d (g a))))
 (hz:aa ts<=bf) (C:kX c.env.kindOf (λk=>(ρ.lookup k).isSome) scope=af) (hs:autoParam (∀k,foldedSetIterable iter c.env k=pure k) lH):cF c ρ (.ListComp t [⟨o,iter,s,0⟩] scope pos) ((ts.filter q).map g):=by
 have v:(ts.map λa=>if q a then[g a] else[]).flatten=(ts.filter q).map g:=by
  clear u r hz
  induction ts with
  |nil=>rfl
  |cons a ts x=>cases h:q a<;>simp[h,x]
 rw[<-v];refine cF.comp (by simp) ?_ u (λf i M j B E F l m=>?_) C hs
 .rw[v,aP];exact aj (fZ _ _) hz
 rw[cC] at l m;cases ht:ts[B]? with
 |none=>rw[ht] at l;cases l
 |some a=>
  rw[ht] at l m;simp only[AP,AJ] at l m;subst l m;let ⟨b,A,w,y,z⟩:=r f i M j a (iZ ht);exact⟨b,q a,A,w,y,λe=>⟨_,z e,by rw[az e]⟩,λe=>by rw[e];rfl⟩
theorem cF.map{e:Type}{ts:List e}{enc g:e->D}{q:e->Bool}{k l iter:aT}{ifs:cN}{scope:gh}(n:It c ρ iter (ts.map enc))
 (m:∀i h M j a,a∈ts->∃f,iV (c.into scope i h M j) l (enc a) f/\(∀p∈f,(fj scope ρ).lookup p.1=ai)/\lP (c.into scope i h M j) (f++fj scope ρ) ifs (q a)/\(q a=af->Ev (c.into scope i h M j) (f++fj scope ρ) k (.d (g a))))
 (hz:aa ts<=bf) (o:kX c.env.kindOf (λb=>(ρ.lookup b).isSome) scope=af) (hs:autoParam (∀b,foldedSetIterable iter c.env b=pure b) lH):cF c ρ (.ListComp k [⟨l,iter,ifs,0⟩] scope pos) ((ts.filter q).map g):=cF.OP n.z m hz o hs
end
open Mine.cF renaming map->rZ
abbrev Nm:=List (Str×V)
structure Ext(c:C)(s:Shared)(c':C)(s':Shared):Prop where
 eq:c'={c with M:=c'.M,σ:=c'.σ,wr:=c'.wr}
 kx:Kx (λb=>c.wr b\/c.Y b) s s'
 al:∀a o,s.heap.get? a=U o->∃o',s'.heap.get? a=U o'
 m:∀a o,s.heap.get? a=U o->c'.M a->c.M a
 w:∀a o,s.heap.get? a=U o->c'.wr a->c.wr a
 wb:∀a,c.B a->c.wr a->c'.wr a
 sg:∀a o cn,s.heap.get? a=U o->c.B a->¬c.wr a->c.σ a=U cn->c'.σ a=U cn
 sn:∀a o cn,s.heap.get? a=U o->c'.σ a=U cn->∃qB,c.σ a=U qB
 nw:∀a cn,c'.σ a=U cn->¬c'.wr a->(∃qB,c.σ a=U qB)/\¬c.wr a
def Ext.of(k:Kx (λb=>d.wr b\/d.Y b) f e)(l:∀g h,f.heap.get? g=U h->∃i,e.heap.get? g=U i):Ext d f d e:=
 ⟨rfl,k,l,λz z z a=>a,λz z z a=>a,λz z a=>a,λz z z z z z a=>a,λz z c z a=>⟨c,a⟩,λz c a j=>⟨⟨c,a⟩,j⟩⟩
def Ext.qA(k:Kp d f):Ext e d e f:=.of k.kx λc a b=>⟨a,k.keep c a b⟩
theorem Ext.refl:Ext e d e d:=.qA (gT d)
theorem Ext.Y(a:Ext e g d f):d.Y=e.Y:=by rw[a.eq];rfl
theorem Ext.B(a:Ext e g d f):d.B=e.B:=by rw[a.eq]
theorem Ext.trans(b:Ext g h i d)(l:Ext i d e f):Ext g h e f:=by
 refine⟨by rw[l.eq,b.eq],⟨l.kx.gens.trans b.kx.gens,l.kx.os.trans b.kx.os,λu c s j=>?_⟩,λa c j=>?_,λa c j k=>?_,λa c j k=>?_,λa r k=>?_,λa c p q r v j=>?_,λa c p q j=>?_,λa p j s=>?_⟩
 .refine l.kx.keep u c (λk=>s ?_) (b.kx.keep u c s j);rcases k with k|k
  .exact .inl (b.w u c j k)
  exact .inr (b.Y▸k)
 .let ⟨o,n⟩:=b.al a c j;exact l.al a o n
 .let ⟨o,n⟩:=b.al a c j;exact b.m a c j (l.m a o n k)
 .let ⟨o,n⟩:=b.al a c j;exact b.w a c j (l.w a o n k)
 .exact l.wb a (b.B▸r) (b.wb a r k)
 .let ⟨o,n⟩:=b.al a c q;exact l.sg a o p n (b.B▸r) (λk=>v (b.w a c q k)) (b.sg a c p q r v j)
 .let ⟨o,n⟩:=b.al a c q;let ⟨t,x⟩:=l.sn a o p n j;exact b.sn a c t q x
 let ⟨y,z⟩:=l.nw a p j s;let ⟨t,n⟩:=y;exact b.nw a t n z
abbrev C.set(a:C)(M:bC)(σ:ak->Option Cn)(wr:bC):C:={a with M:=M,σ:=σ,wr:=wr}
def WS(a:C):eV->(sR->Shared->Prop)->Shared->Prop
 |[],Q,b=>Q .next b
 |ss::k,Q,b=>wpAny a.m a.A (execs ss a.env) (λc d=>match c with|.next=>WS a k Q d|c=>Q c d) no b
inductive qC(c:C)(s:Shared)(P:C->Nm->Prop)(R:d9):sR->Shared->Prop
 |next {s':Shared} (c':C) (X:Ext c s c' s') (ρ':Nm) (S:St c' ρ' s') (L:Lo c' s') (h:P c' ρ'):qC c s P R .next s'
 |ret {s':Shared} (c':C) (X:Ext c s c' s') (u:aC) (d:D) (B:Bs c' s') (r:Rep s'.heap c.B u d) (h:R c' d):qC c s P R (.ret u) s'
def Ex(b:C)(d:Nm)(k:eV)(c:C->Nm->Prop)(R:d9):Prop:=∀a,St b d a->Lo b a->WS b k (qC b a c R) a
def WS.mono(h:∀b a,d b a->c b a):∀{k:eV} {a:Shared},WS e k d a->WS e k c a:=by
 intro j
 induction j with
 |nil=>
  intro a f;exact h _ _ f
 |cons m k i=>
  intro a f;exact aS f (λb l g=>by cases b<;>first|exact i g|exact h _ _ g)
theorem WS.env(h:a={c with M:=a.M,σ:=a.σ,wr:=a.wr}):∀{k:eV} {b:sR->Shared->Prop} {d:Shared},WS a k b d->WS c k b d:=by
 intro l
 induction l with
 |nil=>
  intro b d e;exact e
 |cons q k g=>
  intro b d e;have o:a.m=c.m:=by rw[h]
  have i:a.A=c.A:=by rw[h]
  have n:a.env=c.env:=by rw[h]
  unfold WS at e⊢;rw[o,i,n] at e;refine aS e (λj p f=>?_);cases j<;>first|exact f|exact g f
theorem qC.trans(c:Ext f g i a)(h:qC i a P R b e):qC f g P R b e:=by
 cases h with
 |next d j m n l h=>exact .next d (c.trans j) m n l h
 |ret d j q o k p h=>exact .ret d (c.trans j) q o k (c.B▸p) h
def Ex.go(h:Ex b e k P R)(f:Ext c d b a)(j:St b e a)(i:Lo b a):WS c k (qC c d P R) a:=
 WS.env f.eq ((h a j i).mono λl m g=>g.trans f)
section
variable {c:C}{ρ:Nm}{k:eV}{rest:dH}{P:C->Nm->Prop}{R:d9}{e e₁ e₂:aT}{v:V}{pos p:Pos}{x:Str}
def Ex.done(h:P c ρ):Ex c ρ [] P R:=λd b a=>.next c .refl ρ b a h
def Ex.pop(h:Ex c ρ k P R):Ex c ρ ([]::k) P R:=λa d b=>by
 unfold WS;exact Lj (h a d b)
def Ex.body{k:dH}(h:Ex c ρ [k] P R){e:Shared}(s:St c ρ e)(q:Lo c e){i:sR->Shared->Prop}(t:∀b f a,Ext c e b a->St b f a->Lo b a->P b f->i .next a)
 (o:∀b a u d,Ext c e b a->Bs b a->Rep a.heap c.B u d->R b d->i (.ret u) a):wpAny c.m c.A (execs k c.env) i no e:=by
 have h:=h e s q;unfold WS at h;refine aS h (λl a g=>?_);replace g:qC c e P R l a:=by cases l<;>exact g
 cases g with
 |next b j f n r w=>exact t b f a j n r w
 |ret b j u d p x v=>exact o b a u d j p x v
theorem Ex.mono(h:Ex c ρ k P R)(p:∀c ρ,P c ρ->a c ρ)(hr:∀c d,R c d->b c d):Ex c ρ k a b:=λq o l=>
 (h q o l).mono λu t i=>by
  cases i with
  |next f e m g n h=>exact .next f e m g n (p _ _ h)
  |ret f e s d j r h=>exact .ret f e s d j r (hr _ _ h)
def Ex.OQ{j:Stmt}(h:∀f,St c ρ f->Lo c f->∀i:sR->Shared->Prop,(∀b g a,Ext c f b a->St b g a->Lo b a->Ex b g (rest::k) P R->i .next a)->
 (∀b a u d,Ext c f b a->Bs b a->Rep a.heap c.B u d->R b d->i (.ret u) a)->wpAny c.m c.A (exec j c.env) i no f):Ex c ρ ((j::rest)::k) P R:=λf q o=>by
 unfold WS;exact CE (h f q o _ (λb g a x l p e=>e.go x l p) λb a u d x n e r=>qC.ret b x u d n e r)
def Ex.stmt{e:Stmt}(h:∀a,St c ρ a->Lo c a->wpAny c.m c.A (exec e c.env) (λg d=>∃b f,g=.next/\Ext c a b d/\St b f d/\Lo b d/\Ex b f (rest::k) P R) no a):Ex c ρ ((e::rest)::k) P R:=
 Ex.OQ λa o l r q z=>aS (h a o l) (λg d j=>by
  let ⟨b,f,zy,x,i,n,p⟩:=j;exact q b f d x i n p)
def Ex.ifs{body f:dH}{b:Bool}(h:bX c ρ e b)(h1:b=af->Ex c ρ (body::rest::k) P R)(h2:b=aA->Ex c ρ (f::rest::k) P R):Ex c ρ ((.If e body f pos::rest)::k) P R:=by
 intros c ρ k rest P R e pos body f b _ h h1 h2;exact λo l m=>by
  unfold WS;refine CE (wpAny_If (aS (h o l) (λx p a=>?_)));obtain⟨d,rfl⟩:=a;have i:=l.kp d;have j:=m.kp d.keep;cases x with
  |true=>rw[az J];exact aS ((h1 J).go (.qA d) i j) (λg n a=>by cases g<;>exact a)
  |false=>rw[aB ∅];exact aS ((h2 J).go (.qA d) i j) (λg n a=>by cases g<;>exact a)
def St.b(a:St c ρ f)(e:Rep f.heap c.M u d):Rep f.heap c.B u d:=e.lM a.bs.bm
structure RO(M:bC)(s:Shared)(d:D)(x:aC)(s':Shared):Prop where
 k:Kp s s'
 r:Rep s'.heap M x d
def r4(c:C)(ρ:Nm)(e:aT)(d:D):Prop:=∀a,St c ρ a->wpAny c.m c.A (eval e c.env) (RO c.B a d) no a
def r4.of(h:Ev c ρ e (.d d)):r4 c ρ e d:=λg f=>aS (h g f) (λx i a=>⟨a.k,(f.kp a.k).b a.r⟩)
theorem r4.lst(h:Ev c ρ e (.r a))(m:c.σ a=U (.l ds))(f:¬c.B a):r4 c ρ e (.lst ds):=λn d=>aS (h n d) (λx o b=>⟨b.k,by
 obtain rfl:x=.ref a:=b.r;obtain⟨_,_,p,i,j,g⟩:=(d.bs.kp b.k).dc a _ m;exact .lst i f j (g.lM d.bs.bm)⟩)
def wO(c:C)(ρ:Nm)(b:cN)(d:aH):Prop:=
 ∀a pos,St c ρ a->wpAny c.m c.A (spliced (backTo pos (starEach b c.env))) (Oj c.B a d) no a
theorem wO.nil:wO c ρ [] []:=λa pos z=>qj ⟨gT a,.nil⟩
theorem wO.cons{x:D}{g:cN}{d:aH}(h:r4 c ρ e x)(l:wO c ρ g d)(hs:autoParam (cD e=aA) aI):wO c ρ (e::g) (x::d):=λj pos f=>by
 rw[iL _ hs];refine m8 (aS (h j f) (λm i a=>?_));exact aS (l i pos (f.kp a.k)) (λn o b=>⟨a.k.trans b.k,.cons (yG a.r b.k.keep) b.r⟩)
theorem r4.tup{d:cN}{ds:aH}{n:Nat}(h:wO c ρ d ds)(hz:aa ds<=bf:=by exact bM J):r4 c ρ (.Tuple d n pos) (.tup ds):=λg b=>by
 refine Cz (aS (h g pos b) (λi f a=>⟨by rw[a.r.length];exact gZ hz,a.k.trans (g8 f _),?_⟩));exact .tup ⟨0,dw _ J⟩ (λh=>(b.bs.kp a.k).size (b.bs.bm _ h)) hz (a.r.keep λz z e=>cG _ e)
theorem Ex.ret(h:r4 c ρ e d)(hr:R c d):Ex c ρ ((.Return (U e) pos::rest)::k) P R:=λg b j=>by
 unfold WS;refine CE (wpAny_Return_some (aS (h g b) (λf i a=>?_)));exact qC.ret c (.qA a.k) f d (b.bs.kp a.k) a.r hr
def Ex.VF(hr:R c .none):Ex c ρ ((.Return ai pos::rest)::k) P R:=λd a b=>by
 unfold WS;exact CE (wpAny_Return_none (qC.ret c .refl _ .none a.bs .none hr))
def Ext.tH(k:Kx c.Y d f)(l:St c ρ d)(j:Lo c d)(i:St c g f):Ext c d c f:=.of (k.mono λz b=>.inr b) λa h e=>by
 by_cases b:c.Y a
 .exact i.bs.fR a (l.bs.xm a (j.yx a b))
 exact⟨h,k.keep a h b e⟩
def Ex.assign(h:Ev c ρ e v)(j:gH c x)(m:Ex c ((x,v)::ρ) (rest::k) P R)(hs:autoParam (swapsWith e (U (.Name x p)) pos.line c.env=pure aA) aI):Ex c ρ ((.Assign [.Name x p] e pos::rest)::k) P R:=
 Ex.stmt λl b f=>Gq (aS (h l b) (λq n a=>(b.kp a.k).store (f.kp a.k.keep) j a.r λo g d i=>
  ⟨c,_,rfl,(Ext.qA a.k).trans (.tH g (b.kp a.k) (f.kp a.k.keep) d),d,i,m⟩)) hs
end
abbrev eH:=C->Nm->Prop
open Mine.Ex renaming pop->aG,ifs->b7,done->cP,assign->fN,ret->lQ,stmt->qD,mono->Bb
open Mine.Ext renaming qA->j9
open Mine.r4 renaming of->nE,lst->uY,tup->DP
open Mine.C renaming set->oZ
open Mine.wO renaming cons->r5,nil->DQ
noncomputable def C.upd(b:C)(c:ak)(cn:Cn):C:={b with σ:=λa=>if a=c then U cn else b.σ a}
noncomputable def C.add(b:C)(c:ak)(cn:Cn):C:={b with M:=λa=>b.M a\/a=c,σ:=λa=>if a=c then U cn else b.σ a,wr:=λa=>b.wr a\/a=c}
def OR{d:Data}{a:Array sS}{b:Nat}{c:Option aC}(h:d=.dict a b)(e:d=.cell c):False:=nomatch h.symm.trans e
def OS{d:Data}{a:Array (Int×aC)}{b:Nat}{e:vV}{c:Option aC}(h:d=.set a b e)(f:d=.cell c):False:=nomatch h.symm.trans f
def OT{g:Program}{m:World}{c:Type}[DecidableEq c]{f:KeyKind g m c}{h:bY}{e:ak}{l:List (c×aC)}(d:h.DictOf f e l):∃a,h.get? e=U a/\∀b,a.data≠.cell b:=by
 let ⟨a,n,o,k,_,i,_⟩:=d;exact⟨a,k,λb j=>OR i j⟩
def PL.nc(i:PL h c d):∃b,h.get? c=U b/\∀a,b.data≠.cell a:=i.elim λf i=>⟨_,i,λa e=>nomatch e⟩
def CR.wQ{j:G0}{M:bC}{h:bY}{g:ak}{f:Cn}(d:CR j M h g f):∃b,h.get? g=U b/\∀a,b.data≠.cell a:=by
 intros j M h g f _ d;cases f with
 |l z=>exact d.elim λq c=>c.1.nc
 |v x=>exact d.elim λq c=>c.1.nc
 |i u=>exact d.elim λr c=>OT c.1
 |s A=>let ⟨n,_⟩:=d;let ⟨b,w,D,B,p,_,m,_⟩:=n;exact⟨b,p,λa e=>OS m e⟩
 |k u=>exact d.elim λr c=>OT c.1
 |o C=>exact⟨_,d,λa e=>nomatch e⟩
 |t E=>exact d.elim λw c=>c.elim λy c=>⟨_,c.1,λa e=>nomatch e⟩
def DS{g:C}{c b:ak}{f d:Cn}(e:(g.upd c f).σ b=U d):(b=c/\f=d)\/(b≠c/\g.σ b=U d):=
 dite (b=c) (λa=>.inl ⟨a,dF ((az a).symm.trans e)⟩) λa=>.inr ⟨a,(aB a).symm.trans e⟩
def OU{f:C}{d b:ak}{e a:Cn}(g:f.σ b=U a):∃a,(f.upd d e).σ b=U a:=dite (b=d) (λc=>⟨e,az c⟩) λc=>⟨a,(aB c).trans g⟩
theorem St.upd{e:C}{t:Nm}{j i:Shared}{g:ak}{x cn:Cn}(h:St e t j)(p:Lo e j)(hw:e.wr g)(o:e.σ g=U x)(k:Kx (·=g) j i)(r:CR e.toG0 e.M i.heap g cn):St (e.upd g cn) t i/\Lo (e.upd g cn) i/\Ext e j (e.upd g cn) i:=by
 intros e t j i g x cn _ h p hw o k r;have l:=h.bs.dc g _ o;have A:∀{n:aC} {z:D},Rep j.heap e.M n z->Rep i.heap e.M n z:=λI=>wM k.keep (λa c=>c▸l.1) I
 have v:∀a f,j.heap.get? a=U f->∃u,i.heap.get? a=U u:=λa f c=>dite (a=g) (λd=>d▸r.wQ.imp λZ b=>b.1) λd=>⟨f,k.keep a f d c⟩
 have E:Bs (e.upd g cn) i:=⟨λa f c=>k.keep a f (λb=>ns (h.bs.jS a (b▸l.1)) c) (h.bs.keep a f c),h.bs.base,h.bs.room,λa s=>(h.bs.fR a s).elim (v a),h.bs.xm,h.bs.jS,
  λa q c=>(DS c).elim (λb=>by let ⟨zy,zy⟩:=b;exact⟨l.1,l.2.1,r⟩) λb=>have d:=h.bs.dc a _ b.2;⟨d.1,d.2.1,d.2.2.mono A λf=>k.keep a f b.1⟩,λa d=>have b:=h.bs.iR a d;⟨b.1,b.2.1,b.2.2.elim λZ c=>OU c⟩,h.bs.bm⟩
 have w:=h.gen (M':=e.M) (σ':=(e.upd g cn).σ) (wr':=e.wr) (B':=e.B) p E (DK k λa n F s=>l.2.2.wQ.elim λf b=>F.elim λu y=>b.2 n (dF (y.1.symm.trans (s▸b.1))▸y.2)) (λf c=>k.keep _ f (λc=>l.2.1 (p.yx g (.inl c.symm))) c) A;exact⟨w.1,w.2,rfl,⟨k.gens,k.os,λa f m c=>k.keep a f (λd=>m (.inl (d▸hw))) c⟩,v,λZ Z Z d=>d,λZ Z Z d=>d,λZ Z d=>d,λa f q H J G c=>(aB λd:a=g=>G (d▸hw)).trans c,λa f q H c=>(DS c).elim (λb=>⟨_,b.1▸o⟩) λb=>⟨_,b.2⟩,λa q c m=>(DS c).elim (λb=>aV (b.1▸hw) m) λb=>⟨⟨_,b.2⟩,m⟩⟩
def Bs.DT(a:Bs f g)(h:g.heap.get? d=ai):f.σ d=ai:=by
 cases e:f.σ d with
 |none=>rfl
 |some b=>exact aV (a.dc d b e).1 (a.new h)
def H6{e:C}{a b:ak}{d c:Cn}(f:(e.add a d).σ b=U c):(b=a/\d=c)\/(b≠a/\e.σ b=U c):=DS f
theorem St.add{e:C}{s:Nm}{l j:Shared}{h:ak}{cn:Cn}(f:St e s l)(v:Lo e l)(i:Kp l j)(k:l.heap.get? h=ai)(r:CR e.toG0 (λb=>e.M b\/b=h) j.heap h cn):St (e.add h cn) s j/\Lo (e.add h cn) j/\Ext e l (e.add h cn) j:=by
 intros e s l j h cn _ f v i k r;have u:=f.bs.new k;have y:∀{t:aC} {x:D},Rep l.heap e.M t x->Rep j.heap (λb=>e.M b\/b=h) t x:=λE=>E.mono λb g n Z c=>⟨i.keep b g c,λa=>a.elim n λa=>ns (a▸k) c⟩
 have z:Bs (e.add h cn) j:=⟨λb g c=>i.keep b g (f.bs.keep b g c),f.bs.base,f.bs.room,λb m=>m.elim (λm=>(f.bs.fR b m).imp λg c=>i.keep b g c) λc=>c▸r.wQ.imp λZ d=>d.1,λb a=>.inl (f.bs.xm b a),λb m=>m.elim (f.bs.jS b) λc=>f.bs.tB (c▸k),
  λb p c=>(H6 c).elim (λd=>by let ⟨zy,zy⟩:=d;exact⟨.inr J,λo=>u (f.bs.xm _ o),r⟩) λd=>have a:=f.bs.dc b _ d.2;⟨.inl a.1,a.2.1,a.2.2.mono y (i.keep b)⟩,
  λb a=>a.elim (λa=>have d:=f.bs.iR b a;⟨.inl d.1,d.2.1,d.2.2.elim λZ c=>OU c⟩) λa=>by subst a;exact⟨.inr J,λo=>u (f.bs.xm _ o),cn,az J⟩,λb a=>.inl (f.bs.bm b a)⟩
 have w:=f.gen (M':=λb=>e.M b\/b=h) (σ':=(e.add h cn).σ) (wr':=λb=>e.wr b\/b=h) (B':=e.B) v z (λb t A=>A.keeps i.keep) (λg c=>i.keep _ g c) y;exact⟨w.1,w.2,rfl,i.kx,λb g c=>⟨g,i.keep b g c⟩,λb g c a=>a.elim id λa=>ns (a▸k) c,λb g c a=>a.elim id λa=>ns (a▸k) c,λZ Z a=>.inl a,λb g p q G H c=>(aB λa:b=h=>ns (a▸k) q).trans c,λb g p q c=>(H6 c).elim (λd=>ns (d.1▸k) q) λd=>⟨_,d.2⟩,λb p c n=>(H6 c).elim (λd=>aV (.inr d.1) n) λd=>⟨⟨_,d.2⟩,λF=>n (.inl F)⟩⟩
def Rep.H7(i:h.get? e=U f)(n:¬jR f)(j:Rep h M c d):Rep h (λb=>M b\/b=e) c d:=
 j.mono λb l k g a=>⟨a,λh=>h.elim k λh=>by subst h;rw[i] at a;cases a;exact n g⟩
inductive VG(c:C)(s:Shared)(cn:Cn)(x:aC)(s':Shared):Prop
 |mk (k:Kp s s') (a:ak) (e:x=.ref a) (n:s.heap.get? a=ai) (r:CR c.toG0 (λb=>c.M b\/b=a) s'.heap a cn)
def gp(a:C)(e:Nm)(c:aT)(d:Cn):Prop:=∀b,St a e b->wpAny a.m a.A (eval c a.env) (VG a b d) no b
def cF.new{c:C}{d:Nm}{a:aT}{b:aH}(h:cF c d a b):gp c d a (.l b):=λn j=>aS (h n j) (λq r e=>by obtain⟨i,o,k,a,f,g,m,p⟩:=e;exact⟨i,o,a,f,k,g,m,p⟩)
inductive VH(c:C)(ρ:Nm)(x:Str)(cn:Cn)(s:Shared)(f:sR)(s':Shared):Prop
 |mk (e:f=.next) (a:ak) (n:s.heap.get? a=ai) (X:Ext c s (c.add a cn) s') (S:St (c.add a cn) ((x,.r a)::ρ) s') (L:Lo (c.add a cn) s')
structure VI(c:C)(ρ:Nm)(s:Shared)(f:sR)(s':Shared):Prop where
 e:f=.next
 X:Ext c s c s'
 S:St c ρ s'
 L:Lo c s'
def yS(a:C)(c:Nm)(d:Stmt)(f:Str)(e:Cn):Prop:=∀b,St a c b->Lo a b->wpAny a.m a.A (exec d a.env) (VH a c f e b) no b
def OW(a:C)(c:Nm)(d:Stmt)(f:Str)(e:V):Prop:=∀b,St a c b->Lo a b->wpAny a.m a.A (exec d a.env) (VI a ((f,e)::c) b) no b
section
variable {c:C}{ρ:Nm}{k:eV}{rest:dH}{P:eH}{R:d9}{e e₁ e₂:aT}{v:V}{pos p:Pos}{x:Str}{st:Stmt}{cn:Cn}
def gp.as(h:gp c ρ e cn)(n:gH c x)(hs:autoParam (swapsWith e (U (.Name x p)) pos.line c.env=pure aA) aI):yS c ρ (.Assign [.Name x p] e pos) x cn:=λs f k=>
 Gq (aS (h s f) (λy u o=>by
  obtain⟨t,i,e,b,q⟩:=o;subst e;let ⟨d,g,l⟩:=f.add k t b q;exact d.store g n (v:=.r i) J λw j a m=>⟨rfl,i,b,l.trans (.tH j d g a),a,m⟩)) hs
def Ex.VJ(h:yS c ρ st x cn)(m:∀a,¬c.M a->c.σ a=ai->Ex (c.add a cn) ((x,.r a)::ρ) (rest::k) P R):Ex c ρ ((st::rest)::k) P R:=
 qD λl b i=>aS (h l b i) (λp o g=>by obtain⟨e,a,d,n,f,j⟩:=g;exact⟨_,_,e,n,f,j,m a (b.bs.new d) (b.bs.DT d)⟩)
def Ex.H8(h:OW c ρ st x v)(j:Ex c ((x,v)::ρ) (rest::k) P R):Ex c ρ ((st::rest)::k) P R:=
 qD λi g d=>aS (h i g d) (λn m b=>by obtain⟨e,l,a,f⟩:=b;exact⟨_,_,e,l,a,f,j⟩)
end
open Mine.cF renaming new->qE
open Mine.Ex renaming VJ->r6
open Mine.gp renaming as->wR
inductive OX(c:C)(ρ:Nm)(Q:rS)(s:Shared)(x:aC)(s':Shared):Prop
 |mk (c':C) (v:V) (X:Ext c s c' s') (S:St c' ρ s') (L:Lo c' s') (r:fD c' s'.heap x v) (q:Q c' v)
def gB(a:C)(c:Nm)(d:aT)(e:rS):Prop:=∀b,St a c b->Lo a b->
 wpAny a.m a.A (eval d a.env) (OX a c e b) no b
section
variable {c:C}{ρ:Nm}{k:eV}{rest:dH}{P:eH}{R:d9}{e e₁ e₂ o:aT}{v:V}{pos p apos:Pos}{x:Str}{Q:rS}{a:ak}
def gB.mono(h:gB c ρ e Q)(d:∀c v,Q c v->b c v):gB c ρ e b:=λk j g=>aS (h k j g) (λ_ _ ⟨l,v,n,a,i,m,f⟩=>⟨l,v,n,a,i,m,d _ _ f⟩)
def Ev.m(h:Ev c ρ e v):gB c ρ e (λb d=>b=c/\d=v):=λg f i=>aS (h g f) (λx j a=>⟨c,v,.qA a.k,f.kp a.k,i.kp a.k.keep,a.r,rfl,rfl⟩)
def Ex.expr(h:gB c ρ e Q)(m:∀b v,b={c with M:=b.M,σ:=b.σ,wr:=b.wr}->Q b v->Ex b ρ (rest::k) P R)(hi:autoParam (interactive c.env=aA) aI)(hs:autoParam (swapsWith e ai pos.line c.env=pure aA) aI):Ex c ρ ((.Expr e pos::rest)::k) P R:=
 qD λl j g=>wpAny_Expr_any (aS (h l j g) (λx n ⟨b,v,a,d,i,_,f⟩=>⟨b,ρ,rfl,a,d,i,m b v a.eq f⟩)) hi hs
def gH.chg(h:gH c x)(e:b={c with M:=b.M,σ:=b.σ,wr:=b.wr}):gH b x:=by rw[e];exact h
def Ex.OY(h:gB c ρ e Q)(t:gH c x)(w:∀b v,b={c with M:=b.M,σ:=b.σ,wr:=b.wr}->Q b v->Ex b ((x,v)::ρ) (rest::k) P R)(hs:autoParam (swapsWith e (U (.Name x p)) pos.line c.env=pure aA) aI):Ex c ρ ((.Assign [.Name x p] e pos::rest)::k) P R:=
 qD λy r q=>Gq (aS (h y r q) (λD B u=>by
  obtain⟨b,v,a,d,g,i,j⟩:=u;have z:b.m=c.m:=by rw[a.eq]
  have o:b.A=c.A:=by rw[a.eq]
  have l:b.env=c.env:=by rw[a.eq]
  rw[<-z,<-o,<-l];exact d.store g (t.chg a.eq) i λC n f s=>⟨b,_,rfl,a.trans (.tH n d g f),f,s,w b v a.eq j⟩)) hs
def H9:backToKw pos (keywordEach [] env)=[]:=rfl
def VK{name:Str}{g:cN}{j id:String}{e:Shared}{Q:cI}(l:St c ρ e)(h:Ev c ρ o v)(w:Gr j)(z:Slot j name id)(B:typeOf (.builtin id)=pure (.type "method_descriptor"))
 (s:∀e b,Bs c e->fD c e.heap b v->e.TypeIs b j/\(∀a,b=.ref a->∃f,e.heap.get? a=U f/\f.dict=ai))
 (q:attributeBase o name c.env (eval o c.env)=eval o c.env) (t:(apos.endLine==pos.line)=af) (hs:ee g=af) (D:aa g<29)
 (p:∀d b,Kp e d->fD c d.heap b v->wpAny c.m c.A (callWith pos (.builtin id) [b] (backTo pos (starEach g c.env)) []) Q no d):wpAny c.m c.A (eval (.Call (.Attribute o name apos) g [] pos) c.env) Q no e:=by
 have n:(backTo pos (starEach g c.env)).all (λx=>!x.1)=af:=by
  have:=qx hs pos c.env;rw[Au];intro x C;have:=Aw.mp this x C
  simpa using this
 refine Lk q (by rw[n];simp[H9];exact aj ‹_› ∅) t J (aS (h e l) (λb d i=>?_));let ⟨u,y⟩:=s d b (l.bs.kp i.k) i.r;exact⟨j,id,w,z,B,u,y,p d b i.k i.r⟩
def Bc{name:Str}{j:cN}{t:gm}{n id:String}{i:Shared}{Q:cI}(s:St c ρ i)(h:Ev c ρ o v)(w:EvVs c ρ (e::j) t)(D:Gr n)(E:Slot n name id)(F:typeOf (.builtin id)=pure (.type "method_descriptor"))
 (B:∀i b,Bs c i->fD c i.heap b v->i.TypeIs b n/\(∀a,b=.ref a->∃g,i.heap.get? a=U g/\g.dict=ai))
 (z:attributeBase o name c.env (eval o c.env)=eval o c.env) (C:(apos.endLine==pos.line)=af) (hs:ee (e::j)=af) (G:aa j<28)
 (u:∀d b f,Kp i d->fD c d.heap b v->nh c d.heap f t->wpAny c.m c.A (call (.builtin id) (b::f)) Q no d):wpAny c.m c.A (eval (.Call (.Attribute o name apos) (e::j) [] pos) c.env) Q no i:=
 VK s h D E F B z C hs (by rw[iz];exact F3 ‹_›) λd b q y=>by
  have p:=hs;simp only[ee,ye,gQ,uE] at p;exact callWith_method1 (aS (w d pos (s.kp q)) (λf x l=>u x b f (q.trans l.k) (y.keep l.k.keep) l.r)) (iL _ p.1 j) (qx (by simpa [ee] using p.2) pos c.env)
def OZ(hs:c.σ a=U (.l ds))(i:Bs c d)(j:fD c d.heap f (.r a)):d.TypeIs f "list"/\(∀b,f=.ref b->∃g,d.heap.get? b=U g/\g.dict=ai):=by
 obtain rfl:f=.ref a:=j;obtain⟨_,_,m,⟨k,h⟩,_⟩:=i.dc a _ hs;exact⟨⟨_,h,rfl⟩,λb e=>by cases e;exact⟨_,h,rfl⟩⟩
def St.DU(m:St c ρ d)(p:Lo c d)(hw:c.wr a)(hs:c.σ a=U (.l ds))(i:PL d.heap a h)(e:g={d with heap:=d.heap.update a (gR f)})(q:f h=j)(s:aa ds'<=bf)(t:aW d.heap c.M j.toList ds'):
 St (c.upd a (.l ds')) ρ g/\Lo (c.upd a (.l ds')) g/\Ext c d (c.upd a (.l ds')) g:=by
 subst e q;let ⟨b,r⟩:=i;revert r;intro i;have u:iG a d.heap (d.heap.update a (gR f)):=qk ..;have k:Kx (·=a) d {d with heap:=d.heap.update a (gR f)}:=⟨rfl,rfl,λn o b e=>(u.2 n b).trans e⟩;exact m.upd p hw hs k ⟨f h,⟨_,i.update f⟩,s,aW.chg k.keep (λn e=>e▸(m.bs.dc a _ hs).1) t⟩
theorem gB.append{g:aH}{x:D}(h:Ev c ρ o (.r a))(hs:c.σ a=U (.l g))(hw:c.wr a)(y:Ev c ρ e (.d x))(hz:aa g+1<=bf)(E:autoParam (attributeBase o "append" c.env (eval o c.env)=eval o c.env) aI)(G:autoParam ((apos.endLine==pos.line)=af) aI)(t:autoParam (cD e=aA) aI):
 gB c ρ (.Call (.Attribute o "append" apos) [e] [] pos) (λb v=>b=c.upd a (.l (g++[x]))/\v=.d .none):=λK n L=>
 Bc n h (.cons y .nil t) G6 MR PySem.F.type_list_append (λK q H i=>OZ hs H i) E G (rV t) (bM J) λQ q m j C N=>by
  obtain rfl:q=.ref a:=C;apply mC N;intro u P;have s:=n.kp j;have A:=L.kp j.keep;obtain⟨_,_,O,⟨p,k⟩,I,i⟩:=s.bs.dc a _ hs;have w:=i.size;refine Aj MR ⟨_,k,rfl⟩ PySem.F.entry_list_append (PySem.F.args_list_append_2 _ _) (Uj a O p u (by rw[w];exact gZ I)) ⟨k,?_⟩;let ⟨M,z,B⟩:=s.DU A hw hs ⟨p,k⟩ (f:=λm=>m.push u) J J (ds':=g++[x]) (by simpa using hz) (by rw[AL];exact i.append (.one P));exact⟨_,.d .none,(j9 j).trans B,M,z,.none,rfl,rfl⟩
end
open Mine.Ex renaming expr->kY
open Mine.gB renaming append->qF
open Mine.Ev renaming m->tK
section
variable {c:C}{ρ:Nm}{k:eV}{rest:dH}{P:eH}{R:d9}{e e₁ e₂ o:aT}{v:V}{pos p apos:Pos}{x:Str}{Q:rS}{a:ak}
def VL(h:n+m<=bf):Nb (n+m)=aA:=by
 unfold Nb;exact decide_eq_false (gO.mpr (gZ h))
def VM(b:Array aC)(a:Nat)(h:a<b.size):(b.eraseIdxIfInBounds a).toList=b.toList.take a++b.toList.drop (a+1):=by
 simp[Array.eraseIdxIfInBounds,h,CH]
theorem gB.pop{ds:aH}{n:Int}{g:Nat}{x:D}(h:Ev c ρ o (.r a))(hs:c.σ a=U (.l ds))(hw:c.wr a)(z:Ev c ρ e (.d (.int n)))(u:seqIndex? n (aa ds)=U g)(L:ds[g]?=U x)(B:autoParam (attributeBase o "pop" c.env (eval o c.env)=eval o c.env) aI)(C:autoParam ((apos.endLine==pos.line)=af) aI)(q:autoParam (cD e=aA) aI):
 gB c ρ (.Call (.Attribute o "pop" apos) [e] [] pos) (λb v=>b=c.upd a (.l (ds.take g++ds.drop (g+1)))/\v=.d x):=by
 intros c ρ e o pos apos a ds n g x _ h hs hw z u L B C q;exact λT A W=>
  Bc A h (.cons z .nil q) G6 MS PySem.F.type_list_pop (λT E R i=>OZ hs R i) B C (rV q) (bM J) λK E y k Q ae=>by
   obtain rfl:E=.ref a:=Q;apply mC ae;intro aw au;let ⟨N,zy⟩:=jT au;have p:=A.kp k;have O:=W.kp k.keep;obtain⟨_,_,t,⟨G,s⟩,m,i⟩:=p.bs.dc a _ hs;have w:=i.size;let ⟨S,I,av⟩:=i.get L;have j:=Dy u;have H:=tu m;refine Aj MS ⟨_,s,rfl⟩ PySem.F.entry_list_pop (PySem.F.args_list_pop_2 _ _) (list_pop_at a t G n N g S ((gQ _ _).mpr ⟨decide_eq_true (dN (CS (iJ H)) j.1),decide_eq_true (oH j.2.1 H)⟩) (by rw[w];exact u) (by rw[<-gP];exact I) (by rw[w];exact gZ m)) ⟨s,?_⟩;have X:g<t.size:=(fH.mp I).1
   let ⟨Y,M,P⟩:=p.DU O hw hs ⟨G,s⟩ (f:=λy=>y.eraseIdxIfInBounds g) J J (ds':=ds.take g++ds.drop (g+1)) (aj (CH ds g▸LB ds g) m) (by
    rw[VM t g X];exact(i.take g).append (i.drop (g+1)))
   refine⟨_,.d x,(j9 k).trans P,Y,M,?_,rfl,rfl⟩;exact wM (c:=c) (Z:=(·=a)) (h:=K.heap) (λj o V e=>((qk K.heap a _).2 j V).trans e) (λj e=>e▸(p.bs.dc a _ hs).1) av
def VN{a:Shared}{d b:ak}{f e:Array aC}{n k:Nat}{Q:cI}(i:IsL a.heap d f n)(g:IsL a.heap b e k)(h1:f.size+e.size<=bf)(h:Q (.ref d) {a with heap:=a.heap.update d (gR λx=>x++e)}):wpAny c.m c.A (inplaceOp .Add (.ref d) (.ref b)) Q no a:=by
 intros c a d b f e n k Q _ i g h1 h;unfold inplaceOp;refine dW ?_;have j:a.TypeIs (.ref d) "list":=⟨_,i,rfl⟩;have q:a.TypeIs (.ref b) "list":=⟨_,g,rfl⟩;have o:typeLookup (.type "list") (dunderI "add")=pure (U (.builtin "list.__iadd__")):=MT.lookup
 have p:fillsInplaceSlot (.type "list") "add" (Operator.Add==.Add)=pure aA:=by
  unfold fillsInplaceSlot;show(typeLookup (.type "list") (dunderI "add")>>=λl=>pure (l.isSome&&!isSeqSlot l))=pure aA;rw[o];rfl
 refine ay (vW j (ay (rF p ?_)));show wpAny c.m c.A (if aA=af then _ else _) Q no a;rw[aB i7];refine ay (wpAny_binaryOp1_none (nm:="add") j q noFill_list_add ?_);refine ay (rF (PySem.seqSlot_of o J) ?_);exact ay (rD (Aj MT j PySem.F.entry_list_iadd (PySem.F.args_list_iadd_2 _ _) (Uk d f n b e k (by rw[VL h1];simp) (gZ (aj (fz _ _) h1)) (xV (gZ h1))) ⟨i,g,h⟩))
def Ex.iadd(m:ρ.lookup x=U (.r a))(hs:c.σ a=U (.l ds))(hw:c.wr a)(j:gH c x)(g:Ev c ρ e v)(h:iA c v es)(hz:aa ds+aa es<=bf)(n:Ex (c.upd a (.l (ds++es))) ((x,.r a)::ρ) (rest::k) P R):Ex c ρ ((.AugAssign (.Name x p) .Add e pos::rest)::k) P R:=by
 intros c ρ k rest P R e _ v pos p x a ds es m hs hw j g h hz n;intros v pos p x a ds es _ m hs hw j g h hz n;exact qD λH b K=>by
  obtain⟨X,C,Q,N,O⟩:=b.vars x _ m;obtain rfl:Q=.ref a:=O;refine wpAny_AugAssign_Name (N.load b.kind C (aS (g H b) (λT Y d=>?_)));have i:=b.kp d.k;have D:=K.kp d.k.keep;obtain⟨_,_,ae,⟨F,u⟩,V,o⟩:=i.bs.dc a _ hs;have y:=o.size;let ⟨au,z,zy,L,Z,q⟩:=yJ d.r i.bs h;let ⟨W,M⟩:=L;have I:=q.size;refine VN u M (by rw[y,I];exact hz) ?_;let ⟨t,s,E⟩:=i.DU D hw hs ⟨F,u⟩ (f:=λA=>A++z) J J (ds':=ds++es) (by simpa using hz) (by rw[GX];exact o.append q);exact t.store s (c:=c.upd a (.l (ds++es))) j (v:=.r a) J λS B w G=>⟨_,_,rfl,(j9 d.k).trans (E.trans (.tH B t s w)),w,G,n⟩
def VQ(b:Array aC)(a:Nat)(u:aC):(b.setIfInBounds a u).toList=b.toList.set a u:=by simp
theorem aW.set(e:aW h M b ds)(f:Rep h M u d)(c:Nat):aW h M (b.set c u) (ds.set c d):=by
 induction b generalizing ds c with
 |nil=>cases e;exact .nil
 |cons v b g=>
  cases e with
  |cons a e=>
   cases c with
   |zero=>exact .cons f e
   |succ c=>exact .cons a (g e c)
def VS{a:Shared}{e:ak}{d:Array aC}{k:Int}{j:Tok}{u:aC}{Q:Unit->Shared->Prop}(hl:PL a.heap e d)(h0:0<=k)(g:k<2^63)(l:k<d.size)(f:Q () {a with heap:=a.heap.update e (gR (·.setIfInBounds k.toNat u))}):wpAny c.m c.A (setItem (.ref e) (.int k j) u) Q no a:=by
 intros c a e d k j u Q _ hl h0 g l f;have hl:=hl.isList;obtain⟨o,i,q,s,h⟩:=id hl;intros o s _ i q h;unfold setItem
 try with_reducible refine dW ?_
 first|refine ay (aM ?_)|skip
 refine ay (Li hl.typeIs ∅ ?_);refine ay (xY (name:=wC "__setitem__") hl.typeIs Ll
  (pV Ll hl.typeIs entry_list_setitem ?_ (args_list_setitem _ _ _)))
 show wpAny _ _ (TV (.int k j)>>=_) _ _ a;refine ay (wpAny_listSubscript_int (fitsIndex_of h0 g) ?_);clear g;let ⟨b,zy⟩:=mZ h0;intros b _ h0 l f;have n:b<d.size:=dB.mp ‹_›;have p:d[b]?=U d[b]:=yq n;show wpAny _ _ ((seqItemAt e b>>=λr=>pure (r.map (b,·)))>>=_) _ _ a;refine ay (ay (wpAny_seqItemAt i h (aM ?_)));rw[p];show wpAny _ _ (setSeqItemAt e b u>>=_) _ _ a;refine ay (wpAny_setSeqItemAt i h ?_)
 first
  |exact ay (aM (aM ⟨.none,rfl,aM f⟩))
  |exact aM ⟨.none,rfl,aM f⟩
def VT{b:Shared}{e:ak}{d:Array aC}{a:Nat}{h:Tok}{u:aC}{Q:Unit->Shared->Prop}(hl:PL b.heap e d)(f:a<d.size)(hz:d.size<=bf)(g:Q () {b with heap:=b.heap.update e (gR (·.setIfInBounds a u))}):wpAny c.m c.A (setItem (.ref e) (.int a h) u) Q no b:=
 VS hl (fJ a) (oH (dB.mpr f) (tu hz)) (dB.mpr f) g
def St.DV{b:Shared}{ds:aH}{j:Nat}{x:Tok}{u:aC}{d:D}{Q:Unit->Shared->Prop}(n:St c ρ b)(v:Lo c b)(hs:c.σ a=U (.l ds))(hw:c.wr a)(hj:j<aa ds)(B:Rep b.heap c.M u d)
 (q:∀g,St (c.upd a (.l (ds.set j d))) ρ g->Lo (c.upd a (.l (ds.set j d))) g->Ext c b (c.upd a (.l (ds.set j d))) g->Kx (·=a) b g->Q () g):wpAny c.m c.A (setItem (.ref a) (.int j x) u) Q no b:=by
 obtain⟨_,_,y,i,p,k⟩:=n.bs.dc a _ hs;have h:y.size=aa ds:=k.length;refine VT i (h▸hj) (h▸p) ?_;let ⟨s,w,z⟩:=n.DU v hw hs i (f:=λr=>r.setIfInBounds j u) J J (ds':=ds.set j d) (by simpa using p) (by rw[VQ];exact k.set B j);exact q _ s w z ⟨rfl,rfl,λC o t e=>((qk b.heap a _).2 C t).trans e⟩
theorem Ex.DV{ds:aH}{j:Nat}{d:D}(h:Ev c ρ e₁ (.d d))(ho:Ev c ρ o (.r a))(hi:Ev c ρ e₂ (.d (.int j)))(hs:c.σ a=U (.l ds))(hw:c.wr a)(hj:j<aa ds)(t:Ex (c.upd a (.l (ds.set j d))) ρ (rest::k) P R)(hsw:autoParam (swapsWith e₁ (U (.Subscript o e₂ p)) pos.line c.env=pure aA) aI):
 Ex c ρ ((.Assign [.Subscript o e₂ p] e₁ pos::rest)::k) P R:=
 qD λu f n=>wpAny_Assign_Subscript (aS (h u f) (λB s b=>aS (ho s (f.kp b.k)) (λv w e=>aS (hi w (f.kp (b.k.trans e.k))) (λz y g=>by
  obtain rfl:v=.ref a:=e.r;let ⟨A,zy⟩:=jT g.r;have k:=(b.k.trans e.k).trans g.k;exact(f.kp k).DV (n.kp k.keep) hs hw hj (yG b.r (e.k.trans g.k).keep) λx i q m z=>⟨_,ρ,rfl,(j9 k).trans m,i,q,t⟩)))) hsw
end
open Mine.Ex renaming iadd->mG
def St.weaken{g:C}{f c:Nm}{b:Shared}(a:St g f b)(h:∀e d,c.lookup e=U d->f.lookup e=U d):St g c b:=
 ⟨a.bs,a.kind,a.globals,a.builtins,a.inj,a.qo,λe d i=>a.vars e d (h e d i)⟩
def Ext.step{j l:C}{e h i:Shared}{wr:i9}(a:Ext j e l h)(k:Kx (·∈wr) h i)(o:∀b∈wr,e.heap.get? b=ai):Ext j e l i:=by
 have nw:∀b c,e.heap.get? b=U c->b∉wr:=λb c d q=>by exact ns (o b q) d
 refine⟨a.eq,⟨k.gens.trans a.kx.gens,k.os.trans a.kx.os,λb c n d=>k.keep b c (nw b c d) (a.kx.keep b c n d)⟩,λf c d=>?_,a.m,a.w,a.wb,a.sg,a.sn,a.nw⟩;let ⟨g,p⟩:=a.al f c d;exact⟨g,k.keep f g (nw f c d) p⟩
section
variable {c:C}{ρ:Nm}{k:eV}{rest:dH}{P:eH}{R:d9}{e e₁ e₂ o:aT}{v:V}{pos p apos:Pos}{x:Str}{Q:rS}{a:ak}
def Ex.sub(h:Ex c ρ' k P R)(hl:∀x v,ρ'.lookup x=U v->ρ.lookup x=U v):Ex c ρ k P R:=λa b d=>h a (b.weaken hl) d
abbrev Bd(c:C)(ρ:Nm)(e:aT)(b:aH):Prop:=A8 (λa=>c.wr a\/c.X a) c ρ e b
def eG.w(h:eG c ρ e ds):Bd c ρ e ds:=λt a=>aS (h t a) (λx v u=>aS u (λz y i=>by obtain⟨k,r,p,s,o,n,q,f,l,j,m,g⟩:=i;exact⟨k,r,p,s,o,n,q,f,λb d h=>l b d (h.elim (λh=>(a.bs.iR b h).1) (a.bs.xm b)),j,m,g⟩))
structure FI(c:C)(s:Shared)(fp wr:i9)(T:(ak->Prop)->Nat->bY->Prop)(Inv:Nat->C->Nm->Prop)(i:Nat)(c':C)(ρ':Nm)(s':Shared):Prop where
 t:T c'.M i s'.heap
 S:St c' ρ' s'
 L:Lo c' s'
 X:Ext c s c' s'
 fm:∀b∈fp,¬(c'.wr b\/c'.X b)
 wm:∀b∈wr,¬c'.M b
 I:Inv i c' ρ'
def VU{c:Program}{o:World}{k:Around}{q:Env}{r:aT}{s:aC}{body:dH}{a:Shared}{Q:sR->Shared->Prop}(p:Nat->Shared->Prop)
 (t:∀n a,p n a->wpAny (model c o) k (pyNext s) (λb f=>(b=ai/\Q .next f)\/∃v,b=U v/\wpAny (model c o) k (letOwnedTupleGo r s v) (λz l=>wpAny (model c o) k (CF r q v) (λz m=>wpAny (model c o) k (execs body q) (λd i=>(d=.next/\∃j,j<n/\p j i)\/∃u,d=.ret u/\Q (.ret u) i) no m) no l) no f) no a)
 (n:Nat) (h:p n a):codeAny (model c o) k (.forLoop r s body [] q) (λb g=>match b with|.ok d=>Q d g|.error e=>cameBackBy (model c o) k q no e g) a:=by
 intros c o k q r s body a Q p n _ t h;refine codeAny_forLoop_any p (λn a w=>kL (t n a w) (λb f h=>?_) λz z h=>h.elim) n h;intros n a b f _ w h;rcases h with⟨rfl,h⟩|⟨v,rfl,h⟩
 .exact Lj h
 refine kL h (λz z h=>kL h (λz z h=>kL h (λd z h=>?_) λz z h=>h.elim) λz z h=>h.elim) λz z h=>h.elim
 rcases h with⟨rfl,h⟩|⟨u,rfl,h⟩
 .exact h
 exact h
section
variable {s s':Shared}{I:ak}{fp wr:i9}{T:(ak->Prop)->Nat->bY->Prop}{Inv:Nat->C->Nm->Prop}{ds:aH}{i:Nat}{ρ' tb:Nm}{M' wr':bC}{σ':ak->Option Cn}{tg:aT}{d:D}{body:dH}(W:jC c.prog c.w c.A I fp wr ds T)(DW:∀b∈wr,s.heap.get? b=ai)(B:Bs c s)(F:FI c s fp wr T Inv i (c.set M' σ' wr') ρ' s')
include W DW B F
theorem FI.step{a:Shared}(b:Kx (·∈wr) s' a):St (c.set M' σ' wr') ρ' a/\Lo (c.set M' σ' wr') a/\Ext c s (c.set M' σ' wr') a:=
 have d:=F.S.step F.L b (W.off M' i s'.heap F.t) (λf e=>B.tB (DW f e)) F.wm
 ⟨d.1,d.2,F.X.step b DW⟩
theorem FI.turn(bj:ds[i]?=U d)(ae:iV (c.set M' σ' wr') tg d tb)(a5:Ex (c.set M' σ' wr') (tb++ρ') [body] (Inv (i+1)) R){D:sR->Shared->Prop}(bk:∀g ρ' s',FI c s fp wr T Inv (i+1) g ρ' s'->D .next s')
 (a8:∀g s' u d,Ext c s g s'->Bs g s'->Rep s'.heap c.B u d->R g d->D (.ret u) s'):
 wpAny c.m c.A (pyNext (.ref I)) (λl j=>∃v,l=U v/\wpAny c.m c.A (letOwnedTupleGo tg (.ref I) v) (λ_ h=>wpAny c.m c.A (CF tg c.env v) (λ_ f=>wpAny c.m c.A (execs body c.env) D no f) no h) no j) no s':=by
 refine W.item M' i d tg s' (λv E=>wpAny c.m c.A (CF tg c.env v) (λ_ f=>wpAny c.m c.A (execs body c.env) D no f) no E) bj F.t F.S.bs.fR λv E a7 a4 Q=>?_
 let ⟨H,z,V⟩:=F.step W DW B Q;refine ae.run H z a7 λf O G au=>?_
 have N:=V.trans (.tH O H z G);have P:∀a,¬M' a->¬c.Y a:=λa aw n=>aw (H.bs.xm a (z.yx a n))
 have J:∀b∈fp,¬c.Y b:=λb k n=>F.fm b k (.inr (z.yx b n))
 have L:T M' (i+1) f.heap:=W.frame M' (i+1) E.heap f.heap a4 λb o k e=>O.keep b o (k.elim (J b) λk=>P b k.1) e
 have K:=W.has M' (i+1) f.heap L;refine a5.body G au (λq Z x p a6 av a0=>bk q Z x ⟨?_,a6,av,N.trans p,λb y r=>?_,λb y r=>let ⟨o,e⟩:=K b (W.sub b y);F.wm b y (p.m b o e r),a0⟩) λq x u d p=>a8 q x u d (N.trans p)
 .have ax:T (λa=>M' a\/q.M a) (i+1) f.heap:=W.up M' _ (i+1) f.heap L λa o e k=>k.elim id (p.m a o e)
  have a3:T (λa=>M' a\/q.M a) (i+1) x.heap:=W.frame _ (i+1) f.heap x.heap ax λb o k e=>p.kx.keep b o (λn=>k.elim (λk=>n.elim (λn=>F.fm b k (.inl n)) (J b k)) λk=>n.elim (λn=>k.1 (.inl (G.bs.iR b n).1)) λn=>P b (λr=>k.1 (.inl r)) n) e
  exact W.up _ q.M (i+1) x.heap a3 λa o e k=>.inr k
 let ⟨o,e⟩:=K b y;have a9:q.X=c.X:=(aR C.X p.eq:);exact F.fm b y (r.imp (p.w b o e) λr=>a9▸r)
end
def Ex.O0{q iter:aT}{body:dH}{a:aH}(Inv:Nat->C->Nm->Prop)(s:Bd c ρ iter a)(h0:Inv 0 c ρ)
 (l:∀i d b f,b={c with M:=b.M,σ:=b.σ,wr:=b.wr}->a[i]?=U d->Inv i b f->∃g,iV b q d g/\Ex b (g++f) [body] (Inv (i+1)) R)
 (h1:∀b f,b={c with M:=b.M,σ:=b.σ,wr:=b.wr}->Inv (aa a) b f->Ex b f (rest::k) P R) (hs:autoParam (∀x,foldedSetIterable iter c.env x=pure x) lH):Ex c ρ ((.For q iter body [] pos::rest)::k) P R:=by
 intros c ρ k rest P R pos q iter body a Inv _ s h0 l h1 hs;exact Ex.OQ λw j ax Q a4 ae=>by
  refine wpAny_For (aS (s w j) (λx bp O=>aS O (λbk bj a3=>?_))) hs;obtain⟨m,bo,a9,au,H,T,rfl,r,av,bt,W,S⟩:=a3;refine VU (λv p=>∃i b f,v=aa a-i/\i<=aa a/\FI c w au H T Inv i b f p) (λv p e=>?_) (aa a)
   ⟨0,c,ρ,rfl,cL _,S,j.kp m,ax.kp m.keep,.qA m,av,λa7 l=>j.bs.new (r a7 l),h0⟩
  let ⟨i,b,f,Y,a0,h⟩:=e;subst Y;obtain⟨o,y,B,rfl⟩:∃o y B,b=c.set o y B:=⟨_,_,_,h.X.eq⟩;rcases sP a0 with rX|rfl
  .have A:=dZ rX;let ⟨g,N,aw⟩:=l i _ _ f J A h.I;exact aS (h.turn W r j.bs A N aw (λn L z G=>.inl ⟨rfl,aa a-(i+1),Nat.sub_lt_sub_left rX (l7 i),i+1,n,L,rfl,rX,G⟩) λn z E d a8 V D a6=>.inr ⟨E,rfl,ae n z E d a8 V D a6⟩) (λ_ _ e=>.inr e)
  refine W.done o p _ h.t (λu F=>?_)|>λe=>aS e (λD u e=>.inl e)
  let ⟨a5,Z,K⟩:=h.step W r j.bs F;exact a4 _ f u K a5 Z (h1 _ f J h.I)
def Ex.for{a iter:aT}{body:dH}{ds:aH}(Inv:Nat->C->Nm->Prop)(h:eG c ρ iter ds)(h0:Inv 0 c ρ)
 (e:∀i d b f,b={c with M:=b.M,σ:=b.σ,wr:=b.wr}->ds[i]?=U d->Inv i b f->∃g,iV b a d g/\Ex b (g++f) [body] (Inv (i+1)) R)
 (h1:∀b f,b={c with M:=b.M,σ:=b.σ,wr:=b.wr}->Inv (aa ds) b f->Ex b f (rest::k) P R) (hs:autoParam (∀x,foldedSetIterable iter c.env x=pure x) lH):Ex c ρ ((.For a iter body [] pos::rest)::k) P R:=.O0 Inv h.w h0 e h1 hs
end
open Mine.Ex renaming sub->fO
structure wU(c:C)(O:bC)(s:Shared)(c':C)(s':Shared):Prop where
 eq:c'={c with M:=c'.M,σ:=c'.σ,wr:=c'.wr}
 kx:Kx O s s'
 al:∀a o,s.heap.get? a=U o->∃o',s'.heap.get? a=U o'
 m:∀a o,s.heap.get? a=U o->c'.M a->c.M a
 mm:∀a,c.M a->c'.M a
 w:∀a o,s.heap.get? a=U o->c'.wr a->c.wr a
 ww:∀a,c.wr a->c'.wr a
 sg:∀a cn,¬O a->c.σ a=U cn->c'.σ a=U cn
 sn:∀a o cn,s.heap.get? a=U o->c'.σ a=U cn->∃qB,c.σ a=U qB
 nw:∀a cn,c'.σ a=U cn->¬c'.wr a->(∃qB,c.σ a=U qB)/\¬c.wr a
def wU.ext(a:wU d e g i f)(h:∀b,e b->d.wr b):Ext d g i f:=
 ⟨a.eq,a.kx.mono λb c=>.inl (h b c),a.al,a.m,a.w,λb z=>a.ww b,λb c l z z j=>a.sg b l λk=>j (h b k),a.sn,a.nw⟩
def St.after{a f:C}{s:Nm}{l:bC}{n g:Shared}(i:St a s n)(p:Lo a n)(h:∀d,l d->a.wr d)(e:wU a l n f g)(t:Bs f g):St f s g/\Lo f g:=by
 intros a f s l n g _ i p h e t;obtain⟨o,q,r,rfl⟩:∃o q r,f={a with M:=o,σ:=q,wr:=r}:=⟨_,_,_,e.eq⟩;have v:∀d,l d->a.M d/\¬a.X d:=λd c=>have b:=i.bs.iR d (h d c);⟨b.1,b.2.1⟩
 exact i.gen (M':=o) (σ':=q) (wr':=r) (B':=a.B) p t (DK e.kx λd D x j=>(i.bs.iR d (h d j)).2.2.elim λz y=>(i.bs.dc d z y).2.2.wQ.elim λE b=>x.elim λc w=>b.2 D (dF (w.1.symm.trans b.1)▸w.2))
  (λc k=>e.kx.keep _ c (λj=>(v _ j).2 (p.yx _ (.inl J))) k) λA=>A.mono λd c u Z k=>⟨e.kx.keep d c (λb=>u (v d b).1) k,λj=>u (e.m d c k j)⟩
structure FnRec(g:G0)(fa:ak)(fd:FuncData)(body:dH):Prop where
 at':∃o,g.h₀.get? fa=U o/\o.data=.func fd
 code:g.h₀.CodeRec fd.code fd.qualname
 body:fd.body=.stmts body
 VV:fd.closure=[]
 globals:fd.globals=mainGlobals
 builtins:fd.builtins=builtinsNs
 kind:fd.scope.kind=.function
 gen:fd.scope.isGenerator=aA
 co:fd.scope.isCoroutine=aA
def FX(c:FuncData)(b d a:ak):Prop:=a=b\/∃e∈ie c.scope,(callEnvC c b d).cells.lookup e=U a
def C.fn(b:C)(a:FuncData)(d c:ak)(f:bC):C:=
 {b with env:=callEnvC a c d,A:=b.A.deeper (callEnvC a c d),M:=λe=>b.M e\/FX a c d e,X:=FX a c d,own:=ie a.scope,n:=b.n-1,wr:=f,B:=b.M}
def Ia(scope:gh)(b:List Str):Bool:=b.all λa=>(scope.names.lookup a==U .local||(scope.names.lookup a==U .cell&&(ie scope).contains a))&&(a !=("__debug__":Str))&&(a !=("__classdict__":Str))
def VW:∀{a:Str->Option aC},b∉c.map (·.1)->bindL d c a b=a b:=by
 induction c with
 |nil=>exact λz=>rfl
 |cons e c j=>
  intro a f;refine(j λi=>f (.tail _ i)).trans (show(if d e.1=U .local then(λg=>if g=e.1 then U e.2 else a g) else a) b=a b from ?_);split
  .exact aB λh=>f (bN.mpr (.inl h))
  rfl
def VX:∀{b:Str->Option aC},(binds.map (·.1)).Nodup->(a,u)∈binds->c a=U .local->bindL c binds b a=U u:=by
 induction binds with
 |nil=>exact λz d=>gS d
 |cons i j h=>
  intro b e d f;have e:=ff.mp e;refine(bN.mp d).elim (λg=>?_) λd=>h e.2 d f
  subst g;exact(VW e.1).trans ((congrFun (az f) a).trans (az J))
def VY:∀{a:Str->Option aC},b∉c.map (·.1)->bindC d c a b=a b:=by
 induction c with
 |nil=>exact λz=>rfl
 |cons e c j=>
  intro a f;refine(j λi=>f (.tail _ i)).trans (show(if d e.1=U .local then a else λg=>if g=e.1 then U e.2 else a g) b=a b from ?_);split
  .rfl
  exact aB λh=>f (bN.mpr (.inl h))
def VZ:∀{b:Str->Option aC},(binds.map (·.1)).Nodup->(a,u)∈binds->c a≠U .local->bindC c binds b a=U u:=by
 induction binds with
 |nil=>exact λz d=>gS d
 |cons i j h=>
  intro b e d f;have e:=ff.mp e;refine(bN.mp d).elim (λg=>?_) λd=>h e.2 d f
  subst g;exact(VY e.1).trans ((congrFun (aB f) a).trans (az J))
def V0{b:List Str}{e:cQ}{f:gm}{c:Str}{g:V}(d:d8 M h e f)(a:(b.zip f).lookup c=U g):∃u,(c,u)∈b.zip e/\VR M h g u:=by
 induction d generalizing b with
 |nil=>cases b<;>cases a
 |@cons u _ o _ d n l=>
  cases b with
  |nil=>cases a
  |cons i b=>
   rw[v7,iF] at a;cases hx:c==i with
   |true=>
    rw[hx] at a;cases a;exact⟨u,by rw[beq_iff_eq.mp hx];exact .head _,d⟩
   |false=>
    rw[hx] at a;let ⟨j,m,k⟩:=l a;exact⟨j,.tail _ m,k⟩
abbrev Calls(b:C)(f:aC)(c:cQ)(e:cI)(g:Shared):Prop:=codeAny b.m b.A (.call f ⟨c,[]⟩) (λh a=>match h with|.ok (.ret v)=>e v a|.ok _=>False|.error d=>no d a) g
def O1{b6:G0}{x:ak}{r:FuncData}{body:dH}(H:FnRec b6 x r body){q:C}(b1:q.toG0=b6)(bo:1<=q.n){O:bC}(a5:∀b,O b->q.wr b){y:Shared}{L:cQ}{a9:gm}{G:List Str}(s:Bs q y)(b3:nh q y.heap L a9)
 (ct:bindArgs r ⟨L,[]⟩=pure (G.zip L)) (cx:G.Nodup) (b4:Ia r.scope G=af) (hl:aa G=aa L) {a0:eH} {R:d9}
 (cq:∀c,Ex (q.fn r x c O) (G.zip a9) [body] a0 R) {a3:cI}
 (cp:∀c e g f u d,e={q.fn r x c O with M:=e.M,σ:=e.σ,wr:=e.wr}->((∃h,a0 e h/\d=.none)\/R e d)->g.σ=e.σ->wU q O y g f->Bs g f->Rep f.heap q.M u d->a3 u f):
 Calls q (.ref x) L a3 y:=by
 intros b6 x r body q O y _ H b1 bo a5 L a9 G s b3 ct cx b4 hl a0 R cq a3 cp;intros L a9 G a0 R a3 _ H b1 bo a5 s b3 ct cx b4 hl cq cp;subst b1;let ⟨j,bp,dC⟩:=H.at';have sub:∀p∈G.zip L,p.1∈G:=λp S=>(LC S).1
 have dk:∀p∈G,(r.scope.names.lookup p=U .local\/(r.scope.names.lookup p=U .cell/\p∈ie r.scope))/\(p==("__debug__":Str))=aA/\(p==("__classdict__":Str))=aA:=λp S=>by
  have:=Au.mp b4 p S;simp only[gQ,CW,beq_iff_eq,bne_iff_ne,ne_eq,gy] at this;exact⟨this.1.1,beq_eq_false_iff_ne.mpr this.1.2,beq_eq_false_iff_ne.mpr this.2⟩
 obtain⟨c,a7⟩:∃c,c=y.heap.objs.size:=⟨_,rfl⟩;intros c _ a7;have dT:(y.heap.push {cls:=.type "frame",data:=.dict #[]}).objs.size=c+1:=by rw[a7];exact wj ..
 let ⟨a8,c4,dj⟩:=OI r.scope.names (y.heap.push {cls:=.type "frame",data:=.dict #[]}) [];rw[dT] at a8 c4 dj;have c6:(callEnvC r c x).cells=cellsFrom (c+1) r.scope.names []:=rfl
 have c2:∀b,c<=b->y.heap.get? b=ai:=λb i=>by
  cases l:y.heap.get? b with
  |none=>rfl
  |some j=>exact aV (d7 l) (gO.mpr (a7▸i))
 have dq:∀b,FX r c x b->y.heap.get? b=ai:=λb i=>by
  rcases i with rfl|⟨p,S,z⟩
  .exact c2 _ (cB _)
  let ⟨ec,c0,_,_,dy⟩:=a8 p S;rw[c6] at z;rw[z] at c0;cases c0;exact c2 b (vS dy)
 refine codeAny_call_cells (a:=x) (o:=j) (fd:=r) (body:=body) (binds:=G.zip L) (eK (fz ..) s.room.d) (s.keep _ _ bp) dC (s.base.lim.keeps s.keep) (H.code.keeps s.keep) H.body ct H.VV (λp S=>?_) (λau N=>?_) H.co H.gen H.kind
 .rcases(dk p.1 (sub p S)).1 with i|⟨E,K⟩
  .exact .inl i
  let ⟨b,z,_⟩:=a8 p.1 K;exact .inr ⟨E,by rw[<-a7,z];rfl⟩
 rw[<-a7] at N⊢;let ⟨ea,d5,I⟩:=N.toInCall.same;have Y:Kp y au:=⟨by rw[I],by rw[I],N.toInCall.keep⟩;have cf:∀b j,y.heap.get? b=U j->¬FX r c x b:=λb j l i=>ns (dq b i) l
 have bt:∀{u:aC} {d:D},Rep y.heap q.M u d->Rep au.heap (q.fn r x c O).M u d:=λbj=>bj.mono λb j Z _ l=>⟨Y.keep b j l,λi=>i.elim Z (cf b j l)⟩
 have b5:∀b,q.M b->¬FX r c x b:=λb t=>let ⟨j,l⟩:=s.fR b t;cf b j l
 have c7:∀p b,(callEnvC r c x).cells.lookup p=U b->p∈ie r.scope:=λp b z=>by
  by_cases i:p∈ie r.scope
  .exact i
  rw[c6,c4 p i] at z;simp at z
 have c3:Bs (q.fn r x c O) au:=by
  refine⟨λae j l=>Y.keep ae j (s.keep ae j l),s.base,⟨s.room.hh,?_,?_⟩,λb t=>?_,λb i=>.inr i,λb t=>?_,λb v l=>?_,λb i=>?_,λb i=>.inl i⟩
  .show q.A.units+3+50*(q.n-1)+500<cLine;exact ND (k:=3) bo s.room.u J
  .show q.A.depth+1+(q.n-1)<recursionLimit;exact NF bo s.room.d
  .rcases t with t|t
   .let ⟨j,l⟩:=s.fR b t;exact⟨j,Y.keep b j l⟩
   rcases t with rfl|⟨p,S,z⟩
   .let ⟨j,_,_,l,_⟩:=N.toInCall.ns;exact⟨j,l⟩
   let ⟨j,l,_⟩:=N.cell p b z;exact⟨j,l⟩
  .rcases t with t|t
   .exact s.jS b t
   show q.h₀.get? b=ai;exact s.tB (dq b t)
  .let ⟨E,K,P⟩:=s.dc b v l;exact⟨.inl E,b5 b E,P.mono bt (Y.keep b)⟩
  let ⟨E,K,P⟩:=s.iR b (a5 b i);exact⟨.inl E,b5 b E,P⟩
 have d1:St (q.fn r x c O) (G.zip a9) au:=by
  refine⟨c3,H.kind,H.globals,H.builtins,λp de b cz dp=>dj p de b (c7 p b cz) (c7 de b dp) cz dp,λp b z=>⟨_,N.cell p b z⟩,λp eb l=>?_⟩;let ⟨u,cm,bj⟩:=V0 b3 l;let ⟨av,E,K⟩:=dk p (LC cm).1;have dr:((G.zip L).map (·.1)).Nodup:=by rw[List.map_fst_zip (by exact cj ‹_›)];exact cx
  refine⟨E,K,u,?_,bj.mono bt⟩;rcases av with av|⟨av,cb⟩
  .exact .inl ⟨av,_,N.toInCall.ns,VX dr cm av⟩
  let ⟨b,z,_⟩:=a8 p cb;refine .inr ⟨.inl av,b,z,?_⟩;have:=N.cell p b z;rw[VZ dr cm (by show r.scope.names.lookup p≠U .local;rw[av];decide)] at this;exact this
 have du:Lo (q.fn r x c O) au:=⟨⟨_,N.toInCall.ns⟩,λae i=>i,λp S=>by
  let ⟨b,z,_⟩:=a8 p S;exact⟨b,_,z,N.cell p b z⟩⟩
 have df:∀e F u d,Ext (q.fn r x c O) au e F->Bs e F->Rep F.heap q.M u d->((∃h,a0 e h/\d=.none)\/R e d)->a3 u F:=λe F u d B W cw b2=>by
  obtain⟨aw,Q,ax,rfl⟩:∃aw Q ax,e={q.fn r x c O with M:=aw,σ:=Q,wr:=ax}:=⟨_,_,_,B.eq⟩;have a6:∀b j,y.heap.get? b=U j->∃j,au.heap.get? b=U j:=λb j l=>⟨j,Y.keep b j l⟩
  have bk:∀b,q.M b->aw b/\¬FX r c x b:=λb t=>⟨W.bm b t,b5 b t⟩
  have dE:∀b j,y.heap.get? b=U j->Q b≠ai->¬q.X b:=λb j l i=>by
   let ⟨v,cb⟩:=AQ.mp i;let ⟨V,I⟩:=a6 b j l;let ⟨d0,a4⟩:=B.sn b V v I cb;exact(s.dc b d0 a4).2.1
  have c5:∀b,Q b≠ai->¬q.X b:=λb i p=>by
   let ⟨j,l⟩:=s.fR b (s.xm b p);exact dE b j l i p
  have d4:Kx O y F:=⟨B.kx.gens.trans Y.gens,B.kx.os.trans Y.os,λae j Z l=>B.kx.keep ae j (λi=>i.elim Z λi=>cf ae j l i) (Y.keep ae j l)⟩
  have di:∀b v,¬O b->q.σ b=U v->Q b=U v:=λb v Z l=>by
   have t:=(s.dc b v l).1;let ⟨j,dv⟩:=c3.fR b (.inl t);exact B.sg b j v dv t Z l
  have dz:∀b,O b->ax b:=λb j=>B.wb b (s.iR b (a5 b j)).1 j
  have d3:wU q O y {q with M:=λb=>aw b/\¬FX r c x b,σ:=Q,wr:=λb=>q.wr b\/ax b} F:=by
   refine⟨rfl,d4,λb j l=>?_,λb j l i=>?_,λb t=>bk b t,λb j l i=>?_,λb i=>.inl i,di,λb j v l i=>?_,λb v l Z=>⟨(B.nw b v l λT=>Z (.inr T)).1,λT=>Z (.inl T)⟩⟩
   .let ⟨V,I⟩:=a6 b j l;exact B.al b V I
   .let ⟨V,I⟩:=a6 b j l;exact(B.m b V I i.1).elim id λT=>aV T i.2
   .let ⟨V,I⟩:=a6 b j l;exact i.elim id λi=>a5 b (B.w b V I i)
   let ⟨V,I⟩:=a6 b j l;exact B.sn b V v I i
  have dA:Bs {q with M:=λb=>aw b/\¬FX r c x b,σ:=Q,wr:=λb=>q.wr b\/ax b} F:=by
   refine⟨W.keep,s.base,s.room,λb t=>W.fR b t.1,λb i=>bk b (s.xm b i),λb t=>W.jS b t.1,λb v l=>?_,λb i=>?_,λb i=>bk b (s.bm b i)⟩
   .let ⟨E,K,P⟩:=W.dc b v l;exact⟨⟨E,K⟩,c5 b (by intro T;have a4:Q b=U v:=l;exact ns T a4),P.mono (λbj=>bj.lM λae t=>t.1) λ_ l=>l⟩
   rcases i with i|i
   .obtain⟨E,K,v,P⟩:=s.iR b i;refine⟨bk b E,K,?_⟩
    by_cases bp:O b
    .exact(W.iR b (dz b bp)).2.2
    exact⟨v,di b v bp P⟩
   obtain⟨E,K,v,P⟩:=W.iR b i;exact⟨⟨E,K⟩,c5 b (by intro T;have a4:Q b=U v:=P;exact ns T a4),v,P⟩
  exact cp c _ {q with M:=λb=>aw b/\¬FX r c x b,σ:=Q,wr:=λb=>q.wr b\/ax b} F u d B.eq b2 J d3 dA cw
 exact kL ((cq c).body d1 du (λe dt F B d2 d6 b2=>df e F .none .none B d2.bs .none (.inl ⟨dt,b2,rfl⟩)) λe F u d B W cw bt=>df e F u d B W cw (.inr bt)) (λ_ _ i=>i) λ_ _ i=>i.elim
def Ext.rep{c k:C}{q:Nm}{e g:Shared}(f:Ext c e k g)(j:St c q e)(n:Lo c e){u:aC}{d:D}(o:Rep e.heap c.M u d):Rep g.heap k.M u d:=
 o.mono λb l h z i=>⟨f.kx.keep b l (λa=>h (a.elim (λa=>(j.bs.iR b a).1) λa=>j.bs.xm b (n.yx b a))) i,λp=>h (f.m b l i p)⟩
def Ext.V1{a e:C}{k:Nm}{b c:Shared}(g:Ext a b e c)(i:St a k b)(h:Lo a b){u:aC}{d:V}(j:fD a b.heap u d):fD e c.heap u d:=j.mono λf=>g.rep i h f
inductive V2(c:C)(ρ:Nm)(Q:C->gm->Prop)(s:Shared)(xs:cQ)(s':Shared):Prop
 |mk (c':C) (vs:gm) (X:Ext c s c' s') (S:St c' ρ s') (L:Lo c' s') (r:nh c' s'.heap xs vs) (q:Q c' vs)
structure V3(c c':C)(ρ':Nm)(s:Shared)(u:Unit)(s':Shared):Prop where
 X:Ext c s c' s'
 S:St c' ρ' s'
 L:Lo c' s'
def o4(a:C)(c:Nm)(f:cN)(e:C->gm->Prop):Prop:=∀b d,St a c b->Lo a b->
 wpAny a.m a.A (spliced (backTo d (starEach f a.env))) (V2 a c e b) no b
def iW(a:C)(h:Nm)(e:aT)(f:V)(g:C)(d:Nm):Prop:=∀b c,St a h b->Lo a b->fD a b.heap c f->
 wpAny a.m a.A (assign e a.env c) (V3 a g d b) no b
inductive kZ:C->Nm->cN->gm->C->Nm->Prop
 |nil {c ρ}:kZ c ρ [] [] c ρ
 |cons {c ρ tg v O2 O3 o5 vs O4 O5}:iW c ρ tg v O2 O3->cD tg=aA->kZ O2 O3 o5 vs O4 O5->kZ c ρ (tg::o5) (v::vs) O4 O5
def Ib(h:cD a=aA)(c:cN)(b:Env):assignEach (a::c) b=(aA,assign a b)::assignEach c b:=by
 cases a<;>first|rfl|cases h
section
variable {c:C}{ρ:Nm}{k:eV}{rest:dH}{P:eH}{R:d9}{e e₁ e₂ o tg:aT}{v:V}{pos p apos:Pos}{x:Str}{Q:rS}{a:ak}
theorem o4.nil:o4 c ρ [] (λb d=>b=c/\d=[]):=λf pos a e=>qj ⟨c,[],.refl,a,e,.nil,rfl,rfl⟩
theorem o4.cons{g:cN}{a:C->gm->Prop}(h:gB c ρ e Q)(q:∀b v,b={c with M:=b.M,σ:=b.σ,wr:=b.wr}->Q b v->o4 b ρ g (λf d=>a f (v::d)))(hs:autoParam (cD e=aA) aI):o4 c ρ (e::g) a:=by
 intros c ρ e Q g a _ h q hs;exact λG pos E y=>by
  rw[iL _ hs];refine m8 (aS (h G E y) (λH D s=>?_));obtain⟨k,v,i,l,o,r,w⟩:=s;have B:=q k v i.eq w D pos l o;obtain⟨j,m,n,rfl⟩:∃j m n,k={c with M:=j,σ:=m,wr:=n}:=⟨_,_,_,i.eq⟩;exact aS B (λI J z=>by obtain⟨A,d,p,u,F,x,t⟩:=z;exact⟨A,v::d,i.trans p,u,F,.cons (p.V1 l o r) x,t⟩)
def gp.m(h:gp c ρ e b):gB c ρ e (λd v=>∃a,¬c.M a/\c.σ a=ai/\d=c.add a b/\v=.r a):=λp f i=>aS (h p f) (λx s l=>by
 obtain⟨q,a,e,g,o⟩:=l;subst e;let ⟨j,n,k⟩:=f.add i q g o;exact⟨_,.r a,k,j,n,rfl,a,f.bs.new g,f.bs.DT g,rfl,rfl⟩)
def iW.name(h:gH c x):iW c ρ (.Name x p) v c ((x,v)::ρ):=λj k d b g=>CB (d.store b h g λi f a e=>⟨.tH f d b a,a,e⟩)
def iW.Dz{ds:aH}{j:Nat}{d:D}(ho:Ev c ρ o (.r a))(hi:Ev c ρ e (.d (.int j)))(hs:c.σ a=U (.l ds))(hw:c.wr a)(hj:j<aa ds)(q:autoParam (uS e=aA) aI):iW c ρ (.Subscript o e p) (.d d) (c.upd a (.l (ds.set j d))) ρ:=by
 intros c ρ e o p a ds j d _ ho hi hs hw hj q;exact λu A g n v=>by
  rw[Lm];refine ay (dW (aS (ho u g) (λw t f=>ay (dW (aS (hi t (g.kp f.k)) (λy B h=>ay (lB (ay (dW ?_)))))))));obtain rfl:w=.ref a:=f.r;let ⟨z,zy⟩:=jT h.r;have b:=f.k.trans h.k;exact(g.kp b).DV (n.kp b.keep) hs hw hj (yG v b.keep) λx i s m y=>Gs ⟨(j9 b).trans m,i,s⟩
def kZ.run(h:kZ c ρ i j g l):∀{b:Shared} {d:cQ},St c ρ b->Lo c b->nh c b.heap d j->
 wpAny c.m c.A (assignInOrder ((assignEach i c.env).map (·.2)) d) (λZ f=>Ext c b g f/\St g l f/\Lo g f) no b:=by
 induction h with
 |nil=>intro b d k e a;cases a;exact aM ⟨.refl,k,e⟩
 |@cons c ρ tg v s L i j I K G x _ D=>
  intro b d k e a;cases a with
  |@cons r d _ _ a z=>
   rw[Ib x];show wpAny c.m c.A (holding d (assign tg c.env r)>>=λZ=>assignInOrder ((assignEach i c.env).map (·.2)) d) _ no b;refine ay (dW (aS (G b r k e a) (λZ J u=>?_)));obtain⟨n,y,E⟩:=u;have B:=D y E (z.mono λt=>n.rep k e t);obtain⟨o,p,q,rfl⟩:∃o p q,s={c with M:=o,σ:=p,wr:=q}:=⟨_,_,_,n.eq⟩;exact aS B (λZ N H=>by let ⟨F,w,C⟩:=H;exact⟨n.trans F,w,C⟩)
def kZ.len(h:kZ c ρ b d g f)(e:Env):(assignEach b e).length=aa d/\(assignEach b e).findIdx? (·.1)=ai:=by
 induction h with
 |nil=>exact⟨rfl,rfl⟩
 |cons _ i _ a=>
  rw[Ib i];refine⟨by show _+1=_+1;rw[a.1],?_⟩;rw[Lz];simp[a.2]
def Ex.V4(h:gB c ρ e Q)(n:∀b v,b={c with M:=b.M,σ:=b.σ,wr:=b.wr}->Q b v->∃f d,iW b ρ tg v f d/\Ex f d (rest::k) P R)(m:autoParam (cD tg=aA) aI)
 (hs:autoParam (swapsWithSole [tg] e pos.line c.env=pure aA) aI) (hw:autoParam (swappedStores [tg] e c.env=pure ai) aI):Ex c ρ ((.Assign [tg] e pos::rest)::k) P R:=by
 intros c ρ k rest P R e tg pos Q _ h n m hs hw;exact qD λC w s=>wpAny_Assign_stores (aS (h C w s) (λE u y=>by
  obtain⟨i,v,a,t,A,o,r⟩:=y;let ⟨F,G,z,D⟩:=n i v a.eq r;obtain⟨g,j,l,rfl⟩:∃g j l,i={c with M:=g,σ:=j,wr:=l}:=⟨_,_,_,a.eq⟩;rw[Ib m];exact aS (z u E t A o) (λZ H p=>by obtain⟨B,q,x⟩:=p;exact⟨_,_,rfl,a.trans B,q,x,D⟩))) hs hw
def Ex.V5{i l:cN}{n q:Nat}{p j:Pos}{Q:C->gm->Prop}(h:o4 c ρ l Q)(v:∀b d,b={c with M:=b.M,σ:=b.σ,wr:=b.wr}->Q b d->∃g f,kZ b ρ i d g f/\Ex g f (rest::k) P R)(hz:aa i<=100:=by decide)
 (hw:autoParam (swappedStores [.Tuple i n p] (.Tuple l q j) c.env=pure ai) aI):Ex c ρ ((.Assign [.Tuple i n p] (.Tuple l q j) pos::rest)::k) P R:=by
 intros c ρ k rest P R pos _ i l n q p j Q h v hz hw;intros i l n q p j Q _ h v hz hw;exact qD λW A Y=>Hg (Cz (aS (h W j A Y) (λt a V=>by
  obtain⟨F,d,w,Z,O,y,K⟩:=V;let ⟨ax,a0,B,X⟩:=v F d w.eq K;obtain⟨D,E,G,rfl⟩:∃D E G,F={c with M:=D,σ:=E,wr:=G}:=⟨_,_,_,w.eq⟩;have z:=y.length;have u:=B.len c.env
  have av:aa d<=100:=by
   rw[<-u.1]
   have:∀m:cN,(assignEach m c.env).length=aa m:=λm=>by
    induction m with
    |nil=>rfl
    |cons e m N=>cases e<;>(show _+1=_+1;rw[N])
   rw[this];exact hz
  refine⟨by rw[z,pY];exact lK ‹_› rfl,?_⟩;have H:Kp a {a with heap:=a.heap.push {cls:=.type "tuple",data:=.seq t.toArray}}:=g8 a _;refine Gn (s:={a with heap:=a.heap.push {cls:=.type "tuple",data:=.seq t.toArray}}) A.bs.room.hh (items:=t.toArray) ⟨_,dw _ J,rfl,0,rfl⟩ (by rw[u.1];simp[z]) u.2 λT x=>?_
  have r:Kp a {a with heap:=T}:=H.trans ⟨rfl,rfl,λau o e=>x au o (eN (d7 e)) e⟩;exact aS (B.run (Z.kp r) (O.kp r.keep) (y.keep r.keep)) (λU aw I=>by let ⟨S,ae,L⟩:=I;exact⟨_,_,rfl,w.trans ((j9 r).trans S),ae,L,X⟩)))) J hw
end
open Mine.kZ renaming cons->gq,nil->jh
open Mine.gp renaming m->lR
open Mine.Ex renaming V4->mH,V5->yT
open Mine.iW renaming name->mJ
open Mine.o4 renaming cons->nF,nil->Be
section
variable {c:C}{ρ:Nm}{k:eV}{rest:dH}{P:eH}{R:d9}{e e₁ e₂ o tg:aT}{v:V}{pos p apos:Pos}{x:Str}{Q:rS}{a:ak}
def V6{names:List Str}:∀{us:cQ} {vs:gm} {ρ:Nm} {b:Shared},(∀x∈names,gH c x)->aa names=aa vs->St c ρ b->Lo c b->nh c b.heap us vs->
 wpAny c.m c.A (assignInOrder (names.map λn=>bindName c.env n) us) (λz d=>Ext c b c d/\St c ((names.zip vs).reverse++ρ) d/\Lo c d) no b:=by
 intros c names
 induction names with
 |nil=>
  intro us vs ρ b _ g e a f;cases f with
  |nil=>exact aM ⟨.refl,e,a⟩
  |cons=>simp at g
 |cons n names p=>
  intro us vs ρ b i g e a f;cases f with
  |nil=>simp at g
  |@cons s us v vs f l=>
   show wpAny c.m c.A (holding us (bindName c.env n s)>>=λz=>assignInOrder (names.map λn=>bindName c.env n) us) _ no b;refine ay (dW (wpAny_bindName (e.store a (i n (.head _)) f λt j h q=>?_)));refine aS (p (λx o=>i x (.tail _ o)) (by simpa using g) h q (l.mono λk=>(Ext.tH j e a h).rep e a k)) (λz u r=>?_);rcases r with⟨Ic,DX,Ie⟩
   refine⟨(Ext.tH j e a h).trans Ic,?_,Ie⟩;rw[v7,ux,e9];exact DX
theorem d8.reverse(e:d8 M h d b):d8 M h d.reverse b.reverse:=by
 have j:∀{d:cQ} {b:gm} {f:cQ} {g:gm},d8 M h d b->d8 M h f g->d8 M h (d++f) (b++g):=λe i=>by
  induction e with
  |nil=>exact i
  |cons a _ c=>exact .cons a c
 induction e with
 |nil=>exact .nil
 |cons a _ c=>rw[ux,ux];exact j c (.cons a .nil)
def V7{c d:Type}{a:List c}{b:List d}(h:aa a=aa b):(a.reverse.zip b.reverse).reverse=a.zip b:=(aR List.reverse (List.reverse_zipWith h)).symm.trans (Gw _)
def Ex.V8{q i:cN}{n l:Nat}{j g:Pos}{names:List Str}{Q:C->gm->Prop}(h:o4 c ρ i Q)(u:∀x∈names,gH c x)(y:∀b d,b={c with M:=b.M,σ:=b.σ,wr:=b.wr}->Q b d->aa names=aa d/\Ex b (names.zip d++ρ) (rest::k) P R)(hz:aa names<=100:=by decide)
 (hw:autoParam (swappedStores [.Tuple q n j] (.Tuple i l g) c.env=pure (U names)) aI):Ex c ρ ((.Assign [.Tuple q n j] (.Tuple i l g) pos::rest)::k) P R:=by
 intros c ρ k rest P R pos q _ i n l j g names Q h u y hz hw;intros i n l j g names Q _ h u y hz hw;exact qD λK B N=>Assign_Tuple_swapped (Cz (aS (h K g B N) (λf a I=>by
  obtain⟨D,d,w,O,F,z,E⟩:=I;let ⟨m,L⟩:=y D d w.eq E;obtain⟨r,t,v,rfl⟩:∃r t v,D={c with M:=r,σ:=t,wr:=v}:=⟨_,_,_,w.eq⟩;have A:=z.length;refine⟨by rw[A,<-m,pY];exact lK ‹_› rfl,?_⟩;have W:Kp a {a with heap:=a.heap.push {cls:=.type "tuple",data:=.seq f.toArray}}:=g8 a _;have H:aa names=f.toArray.size:=by simp[A,m]
  rw[H];refine unpackItems_tuple (s:={a with heap:=a.heap.push {cls:=.type "tuple",data:=.seq f.toArray}}) B.bs.room.hh (items:=f.toArray) ⟨_,dw _ J,rfl,0,rfl⟩ λG x=>?_
  have p:Kp a {a with heap:=G}:=W.trans ⟨rfl,rfl,λV o e=>x V o (eN (d7 e)) e⟩;refine aS (V6 (c:={c with M:=r,σ:=t,wr:=v}) (names:=names.reverse) (us:=f.reverse) (vs:=d.reverse) (λx T=>u x (yg.mp T)) (by simpa using m) (O.kp p) (F.kp p.keep) (d8.reverse (z.keep p.keep))) (λZ X S=>?_);rcases S with⟨Ic,DX,Ie⟩
  refine⟨_,_,rfl,w.trans ((j9 p).trans Ic),?_,Ie,L⟩;rw[V7 m] at DX;exact DX))) J hw
def d8.ofD(c:aW h M f b):d8 M h f (b.map .d):=c.ind (m:=λf b=>d8 M h f (b.map .d)) .nil λa z e=>.cons a e
def Ex.V9(h:Ev c ρ e (.d (.tup ds)))(t:kZ c ρ b (ds.map .d) i g)(E:Ex i g (rest::k) P R)
 (hs:autoParam (swapsWithSole [.Tuple b n f] e pos.line c.env=pure aA) aI) (hw:autoParam (swappedStores [.Tuple b n f] e c.env=pure ai) aI):Ex c ρ ((.Assign [.Tuple b n f] e pos::rest)::k) P R:=
 qD λu j A=>Hg (aS (h u j) (λL a p=>by
  let ⟨H,G,zy,B,J,I,s⟩:=HH p.r;have w:=s.size;have q:=t.len c.env;refine Gn j.bs.room.hh B.AX (by rw[q.1,w,aP]) q.2 λv x=>?_
  have l:Kp u {a with heap:=v}:=p.k.trans ⟨rfl,rfl,λm o e=>x m o (eN (d7 e)) e⟩;have F:Kp a {a with heap:=v}:=⟨rfl,rfl,λm o e=>x m o (eN (d7 e)) e⟩;exact aS (t.run (j.kp l) (A.kp l.keep) (d8.ofD (s.keep F.keep))) (λZ K y=>by let ⟨D,z,C⟩:=y;exact⟨_,_,rfl,(j9 l).trans D,z,C,E⟩))) hs hw
def Wa{a:Shared}{d:ak}{g f:aC}{h:List (Bool×(aC->Sem Unit))}{Q:Unit->Shared->Prop}(t:c.A.handled=ai)(hl:PL a.heap d #[g,f])(n:aa h=2)(r:h.findIdx? (·.1)=ai)
 (p:∀b,Kp a b->wpAny c.m c.A (assignInOrder (h.map (·.2)) [g,f]) Q no b):wpAny c.m c.A (unpack (.ref d) h) Q no a:=by
 intros c a d g f h Q _ t hl n r p;have l:=hl.isList;have q:d≠a.heap.objs.size:=by let ⟨G,e⟩:=hl;exact eN (d7 e)
 unfold unpack;rw[n,r];refine ay (dW ?_);unfold unpackItems;refine ay ?_;unfold notIterableAtAll;refine ay (Cy l.typeIs PySem.F.slot_list_iter.lookup (aM ?_));simp only[qg,if_false];refine ay (dW (xX l ?_));have B:(a.heap.push {cls:=.type "list_iterator",data:=.fields #[.ref d,.int 0 0]}).IsListIter a.heap.objs.size d 0:=⟨_,dw _ J,rfl,rfl⟩;have y:PL (a.heap.push {cls:=.type "list_iterator",data:=.fields #[.ref d,.int 0 0]}) d #[g,f]:=hl.at λo e=>cG _ e
 refine ay (dW ?_);show wpAny _ _ (pyNext (.ref a.heap.objs.size)>>=_) _ _ _;refine ay (CA (s:={a with heap:=a.heap.push {cls:=.type "list_iterator",data:=.fields #[.ref d,.int 0 0]}}) B y.isList (x:=g) J λj E w=>?_);have u:PL j d #[g,f]:=y.at λo e=>w.extBut d o q e
 refine ay (dW ?_);show wpAny _ _ (pyNext (.ref a.heap.objs.size)>>=_) _ _ _;refine ay (CA (s:={a with heap:=j}) E u.isList (x:=f) J λv C k=>?_);have D:PL v d #[g,f]:=u.at λo e=>k.extBut d o q e
 refine ay (dW (aM (aM (aM ?_))));show wpAny _ _ (if 2<2 then _ else _) _ _ _;rw[aB ∅];refine ay (dW (Gm (s:={a with heap:=v}) t C D.isList J λH z=>?_));simp only[Option.isSome_none,qg,if_false];exact aM (p _ ⟨rfl,rfl,λi o e=>z i o (eN (d7 e)) (k.extBut i o (eN (d7 e)) (w.extBut i o (eN (d7 e)) (cG _ e)))⟩)
end
open Mine.Ex renaming V9->uZ,V8->Ig
def Wb{z:Program}{f:World}{v:Around}{s:Shared}{i:Frag}{t C d:ak}{j:Obj}{c:List sS}{n:Nat}{name:Str}{m:Tok}{e:aC}{R:rE->Shared->Prop}(l:i.In s.heap)(g:InstAt s.heap t j C (U (dictOf c n)))(k:j.dict=U d)
 (o:plainOver i C=af) (q:takerIn i C name=U ai) (r:hasDictIn i C=af) (hl:(getL name c).isSome=af) (hz:(putL name (s7 f.params name) (.str name s.toks) e c).length<=1000)
 (h:∀b,b.get? d=U (dictOf (putL name (s7 f.params name) (.str name s.toks) e c) (putN name c n))->iG d s.heap b->R (.ok (.ret .none)) {s with heap:=b,toks:=s.toks+1}):
 codeAny (model z f) v (.call (.builtin "object.__setattr__") ⟨[.ref t,.str name m,e],[]⟩) R s:=by
 intros z f v s i t C d _ j c n name m e R l g k o q r hl hz h;intros j c n name m e R _ l g k o q r hl hz h
 have p:s.heap.get? d=U (dictOf c n):=by
  have:=g.dict;rw[k] at this;exact this
 refine osa_open l g o q λF=>?_;intros F
 let ⟨J,A,B⟩:=any_some r
 have y:(s.heap.update d (Obj.putName name (s7 f.params name) (.str name s.toks) e)).get? d=U (dictOf (putL name (s7 f.params name) (.str name s.toks) e c) (putN name c n)):=by
  rw[rK _ p (by rw[putName_dict];rfl),putName_dict]
 obtain⟨D,w,H,-⟩:=g;obtain⟨L,K,I,G⟩:=j;dsimp only at w k;subst w k;refine ay (aM (ay (ay (Ln D (ay ((looks_clsIn l A).here ?_))))));rw[B];refine aM (a:=U d) (ay (aM (ay ?_)));unfold nsSet;refine ay (ay (pU (aM (ay (wpAny_mkText (ay (Ln p ?_)))))))
 have E:(!c.toArray.any (·.key.isStr name)&&c.toArray.any (·.refKey))=aA:=by
  rw[LD,LD];unfold getL at hl;split at hl
  .rename_i en u;rw[yh.mpr ⟨en,CI u,Ax u⟩];rfl
  split at hl
  .cases hl
  rename_i x;rw[My] at x;rw[x,wz]
 dsimp only;rw[aRefKeyMayBeTheName_at,E];refine wpAny_updatePart p ?_;refine ay (wpAny_lookBehind y (pastItsLine_dict (by rw[Gx,pY];exact lK ‹_› rfl)) ?_);exact aM (h _ y (qk ..))
def Wc{p:Program}{g:World}{w:Around}{t:cI}{b:Shared}{c:Frag}{i C e:ak}{j:Obj}{d:List sS}{n:Nat}{name:Str}{f:aC}{k:Unit->Shared->Prop}(m:c.In b.heap)(l:InstAt b.heap i j C (U (dictOf d n)))(q:j.dict=U e)
 (hs:findIn c (.ref C) "__setattr__"=U (U (.builtin "object.__setattr__"))) (u:plainOver c C=af) (o:takerIn c C name=U ai) (v:hasDictIn c C=af) (hl:(getL name d).isSome=af) (hz:(putL name (s7 g.params name) (.str name (b.toks+1)) f d).length<=1000)
 (h:∀a,a.get? e=U (dictOf (putL name (s7 g.params name) (.str name (b.toks+1)) f d) (putN name d n))->iG e b.heap a->k () {b with heap:=a,toks:=b.toks+2}):
 wpAny (model p g) w (setAttr (.ref i) name f) k t b:=
 set_plain m l hs (Wb (s:={b with toks:=b.toks+1}) m l q u o v hl hz λa r x=>h a r x)
def Wd(n:Str)(hs:Int)(c e:aC):∀a:List sS,(putL n hs c e a).length<=aa a+1:=by
 intro d
 induction d with
 |nil=>
  simp[putL]
 |cons f g b=>
  unfold putL;split
  .simp
  have:=b;simp;assumption
def We:∀{c:List sS},(∀a∈c,∃b t,a.key=.str b t)->∀a∈putL n hs (.str n t) v c,∃b t,a.key=.str b t:=by
 intro g
 induction g with
 |nil=>
  intro _ a d;simp[putL] at d;subst d;exact⟨n,t,rfl⟩
 |cons h i f=>
  intro e a d;unfold putL at d;split at d
  .rcases bN.mp d with rfl|d
   .exact e h (.head _)
   exact e a (.tail _ d)
  rcases bN.mp d with rfl|d
  .exact e a (.head _)
  exact f (λa d=>e a (.tail _ d)) a d
def Wf{d:List sS}(h:∀a∈d,∃c b,a.key=.str c b):d.any (·.refKey)=aA:=by
 rw[Aw];intro a f;let ⟨c,b,e⟩:=h a f;unfold DictEntry.refKey;rw[e];simp
def DY{e:List sS}(h:∀a∈e,∃b c,a.key=.str b c)(n:Str):getL n e=U ((e.find? (·.key.isStr n)).map (·.val)):=by
 unfold getL;split
 .rename_i a d;rw[d];rfl
 rename_i d;rw[d,Wf h];rfl
def O6:∀{d:List sS},(∀a∈d,∃c e,a.key=.str c e)->((putL n hs (.str n e) f d).find? (·.key.isStr b)).map (·.val)=if b=n then U f else(d.find? (·.key.isStr b)).map (·.val):=by
 intro p
 induction p with
 |nil=>
  intro _;unfold putL;rw[jg,List.find?_nil];show rP _ (match (n==b) with|true=>_|false=>_)=_
  by_cases g:b=n
  .subst g;rw[az J,beq_self_eq_true];rfl
  have:(n==b)=aA:=beq_eq_false_iff_ne.mpr λa=>g a.symm
  rw[aB g,this]
 |cons i t m=>
  intro l;have q:=m (λa o=>l a (.tail _ o):∀a∈t,_);let ⟨c,u,r⟩:=l i (.head _);have h:∀k,i.key.isStr k=(c==k):=λk=>by rw[r];rfl
  unfold putL
  by_cases j:c=n
  .subst j;rw[h,beq_self_eq_true,az J,jg,jg];show rP _ (match i.key.isStr b with|true=>_|false=>_)=_;rw[h]
   by_cases g:b=c
   .subst g;rw[az J,beq_self_eq_true];rfl
   have:(c==b)=aA:=beq_eq_false_iff_ne.mpr λa=>g a.symm
   rw[aB g,this]
  have s:i.key.isStr n=aA:=by rw[h];exact beq_eq_false_iff_ne.mpr j
  rw[s,aB ∅,jg,jg,h];cases h2:c==b with
  |true=>
   have:¬b=n:=λa=>j ((beq_iff_eq.mp h2).trans a)
   rw[aB this]
  |false=>exact q
noncomputable def fT(n:Str)(a:V):List (Str×V)->List (Str×V)
 |[]=>[(n,a)]
 |(m,w)::r=>if m=n then(n,a)::r else(m,w)::fT n a r
theorem Ih(n c:Str)(e:V):∀a:List (Str×V),(fT n e a).lookup c=if c=n then U e else a.lookup c
 |[]=>by
  by_cases b:c=n
  .subst b;simp[fT]
  have:(c==n)=aA:=beq_eq_false_iff_ne.mpr b;simp[fT,b,this]
 |(d,w)::r=>by
  unfold fT
  by_cases b:d=n
  .subst b;rw[az J]
   by_cases b:c=d
   .subst b;simp
   have:(c==d)=aA:=beq_eq_false_iff_ne.mpr b;simp[iF,b,this]
  rw[aB b,iF,iF,Ih n c e r]
  by_cases f:c=d
  .subst f;simp[b]
  have:(c==d)=aA:=beq_eq_false_iff_ne.mpr f;simp[this]
structure nH(g:G0):Prop where
 hasDict:hasDictIn g.K g.cls=af
 setter:findIn g.K (.ref g.cls) "__setattr__"=U (U (.builtin "object.__setattr__"))
 plain:plainOver g.K g.cls=af
 makes:makesIn g.K g.cls=af
 keep:keepIn g.K (.ref g.cls)=af
structure gU(g:G0)(n:Str):Prop where
 get:plainGet g.K g.cls n=af
 no:∃at',findIn g.K (.ref g.cls) n=U at'/\noGet g.K at'=af
 set:takerIn g.K g.cls n=U ai
structure lS(g:G0)(n:Str)(fa:ak):Prop where
 get:plainGet g.K g.cls n=af
 find:findIn g.K (.ref g.cls) n=U (U (.ref fa))
 fn:isFn g.K (.ref fa)=af
 keep:keepIn g.K (.ref fa)=af
def Rep.handed(a:Rep h M u d):handedIn u=af:=by intros h M u d _ a;cases a<;>rfl
theorem VR.handed(b:VR M h a u):handedIn u=af:=by
 cases a with
 |d e=>exact Rep.handed b
 |r c=>obtain rfl:u=.ref c:=b;rfl
def Wg:∀{a:List sS},(putL n hs key b a).length=if(a.find? (·.key.isStr n)).isSome then aa a else aa a+1:=by
 intro e
 induction e with
 |nil=>
  exact J
 |cons d f c=>
  unfold putL;rw[jg];cases h:d.key.isStr n with
  |true=>rfl
  |false=>
   rw[aB ∅,iz,c];dsimp only;split<;>rfl
def Wh:∀{a:List (Str×V)},(fT n b a).length=if(a.lookup n).isSome then aa a else aa a+1:=by
 intro g
 induction g with
 |nil=>
  exact J
 |cons h i e=>
  rcases h with⟨d,w⟩
  unfold fT;rw[iF]
  by_cases c:d=n
  .subst c;simp
  have:(n==d)=aA:=beq_eq_false_iff_ne.mpr λf=>c f.symm
  rw[aB c,this,iz,e];split<;>rfl
section
variable {c:C}{ρ:Nm}{k:eV}{rest:dH}{P:eH}{R:d9}{e e₁ e₂ o tg:aT}{v:V}{pos p apos:Pos}{x:Str}{Q:rS}{a da:ak}{dg:List (Str×V)}{n:Str}
def Bs.inst(b:Bs c f)(ho:c.σ a=U (.o da))(i:c.σ da=U (.t dg)):∃d g,InstAt f.heap a ⟨.ref c.cls,U da,.plain,#[]⟩ c.cls (U (dictOf d g))/\f.heap.get? da=U (dictOf d g)/\aa d=aa dg/\(∀e∈d,∃x h,e.key=.str x h)/\
 (∀x v,dg.lookup x=U v->∃u,getL x d=U (U u)/\handedIn u=af/\VR c.M f.heap v u)/\∀x,dg.lookup x=ai->getL x d=U ai:=by
 intros c a da dg f _ b ho i;let ⟨_,_,k⟩:=b.dc a _ ho;obtain⟨_,_,d,g,j,l⟩:=b.dc da _ i;exact⟨d,g,⟨k,rfl,rfl,j⟩,j,l⟩
theorem Bs.jB(a:Bs c d):c.K.In d.heap:=a.base.jB.keeps a.keep
def Ev.attr(C:nH c.toG0)(i:gU c.toG0 n)(h:Ev c ρ o (.r a))(ho:c.σ a=U (.o da))(m:c.σ da=U (.t dg))(q:dg.lookup n=U v)
 (j:eval (.Attribute o n pos) c.env=(do
  let d<-eval o c.env
  standAt pos.atName
  let b<-holding [d] (getAttr d n af)
  letTemporaryGo o d b
  pure b):=by with_unfolding_all rfl):Ev c ρ (.Attribute o n pos) v:=λy g=>
 Attribute_any_ (aS (h y g) (λA u e=>by
  obtain rfl:A=.ref a:=e.r;have f:=g.bs.kp e.k;let ⟨D,E,s,_,_,_,b,_⟩:=f.inst ho m;let ⟨F,x,w,l⟩:=b n v q;let ⟨B,z,p⟩:=i.no;exact get_value f.jB s (GZ i.get).1 (findObj_own C.hasDict z p x) w ⟨e.k.trans (iS u _),l⟩)) j
theorem St.setAttr{b:Shared}{u:aC}{Q:Unit->Shared->Prop}(C:nH c.toG0)(z:gU c.toG0 n)(j:St c ρ b)(F:Lo c b)(ho:c.σ a=U (.o da))(q:c.σ da=U (.t dg))(hw:c.wr da)(hz:aa dg<=100)(p:fD c b.heap u v)
 (h:∀d,St (c.upd da (.t (fT n v dg))) ρ d->Lo (c.upd da (.t (fT n v dg))) d->Ext c b (c.upd da (.t (fT n v dg))) d->Q () d):wpAny c.m c.A (setAttr (.ref a) n u) Q no b:=by
 intros c ρ v a da dg n b u Q _ C z j F ho q hw hz p h;let ⟨g,av,O,au,K,l,H,G⟩:=j.bs.inst ho q;have X:(putL n (s7 c.w.params n) (.str n (b.toks+1)) u g).length<=1000:=aj (Wd n (s7 c.w.params n) (.str n (b.toks+1)) u g) (aj (fG (aj (cj ‹aa g=_›) ‹_›)) (bM J));refine Wc j.bs.jB O J C.setter C.plain z.set C.hasDict (by rw[DY l];rfl) X λB ae P=>?_
 have D:Kx (·=da) b {b with heap:=B,toks:=b.toks+2}:=⟨rfl,rfl,λI o W e=>(P.2 I W).trans e⟩;have s:=We (n:=n) (hs:=s7 c.w.params n) (t:=b.toks+1) (v:=u) l;have S:=(j.bs.dc da _ q).1;have E:∀{u:aC} {v:V},VR c.M b.heap v u->VR c.M B v u:=λp=>p.mono λh=>wM (c:=c) D.keep (λI e=>e▸S) h
 let ⟨R,Y,N⟩:=j.upd F hw q (cn:=.t (fT n v dg)) D (by
  have look:∀x,getL x g=U ((g.find? (·.key.isStr x)).map (·.val)):=λx=>DY l x
  refine⟨_,_,ae,?_,s,λx r e=>?_,λx e=>?_⟩
  .rw[Wg,Wh,K]
   have:(g.find? (·.key.isStr n)).isSome=(dg.lookup n).isSome:=by
    cases h:dg.lookup n with
    |none=>have:=G n h;rw[look] at this;cases f:g.find? (·.key.isStr n) with
     |none=>rfl
     |some T=>rw[f] at this;cases this
    |some r=>obtain⟨y,i,_⟩:=H n r h;rw[look] at i;cases f:g.find? (·.key.isStr n) with
     |none=>rw[f] at i;cases i
     |some T=>rfl
   rw[this]
  .rw[Ih] at e;rw[DY s,O6 l]
   by_cases k:x=n
   .rw[az k] at e⊢;cases e;exact⟨u,rfl,VR.handed p,E p⟩
   rw[aB k] at e⊢;obtain⟨y,i,Z,L⟩:=H x r e;rw[look] at i;exact⟨y,i,Z,E L⟩
  rw[Ih] at e;rw[DY s,O6 l]
  by_cases k:x=n
  .exact ns e (az k)
  rw[aB k] at e⊢;have:=G x e;rw[look] at this;exact this)
 exact h _ R Y N
def iW.attr(C:nH c.toG0)(q:gU c.toG0 n)(h:Ev c ρ o (.r a))(ho:c.σ a=U (.o da))(g:c.σ da=U (.t dg))(hw:c.wr da)(hz:aa dg<=100:=by decide):iW c ρ (.Attribute o n p) v (c.upd da (.t (fT n v dg))) ρ:=λl x d i m=>by
 rw[PySem.assign_Attribute];refine ay (dW (aS (h l d) (λs w b=>ay (lB (ay (dW ?_))))));obtain rfl:s=.ref a:=b.r;exact(d.kp b.k).setAttr C q (i.kp b.k.keep) ho g hw hz (m.keep b.k.keep) λu e j f=>Gs ⟨(j9 b.k).trans f,e,j⟩
def Wi{a:cN}{i:Shared}{Q:cI}(j:attributeBase o n c.env (eval o c.env)=eval o c.env)(k:(apos.endLine==pos.line)=af)(hs:ee a=af)(q:aa a<29)
 (h:wpAny c.m c.A (eval o c.env) (λf d=>∀pl,wpAny c.m c.A (getMethod f n pl) (λb g=>wpAny c.m c.A (callWith pos b.1 b.2 (backTo pos (starEach a c.env)) []) Q no g) no d) no i):wpAny c.m c.A (eval (.Call (.Attribute o n apos) a [] pos) c.env) Q no i:=by
 intros c o pos apos n a i Q _ j k hs q h
 have l:(backTo pos (starEach a c.env)).all (λx=>!x.1)=af:=by
  have:=qx hs pos c.env;rw[Au];intro x r;have:=Aw.mp this x r
  simpa using this
 rw[arm_eval_Call,j];refine ay (kL h (λf d t=>?_) λz z e=>e);refine ay (lB ?_)
 have p:methodCallForm (aa a+([]:List Keyword).length) (backTo pos (starEach a c.env)) (backToKw pos (keywordEach [] c.env))=af:=by
  unfold methodCallForm;rw[l];simp[H9];exact aj ‹_› ∅
 have s:methodCallPos af o c.env apos pos=pure pos:=by unfold methodCallPos;simp[k]
 unfold methodCall;rw[p];refine ay (dW (kL (t _) (λb g u=>?_) λz z e=>e));exact ay (rF s u)
def O7{f:cN}{v:gm}{w:ak}{j:Shared}{Q:cI}(M:lS c.toG0 n w)(p:St c ρ j)(h:Ev c ρ o (.r a))(ho:c.σ a=U (.o da))(I:c.σ da=U (.t dg))(F:dg.lookup n=ai)(y:EvVs c ρ f v)(z:f=[]->v=[])
 (D:attributeBase o n c.env (eval o c.env)=eval o c.env) (E:(apos.endLine==pos.line)=af) (hs:ee f=af) (hz:aa f<29)
 (l:∀b d,Kp j b->nh c b.heap (.ref a::d) (.r a::v)->wpAny c.m c.A (call (.ref w) (.ref a::d)) Q no b):wpAny c.m c.A (eval (.Call (.Attribute o n apos) f [] pos) c.env) Q no j:=by
 refine Wi D E hs hz (aS (h j p) (λG b ⟨i,C⟩ pl=>?_));obtain rfl:G=.ref a:=C;have g:=p.bs.kp i;let ⟨q,H,x,_,_,L,_,K⟩:=g.inst ho I;refine method_fn g.jB x (GZ M.get).1 (GZ M.get).2 M.find (beq_iff_eq.mp M.fn) (by show(lookIn n (dictOf q H)).map _=_;rw[lookIn_dict,K n F];rfl) ?_;cases f with
 |nil=>rw[z J] at l;exact callWith_K0 g.jB M.keep (l b [] i (.cons J .nil))
 |cons e q=>
  have u:=hs;simp only[ee,ye,gQ,uE] at u;exact callWith_K g.base.jB M.keep (aS (y b pos (p.kp i)) (λd B s=>⟨(g.kp s.k).jB,l B d (i.trans s.k) (.cons J s.r)⟩)) (iL _ u.1 q) (qx (by simpa [ee] using u.2) pos c.env)
end
open Mine.Ev renaming attr->Bf
open Mine.iW renaming attr->Bg
abbrev Sg:=ak->Option Cn
structure iN(g:G0)(fa:ak)(fd:FuncData)(body:dH)(names:List Str):Prop extends FnRec g fa fd body where
 bind:∀xs:cQ,aa xs=aa names->bindArgs fd ⟨xs,[]⟩=pure (names.zip xs)
 nd:names.Nodup
 par:Ia fd.scope names=af
 keep:keepIn g.K (.ref fa)=af
def kg(k:G0)(n:Nat)(j:ak)(i:gm)(h:Sg->Prop)(d:D):Prop:=∀a:C,a.toG0=k->n<=a.n->h a.σ->∀b e (f:cI),Bs a b->nh a b.heap e i->(∀c g,Kp b c->Rep c.heap a.M g d->f g c)->Calls a (.ref j) e f b
open Classical in
open Classical in
def kg.of(i:iN g f fd body names)(hl:aa names=aa e)
 (h:∀(a:C) b,a.toG0=g->n<=a.n->tL a.σ->Ex (a.fn fd f b (λZ=>False)) (names.zip e) [body] (λZ Z=>d=.none) (λZ c=>c=d)):kg g (n+1) f e tL d:=λa k x s y m w p j l=>
 O1 i.toFnRec k (by exact aj (jK 1 _) ‹_›) (O:=λZ=>False) (λZ h=>h.elim) p j (i.bind m (by rw[j.length,hl])) i.nd i.par (by rw[j.length,hl]) (λb=>h a b k (by exact gf ‹_›) s) λb v z o u c Z q Z r Z t=>by
  have:c=d:=by
   rcases q with⟨_,h1,h2⟩|h
   .rw[h1,h2]
   exact h
  subst this;exact l o u (r.kx.kp λZ h=>h.elim) t
def fU(p:G0)(n:Nat)(o:ak)(l:gm)(h:bC)(j:Sg->Prop)(i:Sg->Sg->Prop):Prop:=∀a:C,a.toG0=p->n<=a.n->(∀b,h b->a.wr b)->j a.σ->∀c f (g:cI),Bs a c->nh a c.heap f l->
 (∀d e,wU a h c d e->Bs d e->(∀b m,d.σ b=U m->(∃k,a.σ b=U k)\/¬a.M b)->i a.σ d.σ->g .none e)->Calls a (.ref o) f g c
def fU.of(k:iN g j fd body names)(hl:aa names=aa f)
 (h:∀(a:C) e,a.toG0=g->n<=a.n->(∀b,i b->a.wr b)->tL a.σ->Ex (a.fn fd j e i) (names.zip f) [body] (λc Z=>Po a.σ c.σ) (λc d=>d=.none/\Po a.σ c.σ)):fU g (n+1) j f i tL Po:=λa p K m D L t J o l s=>
 O1 k.toFnRec p (by exact aj (jK 1 _) ‹_›) m o l (k.bind t (by rw[l.length,hl])) k.nd k.par (by rw[l.length,hl]) (λe=>h a e p (by exact gf ‹_›) m D) λe I c w N E Z x v r G F=>by
  have u:E=.none/\Po a.σ c.σ:=by
   rw[v];rcases x with⟨_,h1,h2⟩|h
   .exact⟨h2,h1⟩
   exact h
  let ⟨zy,A⟩:=u;cases F;refine s c w r G (λb z y=>?_) A
  by_cases q:a.M b
  .let ⟨H,B⟩:=o.fR b q;exact .inl (r.sn b H z B y)
  exact .inr q
section
variable {c:C}{ρ:Nm}{k:eV}{rest:dH}{P:eH}{R:d9}{e e₁ e₂ o tg:aT}{v:V}{pos p apos:Pos}{f:Str}{Q:rS}{a da fa:ak}{dg:List (Str×V)}{n:Nat}{eW:cN}{vs:gm}{d:D}
def St.O8{b:Shared}(a:St c ρ b){d:aC}{Q:cI}(j:c.env.kindOf f=U .globalImplicit)(i:c.mg f=U d)(h:(f==("__debug__":Str))=aA)(e:Q d b):wpAny c.m c.A (eval (.Name f p) c.env) Q no b:=by
 refine MH a.kind j (loadGlobal_global (mg:=c.mg) (by rw[a.globals];exact a.bs.base.g.keeps a.bs.keep) i e) h
def O9{d:Shared}{Q:cI}(a:St c ρ d)(o:c.mg f=U (.ref fa))(s:keepIn c.K (.ref fa)=af)(q:EvVs c ρ (e::eW) vs)(l:c.env.kindOf f=U .globalImplicit)(n:(f==("__debug__":Str))=aA)(hs:ee (e::eW)=af)
 (j:∀g b,Kp d g->nh c g.heap b vs->wpAny c.m c.A (call (.ref fa) b) Q no g):wpAny c.m c.A (eval (.Call (.Name f p) (e::eW) [] pos) c.env) Q no d:=by
 refine yM (a.O8 l o n ?_);have i:=hs;simp only[ee,ye,gQ,uE] at i;exact callWith_K a.bs.base.jB s (aS (q d pos a) (λb t h=>⟨(a.bs.kp h.k).jB,j t b h.k h.r⟩)) (iL _ i.1 eW) (qx (by simpa [ee] using i.2) pos c.env)
def Ev.call(q:kg c.toG0 n fa vs tL d)(l:c.mg f=U (.ref fa))(t:keepIn c.K (.ref fa)=af)(s:EvVs c ρ (e::eW) vs)(m:n<=c.n)(r:tL c.σ)(j:autoParam (c.env.kindOf f=U .globalImplicit) aI)(k:autoParam ((f==("__debug__":Str))=aA) aI)(hs:autoParam (ee (e::eW)=af) aI):
 Ev c ρ (.Call (.Name f p) (e::eW) [] pos) (.d d):=λw b=>O9 b l t s j k hs λo i a g=>uw<|q c J m r o i _ (b.bs.kp a) g λv x h u=>⟨a.trans h,u⟩
def Ev.DZ{b:Str}{e:Sg->Prop}(u:kg c.toG0 n fa (.r a::vs) e d)(M:lS c.toG0 b fa)(h:Ev c ρ o (.r a))(ho:c.σ a=U (.o da))(p:c.σ da=U (.t dg))(l:dg.lookup b=m9)(w:EvVs c ρ eW vs)(q:n<=c.n)(v:e c.σ)(x:eW=[]->vs=[]:=by intro h;first|rfl|cases h)
 (k:autoParam (attributeBase o b c.env (eval o c.env)=eval o c.env) aI) (m:autoParam ((apos.endLine==pos.line)=af) aI) (hs:autoParam (ee eW=af) aI) (hz:aa eW<29:=by decide):Ev c ρ (.Call (.Attribute o b apos) eW [] pos) (.d d):=λC g=>
 O7 M g h ho p l w x k m hs hz λs z f i=>uw<|u c J q v s _ _ (g.bs.kp f) i λA B j y=>⟨f.trans j,y⟩
structure Ii(c:C)(O:bC)(c':C):Prop where
 eq:c'={c with M:=c'.M,σ:=c'.σ,wr:=c'.wr}
 mm:∀a,c.M a->c'.M a
 ww:∀a,c.wr a->c'.wr a
 sg:∀a cn,¬O a->c.σ a=U cn->c'.σ a=U cn
 nw:∀a cn,c'.σ a=U cn->¬c'.wr a->(∃qB,c.σ a=U qB)/\¬c.wr a
def gB.DZ(B:fU c.toG0 n fa (.r a::vs) g tL Po)(M:lS c.toG0 m fa)(h:Ev c ρ o (.r a))(ho:c.σ a=U (.o da))(F:c.σ da=U (.t dg))(G:dg.lookup m=m9)(q:EvVs c ρ eW vs)(A:n<=c.n)(l:∀a,g a->c.wr a)(p:tL c.σ)(s:eW=[]->vs=[]:=by intro h;first|rfl|cases h)
 (x:autoParam (attributeBase o m c.env (eval o c.env)=eval o c.env) aI) (y:autoParam ((apos.endLine==pos.line)=af) aI) (hs:autoParam (ee eW=af) aI) (hz:aa eW<29:=by decide):
 gB c ρ (.Call (.Attribute o m apos) eW [] pos) (λb v=>Ii c g b/\(∀a i,b.σ a=U i->(∃j,c.σ a=U j)\/¬c.M a)/\v=.d .none/\Po c.σ b.σ):=λL k E=>
 O7 M k h ho F G q s x y hs hz λI K f u=>uw<|B c J A l p I _ _ (k.bs.kp f) u λb N e z C D=>by
  let ⟨w,H⟩:=(k.kp f).after (E.kp f.keep) l e z;exact⟨b,.d .none,(j9 f).trans (e.ext l),w,H,.none,⟨e.eq,e.mm,e.ww,e.sg,e.nw⟩,C,rfl,D⟩
end
open Mine.fU renaming of->k6
open Mine.Ev renaming call->nJ
open Mine.kg renaming of->o6
open Mine.gB renaming DZ->Ij
def Wj(C:ak)(b:cQ)(a:List (Str×aC)):(Df "type.__call__" ⟨.ref C::b,a⟩).weight=1:=by rfl
def Wk(C:ak)(b:cQ)(a:List (Str×aC)):(Df "type.__call__" ⟨.ref C::b,a⟩).cUnits=1:=by rfl
theorem Bs.add(c:Bs d g)(k:Kp g f)(m:g.heap.get? e=ai)(q:CR d.toG0 (λb=>d.M b\/b=e) f.heap e cn):Bs (d.add e cn) f:=by
 intros d g f e cn _ c k m q;have n:=c.new m;have z:∀{t:aC} {s:D},Rep g.heap d.M t s->Rep f.heap (λb=>d.M b\/b=e) t s:=λB=>B.mono λb i x Z a=>⟨k.keep b i a,λh=>h.elim x λh=>by subst h;exact ns m a⟩
 let ⟨w,A,E⟩:=q.wQ;refine⟨λb i a=>k.keep b i (c.keep b i a),c.base,c.room,λb j=>?_,λb h=>.inl (c.xm b h),λb j=>?_,λb r a=>?_,λb h=>?_,λb h=>.inl (c.bm b h)⟩
 .rcases j with j|rfl
  .let ⟨i,a⟩:=c.fR b j;exact⟨i,k.keep b i a⟩
  exact⟨w,A⟩
 .rcases j with j|rfl
  .exact c.jS b j
  show d.h₀.get? b=ai;cases a:d.h₀.get? b with
  |none=>rfl
  |some i=>exact ns m (c.keep b i a)
 .by_cases h:b=e
  .subst h;simp only[C.add,if_true] at a;cases a;exact⟨.inr J,λo=>n (c.xm b o),q⟩
  simp only[C.add,h,if_false] at a;let ⟨l,p,y⟩:=c.dc b _ a;exact⟨.inl l,p,y.mono z (k.keep b)⟩
 rcases h with h|rfl
 .obtain⟨l,p,r,a⟩:=c.iR b h;have u:b≠e:=λv=>n (v▸l)
  exact⟨.inl l,p,r,by simp[C.add,u,a]⟩
 exact⟨.inr J,λo=>n (c.xm b o),cn,by simp[C.add]⟩
def VR.grow(e:VR M h v u)(i:∀b a,h.get? b=U a->d.get? b=U a)(j:h.get? c=ai):VR (λb=>M b\/b=c) d v u:=
 e.mono λe=>e.mono λb a g z f=>⟨i b a f,λh=>h.elim g λh=>by subst h;exact ns j f⟩
def Pa(i:G0)(n:Nat)(h:ak)(g:gm)(f:ak->ak->Sg->Sg->Prop):Prop:=∀b a,b≠a->fU i n h (.r b::g) (λe=>e=a) (λc=>c b=U (.o a)/\c a=U (.t [])) (λc d=>d b=U (.o a)/\f b a c d)
inductive Pb(c:C)(Po:ak->ak->Sg->Sg->Prop)(c':C)(v:V):Prop
 |mk (x dx:ak) (A:Ii c (λz=>False) c') (nx:¬c.M x) (nd:¬c.M dx) (e:c'.σ x=U (.o dx)) (ev:v=.r x) (po:∃bg,(∀b,bg b=ai->c.σ b=ai)/\Po x dx bg c'.σ) (wx:c'.wr x) (wd:c'.wr dx) (nw:∀a cn,c'.σ a=U cn->(∃qB,c.σ a=U qB)\/¬c.M a)
def gB.make{b:C}{V:Nm}{c:aT}{ax:cN}{vs:gm}{n:Nat}{fi:ak}{R:Str}{cp b6:Pos}{T:ak->ak->Sg->Sg->Prop}(a6:nH b.toG0)(b4:Pa b.toG0 n fi vs T)(cb:b.mg R=U (.ref b.cls))(hi:findIn b.K (.ref b.cls) "__init__"=U (U (.ref fi)))(cf:typeIn b.K (.ref fi)=U (.type "function"))
 (b3:EvVs b V (c::ax) vs) (X:n+1<=b.n) (b1:autoParam (b.env.kindOf R=U .globalImplicit) aI) (cq:autoParam ((R==("__debug__":Str))=aA) aI) (hs:autoParam (ee (c::ax)=af) aI):
 gB b V (.Call (.Name R b6) (c::ax) [] cp) (Pb b T):=by
 intros b V c ax vs n fi R cp b6 T _ a6 b4 cb hi cf b3 X b1 cq hs;exact λc6 a3 dk=>by
  refine O9 a3 cb a6.keep b3 b1 cq hs λdz N W cz=>uw ?_
  have y:=a3.bs.kp W;have bp:=y.jB;obtain⟨i,x,p,q,s⟩:=dz;refine make_core (makes_of bp a6.makes) (looks_findIn bp hi) (λself=>bind_fn bp self cf) (.inl J) ?_;obtain⟨a,av⟩:∃a,a=i.objs.size:=⟨_,rfl⟩;have cm:(i.push emptyDict).objs.size=a+1:=by rw[av];exact wj ..
  have au:Kp ⟨i,x,p,q,s⟩ ⟨i.push emptyDict,x,p,q,s⟩:=⟨rfl,rfl,λ_ _ c=>cG _ c⟩;have a9:Kp ⟨i.push emptyDict,x,p,q,s⟩ ⟨(i.push emptyDict).push (instObj b.cls a),x,p,q,s⟩:=⟨rfl,rfl,λ_ _ c=>cG _ c⟩;have n1:i.get? a=ai:=by rw[av];exact dX _
  have bk:(i.push emptyDict).get? (a+1)=ai:=by rw[<-cm];exact dX _
  have b2:i.get? (a+1)=ai:=fL au bk;have dr:(i.push emptyDict).get? a=U emptyDict:=by rw[av];exact dw _ J
  have dA:((i.push emptyDict).push (instObj b.cls a)).get? (a+1)=U (instObj b.cls a):=by rw[<-cm];exact dw _ J
  rw[<-av];have de:Bs (b.add a (.t [])) ⟨i.push emptyDict,x,p,q,s⟩:=y.add au n1 ⟨[],0,dr,rfl,λc cw=>by simp at cw,λdv dE c=>by simp at c,λdv _=>rfl⟩;have F:Bs ((b.add a (.t [])).add (a+1) (.o a)) ⟨(i.push emptyDict).push (instObj b.cls a),x,p,q,s⟩:=de.add a9 bk dA;have bj:¬b.M (a+1):=y.new b2;have bo:¬b.M a:=y.new n1;have du:a+1≠a:=Nat.succ_ne_self _;obtain⟨z,D⟩:∃z:Mine.C,z={((b.add a (.t [])).add (a+1) (.o a)) with A:=b.A.under (.builtin "type.__call__" ⟨.ref b.cls::N,[]⟩),n:=b.n-1}:=⟨_,rfl⟩
  have dT:Bs z ⟨(i.push emptyDict).push (instObj b.cls a),x,p,q,s⟩:=by
   rw[D];refine⟨F.keep,F.base,⟨y.room.hh,?_,?_⟩,F.fR,F.xm,F.jS,F.dc,F.iR,F.bm⟩
   .show b.A.units+(Df "type.__call__" ⟨.ref b.cls::N,[]⟩).cUnits+50*(b.n-1)+500<cLine;rw[Wk];exact ND (k:=1) (aj (jK 1 n) X) y.room.u J
   show b.A.depth+(Df "type.__call__" ⟨.ref b.cls::N,[]⟩).weight+(b.n-1)<recursionLimit;rw[Wj];exact NF (aj (jK 1 n) X) y.room.d
  have c2:z.σ (a+1)=U (.o a):=by rw[D];simp[C.add]
  have dj:z.σ a=U (.t []):=by rw[D];simp[C.add]
  have c4:nh z ((i.push emptyDict).push (instObj b.cls a)) (.ref (a+1)::N) (.r (a+1)::vs):=by
   rw[D];refine .cons J (d8.mono (λ{bt a4} j=>?_) cz);have ct:VR (λf=>b.M f\/f=a) (i.push emptyDict) (.d a4) bt:=VR.grow (v:=.d a4) j au.keep n1;exact VR.grow (v:=.d a4) ct a9.keep bk
  have:=b4 (a+1) a du z (by rw[D];rfl) (by rw[D];exact kJ X) (λe c=>by rw[D,c];exact .inl (.inr J)) ⟨c2,dj⟩ ⟨(i.push emptyDict).push (instObj b.cls a),x,p,q,s⟩ _
   (λbt P=>bt=.none/\OX b V (Pb b T) c6 (.ref (a+1)) P) dT c4 λdC P l G c7 ⟨dt,df⟩=>⟨rfl,?_⟩
  .have dq:z.m=b.m:=by rw[D];rfl
   unfold Mine.Calls at this;rw[dq] at this;have c5:z.A=b.A.under (.builtin "type.__call__" ⟨.ref b.cls::N,[]⟩):=by rw[D]
   rw[c5] at this;refine F9 this λd0 P b5=>?_
   rcases d0 with c|(dE|_|_|_)<;>first|exact b5.elim|exact b5
  obtain⟨Y,Q,aw,rfl⟩:∃Y Q aw,dC={z with M:=Y,σ:=Q,wr:=aw}:=⟨_,_,_,l.eq⟩;subst D;have S:Kp (⟨i,x,p,q,s⟩:Shared) ⟨(i.push emptyDict).push (instObj b.cls a),x,p,q,s⟩:=au.trans a9;have ae:∀f h,i.get? f=U h->¬f=a:=λf h c j=>ns (j▸n1) c
  have a8:∀f h,i.get? f=U h->¬f=a+1:=λf h c j=>ns (j▸b2) c
  have H:wU b (λ_=>False) ⟨i,x,p,q,s⟩ {b with M:=Y,σ:=Q,wr:=aw} P:=by
   refine⟨rfl,⟨l.kx.gens,l.kx.os,λf h _ c=>l.kx.keep f h (ae f h c) (S.keep f h c)⟩,λe h c=>l.al e h (S.keep e h c),λe h c g=>?_,λe I=>l.mm e (.inl (.inl I)),λe h c g=>?_,λe g=>l.ww e (.inl (.inl g)),λe B _ c=>?_,λe h B c g=>?_,λe B c n=>?_⟩
   .rcases l.m e h (S.keep e h c) g with(g|g)|g
    .exact g
    .exact aV g (ae e h c)
    exact aV g (a8 e h c)
   .rcases l.w e h (S.keep e h c) g with(g|g)|g
    .exact g
    .exact aV g (ae e h c)
    exact aV g (a8 e h c)
   .have I:=(y.dc e B c).1;have Z:¬e=a:=λj=>bo (j▸I)
    have a0:¬e=a+1:=λj=>bj (j▸I)
    exact l.sg e B Z (by simp[C.add,Z,a0,c])
   .let ⟨E,O⟩:=l.sn e h B (S.keep e h c) g;simp only[C.add,ae e h c,a8 e h c,if_false] at O;exact⟨E,O⟩
   let ⟨dp,a7⟩:=l.nw e B c n;let ⟨E,O⟩:=dp;have Z:¬e=a:=λj=>a7 (.inl (.inr j))
   have a0:¬e=a+1:=λj=>a7 (.inr j)
   simp only[C.add,Z,a0,if_false] at O;exact⟨⟨E,O⟩,λj=>a7 (.inl (.inl j))⟩
  have cx:Bs {b with M:=Y,σ:=Q,wr:=aw} P:=⟨G.keep,y.base,y.room,G.fR,G.xm,G.jS,G.dc,G.iR,G.bm⟩;let ⟨c0,dy⟩:=(a3.kp W).after (dk.kp W.keep) (λ_ g=>g.elim) H cx
  have di:∀f,(if f=a+1 then U (Cn.o a) else if f=a then U (Cn.t []) else b.σ f)=ai->b.σ f=ai:=λf L=>by
   split at L
   .cases L
   split at L
   .cases L
   exact L
  have c3:∀f B,Q f=U B->(∃E,b.σ f=U E)\/¬b.M f:=λf B c=>by
   rcases c7 f B c with⟨E,g⟩|g
   .have a5:(if f=a+1 then U (Cn.o a) else if f=a then U (Cn.t []) else b.σ f)=U E:=g;split at a5
    .rename_i j;exact .inr (j▸bj)
    split at a5
    .rename_i j;exact .inr (j▸bo)
    exact .inl ⟨E,a5⟩
   exact .inr λI=>g (.inl (.inl I))
  exact⟨_,.r (a+1),(j9 W).trans (H.ext λ_ g=>g.elim),c0,dy,rfl,a+1,a,⟨rfl,H.mm,H.ww,H.sg,H.nw⟩,bj,bo,dt,rfl,⟨_,di,df⟩,l.ww _ (.inr J),l.ww _ (.inl (.inr J)),c3⟩
inductive u0:aT->gh->List Ah->Pos->Sem aC->Prop
 |l {nB gens scope pos}:u0 (.ListComp nB gens scope pos) scope gens pos (newList [])
 |s {nB gens scope pos}:u0 (.SetComp nB gens scope pos) scope gens pos (newSet (.type "set"))
 |d {k v gens scope pos}:u0 (.DictComp k v gens scope pos) scope gens pos newDict
def Wl(f:C)(h:Option (aC->Sem Unit))(d:ak)(e:cI)(g:aC)(b:Shared):Prop:=match h with
 |none=>∀a,iG d b.heap a->e g {b with heap:=a}
 |some j=>wpAny f.m f.A (j g) (λz c=>∃i,c.heap.Ns d i/\∀a,iG d c.heap a->e .none {c with heap:=a}) no b
def Cp(a:C)(o:Nm)(j:aT)(n:Cn):Prop:=∃scope f i l,u0 j scope f i l/\firstAsync f=aA/\∀d (h:Option (aC->Sem Unit)) (k:cI),St a o d->
 (∀b c e,Kp d e->d.heap.get? b=ai->d.heap.get? c=ai->b≠c->(∃p,e.heap.Ns c p)->CR a.toG0 (λg=>(a.M g\/g=c)\/g=b) e.heap b n->Wl a h c k (.ref b) e)->
 wpAny a.m a.A (comprehension j scope a.env (firstIterPos f i) l aA (firstIter f a.env) h) k no d
theorem u0.eval(h:u0 a scope gens pos acc)(c:firstAsync gens=aA)(b:Env):PySem.eval a b=comprehension a scope b (firstIterPos gens pos) acc aA (firstIter gens b) ai:=by
 rw[<-c];cases h<;>rfl
def u0.use(h:u0 a scope gens pos acc)(c:firstAsync gens=aA)(b:Env)(u:aC->Sem Unit):evalThenUse a b u=(comprehension a scope b (firstIterPos gens pos) acc aA (firstIter gens b) (U u)>>=λz=>pure ()):=by
 rw[<-c];cases h<;>rfl
def Wm{h:bY}{e:ak}{i:Str->Option aC}(n:h.Ns e i):∀a,h.get? e=U a->yP a:=λa g=>by
 let ⟨j,m,o,d,c,_⟩:=n;rw[g] at d;cases d;exact⟨λf=>by let ⟨l,k,b⟩:=f;exact(by rw[c] at b;cases b),λp b=>(by rw[c] at b;cases b)⟩
section
variable {c:C}{ρ:Nm}{e:aT}{cn:Cn}{x:Str}{p pos:Pos}
def CR.Wn{h:Shared}(l:b≠d)(j:iG d h.heap f)(m:CR c.toG0 (λa=>(c.M a\/a=d)\/a=b) h.heap b cn):CR c.toG0 (λa=>c.M a\/a=b) f b cn:=
 m.mono (λk=>k.mono λa n i z e=>⟨(j.2 a λg=>i (.inl (.inr g))).trans e,λg=>i (g.elim (λg=>.inl (.inl g)) .inr)⟩) λn e=>(j.2 b l).trans e
def Cp.new(h:Cp c ρ e cn):gp c ρ e cn:=λq n=>by
 let ⟨scope,w,v,u,m,j,k⟩:=h;revert k;intro h;rw[m.eval j];exact h q ai _ n λi t s a o l f z p x b=>⟨⟨a.gens,a.os,λd r e=>(b.2 d λg=>ns (g▸l) e).trans (a.keep d r e)⟩,i,rfl,o,p.Wn f b⟩
def Cp.Wo(h:Cp c ρ e cn)(w:gH c x)(hs:swapsWith e (U (.Name x p)) pos.line c.env=pure af):yS c ρ (.Assign [.Name x p] e pos) x cn:=by
 intros c ρ e cn x p pos _ h w hs;exact λN f O=>by
  let ⟨scope,Y,V,T,K,P,Q⟩:=h;revert Q;intro h;rw[exec_Assign_Name_used x p e pos hs,K.use P];refine ay (lB (ay (ay (h N _ _ f λg b X S y l A B L=>?_))));let ⟨q,H⟩:=B;let ⟨k,i,C⟩:=f.add O S y (cn:=cn) (L.mono (λa=>a.lM λW h=>h.elim (λh=>.inl (.inl h)) .inr) λZ e=>e);have t:¬(c.add g cn).M b:=λa=>a.elim (f.bs.new l) λa=>A a.symm
  refine CB (k.store (c:=c.add g cn) i w (v:=.r g) J λj n u D=>?_);have s:j.heap.Ns b q:=H.at' λm e=>n.keep b m (λa=>t (k.bs.xm b (i.yx b a))) e
  refine⟨q,s,λF E=>aM (aM ?_)⟩;have o:Kx (·=b) j {j with heap:=F}:=⟨rfl,rfl,λd m G e=>(E.2 d G).trans e⟩;let ⟨R,I⟩:=u.yP D o (λd e=>e▸Wm s) (λd e=>e▸f.bs.tB l) (λd e=>e▸t);exact⟨rfl,g,y,(C.trans (.tH n k i u)).step (wr:=[b]) (o.mono λd e=>e▸.head _) (λd z=>dh.mp z▸l),R,I⟩
end
open Mine.Cp renaming Wo->yU
section
variable {c:C}{ρ:Nm}{e:aT}{cn:Cn}{x:Str}{p pos:Pos}{st:Stmt}
def yS.data(h:yS c ρ st x (.l a)):OW c ρ st x (.d (.lst a)):=by
 intros c ρ x st a _ h;exact λP g B=>aS (h P g B) (λS v K=>by
  obtain⟨F,j,m,z,f,p⟩:=K;have Q:=g.bs.new m;have I:=g.bs.DT m;have y:∀{k:aC} {w:D},Rep v.heap (c.add j (.l a)).M k w->Rep v.heap c.M k w:=λi=>i.lM λb h=>.inl h
  have G:∀b cn,c.σ b=U cn->(c.add j (.l a)).σ b=U cn:=λb cn e=>by
   have:b≠j:=λA=>by rw[A,I] at e;cases e
   simp[C.add,this,e]
  obtain⟨_,_,T,E,N,i⟩:=f.bs.dc j (.l a) (by simp[C.add]);refine⟨F,⟨rfl,z.kx,z.al,λZ Z Z h=>h,λZ Z Z h=>h,λZ Z h=>h,λZ Z Z Z Z Z h=>h,λZ Z cn Z h=>⟨cn,h⟩,λZ cn h m=>⟨⟨cn,h⟩,m⟩⟩,⟨⟨f.bs.keep,g.bs.base,g.bs.room,λb R=>f.bs.fR b (.inl R),g.bs.xm,g.bs.jS,λb cn e=>?_,g.bs.iR,g.bs.bm⟩,f.kind,f.globals,f.builtins,f.inj,f.qo,λs O e=>?_⟩,⟨p.ns,p.yx,p.cell⟩⟩
  .let ⟨o,n,H⟩:=f.bs.dc b cn (G b cn e);let ⟨L,J,_⟩:=g.bs.dc b cn e;exact⟨L,J,H.mono (λi=>y i) λZ e=>e⟩
  by_cases q:s=x
  .subst q;rw[rW] at e;cases e;obtain⟨o,n,k,t,u⟩:=f.vars s (.r j) rW;obtain rfl:k=.ref j:=u;exact⟨o,n,_,t,.lst E Q N (i.lM λb h=>.inl h)⟩
  rw[gI q] at e;obtain⟨o,n,k,t,u⟩:=f.vars s O (by rw[gI q];exact e);exact⟨o,n,k,t,u.mono λi=>y i⟩)
def gp.f(h:gp c ρ e (.l ds)):cF c ρ e ds:=λm i=>aS (h m i) (λx q a=>by obtain⟨g,n,p,b,j,d,k,o⟩:=a;exact⟨g,n,j,p,b,d,k,o⟩)
def Cp.comp{k n iter:aT}{m:cN}{scope:gh}{j:aH}{e:List (aH)}(q:aa e=aa j)(hz:aa e.flatten<=bf)(p:It c ρ iter j)
 (o:∀a f M g (i:Nat) d b,j[i]?=U d->e[i]?=U b->TB (c.into scope a f M g) (fj scope ρ) n m d (λh=>∃x,Ev (c.into scope a f M g) h k (.d x)/\b=[x]) (b=[]))
 (r:kX c.env.kindOf (λx=>(ρ.lookup x).isSome) scope=af) (hs:∀x,foldedSetIterable iter c.env x=pure x):Cp c ρ (.ListComp k [⟨n,iter,m,0⟩] scope pos) (.l e.flatten):=by
 intros c ρ pos k n iter m scope j e _ q hz p o r hs;exact⟨scope,_,pos,_,.l,rfl,λH u G C s=>OO q hz C p.z o r hs λw a v D A E B i F y t=>by
  have:=s w a v A E B t y ⟨D,i,hz,F⟩;cases u<;>exact this⟩
theorem Cp.map{n:Type}{ts:List n}{enc g:n->D}{q:n->Bool}{r t iter:aT}{ifs:cN}{scope:gh}(s:It c ρ iter (ts.map enc))
 (o:∀f i M j a,a∈ts->∃b,iV (c.into scope f i M j) t (enc a) b/\(∀p∈b,(fj scope ρ).lookup p.1=ai)/\lP (c.into scope f i M j) (b++fj scope ρ) ifs (q a)/\(q a=af->Ev (c.into scope f i M j) (b++fj scope ρ) r (.d (g a))))
 (hz:aa ts<=bf) (C:kX c.env.kindOf (λx=>(ρ.lookup x).isSome) scope=af) (hs:autoParam (∀x,foldedSetIterable iter c.env x=pure x) lH):Cp c ρ (.ListComp r [⟨t,iter,ifs,0⟩] scope pos) (.l ((ts.filter q).map g)):=by
 have u:(ts.map λa=>if q a then[g a] else[]).flatten=(ts.filter q).map g:=by
  clear s o hz
  induction ts with
  |nil=>rfl
  |cons a ts w=>cases h:q a<;>simp[h,w]
 rw[<-u];refine Cp.comp (by simp) ?_ s (λf i M j B E F k m=>?_) C hs
 .rw[u,aP];exact aj (fZ _ _) hz
 rw[cC] at k m;cases ht:ts[B]? with
 |none=>rw[ht] at k;cases k
 |some a=>
  rw[ht] at k m;simp only[AP,AJ] at k m;subst k m;let ⟨b,A,v,y,z⟩:=o f i M j a (iZ ht);exact⟨b,q a,A,v,y,λe=>⟨_,z e,by rw[az e]⟩,λe=>by rw[e];rfl⟩
def Wq(g c:aC)(e:Env):
 compTurn (.ListComp nB [⟨f,iter,ifs,0⟩,⟨d,a,b,0⟩] scope pos) 1 g c e=uV (.ListComp nB [⟨f,iter,ifs,0⟩,⟨d,a,b,0⟩] scope pos) 1 d a b (uU (.ListComp nB [⟨f,iter,ifs,0⟩,⟨d,a,b,0⟩] scope pos) c e) g c e:=rfl
def Wr(i c:aC)(e:Env):
 compTurn (.ListComp f [⟨d,iter,b,0⟩,⟨h,a,g,0⟩] scope pos) 0 i c e=uV (.ListComp f [⟨d,iter,b,0⟩,⟨h,a,g,0⟩] scope pos) 0 d iter b (Ba (.ListComp f [⟨d,iter,b,0⟩,⟨h,a,g,0⟩] scope pos) 0 a c e) i c e:=by
 intros pos f d iter h a b g scope i c e;unfold uV Ba;simp only[bind_assoc];rfl
def Cp.Pc{w y iter u p:aT}{t s:cN}{scope:gh}{ds:aH}{v:List (aH)}(G:aa v=aa ds)(hz:aa v.flatten<=bf)(F:It c ρ iter ds)
 (E:∀b f M g (i:Nat) d a,ds[i]?=U d->v[i]?=U a->TB (c.into scope b f M g) (fj scope ρ) y t d (λq=>∃(m:aH) (j:List (aH)),It (c.into scope b f M g) q p m/\aa j=aa m/\a=j.flatten/\∀(n:Nat) k h,m[n]?=U k->j[n]?=U h->TB (c.into scope b f M g) q u s k (λr=>∃x,Ev (c.into scope b f M g) r w (.d x)/\h=[x]) (h=[])) (a=[]))
 (K:kX c.env.kindOf (λx=>(ρ.lookup x).isSome) scope=af) (hs:∀x,foldedSetIterable iter c.env x=pure x) (I:∀o x,foldedSetIterable p o x=pure x):Cp c ρ (.ListComp w [⟨y,iter,t,0⟩,⟨u,p,s,0⟩] scope pos) (.l v.flatten):=by
 intros c ρ pos w y iter u _ p t s scope ds v G hz F E K hs I;intros p t s scope ds v _ G hz F E K hs I;refine⟨scope,_,pos,_,.l,rfl,λc5 b4 c3 bj b2=>?_⟩;let ⟨cq,a9,b1,b3⟩:=DO K;refine DN (H:=λ_=>False) (hH:=λ_ A=>A.elim) (rY:=yR) (e:=.ListComp w [⟨y,iter,t,0⟩,⟨u,p,s,0⟩] scope pos) (inner:=λbk o=>Ba (.ListComp w [⟨y,iter,t,0⟩,⟨u,p,s,0⟩] scope pos) 0 p bk o) (uX:=λa=>a={cls:=.type "list",data:=.seq #[]}) v G .l J Wr hs cq a9 b1 b3 bj F.z
  (λcw c7 a7=>CD (a7 _ J) ∅) (λa e=>by subst e;rfl) (λW cw B a e bp _=>by subst e;exact⟨#[],⟨0,bp⟩,by decide,.nil⟩) (λW B D C=>HZ D C) ?_ hz ?_
 .intro b f M g B D C i d a a0 a4;intros b f M g B i d a _ D C a0 a4;obtain⟨ae,a6,Q,Y,ax,R,a3⟩:=E b f M g i d a a0 a4;intros ae a6 _ Q Y ax R a3;refine⟨ae,a6,Q,Y,ax,λe=>?_,a3⟩;let ⟨m,j,av,Z,V,S⟩:=R e;intros m j _ av Z V S;subst V;refine(nC.nest (e:=.ListComp w [⟨y,iter,t,0⟩,⟨u,p,s,0⟩] scope pos) (tg:=u) (ifs:=s) Z .l J (λc6=>Wq ..) (I _) (HZ D C) av λn k h au P=>?_).at;intros n k h _ au P;obtain⟨L,T,X,a5,N,aw,O⟩:=S n k h au P;intros L T _ X a5 N aw O;refine⟨L,T,X,a5,N,λe=>?_,O⟩;let ⟨x,b5,zy⟩:=aw e;exact nC.OH D C b5
 intro W B b b6 _ _ cb cp cz ct a8 cm bt cf c0;let ⟨cx,i,c4,c2⟩:=cm;have:=b2 B b b6 cp cz ct a8 bt ⟨cx,i,hz,c2.lM λbo A=>A.elim (λA=>A.elim (cb bo) λe=>e▸cf) λe=>e▸c0⟩;cases b4<;>exact this
end
open Mine.Cp renaming map->Bh
open Mine.yS renaming data->Ik
noncomputable def C.adds(b:C)(τ:Sg):C:={b with M:=λa=>b.M a\/τ a≠ai,σ:=λa=>match τ a with|some c=>U c|none=>b.σ a,wr:=λa=>b.wr a\/τ a≠ai}
def C.Il{d:C}(h:c b=U a):(d.adds c).σ b=U a:=by simp[C.adds,h]
def C.yV{c:C}(h:a b=ai):(c.adds a).σ b=c.σ b:=by simp[C.adds,h]
def Im{a:Type}{b:Option a}{d:a}(h:b=U d):b≠ai:=λc=>ns c h
def Pd{e:C}{a:Sg}{b:ak}{c:Cn}(d:(e.adds a).σ b=U c):a b=U c\/(a b=ai/\e.σ b=U c):=by
 cases h:a b with
 |some f=>exact .inl ((C.Il h).symm.trans d)
 |none=>exact .inr ⟨rfl,(C.yV h).symm.trans d⟩
theorem St.adds{g:C}{w:Nm}{j n:Shared}{τ:Sg}(h:St g w j)(y:Lo g j)(l:Kp j n)(F:∀d e,τ d=U e->j.heap.get? d=ai)(v:∀d e,τ d=U e->CR g.toG0 (λb=>g.M b\/τ b≠ai) n.heap d e):St (g.adds τ) w n/\Lo (g.adds τ) n/\Ext g j (g.adds τ) n:=by
 intros g w j n τ _ h y l F v;have t:∀d,τ d≠ai->j.heap.get? d=ai:=λd a=>(AQ.mp a).elim (F d)
 have r:∀d,τ d≠ai->¬g.M d:=λd a=>h.bs.new (t d a)
 have o:∀b f,j.heap.get? b=U f->τ b=ai:=λb f c=>rR λi=>ns (t b i) c
 have E:∀{x:aC} {A:D},Rep j.heap g.M x A->Rep n.heap (λb=>g.M b\/τ b≠ai) x A:=λI=>I.mono λb f p Z c=>⟨l.keep b f c,λa=>a.elim p λa=>a (o b f c)⟩
 have G:Bs (g.adds τ) n:=⟨λb f c=>l.keep b f (h.bs.keep b f c),h.bs.base,h.bs.room,λb k=>k.elim (λk=>(h.bs.fR b k).imp λf c=>l.keep b f c) λk=>(AQ.mp k).elim λe c=>(v b e c).wQ.imp λZ i=>i.1,λb a=>.inl (h.bs.xm b a),λb k=>k.elim (h.bs.jS b) λk=>h.bs.tB (t b k),
  λb q c=>(Pd c).elim (λa=>⟨.inr (Im a),λs=>r b (Im a) (h.bs.xm b s),v b _ a⟩) λi=>have m:=h.bs.dc b _ i.2;⟨.inl m.1,m.2.1,m.2.2.mono E (l.keep b)⟩,
  λb a=>a.elim (λa=>have m:=h.bs.iR b a;⟨.inl m.1,m.2.1,m.2.2.imp λe c=>(C.yV (rR λi=>r b i m.1)).trans c⟩) λa=>(AQ.mp a).elim λe c=>⟨.inr a,λs=>r b a (h.bs.xm b s),e,C.Il c⟩,λb a=>.inl (h.bs.bm b a)⟩
 have z:=h.gen (M':=λb=>g.M b\/τ b≠ai) (σ':=(g.adds τ).σ) (wr':=(g.adds τ).wr) (B':=g.B) y G (λb x H=>H.keeps l.keep) (λf c=>l.keep _ f c) E;exact⟨z.1,z.2,rfl,l.kx,λb f c=>⟨f,l.keep b f c⟩,λb f c a=>a.elim id λa=>aV (o b f c) a,λb f c a=>a.elim id λa=>aV (o b f c) a,λZ Z a=>.inl a,λb f q u K L c=>(C.yV (o b f u)).trans c,λb f q u c=>⟨q,(C.yV (o b f u)).symm.trans c⟩,
  λb q c p=>(Pd c).elim (λa=>aV (.inr (Im a)) p) λi=>⟨⟨_,i.2⟩,λJ=>p (.inl J)⟩⟩
inductive Ws(c:C)(Good:ak->Sg->Prop)(s:Shared)(x:aC)(s':Shared):Prop
 |mk (k:Kp s s') (a:ak) (τ:Sg) (e:x=.ref a) (n:∀b cn,τ b=U cn->s.heap.get? b=ai) (r:∀b cn,τ b=U cn->CR c.toG0 (λb=>c.M b\/τ b≠ai) s'.heap b cn) (g:Good a τ)
def r7(a:C)(d:Nm)(c:aT)(Good:ak->Sg->Prop):Prop:=∀b,St a d b->wpAny a.m a.A (eval c a.env) (Ws a Good b) no b
def r7.m{g:C}{k:Nm}{f:aT}{Good:ak->Sg->Prop}(h:r7 g k f Good):gB g k f (λe d=>∃c a,e=g.adds a/\d=.r c/\Good c a/\∀b,a b≠ai->¬g.M b/\g.σ b=ai):=by
 intros g k f Good _ h;exact λv i n=>aS (h v i) (λx y s=>by
  obtain⟨w,c,a,f,j,u,o⟩:=s;subst f;let ⟨p,t,q⟩:=i.adds n w j u;refine⟨_,.r c,q,p,t,rfl,c,a,rfl,rfl,o,λb h=>?_⟩;let ⟨l,f⟩:=AQ.mp h;exact⟨i.bs.new (j b l f),i.bs.DT (j b l f)⟩)
open Mine.C renaming Il->Io
noncomputable def look{a:Type}(c:List (Int×a))(k:Int):Option a:=(c.find? λb=>b.1=k).map (·.2)
noncomputable def put{b:Type}(c:List (Int×b))(k:Int)(d:b):List (Int×b):=if c.any (λa=>a.1=k) then c.map (λa=>if a.1=k then(a.1,d) else a) else c++[(k,d)]
theorem DR.any{d:Type}{R:aC->d->Prop}{b:List (Int×aC)}{c:List (Int×d)}(f:DR R b c)(k:Int):b.any (λa=>a.1=k)=c.any (λa=>a.1=k):=by
 induction f with
 |nil=>rfl
 |cons _ _ e=>rw[Ay,Ay,e]
def Pe{a:Type}[DecidableEq a]{b k:a}{u:aC}{c:List (a×aC)}(d:¬b=k):valueAt ((b,u)::c) k=valueAt c k:=aR (rP _) (Gy λe=>d (eZ e))
def Wt{a:Type}[DecidableEq a]{k:a}{u:aC}{b:List (a×aC)}:valueAt ((k,u)::b) k=U u:=by simp[valueAt]
def Pf{a:Type}{b k:Int}{u:a}{c:List (Int×a)}(d:¬b=k):Mine.look ((b,u)::c) k=Mine.look c k:=aR (rP _) (Gy λe=>d (eZ e))
theorem DR.look{e:Type}{R:aC->e->Prop}{c:List (Int×aC)}{d:List (Int×e)}(i:DR R c d)(k:Int):(valueAt c k=ai/\Mine.look d k=ai)\/∃u a,valueAt c k=U u/\Mine.look d k=U a/\R u a:=by
 induction i with
 |nil=>exact .inl ⟨rfl,rfl⟩
 |@cons f u a c d g _ h=>
  by_cases b:f=k
  .subst b;exact .inr ⟨u,a,Wt,by simp[Mine.look],g⟩
  rcases h with⟨h1,h2⟩|⟨u',x',h1,h2,h3⟩
  .exact .inl ⟨(Pe b).trans h1,(Pf b).trans h2⟩
  exact .inr ⟨u',x',(Pe b).trans h1,(Pf b).trans h2,h3⟩
def DR.append{e:Type}{R:aC->e->Prop}{c b:List (Int×aC)}{d a:List (Int×e)}(i:DR R c d)(f:DR R b a):DR R (c++b) (d++a):=by
 induction i with
 |nil=>exact f
 |cons g _ h=>exact .cons g h
theorem DR.put{d:Type}{R:aC->d->Prop}{b:List (Int×aC)}{c:List (Int×d)}(e:DR R b c){u:aC}{f:d}(h:R u f)(k:Int):DR R (stored b k u) (Mine.put c k f):=by
 unfold stored Mine.put;rw[e.any k];split
 .rename_i j;clear j
  induction e with
  |nil=>exact .nil
  |@cons i m n b c l _ g=>
   rw[dM,dM]
   by_cases a:i=k
   .rw[az a,az a];exact .cons h g
   rw[aB a,aB a];exact .cons l g
 exact e.append (.cons h .nil)
def qG{a:Type}(b:List (Int×a))(k:Int)(c:a):(put b k c).length<=aa b+1:=by
 unfold put;split<;>simp
section
variable {c:C}{ρ:Nm}{k:eV}{rest:dH}{P:eH}{R:d9}{e e₁ e₂ o tg:aT}{v:V}{pos p apos:Pos}{a:ak}{kvs:List (Int×V)}{i:Int}{ks:aF}
def Bs.dict{e:Shared}(b:Bs c e)(h:c.σ a=U (.i kvs)):∃d,e.heap.DictOf (intKind c.prog c.w) a d/\aa kvs<=bf/\DR (λu f=>VR c.M e.heap f u) d kvs/\(a==sysModules)=aA:=by
 obtain⟨l,_,d,g,j,k⟩:=b.dc a _ h;exact⟨d,g,j,k,b.Oh (b.jS a l)⟩
def Ev.Ip(g:Ev c ρ e₁ (.r a))(hs:c.σ a=U (.i kvs))(h:Ev c ρ e₂ (.d (.int i)))(b:look kvs i=U v)(e:autoParam (uS e₂=aA) aI):Ev c ρ (.Subscript e₁ e₂ pos) v:=by
 intros c ρ e₁ e₂ v pos a kvs i _ g hs h b e;exact g.sub h λo j t l p k=>by
  obtain rfl:j=.ref a:=p;let ⟨n,zy⟩:=jT k;let ⟨q,f,s,m,_⟩:=l.dict hs;rcases m.look i with⟨_,h2⟩|⟨j,x,h1,h2,h3⟩
  .exact ns h2 b
  rw[h2] at b;cases b;exact wD f.typeIs slot_dict_getitem.lookup (wpAny_getItem_of (kM _ _ i n) f.mapOf h1 ⟨iS o _,h3⟩) (Dw e _ _)
def Cmp.Iq(hs:c.σ a=U (.i kvs)):Cmp c .In (.d (.int i)) (.r a) (look kvs i).isSome:=by
 intros c a kvs i _ hs;exact λm e l f n b=>by
  obtain rfl:l=.ref a:=b;let ⟨k,zy⟩:=jT n;let ⟨o,j,p,g,h⟩:=f.dict hs;refine wpAny_in_of (kM _ _ i k) h j.mapOf ⟨iS m _,?_⟩;rcases g.look i with⟨h1,h2⟩|⟨u,e,h1,h2,_⟩<;>rw[h1,h2]<;>rfl
def Cmp.Ir(hs:c.σ a=U (.i kvs)):Cmp c .NotIn (.d (.int i)) (.r a) (!(look kvs i).isSome):=by
 intros c a kvs i _ hs;exact λm e l f n b=>by
  obtain rfl:l=.ref a:=b;let ⟨k,zy⟩:=jT n;let ⟨o,j,p,g,h⟩:=f.dict hs;refine wpAny_notIn_of (kM _ _ i k) h j.mapOf ⟨iS m _,?_⟩;rcases g.look i with⟨h1,h2⟩|⟨u,e,h1,h2,_⟩<;>rw[h1,h2]<;>rfl
def Cmp.Wu(hs:c.σ a=U (.s ks)):Cmp c .NotIn (.d (.int i)) (.r a) (!ks.contains i):=λj l h f k b=>by
 obtain rfl:h=.ref a:=b;let ⟨g,zy⟩:=jT k;let ⟨_,_,e,nd⟩:=f.dc a _ hs;exact wpAny_notInSet_of (kM _ _ i g) J e ⟨iS j _,rfl⟩
def St.Wv{b:Shared}{n:Tok}{u:aC}{l:Unit->Shared->Prop}(g:St c ρ b)(x:Lo c b)(hs:c.σ a=U (.i kvs))(hw:c.wr a)(hz:aa kvs+1<=bf)(h:fD c b.heap u v)
 (f:∀d,St (c.upd a (.i (put kvs i v))) ρ d->Lo (c.upd a (.i (put kvs i v))) d->Ext c b (c.upd a (.i (put kvs i v))) d->l () d):wpAny c.m c.A (setItem (.ref a) (.int i n) u) l no b:=by
 let ⟨G,B,C,j,F⟩:=g.bs.dict hs;have y:=(g.bs.dc a _ hs).1;refine wpAny_setItem_pairs (kM _ _ i n) B (λp D E=>?_) (by rw[j.length];exact gZ C);have k:Kx (·=a) b {b with heap:=p,toks:=b.toks+1}:=⟨rfl,rfl,λr o w e=>(E.2 r w).trans e⟩;have q:∀{u:aC} {v:V},VR c.M b.heap v u->VR c.M p v u:=λh=>h.mono λf=>wM (c:=c) k.keep (λr e=>e▸y) f
 let ⟨s,z,t⟩:=g.upd x hw hs (cn:=.i (put kvs i v)) k ⟨_,D,aj (qG kvs i v) hz,(j.mono λZ Z f=>q f).put (q h) i⟩;exact f _ s z t
def iW.Ip(ho:Ev c ρ o (.r a))(hi:Ev c ρ e (.d (.int i)))(hs:c.σ a=U (.i kvs))(hw:c.wr a)(hz:aa kvs+1<=bf)(n:autoParam (uS e=aA) aI):iW c ρ (.Subscript o e p) v (c.upd a (.i (put kvs i v))) ρ:=by
 intros c ρ e o v p a kvs i _ ho hi hs hw hz n;exact λt B g m u=>by
  rw[Lm];refine ay (dW (aS (ho t g) (λw s f=>ay (dW (aS (hi s (g.kp f.k)) (λy A h=>ay (lB (ay (dW ?_)))))))));obtain rfl:w=.ref a:=f.r;let ⟨z,zy⟩:=jT h.r;have b:=f.k.trans h.k;exact(g.kp b).Wv (m.kp b.keep) hs hw hz (u.keep b.keep) λx j q l=>Gs ⟨(j9 b).trans l,j,q⟩
def Pg(hs:c.σ a=U (.i kvs))(h:Bs c d)(j:fD c d.heap f (.r a)):d.TypeIs f "dict"/\(∀b,f=.ref b->∃g,d.heap.get? b=U g/\g.dict=ai):=by
 obtain rfl:f=.ref a:=j;let ⟨k,e,_⟩:=h.dict hs;exact⟨e.typeIs,e.mapOf.noDict⟩
def Ww(hs:c.σ a=U (.s ks))(h:Bs c d)(i:fD c d.heap f (.r a)):d.TypeIs f "set"/\(∀b,f=.ref b->∃g,d.heap.get? b=U g/\g.dict=ai):=by
 obtain rfl:f=.ref a:=i;let ⟨_,_,e,_⟩:=h.dc a _ hs;exact⟨e.typeIs,e.noDict⟩
def gB.setAdd(h:Ev c ρ o (.r a))(hs:c.σ a=U (.s ks))(hw:c.wr a)(m:Ev c ρ e (.d (.int i)))(t:0<=i)(z:i<4)(hz:aa ks+1<scanBound)(p:autoParam (attributeBase o "add" c.env (eval o c.env)=eval o c.env) aI)(q:autoParam ((apos.endLine==pos.line)=af) aI)(k:autoParam (cD e=aA) aI):
 gB c ρ (.Call (.Attribute o "add" apos) [e] [] pos) (λb v=>b=c.upd a (.s (if ks.contains i then ks else ks++[i]))/\v=.d .none):=by
 intros c ρ e o pos apos a i ks _ h hs hw m t z hz p q k;exact λN n O=>
  Bc n h (.cons m .nil k) PySem.F.plainAttrs_set MK PySem.F.type_set_add (λN u I V=>Ww hs I V) p q (rV k) (bM J) λl u X j H R=>by
   obtain rfl:u=.ref a:=H;apply mC R;intro au T;let ⟨Y,zy⟩:=jT T;have x:=n.kp j;have C:=O.kp j.keep;let ⟨_,_,Q,nd,K⟩:=x.bs.dc a _ hs;refine UH t z Q K hz λG E g w=>?_
   have M:Kx (·=a) l {l with heap:=G,toks:=l.toks+1}:=⟨rfl,rfl,λW o L e=>(E.2 W L).trans e⟩
   let ⟨P,B,D⟩:=x.upd C hw hs (cn:=.s (if ks.contains i then ks else ks++[i])) M (by
    cases hc:ks.contains i with
    |true=>
     rw[az J];rw[hc,az J] at g
     have e:(λf=>ks.contains f||decide (f=i))=λf=>ks.contains f:=by
      funext f
      by_cases A:f=i
      .subst A;rw[hc];rfl
      simp[A]
     rw[e] at g;exact⟨g,nd,w⟩
    |false=>
     rw[aB ∅];rw[hc,aB ∅] at g
     have e:(λf=>ks.contains f||decide (f=i))=λf=>(ks++[i]).contains f:=by
      funext f;simp
     rw[e] at g;refine⟨by rw[bO];exact g,?_,w⟩;rw[jz];refine⟨nd,by simp,λae S Z y=>?_⟩;simp at y;subst y;intro e;subst e;rw[gy.mpr S] at hc;cases hc)
   exact⟨_,.d .none,(j9 j).trans D,P,B,.none,rfl,rfl⟩
def gp.Wx:gp c ρ (.Dict [] [] pos) (.i []):=λa b=>wpAny_Dict_empty ⟨g8 a _,a.heap.objs.size,rfl,dX _,[],Hs a.heap,by decide,.nil⟩
end
open Mine.Ev renaming Ip->r8
open Mine.gp renaming Wx->wV
open Mine.iW renaming Ip->wW
open Mine.Cmp renaming Ir->Bj,Iq->Iu
def Wy:typeLookup (.type "list") "keys"=pure ai:=am_miss_of_fast (by decide+kernel)
def Wz{l:Program}{i:World}{e:Around}{g:cI}{s:Shared}{b:ak}{d:Array aC}{f:Option aC->Shared->Prop}(c:PL s.heap b d)(j:e.handled=ai)(h:∀a,Kp s a->f ai a):wpAny (model l i) e (getAttr? (.ref b) "keys") f g s:=by
 intros l i e g s b d f _ c j h;let ⟨v,u⟩:=c;revert u;intro c;obtain⟨q,x,p,A,t⟩:=s;have n:∀k,(⟨q,x,p,k,t⟩:Shared).TypeIs (.ref b) "list":=λZ=>⟨_,c,rfl⟩
 have C:=sub_AttributeError;have E:=G7.lookup;have f4:=G7.bind (.ref b);have f5:=am_list_getattr_none;unfold getAttr? getAttrBy? getAttrBy
 repeat (any_goals (first|assumption|exact n _|((with_reducible show wpAny _ _ (call (Value.builtin "list.__getattribute__") _ _) _ _ _);refine Aj G7 (n _) am_entry_list_getattribute (PySem.F.args_list_getattribute_2 _ _) (meets_getattribute_miss_list b d v #[] "keys" _ Wy (by decide+kernel) (by size_fits)) ⟨c,j,λB k m o=>?_⟩)|wp_step))
 let ⟨D,z,y⟩:=o.there;show wpAny _ _ (getattributeRaised _ _ _ _ _ _ _) _ _ _;unfold getattributeRaised
 repeat (any_goals (first|assumption|wp_step))
 exact h _ ⟨rfl,rfl,λw r m=>o.keeps w r m⟩
noncomputable def nK(a:Int×D):D:=.tup [.int a.1,a.2]
def Ph:entryFor table "dict.update.loop"=U gX.«dict.update.loop»:=K7 (by kernel_rfl)
def D3:plainId "dict.update.loop"=af:=by decide+kernel
def dJ{a:Type}(c:List (Int×a))(e:List (Int×a)):List (Int×a):=e.foldl (λd b=>put d b.1 b.2) c
def D4{e:Type}(a c:List (Int×e)):(dJ a c).length<=aa a+aa c:=by
 induction c generalizing a with
 |nil=>simp[dJ]
 |cons b c d=>
  exact aj (d (put a b.1 b.2)) (NC (qG a b.1 b.2) J (cB _))
def Rep.WA(i:Rep h M f (nK c)):∃e n d u,f=.ref e/\IsT h e #[.int c.1 d,u] n/\Rep h M u c.2:=by
 intros h M f c _ i;let ⟨e,p,zy,m,_,_,a⟩:=i.qm;let ⟨n,j⟩:=m;obtain⟨r,s,g,o,a⟩:=a.Dq;obtain⟨b,q,k,l,a⟩:=a.Dq;let ⟨d,zy⟩:=o.eF;rw[k,a.HF] at g;obtain rfl:p=#[.int c.1 d,b]:=Array.ext' g;exact⟨e,n,d,b,rfl,j,l⟩
def WB{e:Program}{l:World}{h:bY}{a:ak}{g:List (Int×aC)}{b:Obj}(d:h.DictOf (intKind e l) a g)(c:jR b):h.get? a=U b->False:=λf=>by
 let ⟨m,p,q,j,_,k,_⟩:=d;let ⟨n,o,i⟩:=c;cases f.symm.trans j;cases k.symm.trans i
def Pj{h:bY}{a e:ak}{i:Nat}{b:Obj}(j:h.IsListIter a e i)(c:jR b):h.get? a=U b->False:=λd=>by
 let ⟨k,f,_,g⟩:=j;cases d.symm.trans f;exact oX c ⟨_,g⟩
def WC{r:Program}{q:World}{y:Around}{o g h:ak}{C:Array aC}{t:List (Int×aC)}{j:Shared}{i:Nat}{v:ak}{n:Nat}{l:Int}{m:Tok}{u:aC}{R:rE->Shared->Prop}(w:o≠g/\o≠h/\g≠h)
 (B:j.heap.IsListIter g o i) (pl:PL j.heap o C) (x:C[i]?=U (.ref v)) (p:∀c,(∀b a,b≠g->j.heap.get? b=U a->c.get? b=U a)->IsT c v #[.int l m,u] n) (d:j.heap.DictOf (intKind r q) h t) (hz:aa t+1<=bf)
 (z:∀c e f,e.IsListIter g o (i+1)->(∀b a,b≠g->j.heap.get? b=U a->c.get? b=U a)->iG h c e->e.DictOf (intKind r q) h (stored t l u)->codeAny (model r q) y (.builtin "dict.update.loop" ⟨[.ref h,.ref g,rawInt (i+1:Nat),.none],[]⟩) R {j with heap:=e,toks:=f}):
 codeAny (model r q) y (.builtin "dict.update.loop" ⟨[.ref h,.ref g,rawInt i,.none],[]⟩) R j:=by
 intros r q y o g h C t _ j i v n l m u R w B pl x p d hz z;intros j i v n l m u R _ w B pl x p d hz z;refine pW Ph ?_;rw[rQ D3 _];unfold gX.«dict.update.loop»;refine ay (CA B pl.isList x λc F A=>?_);have p:=p c λb a n k=>A.extBut b a n k
 refine ay (dW (ay (yc ?_)));unfold Ue;refine ay (vW (T:="tuple") ⟨_,p,rfl⟩ ?_);show wpAny _ _ (if af=af then _ else _) _ _ _;rw[az J];refine ay (Ak p J (aM ?_));show wpAny _ _ (holding [lG l m,u] (dictSet h (lG l m) u)) _ _ _;refine dW (Gu (s:={j with heap:=c}) (kM _ _ l m) (mw d λa k=>A.extBut h a w.2.2.symm k) (λe E D=>aM ⟨pX D3 _,?_⟩) (gZ (vS hz)));exact z c e _ (F.at λa k=>(D.2 g w.2.2).trans k) (λb a n k=>A.extBut b a n k) D E
def WD{w:Program}{v:World}{A:Around}{M:bC}{l I m:ak}{vs:Array aC}{kvs:List (Int×D)}{R:rE->Shared->Prop}(V:A.handled=ai)(a5:¬M I/\¬M m)(z:l≠I/\l≠m/\I≠m):∀(n i:Nat) (g:List (Int×D)) (f:List (Int×aC)) (c:Shared),vs.size-i=n->i<=vs.size->
 c.heap.IsListIter I l i->PL c.heap l vs->aW c.heap M vs.toList (kvs.map nK)->c.heap.DictOf (intKind w v) m f->DR (Rep c.heap M) f g->(aa g+(aa kvs-i)<=bf)->
 (∀e h,e.gens=c.gens->e.os=c.os->(∀b a,b≠I->b≠m->c.heap.get? b=U a->e.heap.get? b=U a)->e.heap.DictOf (intKind w v) m h->DR (Rep e.heap M) h (dJ g (kvs.drop i))->R (.ok (.ret .none)) e)->
 codeAny (model w v) A (.builtin "dict.update.loop" ⟨[.ref m,.ref I,rawInt i,.none],[]⟩) R c:=by
 intros w v A M l I m vs kvs R _ V a5 z;have Q:∀{c:Shared} {i:Nat} {f:List (Int×aC)} {C:bY},c.heap.IsListIter I l i->c.heap.DictOf (intKind w v) m f->(∀b a,b≠I->b≠m->c.heap.get? b=U a->C.get? b=U a)->∀{r:aC} {s:D},Rep c.heap M r s->Rep C M r s:=λ{c i f C} p q k {r s} o=>o.mono λav a n o j=>⟨k av a (λu=>Pj p o (u▸j)) (λu=>WB q o (u▸j)) j,n⟩
 intro n
 induction n with
 |zero=>
  intro i g f c F T p pl x q B K H;obtain rfl:i=vs.size:=mW T (K1 F);have t:=x.length;rw[jN,aP] at t;refine pW Ph ?_;rw[rQ D3 _];unfold gX.«dict.update.loop»;refine ay (Gm (A:=A.in1) V p pl.isList (wu (cB _)) λC G=>?_);show wpAny _ _ (Ug m []>>=λ_=>ret oM) _ _ _;refine ay (aM (aM (H _ f J J (λb a n1 y j=>G b a n1 j) (mw q λa j=>G m a z.2.2.symm j) ?_)));rw[t,List.drop_length];exact B.mono λ_ _ o=>Q p q (λb a n1 _ j=>G b a n1 j) o
 |succ n ae=>
  intro i g f c F T p pl x q B K H;have t:=x.length;rw[jN,aP] at t;have S:i<vs.size:=HA F;have E:i<aa kvs:=t▸S;let ⟨bo,P,a6⟩:=x.get (k:=i) (d:=nK kvs[i]) (by rw[cC,dZ E];rfl);let ⟨a7,bk,bj,r,zy,W,a9⟩:=a6.WA;rw[gP] at P;have a4:=B.length;refine WC z p pl P (λaw k=>k a7 _ (λu=>Pj p ⟨_,_,rfl⟩ (u▸W)) W) q (by rw[a4];exact aj (gc (Nat.sub_pos_of_lt E) _) K) λaw L Z X Y ax a0=>?_
  have O:∀b a,b≠I->b≠m->c.heap.get? b=U a->L.get? b=U a:=λb a n1 y j=>(ax.2 b y).trans (Y b a n1 j)
  have N:∀{r:aC} {s:D},Rep c.heap M r s->Rep L M r s:=Q p q O;refine ae (i+1) (put g kvs[i].1 kvs[i].2) _ {c with heap:=L,toks:=Z} (Dj F) S X (pl.at λa j=>O l a z.1 z.2.1 j) (x.Og N) a0 ((B.mono λ_ _ o=>N o).put (N a9) _) (NC (qG g kvs[i].1 kvs[i].2) (Ul E) K) λe h a3 a k au a8=>H e h a3 a (λb a n1 y j=>k b a n1 y (O b a n1 y j)) au ?_
  rw[List.drop_eq_getElem_cons E];exact a8
noncomputable def bP(b:List (Int×D)):List (Int×V):=b.map λa=>(a.1,.d a.2)
def DR.d(e:DR (Rep h M) us b):DR (λu a=>VR M h a u) us (bP b):=by
 induction e with
 |nil=>exact .nil
 |cons c _ f=>exact .cons c f
def WE{u:Program}{r:World}{x:Around}{M:bC}{e:Shared}{i:ak}{o:Array aC}{p:List (Int×D)}{K:cI}(Q:x.handled=ai)(P:∀d,M d->∃a,e.heap.get? d=U a)(pl:PL e.heap i o)(Y:aW e.heap M o.toList (p.map nK))(hz:aa p<=bf)
 (h:∀b c,Kp e b->b.heap.DictOf (intKind u r) e.heap.objs.size c->DR (Rep b.heap M) c (dJ [] p)->K (.ref e.heap.objs.size) b):wpAny (model u r) x (call (.type "dict") [.ref i]) K no e:=by
 intros u r x M e i o p K _ Q P pl Y hz h;refine Lp (Q₁:=λS X=>S=.ref e.heap.objs.size/\X={e with heap:=e.heap.push {cls:=.type "dict",data:=.dict #[]}}) PySem.F.kt_called_dict (PySem.F.kt_typeCall_dict_1 _) PySem.F.entry_dict_init (kt_code_dict_new _ ⟨rfl,rfl⟩) ?_;intro S X av;let ⟨zy,zy⟩:=av;obtain⟨j,t⟩:∃j,j=e.heap.objs.size:=⟨_,rfl⟩;intros j _ t;rw[<-t];have Z:e.heap.get? j=ai:=by rw[t];exact dX _
 have N:(e.heap.push {cls:=.type "dict",data:=.dict #[]}).DictOf (intKind u r) j []:=by rw[t];exact Hs e.heap
 have C:∀g a,e.heap.get? g=U a->(e.heap.push {cls:=.type "dict",data:=.dict #[]}).get? g=U a:=λg a f=>cG _ f
 have L:PL (e.heap.push {cls:=.type "dict",data:=.dict #[]}) i o:=pl.at (C i);have a0:i≠j:=λf=>by let ⟨H,v⟩:=pl;intros H _ v;have q:e.heap.get? i=_:=v;rw[f,Z] at q;cases q
 refine⟨N.typeIs (s:={e with heap:=e.heap.push {cls:=.type "dict",data:=.dict #[]}}),PySem.F.args_dict_init_2 _ _,?_⟩;unfold gX.«dict.__init__»;refine ay ?_;unfold Uh;refine ay (wpAny_notOrdered_dict (N.typeIs (s:={e with heap:=e.heap.push {cls:=.type "dict",data:=.dict #[]}})) ?_);show wpAny _ _ (pure (j,[uH i])) _ _ _;refine aM ?_;show wpAny _ _ (Nl "dict.__init__" j (.ref i) [] .none) _ _ _;unfold Nl;refine ay (vW (L.isList.typeIs (s:={e with heap:=e.heap.push {cls:=.type "dict",data:=.dict #[]}})) ?_);rw[az ∅];refine ay (Wz (s:={e with heap:=e.heap.push {cls:=.type "dict",data:=.dict #[]}}) L Q λm n=>?_);intros m _ n;show wpAny _ _ (if af=af then _ else _) _ _ _;rw[az J];refine ay (rD ?_);have E:PL m.heap i o:=L.at (n.keep i);refine ay (xX E.isList ?_);obtain⟨k,B⟩:∃k,k=m.heap.objs.size:=⟨_,rfl⟩;intros k _ B;rw[<-B];have R:m.heap.get? k=ai:=by rw[B];exact dX _
 have T:m.heap.DictOf (intKind u r) j []:=mw N (n.keep j);have ax:k≠j:=λf=>by let ⟨a,_,_,w,_⟩:=T;rw[<-f,R] at w;cases w
 have ae:i≠k:=λf=>by let ⟨H,v⟩:=E;intros H _ v;have q:m.heap.get? i=_:=v;rw[f,R] at q;cases q
 have y:∀g a,m.heap.get? g=U a->(m.heap.push {cls:=.type "list_iterator",data:=.fields #[.ref i,.int 0 0]}).get? g=U a:=λg a f=>cG _ f
 have z:∀g a,e.heap.get? g=U a->g≠k/\g≠j:=λg a f=>by
  refine⟨λh=>?_,λh=>by rw[h,Z] at f;cases f⟩;have:=n.keep g a (C g a f);rw[h,R] at this;cases this
 have aw:¬M k/\¬M j:=by
  refine⟨λO=>?_,λO=>?_⟩
  .let ⟨a,f⟩:=P k O;intros a _ f;exact(z k a f).1 J
  let ⟨a,f⟩:=P j O;intros a _ f;exact(z j a f).2 J
 refine aM ⟨pX D3 _,?_⟩;have au:(m.heap.push {cls:=.type "list_iterator",data:=.fields #[.ref i,.int 0 0]}).IsListIter k i 0:=by rw[B];exact⟨_,dw _ J,rfl,rfl⟩
 refine WD (A:=x.in1) (l:=i) (I:=k) (vs:=o) (kvs:=p) (M:=M) Q aw ⟨ae,a0,ax⟩ o.size 0 [] [] {m with heap:=m.heap.push {cls:=.type "list_iterator",data:=.fields #[.ref i,.int 0 0]}} (FT _) (cL _) au (E.at (y i)) ((Y.keep λg a f=>n.keep g a (C g a f)).keep y) (mw T (y j)) .nil (by simpa using hz) λb c w a V G W=>?_;intros b c _ w a V G W
 rw[t] at G⊢;exact⟨rfl,h b c ⟨w.trans n.gens,a.trans n.os,λg a f=>V g a (z g a f).1 (z g a f).2 (y g a (n.keep g a (C g a f)))⟩ G (by simpa using W)⟩
def WG:bootBuiltins "dict"=U (.type "dict"):=by decide+kernel
def WH:bootBuiltins "set"=U (.type "set"):=by decide+kernel
section
variable {c:C}{ρ:Nm}{e:aT}{v:V}{p pos:Pos}
def gp.dictOf{kvs:List (Int×D)}(h:Ev c ρ e v)(n:iA c v (kvs.map nK))(y:autoParam (c.env.kindOf "dict"=U .globalImplicit) aI)(hs:autoParam (cD e=aA) aI):gp c ρ (.Call (.Name "dict" p) [e] [] pos) (.i (bP (dJ [] kvs))):=λG g=>by
 refine nA g y ∅ WG ∅ ∅ (cR h eX hs) (by simp[ee,hs]) (lC _ _) λx A a o=>?_
 apply mC o;intro u t;have b:=g.bs.kp a;let ⟨I,J,zy,w,f,z⟩:=yJ t b n;rw[aP] at f;refine WE b.room.hh b.fR w z f λH s q j m=>⟨a.trans q,x.heap.objs.size,rfl,fL a (dX _),s,j,?_,?_⟩
 .unfold bP;rw[aP];exact aj (D4 [] kvs) (by simpa using f)
 refine(m.mono λL u k=>?_).d;let ⟨E,B,F,r,_,dd,_⟩:=j;exact k.H7 r λl=>by let ⟨C,K,e⟩:=l;exact by rw[dd] at e;cases e
end
open Mine.gp renaming dictOf->Pk
noncomputable def u6(ns:aF):aF:=ns.foldl C9 []
def WI(h:σ.Nodup)(k:Int):(C9 σ k).Nodup:=by
 unfold C9;split
 .exact h
 rename_i c;rw[jz];refine⟨h,by simp,λe d f a=>?_⟩;simp at a;subst a;intro b;subst b;exact c (yh.mpr ⟨e,d,by simp⟩)
def WJ(ns:aF):(u6 ns).Nodup:=by
 unfold u6
 have:∀(b a:aF),a.Nodup->(b.foldl C9 a).Nodup:=λb=>by
  induction b with
  |nil=>intro a c;exact c
  |cons e b d=>intro a c;exact d _ (WI c e)
 exact this ns [] uy
def WK(a:aF)(k:Int):a.any (·==k)=a.contains k:=by
 induction a with
 |nil=>rfl
 |cons b a d=>
  have c:(b==k)=(k==b):=by rw[oJ,beq_iff_eq,beq_iff_eq];exact eq_comm
  rw[Ay,CJ,d,c]
def WM(ns:aF):firstMet (λi=>ns.getD i 0) (aa ns)=u6 ns:=by
 intros ns;unfold firstMet u6
 congr 1
 apply List.ext_getElem
 .simp
 intro i a b;simp at a⊢;simp[a]
noncomputable def eY(ns:aF):aH:=ns.map .int
def aW.ints:∀{a:cQ} {ns:aF},aW h M a (eY ns)->AU a ns
 :=by
 intro a ns
 induction ns generalizing a with
 |nil=>intro b;cases b;exact .nil
 |cons d ns c=>
  intro b;cases b with
  |cons f b=>cases f with|int _ e=>exact .cons d e (c b)
section
variable {c:C}{ρ:Nm}{e o e₁ e₂:aT}{v:V}{p pos apos:Pos}{a:ak}{kvs:List (Int×V)}{i:Int}
def gp.setOf{ns:aF}(h:Ev c ρ e v)(m:iA c v (eY ns))(l:∀k∈ns,0<=k/\k<4)(hz:aa ns+1<scanBound)(u:autoParam (c.env.kindOf "set"=U .globalImplicit) aI)(hs:autoParam (cD e=aA) aI):gp c ρ (.Call (.Name "set" p) [e] [] pos) (.s (u6 ns)):=λB d=>by
 refine nA d u ∅ WH ∅ ∅ (cR h eX hs) (by simp[ee,hs]) (lC _ _) λt x b n=>?_
 apply mC n;intro D r;have f:=d.bs.kp b;let ⟨C,E,zy,i,A,j⟩:=yJ r f m;have a:=j.length;simp only[jN,eY,aP] at a;refine UN f.room.hh i.isList j.ints l (by rw[a];exact hz) λz y g q keep=>?_
 rw[a,WM] at g;refine⟨b.trans ⟨rfl,rfl,λw o e=>keep w o (d7 e) e⟩,t.heap.objs.size,rfl,fL b (dX _),?_,WJ ns,q⟩;exact C7 g (λk=>WK _ k) J
theorem gB.WN(h:Ev c ρ o (.r a))(hs:c.σ a=U (.i kvs))(hw:c.wr a)(G:Ev c ρ e₁ (.d (.int i)))(Q:Ev c ρ e₂ (.d x))(hz:aa kvs+1<=bf)(I:autoParam (attributeBase o "setdefault" c.env (eval o c.env)=eval o c.env) aI)(K:autoParam ((apos.endLine==pos.line)=af) aI)(u:autoParam (cD e₁=aA) aI)(t:autoParam (cD e₂=aA) aI):
 gB c ρ (.Call (.Attribute o "setdefault" apos) [e₁,e₂] [] pos) (λb v=>b=c.upd a (.i (if(look kvs i).isSome then kvs else put kvs i (.d x)))):=by
 intros c ρ o e₁ e₂ pos apos a kvs i x _ h hs hw G Q hz I K u t;exact λax D a0=>
  Bc D h (.cons G (.cons Q .nil t) u) MU MV PySem.F.type_dict_setdefault (λax O ae C=>Pg hs ae C) I K (DF u t) (bM J) λf O a5 l Z a3=>by
   obtain rfl:O=.ref a:=Z;apply A5 a3;intro k Y a4 R;let ⟨T,zy⟩:=jT a4;have m:=D.kp l;have E:=a0.kp l.keep;let ⟨P,q,N,g,aw⟩:=m.bs.dict hs;have av:=(m.bs.dc a _ hs).1;refine call_meetsIn MV q.typeIs PySem.F.entry_dict_setdefault (PySem.F.args_dict_setdefault_3 _ _ _) (kt_meets_setdefault (intKind c.prog c.w) a (kM _ _ i T) aw Y) ⟨P,q,by rw[g.length];exact gZ N,λv j=>?_,λj H W X=>?_⟩
   .rcases g.look i with⟨h1,_⟩|⟨k,y,h1,h2,h3⟩
    .exact ns h1 j
    rw[h1] at j;cases j;rw[h2];have A:Kp f {f with toks:=f.toks+1}:=iS f _;let ⟨B,p,s⟩:=(m.kp A).upd (E.kp A.keep) hw hs (cn:=.i kvs) (HN _) ⟨P,q,N,g⟩;exact⟨_,y,(j9 l).trans ((j9 A).trans s),B,p,h3,rfl⟩
   rcases g.look i with⟨h1,h2⟩|⟨k,y,h1,_,_⟩
   .rw[h2];have L:Kx (·=a) f {f with heap:=H,toks:=f.toks+1}:=⟨rfl,rfl,λS o au e=>(X.2 S au).trans e⟩;have z:∀{k:aC} {v:V},VR c.M f.heap v k->VR c.M H v k:=λC=>C.mono λn=>wM (c:=c) L.keep (λS e=>e▸av) n
    let ⟨B,p,s⟩:=m.upd E hw hs (cn:=.i (put kvs i (.d x))) L ⟨_,W,aj (qG kvs i _) hz,(g.mono λ_ _ n=>z n).put (z R) i⟩;exact⟨_,.d x,(j9 l).trans s,B,p,z R,rfl⟩
   exact ns j h1
end
def WO(h:wpAny M g d (λa b=>c [a] b) e f):wpAny M g (evalAll [d]) c e f:=by
 show wpAny M g (d>>=λa=>holding [a] (evalAll [])>>=λi=>pure (a::i)) c e f;exact ay (aS h (λa b j=>ay (dW (aM (aM j)))))
section
variable {c:C}{ρ:Nm}{e e₁ e₂:aT}{v:V}{p pos:Pos}{i:Int}{n:Nat}
def gp.WQ(h:Ev c ρ e (.d (.int i)))(o:0<=i)(t:i<4)(q:kdsCode c.K c.env.code=af)(m:autoParam ((displayRoad n [e]==.constants)=aA) aI)(p:autoParam ((displayRoad n [e]==.unsure)=aA) aI)(r:autoParam (cD e=aA) aI):gp c ρ (.Set [e] n pos) (.s [i]):=by
 intros c ρ e pos i n _ h o t q m p r;exact λa j=>by
  rw[arm_eval_Set];refine ay (lB ?_);refine ay (kds_main j.bs.jB q λb=>?_);rw[iL _ r];refine UI m p ?_;have v:Kp a {a with heap:=a.heap.push (lJ (fC c.w))}:=g8 a _;refine WO (ay (aS (h _ (j.kp v)) (λF g y=>ay (lB (aM ⟨F,rfl,?_⟩)))));obtain⟨f,A⟩:=y;let ⟨G,zy⟩:=jT A;have u:g.heap.get? a.heap.objs.size=U (lJ (fC c.w)):=f.keep _ _ (dw _ J);have E:=NX (prog:=c.prog) (w:=c.w) (fC c.w) u;have B:=NW (fC c.w) u;unfold setAdd;refine dW (ay ((intKind c.prog c.w).pyHash (k:=i) (kM _ _ _ _) ?_));refine HE (s:={g with toks:=g.toks+1}) o t E B ∅ λH z D C=>?_
  refine⟨?_,a.heap.objs.size,rfl,dX _,?_,by simp,C⟩
  .exact⟨f.gens,f.os,λb l e=>(z.2 b λx=>by rw[x,dX] at e;cases e).trans (f.keep b l (v.keep b l e))⟩
  exact C7 D (λk=>by simp) J
def r7.pair(z:Ev c ρ e₁ (.d d))(B:gp c ρ e₂ (.s h))(F:autoParam (cD e₁=aA) aI)(D:autoParam (cD e₂=aA) aI):r7 c ρ (.List [e₁,e₂] pos) (λf g=>∃a,f≠a/\g f=U (.v [.d d,.r a])/\g a=U (.s h)/\∀b,b≠f->b≠a->g b=ai):=by
 intros c ρ e₁ e₂ pos d h _ z B F D;exact λA y=>by
  refine Gi ?_;rw[iL _ F,iL _ D];refine m8 (aS (z A y) (λm E G=>?_));obtain⟨n,I⟩:=G;refine m8 (aS (B E (y.kp n)) (λR k N=>?_));rcases N with⟨nN,a,ex,D5,cr⟩
  refine qj ⟨?_,?_⟩
  .simp;rw[pY];decide
  subst ex;obtain⟨f,w⟩:∃f,f=k.heap.objs.size:=⟨_,rfl⟩;have x:Kp k {k with heap:=k.heap.push {cls:=.type "list",data:=.seq #[m,.ref a]}}:=g8 k _;have o:k.heap.get? f=ai:=by rw[w];exact dX _
  have L:(k.heap.push {cls:=.type "list",data:=.seq #[m,.ref a]}).get? f=U {cls:=.type "list",data:=.seq #[m,.ref a]}:=by rw[w];exact dw _ J
  let ⟨Q,H,_⟩:=cr.wQ;have C:f≠a:=λp=>by rw[p,H] at o;cases o
  have O:A.heap.get? a=ai:=fL n D5;refine⟨(n.trans nN).trans x,f,(λb=>if b=f then U (.v [.d d,.r a]) else if b=a then U (.s h) else ai),by rw[w],λb K e=>?_,λb K e=>?_,a,C,by simp,by simp[C.symm],λb i j=>by simp[i,j]⟩
  .by_cases i:b=f
   .subst i;exact fL (n.trans nN) o
   by_cases j:b=a
   .subst j;exact O
   simp[i,j] at e
  by_cases i:b=f
  .subst i;simp at e;subst e;refine⟨#[m,.ref a],⟨0,L⟩,bM J,.cons ?_ (.cons J .nil)⟩;have p:Rep E.heap c.M m d:=I;refine p.mono λl t P Z u=>⟨x.keep l t (nN.keep l t u),λq=>q.elim P λq=>?_⟩
   by_cases i:l=b
   .subst i;have:=nN.keep l t u;exact ns o this
   by_cases j:l=a
   .subst j;exact ns D5 u
   simp[i,j] at q
  by_cases j:b=a
  .subst j;simp[i] at e;subst e;exact AY cr (x.keep b)
  simp[i,j] at e
end
def St.Pn{b:C}{p:Nm}{i g:Shared}{f:ak}(h:St b p i)(s:Lo b i)(m:b.X f)(u:¬b.Y f)(x:∃d,i.heap.get? f=U d/\∀e,d.data≠.cell e)(r:∃d,g.heap.get? f=U d)(k:Kx (·=f) i g):St b p g/\Lo b g:=
 h.gen (M':=b.M) (σ':=b.σ) (wr':=b.wr) (B':=b.B) s (h.bs.kx k (λo a=>a▸m) λj y=>dite (j=f) (λa=>a▸r) λa=>(h.bs.fR j y).imp λd v=>k.keep j d a v) (DK k λj e t q=>x.elim λd n=>t.elim λz l=>n.2 e (dF (l.1.symm.trans (q▸n.1))▸l.2))
  (λd a=>k.keep _ d (λa=>u (.inl a.symm)) a) λw=>wM (c:=b) k.keep (λo a=>h.bs.xm o (a▸m)) w
def Bk(a:C)(e:ak)(b:Shared)(done:aH):Prop:=∃d c,done=d.map nK/\b.heap.DictOf (intKind a.prog a.w) e c/\DR (Rep b.heap a.M) c (dJ [] d)/\aa done<=bf
def Bk.ok(k:b.X a)(j:¬b.Y a):yN b a (Bk b a) c:=
 ⟨λu t done g p i z=>by let ⟨n,m,e,l,r,o⟩:=g;exact⟨n,m,e,mw l p,r.mono λz z d=>d.mono λq s f d e=>⟨i q s f (λh=>oX d h) e,f⟩,o⟩,k,j⟩
def WR{d:Type}(a b c:List (Int×d)):dJ a (b++c)=dJ (dJ a b) c:=by simp[dJ]
def D6{g:Program}{k:World}{h:bY}{f:ak}{j:List (Int×aC)}(d:h.DictOf (intKind g k) f j):∃a,h.get? f=U a/\∀b,a.data≠.cell b:=by
 let ⟨a,l,m,i,_,e,_⟩:=d;exact⟨a,i,λb c=>by first|exact OR e c|exact OS e c|(rw[e] at c;cases c)⟩
def nC.WT{a:C}{t:Nm}{b:ak}{p o:aT}{Q:List Ah}{scope:gh}{R:Pos}{i:Int}{f:D}(x:a.X b)(O:¬a.Y b)(q:Ev a t p (.d (.int i)))(z:Ev a t o (.d f)):nC a t b (Bk a b) (uU (.DictComp p o Q scope R) (.ref b) a.env) [nK (i,f)]:=by
 intros a t b p o Q scope R i f _ x O q z;exact λK done n aw av ax=>by
  let ⟨g,P,I,V,a5,J⟩:=av;show wpAny a.m a.A (eval p a.env>>=λkv=>holding [kv] (eval o a.env)>>=λa7=>_) _ _ K;refine ay (aS (q K n) (λy a3 v=>ay (dW (aS (z a3 (n.kp v.k)) (λa6 h H=>?_)))));let ⟨W,zy⟩:=jT v.r;have l:=v.k.trans H.k;have a0:=n.kp l;have T:=aw.kp l.keep;have G:h.heap.DictOf (intKind a.prog a.w) b P:=mw V (l.keep b);have N:DR (Rep h.heap a.M) P (dJ [] g):=a5.mono λU U j=>j.keep l.keep
  have S:(dJ ([]:List (Int×D)) g).length<=aa g:=by have:=D4 ([]:List (Int×D)) g;simpa using this
  have q:aa g<=bf:=by rw[I,aP] at J;exact J
  refine ay (lB (dW (Gu (kM _ _ i W) G (λF B Z=>?_) (by rw[N.length];exact gZ (aj S q)))));have u:Kx (·=b) h {h with heap:=F,toks:=h.toks+1}:=⟨rfl,rfl,λs E ae e=>(Z.2 s ae).trans e⟩;let ⟨a4,au⟩:=a0.Pn T x O (D6 G) (let ⟨E,e,_⟩:=D6 B;⟨E,e⟩) u;have L:∀{y:aC} {f:D},Rep h.heap a.M y f->Rep F a.M y f:=λj=>wM (c:=a) u.keep (λs e=>n.bs.xm s (e▸x)) j
  refine⟨l.kx.trans (u.mono λs e=>.inr e),a4,au,g++[(i,f)],_,by rw[I,cy];rfl,B,?_,ax⟩;rw[WR];exact(N.mono λU U j=>L j).put (L H.r) i
section
variable {c:C}{ρ:Nm}{e:aT}{cn:Cn}{x:Str}{p pos:Pos}
theorem Cp.dict{u t s iter:aT}{q:cN}{scope:gh}{ds:aH}{outs:List (List (Int×D))}(K:aa outs=aa ds)(hz:aa outs.flatten<=bf)(I:It c ρ iter ds)
 (E:∀b f M g (i:Nat) d a,ds[i]?=U d->outs[i]?=U a->TB (c.into scope b f M g) (fj scope ρ) s q d (λh=>∃k x,Ev (c.into scope b f M g) h u (.d (.int k))/\Ev (c.into scope b f M g) h t (.d x)/\a=[(k,x)]) (a=[]))
 (O:kX c.env.kindOf (λx=>(ρ.lookup x).isSome) scope=af) (hs:∀x,foldedSetIterable iter c.env x=pure x):Cp c ρ (.DictComp u t [⟨s,iter,q,0⟩] scope pos) (.i (bP (dJ [] outs.flatten))):=by
 intros c ρ pos u t s iter q scope ds outs _ K hz I E O hs;refine⟨scope,_,pos,_,.d,rfl,λcw a7 cp S a4=>?_⟩;let ⟨r,w,av,a6⟩:=DO O;have G:((outs.map λa=>a.map nK).flatten)=outs.flatten.map nK:=by simp[List.map_flatten]
 refine DN (H:=λ_=>False) (hH:=λ_ m=>m.elim) (rY:=Bk) (e:=.DictComp u t [⟨s,iter,q,0⟩] scope pos) (inner:=λW aw=>uU (.DictComp u t [⟨s,iter,q,0⟩] scope pos) W aw) (uX:=λa=>a={cls:=.type "dict",data:=.dict #[]}) (outs.map λa=>a.map nK) (by simpa using K) .d J (λ_ _ _=>rfl) hs r w av a6 S I.z
  (λb4 c0 o=>?_) (λa e=>by subst e;rfl) (λL b4 v a e y _=>by subst e;exact⟨[],[],rfl,⟨_,#[],0,y,⟨rfl,rfl,rfl⟩,rfl,λ_ Q=>by simp at Q,Nn,uy⟩,.nil,by decide⟩) (λL v C B=>Bk.ok C B) ?_ (by rw[G,aP];exact hz) ?_
 .show wpAny _ _ newDict _ _ _;simp only[newDict,newObj];exact ay (Af (aM (o _ J)))
 .intro b f M g v C B i d a b1 n;rw[cC] at n;cases r9:outs[i]? with
  |none=>rw[r9] at n;cases n
  |some Y=>
   rw[r9] at n;simp only[AP,AJ] at n;subst n;obtain⟨bk,l,Z,a3,bt,ae,b2⟩:=E b f M g i d Y b1 r9;refine⟨bk,l,Z,a3,bt,λe=>?_,λe=>by rw[b2 e];rfl⟩;let ⟨k,x,A,ax,zy⟩:=ae e;exact(nC.WT C B A ax).at
 intro L v b N X a0 a8 k b5 b3 P bj au a9 c2;let ⟨V,bo,e,d,b6,cq⟩:=bj;rw[G] at e
 have A:V=outs.flatten:=by
  have a5:∀(j l:List (Int×D)),j.map nK=l.map nK->j=l:=λj=>by
   induction j with
   |nil=>intro l m;cases l<;>simp at m⊢
   |cons p j T=>
    intro l m;cases l with
    |nil=>simp at m
    |cons o l=>
     rw[dM,dM] at m;let ⟨r,w⟩:=Dg m;rw[T l w];obtain⟨cz,cf⟩:=p;obtain⟨F,cx⟩:=o;simp[nK] at r;rw[r.1,r.2]
  exact a5 _ _ e.symm
 subst A;rw[X,a0] at d
 have bp:(bP (dJ [] outs.flatten)).length<=bf:=by
  unfold bP;rw[aP];have:=D4 ([]:List (Int×D)) outs.flatten;refine aj this (by simpa using hz)
 have:=a4 v b N k b5 b3 P au ⟨bo,d,bp,(b6.mono λcb x o=>(by
  have R:Rep N.heap (λj=>c.M j\/j=b) cb x:=o.lM λj m=>m.elim (a8 j) λe=>e▸a9
  let ⟨a,cm,ct,y,_,dd,_⟩:=d;exact R.H7 y λF=>by let ⟨j,l,e⟩:=F;exact by rw[dd] at e;cases e)).d⟩
 cases a7<;>exact this
end
section
variable {c:C}{ρ:Nm}{e:aT}{cn:Cn}{x:Str}{p pos:Pos}
end
section
variable {prog:Program}{w:World}{A:Around}{E:cI}{s:Shared}{M:bC}
theorem Pq(m:g f s):∀{e d:cQ} {b c:aH} {a:Bool} {i:Nat},1<=i->aW s.heap M e b->aW s.heap M d c->D.rT .Lt a b c=U f->A.units+D.dO b<cLine->KatLex prog w A af a g (e.zip d) i s
 |[],d,b,c,a,i,hi,j,k,h,hz=>by
  cases j;have h:a=f:=dF h;subst h;exact kat_nil m
 |u::e,[],b,c,a,i,hi,j,k,h,hz=>by
  cases k;cases j with
  |cons G H=>have h:a=f:=dF h;subst h;exact kat_nil m
 |u::e,v::d,b,c,a,i,hi,j,k,h,hz=>by
  cases j with
  |@cons _ _ l b r j=>
   cases k with
   |@cons _ _ o c q k=>
    rw[yL] at h;rw[D.dO] at hz;let ⟨p,C⟩:=yK r;let ⟨z,F⟩:=p;let ⟨p,y⟩:=yK q;let ⟨B,t⟩:=p;have x:EqAt A s u v (dS l o):=eqAt_reads l.py o.py A s u v z B F t C y (by rw[yH,yH];exact eK (gc (aj (oA _ _) (FZ _ _)) _) hz);rw[v7];refine kat_cons (x prog w _ _ (kat_go (λn=>?_) λn=>?_))
    .rw[n,az J] at h;exact kat_yes (Pq m (jK 1 _) j k h (eK (gc (F0 _ _) _) hz))
    rw[n,aB ∅] at h;refine kat_no ?_
    have E:(af&&i==0)=aA:=by
     have:(i==0)=aA:=beq_eq_false_iff_ne.mpr (pR hi);rw[this];rfl
    rw[E];exact kat_one u v (kR.rep (op:=.Lt) J l.dep l o A u v f (cB _) r q h (eK (gc (FZ _ _) _) hz) prog w _ _ m)
def WU{n:Bool->Shared->Prop}{l:Bool}(h:n l s){f c:cQ}{d j:aH}{i:Bool}{k a:Int}(g:aW s.heap M f (.int k::d))(e:aW s.heap M c (.int a::j))(b:D.rT .Lt i (.int k::d) (.int a::j)=U l)(hz:A.units+D.dO d<cLine):
 KatLex prog w A af i n (f.zip c) 0 s:=by
 intros prog w A s M n l _ h f c d j i k a g e b hz;intros f c d j i k a _ h g e b hz;cases g with
 |@cons t f _ _ q g=>
  cases e with
  |@cons v c _ _ p e=>
   cases q with
   |int _ r=>
    cases p with
    |int _ u=>
     rw[v7];refine kat_cons (wpAny_eqBool_int (kat_go (λm=>?_) λm=>?_))
     .have:dS (.int k) (.int a)=af:=by
       have o:k=a:=by simpa using m
       subst o;show jP (.int k) (.int k)=af;simp[jP]
      rw[yL,this,az J] at b;exact kat_yes (Pq h (cB 1) g e b hz)
     have:dS (.int k) (.int a)=aA:=by
      have o:¬k=a:=by simpa using m
      show jP (.int k) (.int a)=aA;simp[jP,o]
     rw[yL,this,aB ∅] at b;refine kat_no ?_;show wpAny _ _ (oneLt' af _ _) _ _ _;refine oneLt_int ?_;have:decide (k<a)=l:=dF b;rw[this];exact h
end
def Bl(d:D):Prop:=∃a b,d=.tup (.int a::b)
def D7(b:D->Int)(a:aH):Prop:=∀c∈a,∀d∈a,D.ord .Lt c d=U (decide (b c<b d))
section
variable {prog:Program}{w:World}{A:Around}{E:cI}{s:Shared}{M:bC}
def WV:∀{c:cQ} {b:aH},aW h M c b->(∀d∈b,Bl d)->∃a,KatTups h c a/\aa a=aa c/\∀e∈a,∃k f,e=.int k f
 :=by
 intro c b
 induction b generalizing c with
 |nil=>intro i _;cases i;exact⟨[],KatTups.nil,rfl,λe h=>gS h⟩
 |cons d b o=>
  intro i n;cases i with
  |cons v i=>
   let ⟨a,w,s,t⟩:=o i λd q=>n d (.tail _ q)
   let ⟨k,z,j⟩:=n d (.head _);subst j;cases v with
   |@tup A u _ l _ _ g=>
    let ⟨x,r⟩:=l;revert r;intro l;cases hu:u.toList with
    |nil=>rw[hu] at g;cases g
    |cons B y=>
     rw[hu] at g;cases g with
     |cons p g=>
      cases p with
      |int _ f=>
       refine⟨.int k f::a,KatTups.cons l J J (by rw[<-gP,hu];rfl) w,by simp[s],λe m=>?_⟩;rcases bN.mp m with j|m
       .exact⟨k,f,j⟩
       exact t e m
def aW.WX(n:aW h M b ds):∀(a:List Nat),(∀i∈a,i<aa b)->aW h M (a.map λi=>b.getD i oM) (a.map λi=>ds.getD i kQ):=by
 intro l
 induction l with
 |nil=>
  intro _;exact .nil
 |cons i a e=>
  intro d;have c:=d i (.head _);let ⟨m,g,f⟩:=n.get' (dZ c);have o:b.getD i oM=b[i]:=by simp[kN,c]
  have j:ds.getD i kQ=m:=by rw[kN,g];rfl
  rw[dM,dM,o,j];exact .cons f (e λk p=>d k (.tail _ p))
noncomputable def wX(b:D->Int)(a:aH)(i:Nat):Int:=b (a.getD i kQ)
def WY{kf:D->Int}{c:aH}{d:Array Nat}(g:Rg (aa c) d)(j:Up (wX kf c) d (aa c)):(d.toList.map λi=>c.getD i kQ).Perm c/\(d.toList.map λi=>c.getD i kQ).Pairwise (λa b=>kf a<=kf b):=by
 intros kf c d _ g j;refine⟨?_,?_⟩
 .have n:d.toList.Perm (eT (aa c)):=by have:=g.toList;simpa using this
  have m:=n.map λi=>c.getD i kQ
  refine m.trans ?_
  have:(eT (aa c)).map (λi=>c.getD i kQ)=c:=by
   apply kO;intro i;rw[cC]
   by_cases e:i<aa c
   .rw[pZ e];simp[kN,e]
   rw[l9 (gO.mp (gx▸e)),l9 (gO.mp e)];rfl
  rw[this]
 rw[jA,List.pairwise_iff_getElem];intro i h e f o;have l:=g.size;rw[jN] at e f;have:=j i h (gf o) (l▸f);unfold kv wX at this;have p:d.getD i 0=d.toList[i]:=by simp[AK,e]
 have k:d.getD h 0=d.toList[h]:=by simp[AK,f]
 rw[p,k] at this;exact this
def WZ(k:Int)(a:Tok):Looks Mo h (typeOf (.int k a)) (.type "int"):=Looks.of_pure J
def W0{x:bC}{i:ak}{g:cQ}{n:Nat}{ds:aH}{kf:D->Int}{z:Gp->Shared->Prop}(ho:s.heap.get? i=U (seqObj "list" g.toArray n))(aw:aW s.heap x g ds)(S:x i)(M:∀d∈ds,Bl d)(a9:D7 kf ds)(a6:aa ds<64)(hz:A.units+D.dO ds<cLine)
 (h:∀a f b,Kx (·=i) s a->PL a.heap i f->aW a.heap x f.toList b->b.Perm ds->b.Pairwise (λe c=>kf e<=kf c)->z (.done (.ret .none)) a):wpAny (model prog w) A (gX.«list.sort» ⟨[.ref i],[]⟩) z E s:=by
 intros prog w A E s x i g n ds kf z _ ho aw S M a9 a6 hz h;have y:=aw.length;have d4:i<s.heap.objs.size:=d7 ho;rw[list_sort_plain];refine ay (listItems_at ho J ?_);refine ay (listUpdate_at ho J ?_ (by rw[Gx,pY];exact aj (cj ‹_›) (aj (gf ‹_›) ∅)) (cL _));obtain⟨H,au⟩:∃H,(s.heap.update i (gR λ_=>(#[]:Array aC))).get? i=U (seqObj "list" #[] H):=⟨_,Dc ho λ_=>#[]⟩;intros H _ au;refine ay (seqEpoch_at au J ?_);refine ay (wpAny_newTuple ?_ (by show aa g<=_;rw[pY];exact aj (cj ‹_›) (aj (gf ‹_›) ∅)));refine ay (CD ?_ (cL _));refine dW ?_;show wpAny (model prog w) A _ z E {s with heap:=((s.heap.update i (gR λ_=>(#[]:Array aC))).push (seqObj "tuple" g.toArray 0)).push (seqObj "list" #[] 0)};dsimp only;have cx:=qk s.heap i (gR λ_=>(#[]:Array aC));have O:(((s.heap.update i (gR λ_=>(#[]:Array aC))).push (seqObj "tuple" g.toArray 0)).push (seqObj "list" #[] 0)).get? i=U (seqObj "list" #[] H):=cG _ (cG _ au);have V:∀k q,k≠i->s.heap.get? k=U q->(((s.heap.update i (gR λ_=>(#[]:Array aC))).push (seqObj "tuple" g.toArray 0)).push (seqObj "list" #[] 0)).get? k=U q:=λk q L o=>cG _ (cG _ ((cx.2 k L).trans o))
 generalize ea:((s.heap.update i (gR λ_=>(#[]:Array aC))).push (seqObj "tuple" g.toArray 0)).push (seqObj "list" #[] 0)=r at O V;have K:aW r x g ds:=aw.mono λk q B _ o=>⟨V k q (λX=>B (X▸S)) o,B⟩
 have a7:∀(m:cQ) (b:aH),aa m<64->aW r x m b->b.Perm ds->b.Pairwise (λe c=>kf e<=kf c)->wpAny (model prog w) A (do
  let dA:=(<-seqEpoch i)!=H
  Nc (.ref i) λ_=>m.toArray
  if dA then rule "list.sort.modified";raiseError "ValueError" "list modified during sort"
  ret .none) z E {s with heap:=r}:=λm b ec dC b6 cm=>by
  refine ay (seqEpoch_at O J ?_);refine ay (listUpdate_at O J ?_ (cL _) (by rw[Gx,pY];exact aj (gf ‹_›) ∅));simp only[bne_self_eq_false,qg,if_false];have a4:=qk r i (gR λ_=>m.toArray);obtain⟨Y,bo⟩:∃Y,(r.update i (gR λ_=>m.toArray)).get? i=U (seqObj "list" m.toArray Y):=⟨_,Dc O λ_=>m.toArray⟩;refine aM (h _ m.toArray b ⟨rfl,rfl,λk q L o=>(a4.2 k L).trans (V k q L o)⟩ ⟨Y,bo⟩ ?_ b6 cm);rw[LF];exact dC.mono λk q B _ o=>⟨(a4.2 k (λX=>B (X▸S))).trans o,B⟩
 by_cases v:g.toArray.size<2
 .rw[az v,az v];refine ay (aM ?_);rw[show(pure ():StateT SortSt Sem Unit).run (Ht general' (g.toArray.zip g.toArray) #[] 7 ai)=pure ((),Ht general' (g.toArray.zip g.toArray) #[] 7 ai) from rfl];refine ay (aM ?_);dsimp only
  have dy:(arrOf (Ht general' (g.toArray.zip g.toArray) #[] 7 ai)).map (·.2)=g.toArray:=by
   show(g.toArray.zip g.toArray).map (·.2)=_;apply Mx.mp;simp;exact List.map_snd_zip (cB _)
  rw[dy];have u:aa g<2:=by simpa using v
  have:=a7 g ds (Ac u ∅) K (.refl _) (by
   cases ds with
   |nil=>exact Hu
   |cons d ds=>
    cases ds with
    |nil=>exact jZ _ _
    |cons _ _=>exact aV (y▸u) (gO.mpr (jK 2 _)))
  exact this
 rw[aB v,aB v];have u:2<=aa g:=by simpa using v
 let ⟨d3,du,b1,cq⟩:=WV K M;refine ay (kat_kind du (jL FO (b1.symm▸u)) (T:=.type "int") (λav cb=>by let ⟨c6,b3,zy⟩:=cq av cb;exact WZ c6 b3) ∅ ?_);have b4:(qi "int"!=qi "tuple")=af:=by decide
 rw[b4];have ax:0<aa ds:=jL FO (y▸u);refine ay (kL (kat_run (Q:=λN a=>a={s with heap:=r}/\∃l:Array Nat,arrOf N=l.map (kas_item (g.toArray.zip g.toArray))/\failedOf N=ai/\Rg (aa ds) l/\Up (wX kf ds) l (aa ds)) (G:=λl a=>a={s with heap:=r}/\Rg (aa ds) l/\Up (wX kf ds) l (aa ds))
  rfl u (by exact eK (cj ‹_›) ‹_›) (λd1 N a ed dr c0 a0=>⟨a0.1,d1,dr,c0,a0.2⟩) ?_) ?_ λ_ _ o=>o)
 .rw[y];refine NG (n:=aa ds) (lt:=cA (wX kf ds)) (λj p C t I Z=>?_) (CZ (aa ds)) (NL ax).jB ⟨rfl,(NL ax).ev _,UC _ ax⟩;intros j p C _ t I Z;unfold kas_ask;have ek:j<aa g:=y.symm▸t;have eg:p<aa g:=y.symm▸I;let ⟨av,c2,c5⟩:=K.get (dZ t);let ⟨d2,ct,d0⟩:=K.get (dZ I);have de:g.getD j oM=av:=by rw[kN,c2];rfl
  have dT:g.getD p oM=d2:=by rw[kN,ct];rfl
  rw[de,dT];have W:ds[j]∈ds:=sU t;have a8:ds[p]∈ds:=sU I;have ho:=a9 _ W _ a8
  have c7:cA (wX kf ds) j p=decide (kf ds[j]<kf ds[p]):=by
   unfold cA wX;have dj:ds.getD j kQ=ds[j]:=by simp[kN,t]
   have dE:ds.getD p kQ=ds[p]:=by simp[kN,I]
   rw[dj,dE]
  rw[c7] at Z;let ⟨cw,b5,dv⟩:=M _ W;let ⟨bj,dz,dt⟩:=M _ a8;have cf:=D.Dv W;generalize ds[j]=d5 at*;generalize ds[p]=ei at*;subst dv;subst dt;cases c5 with
  |@tup eh bk _ P _ _ a5=>
   cases d0 with
   |@tup ej df _ R _ _ a3=>
    let ⟨d6,F⟩:=P;revert F;intro P;let ⟨eb,F⟩:=R;revert F;intro R;have bt:=a5.size;have dq:=a3.size;refine kat_lt P J R J ?_;rw[HK] at ho;have cp:oW .Lt (iM cw::b5).length (iM bj::dz).length=decide (bk.size<df.size):=by rw[bt,dq];rfl
    rw[cp] at ho;exact WU Z a5 a3 ho (eK (gc (aj (aj (F0 _ _) (jw _)) cf) _) hz)
 intro F a bp;obtain⟨⟨⟩,N⟩:=F;obtain⟨rfl,l,dp,c4,ae,cz⟩:=bp;dsimp only;have dk:=kat_snds J dp;rw[dk,c4];let ⟨di,b2⟩:=WY (kf:=kf) ae cz
 have c3:∀j∈l.toList,j<aa g:=λj t=>by
  have:j∈vY (eT (aa ds)):=ae.mem_iff.mp (by simpa using t);rw[y];simpa using this
 have:=a7 (l.toList.map λj=>g.getD j oM) (l.toList.map λj=>ds.getD j kQ) (by rw[aP,jN,ae.size];exact a6) (K.WX l.toList c3) di b2;exact this
end
section
variable {c:C}{ρ:Nm}{e o e₁ e₂:aT}{v:V}{p pos apos:Pos}{a:ak}{ds:aH}
def Pu{a:Str}{id:String}{f:Shared}{g:cI}(n:St c ρ f)(q:c.env.kindOf a=U .globalImplicit)(k:a∈oS)(i:bootBuiltins a=U (.builtin id))(j:(a==("__debug__":Str))=aA)(l:a≠"__name__")(hs:cD e=aA)
 (h:wpAny c.m c.A (eval e c.env) (λb d=>wpAny c.m c.A (call (.builtin id) [b]) g no d) no f):wpAny c.m c.A (eval (.Call (.Name a p) [e] [] pos) c.env) g no f:=by
 refine yM (n.tF q k i j l ?_);refine M8 (e:=e) (rest:=[]) ?_ (iL _ hs []) (qx (es:=[]) J pos c.env);rw[iL _ hs];exact m8 (aS h (λb d o=>qj o))
def W3{name:Str}{e:cN}{g id:String}{k:Shared}{j:cI}(u:Gr g)(v:Slot g name id)(r:typeOf (.builtin id)=pure (.type "method_descriptor"))
 (n:attributeBase o name c.env (eval o c.env)=eval o c.env) (p:(apos.endLine==pos.line)=af) (hs:ee e=af) (w:aa e<29)
 (h:wpAny c.m c.A (eval o c.env) (λd b=>b.TypeIs d g/\(∀a,d=.ref a->∃f,b.heap.get? a=U f/\f.dict=ai)/\wpAny c.m c.A (callWith pos (.builtin id) [d] (backTo pos (starEach e c.env)) []) j no b) no k):wpAny c.m c.A (eval (.Call (.Attribute o name apos) e [] pos) c.env) j no k:=by
 have l:(backTo pos (starEach e c.env)).all (λi=>!i.1)=af:=by
  have:=qx hs pos c.env;rw[Au];intro i s;have:=Aw.mp this i s
  simpa using this
 refine Lk n (by rw[l];simp[H9];exact aj ‹_› ∅) p J (aS h (λd b t=>?_));rcases t with⟨t1,t2,q⟩
 exact⟨g,id,u,v,r,t1,t2,q⟩
def o7(c:C)(ρ:Nm)(e:aT)(ds:aH):Prop:=∀b,St c ρ b->wpAny c.m c.A (eval e c.env) (λj a=>Kp b a/\∀(g:Around) (f:cQ->Shared->Prop),g.handled=ai->
 (∀d i h,Kp a d->aW d.heap c.M i h->h.Perm ds->f i d)->wpAny c.m g (collect j) f no a) no b
theorem o7.list(h:Ev c ρ e v)(q:iA c v ds):o7 c ρ e ds:=λs g=>by
 refine aS (h s g) (λt a b=>⟨b.k,λw u y m=>?_⟩);let ⟨x,d,zy,n,p,i⟩:=yJ b.r (g.bs.kp b.k) q;refine collect_list (vs:=d.toList) (by rw[Array.toArray_toList];exact n.isList) ?_ (by rw[i.length];exact gZ p)
 have l:Kp a {a with heap:=(a.heap.push (seqObj "list" #[] 0)).update a.heap.objs.size (gR (·++d.toList.toArray))}:=⟨rfl,rfl,λj o e=>by
  have f:j<a.heap.objs.size:=d7 e;show((a.heap.push _).update _ _).get? j=_;rw[L7 _ _ _ _ (eN f),Heap.get?_push_ne _ _ _ (eN f)];exact e⟩
 exact m _ d.toList ds l (i.keep l.keep) (.refl _)
def Iw:∀{b:cQ} {ds:aH},aa b=aa ds->(∀(f:Nat) v,b[f]?=U v->∃d,ds[f]?=U d/\Rep h M v d)->aW h M b ds
 :=by
 intro b
 induction b with
 |nil=>
  intro ds a _;cases ds with
  |nil=>exact .nil
  |cons=>cases a
 |cons v b g=>
  intro ds a c;cases ds with
  |nil=>cases a
  |cons d ds=>
   let ⟨k,e,i⟩:=c 0 v J;cases e;exact .cons i (g (yy a) λf v j=>c (f+1) v j)
def DR.get{i:Type}{R:aC->i->Prop}{c:List (Int×aC)}{d:List (Int×i)}(f:DR R c d){a:Nat}{k:Int}{u:aC}(h:c[a]?=U (k,u)):∃b,d[a]?=U (k,b)/\R u b:=
 DR.rec (motive:=λc d z=>∀(a:Nat) (k:Int) (u:aC),c[a]?=U (k,u)->∃b,d[a]?=U (k,b)/\R u b) (λz z z e=>nomatch An.symm.trans e)
  (λ{_ _ b _ _} f _ ih a k u=>Cq (λe=>have g:=Prod.mk.inj (dF e);⟨b,aR (λk=>U (k,b)) g.1,g.2▸f⟩) (λj z=>ih j k u) a) f a k u h
def Bm{a:Program}{c:World}{k:Int}{v:aC}(h:(intKind a c).is k v=af):∃b,v=.int k b:=by
 cases v<;>simp[intKind,Value.isInt] at h;subst h;exact⟨_,rfl⟩
def o7.keys{d:List (Int×V)}(h:Ev c ρ e (.r a))(hs:c.σ a=U (.i d)):o7 c ρ e (d.map λb=>.int b.1):=by
 intros c ρ e a d _ h hs;exact λF n=>by
  refine aS (h F n) (λj I f=>⟨f.k,λt H G q=>?_⟩);obtain rfl:j=.ref a:=f.r;let ⟨B,y,C,o,ns⟩:=(n.bs.kp f.k).dict hs;let ⟨E,u⟩:=y.dictAt;have g:=o.length;refine kdu_collect (A:=t) (kdl_dict (knd:=intKind c.prog c.w) (kvs:=B) (ep:=E) ns) G u (by rw[g];exact gZ C) λL J D keep l=>?_
  refine q _ D.toList (d.map λb=>.int b.1) ⟨rfl,rfl,keep⟩ ?_ (.refl _);refine Iw (by rw[jN,l.1,g,aP]) λx v p=>?_
  let ⟨m,j,e,b⟩:=l.2 x v (by rw[<-gP];exact p);let ⟨K,s,_⟩:=o.get e;let ⟨z,zy⟩:=Bm b;exact⟨.int m,by rw[cC,s];rfl,.int m z⟩
def Pw:bootBuiltins "sorted"=U (.builtin "sorted"):=by first|rfl|decide+kernel
def Px{c:Program}{k:World}{j:Around}{a:Shared}{l:aC}{n:cI}{G:cQ->Shared->Prop}
 (u:∀h:cQ->Shared->Prop,(∀b d,Kp a b->G d b->h d b)->wpAny (model c k) j.in1 (collect l) h no a)
 (t:∀d b,G d b->aa d<64)
 (s:∀b f d D,Kp a b->G d b->Kp b f->b.heap.get? D=ai->f.heap.get? D=U (seqObj "list" d.toArray 0)->wpAny (model c k) j.in1.in1 (gX.«list.sort» ⟨[.ref D],[]⟩) (λi g=>i=.done (.ret .none)/\n (.ref D) g) no f):
 wpAny (model c k) j (call (.builtin "sorted") [l]) n no a:=by
 refine Calls.call_function_entry kind_sorted plain_sorted entry_sorted (args_sorted1 _) ?_;unfold gX.«sorted»;refine ay (m:=checkCount "sorted" 1 1 _) (aM ?_);refine ay (u _ λb d r p=>?_);refine ay (CD ?_ (by have:=t _ _ p;rw[pY];exact aj (gf ‹_›) ∅));have o:(b.heap.push (seqObj "list" d.toArray 0)).get? b.heap.objs.size=U (seqObj "list" d.toArray 0):=dw _ J;refine ay (dW (pV slot_list_sort ⟨_,o,rfl⟩ entry_list_sort (aS (s b {b with heap:=b.heap.push (seqObj "list" d.toArray 0)} d b.heap.objs.size r p (g8 b _) (dX _) o) (λi g ⟨e,q⟩=>⟨.none,e,?_⟩)) (args_list_sort _)));exact aM ⟨_,rfl,q⟩
def W4{c:D->Int}{e f:aH}(h:e.Pairwise (λb d=>c b<=c d))(m:f.Pairwise (λb d=>c b<=c d))(p:e.Perm f)(i:∀b∈e,∀d∈e,c b=c d->b=d):e=f:=p.eq_of_pairwise (λa n k g l j=>i a k n (p.mem_iff.mpr g) (sY l j)) h m
def cF.W5{kf:D->Int}{v:aH}(h:o7 c ρ e ds)(T:∀d∈ds,Bl d)(a3:D7 kf ds)(ae:∀b∈ds,∀f∈ds,kf b=kf f->b=f)(I:aa ds<64)(a4:D.dO ds<=400)(ho:v.Perm ds)(hs:v.Pairwise (λb f=>kf b<=kf f))(L:autoParam (c.env.kindOf "sorted"=U .globalImplicit) aI)(av:autoParam (cD e=aA) aI):
 cF c ρ (.Call (.Name "sorted" p) [e] [] pos) v:=λY n=>by
 refine Pu n L ∅ Pw ∅ ∅ av (aS (h Y n) (λb a7 F=>?_));rcases F with⟨yW,hc⟩
 refine Px (G:=λm l=>∃j,aW l.heap c.M m j/\j.Perm ds) (λax K=>hc c.A.in1 ax n.bs.room.hh λl m j q s g=>K l m q ⟨j,s,g⟩) (λm l F=>by let ⟨j,s,g⟩:=F;rw[s.length,g.length_eq];exact I) λl V m B q ⟨j,s,g⟩ t x a0=>?_
 have a5:=(n.bs.kp yW).kp q;have X:aW V.heap (λi=>c.M i\/i=B) m j:=s.mono λi o Z _ e=>⟨t.keep i o e,λh=>h.elim Z λr=>by rw[r,x] at e;cases e⟩
 have a6:D.dO j<=400:=by
  have:∀w z:aH,w.Perm z->D.dO w=D.dO z:=by
   intro w z g
   induction g with
   |nil=>rfl
   |cons b _ P=>rw[D.dO,D.dO,P]
   |swap b f w=>simp only[D.dO];exact Nat.max_left_comm ..
   |trans _ _ a i=>exact a.trans i
  rw[this _ _ g];exact a4
 refine W0 (ds:=j) (kf:=kf) a0 X (.inr J) (λd aw=>T d (g.mem_iff.mp aw)) (λb H f C=>a3 b (g.mem_iff.mp H) f (g.mem_iff.mp C)) (by rw[g.length_eq];exact I) (uM (k:=2) ‹_› n.bs.room.u J) λO W au E pl S y R=>⟨rfl,?_⟩
 have N:∀i o,l.heap.get? i=U o->O.heap.get? i=U o:=λi o e=>E.keep i o (λr=>by have r:i=B:=r;rw[r,x] at e;cases e) (t.keep i o e)
 have Q:au=v:=W4 R hs (y.trans (g.trans ho.symm)) λb H f C=>ae b ((y.trans g).mem_iff.mp H) f ((y.trans g).mem_iff.mp C)
 subst Q;refine⟨yW.trans (q.trans ⟨E.gens.trans t.gens,E.os.trans t.os,N⟩),B,W,rfl,fL yW (fL q x),pl,?_,S⟩;rw[ho.length_eq];unfold bf;exact aj (gf ‹_›) ∅
def cF.W6{ns:aF}{q:aF}(h:o7 c ρ e (eY ns))(D:aa ns<64)(ho:q.Perm ns)(hs:q.Pairwise (·<=·))(I:autoParam (c.env.kindOf "sorted"=U .globalImplicit) aI)(Z:autoParam (cD e=aA) aI):
 cF c ρ (.Call (.Name "sorted" p) [e] [] pos) (eY q):=λV v=>by
 refine Pu v I ∅ Pw ∅ ∅ Z (aS (h V v) (λa0 a4 x=>?_));rcases x with⟨yW,hc⟩
 refine Px (G:=λg n=>∃f,AU g f/\f.Perm ns) (λav H=>hc c.A.in1 av v.bs.room.hh λn g s r m k=>H n g r ?_) (λg n x=>by let ⟨f,m,k⟩:=x;rw[m.length,k.length_eq];exact D) λn d g b r ⟨f,m,k⟩ u C z=>?_
 .have:∃f,s=eY f/\f.Perm ns:=by
   have F:∀i∈s,∃j,i=.int j:=λi y=>by
    let ⟨j,_,e⟩:=aY.mp (k.mem_iff.mp y);exact⟨j,e.symm⟩
   refine⟨s.map λi=>match i with|.int j=>j|_=>0,?_,?_⟩
   .unfold eY;rw[bV]
    conv=>lhs;rw[<-uz s]
    apply j0;intro i y;let ⟨j,zy⟩:=F i y;rfl
   have:=k.map λi=>match i with|.int j=>j|_=>0
   refine this.trans ?_;unfold eY;rw[bV];exact .of_eq (by
    conv=>rhs;rw[<-uz ns]
    rfl)
  let ⟨f,e,W⟩:=this;subst e;exact⟨f,m.ints,W⟩
 refine list_sort_tree (P:=λS d=>S=.done (.ret .none)/\_) z m (by rw[m.length,k.length_eq];exact D) λl aw ae au X=>⟨rfl,?_⟩
 have O:aw=q:=ksm_same (au.trans (k.trans ho.symm)) X hs;subst O;have a3:b<d.heap.objs.size:=d7 z;have R:=qk d.heap b (gR λ_=>(#[]:Array aC))
 have K:∀a o,a≠b->d.heap.get? a=U o->(sortedHeap d.heap b g l).get? a=U o:=λa o B e=>by
  unfold sortedHeap;rw[L7 _ _ _ _ B];exact cG _ (cG _ ((R.2 a B).trans e))
 obtain⟨E,ax⟩:∃E,(d.heap.update b (gR λ_=>(#[]:Array aC))).get? b=U (seqObj "list" #[] E):=⟨_,Dc z λ_=>#[]⟩
 have pl:PL (sortedHeap d.heap b g l) b l:=by
  unfold sortedHeap;exact⟨_,Dc (cG _ (cG _ ax)) λ_=>l⟩
 have J:∀a o,n.heap.get? a=U o->(sortedHeap d.heap b g l).get? a=U o:=λa o e=>K a o (λT=>by rw[T,C] at e;cases e) (u.keep a o e)
 refine⟨yW.trans (r.trans ⟨u.gens,u.os,J⟩),b,l,rfl,fL yW (fL r C),pl,?_,?_⟩
 .unfold eY;rw[aP,ho.length_eq];unfold bf;exact aj (gf ‹_›) ∅
 have Y:∀{t:cQ} {w:aF},AU t w->aW (sortedHeap d.heap b g l) (λa=>c.M a\/a=b) t (eY w):=by
  intro t w h
  induction h with
  |nil=>exact .nil
  |cons Q L _ N=>exact .cons (.int Q L) N
 exact Y ae
end
open Mine.cF renaming W6->Iz
open Mine.o7 renaming list->IA
section
variable {α:Type}
def Py{b:Type}{c:b->Prop}{e:List b}{d:b}(h:∀a∈e,c a)(i:c d)(a:b)(g:a∈e++[d]):c a:=(eE.mp g).elim (h a) λf=>dh.mp f▸i
def D8(k:Int):look ([]:List (Int×α)) k=ai:=rfl
def jD(c:Int×α)(d:List (Int×α))(k:Int):look (c::d) k=if c.1=k then U c.2 else look d k:=
 dite (c.1=k) (λb=>(aR (rP λa:Int×α=>a.2) (List.find?_cons_of_pos (p:=λe:Int×α=>decide (e.1=k)) (l:=d) (decide_eq_true b))).trans (az b).symm) λb=>(aR (rP λa:Int×α=>a.2) (Gy (p:=λe:Int×α=>decide (e.1=k)) (l:=d) λa=>b (eZ a))).trans (aB b).symm
def D9(a b:List (Int×α))(k:Int):look (a++b) k=(look a k).or (look b k):=by
 induction a with
 |nil=>simp[D8]
 |cons d a c=>rw[v8,jD,jD,c];split<;>simp
def qH{e:List (Int×α)}{k:Int}{c:α}(h:look e k=U c):(k,c)∈e:=
 (G4.mp h).elim λa b=>have d:a.1=k:=eZ (Ax (p:=λa:Int×α=>decide (a.1=k)) b.1);have d:a=(k,c):=fh d b.2;d▸CI b.1
def nP{d:List (Int×α)}{k:Int}:look d k=ai↔k∉d.map (·.1):=
 (Option.map_eq_none_iff.trans List.find?_eq_none).trans ⟨λc f=>(aY.mp f).elim λb a=>c b a.1 (decide_eq_true a.2),λc b a e=>c (aY.mpr ⟨b,a,eZ e⟩)⟩
def Nk(a:List (Int×α)):Prop:=(a.map (·.1)).Nodup
def Nk.tail{b:Int×α}{a:List (Int×α)}(h:Nk (b::a)):Nk a:=(ff.mp h).2
def Nk.head{b:Int×α}(h:Nk (b::a)):look a b.1=ai:=nP.mpr (ff.mp h).1
theorem Nk.look(h:Nk a){p:Int×α}(b:p∈a):look a p.1=U p.2:=by
 induction a with
 |nil=>cases b
 |cons e a d=>
  rw[jD];rcases bN.mp b with c|b
  .subst c;rw[az J]
  by_cases c:e.1=p.1
  .have:=h.head;rw[c,d h.tail b] at this;cases this
  rw[aB c];exact d h.tail b
def Bo{b:List (Int×α)}:(b.any λa=>a.1=k)=(look b k).isSome:=by
 induction b with
 |nil=>rfl
 |cons a b d=>
  rw[Ay,jD,d]
  by_cases c:a.1=k
  .simp[c]
  simp[c]
def W7(a:List (Int×α))(k:Int)(b:α):(put a k b).map (·.1)=if(look a k).isSome then a.map (·.1) else a.map (·.1)++[k]:=by
 unfold put;rw[Bo];split
 .rw[bV];congr 1;funext p;simp only[C4];split<;>rfl
 simp
def W8(d:List (Int×α))(k:Int)(f:α)(c:Int):look (d.map λa=>if a.1=k then(a.1,f) else a) c=if k=c then(look d k).map (λz=>f) else look d c:=by
 induction d with
 |nil=>exact(ite_self _).symm
 |cons a d h=>
  rw[dM,jD,h,jD,jD]
  by_cases b:a.1=k
  .subst b;rw[az J,az J];by_cases b:a.1=c
   .rw[az b,az b];rfl
   rw[aB b,aB b,aB b,aB b]
  rw[aB b,aB b];by_cases e:a.1=c
  .rw[az e,az e,aB (λg=>b (e.trans g.symm))]
  rw[aB e,aB e]
def qI(c:List (Int×α))(k:Int)(f:α)(b:Int):look (put c k f) b=if k=b then U f else look c b:=by
 unfold put;rw[Bo];split
 .rename_i a;rw[W8];generalize look c k=e at a;cases e with
  |none=>cases a
  |some g=>rfl
 rename_i a;rw[D9,jD,D8]
 by_cases d:k=b
 .subst d;rw[az J,az J];generalize look c k=e at a;cases e with
  |none=>rfl
  |some g=>exact aV J a
 rw[aB d,aB d];exact G5
def qJ(h:Nk a)(k:Int)(c:α):Nk (put a k c):=by
 unfold Nk;rw[W7];split
 .exact h
 rename_i g;have e:k∉a.map (·.1):=nP.mp (by simpa using g);rw[jz];exact⟨h,by simp,λi f j b d=>e (by simp at b;rw[<-b,<-d];exact f)⟩
def Ea:∀{a:List (Int×α)},Nk a->Nk (dJ a b):=by
 induction b with
 |nil=>exact λc=>c
 |cons e b d=>exact λc=>d (qJ c _ _)
def kh:Nk ([]:List (Int×α)):=uy
def wY(h:look a k=ai)(b:α):put a k b=a++[(k,b)]:=by
 unfold put;rw[Bo,h];rfl
def W9:∀{acc:List (Int×α)},Nk (acc++a)->dJ acc a=acc++a:=by
 induction a with
 |nil=>intro acc c;simp[dJ]
 |cons b a g=>
  intro acc c;have d:acc++b::a=(acc++[b])++a:=by simp
  have f:look acc b.1=ai:=nP.mpr λe=>by
   unfold Nk at c;rw[cy,dM,jz] at c;exact c.2.2 _ e _ (.head _) J
  show dJ (put acc b.1 b.2) a=_;rw[wY f,d];exact g (by rw[<-d];exact c)
def Bp{a:List (Int×α)}(h:Nk a):dJ [] a=a:=W9 (acc:=[]) h
noncomputable def tM(a:Int×α):List (Int×α)->List (Int×α)
 |[]=>[a]
 |q::l=>if a.1<=q.1 then a::q::l else q::tM a l
def IB(b a:Int×α)(c:List (Int×α)):tM b (a::c)=if b.1<=a.1 then b::a::c else a::tM b c:=rfl
def bH(a:List (Int×α)):List (Int×α):=a.foldr tM []
def Sk(c:List (Int×α)):Prop:=c.Pairwise λb a=>b.1<a.1
def Pz(b:Int×α)(a:List (Int×α)):(tM b a).Perm (b::a):=by
 induction a with
 |nil=>exact .refl _
 |cons c a d=>
  rw[IB];split
  .exact .refl _
  exact(Np c d).trans (.swap b c a)
def Xa{b a:Int×α}{c:List (Int×α)}:a∈tM b c↔a=b\/a∈c:=(Pz b c).mem_iff.trans bN
def wZ(a:List (Int×α)):(bH a).Perm a:=by
 induction a with
 |nil=>exact .refl _
 |cons b a c=>exact(Pz b (bH a)).trans (.cons b c)
def kq{b:Int×α}{a:List (Int×α)}:b∈bH a↔b∈a:=(wZ a).mem_iff
def u7(a:List (Int×α)):(bH a).length=aa a:=(wZ a).length_eq
def Nk.perm{a b:List (Int×α)}(h:Nk a)(c:a.Perm b):Nk b:=(c.map (λd:Int×α=>d.1)).nodup_iff.mp h
def tN{a:List (Int×α)}(h:Nk a):Nk (bH a):=h.perm (wZ a).symm
def Nk.Xb{b c:List (Int×α)}(h:Nk b)(d:b.Perm c)(k:Int):Mine.look b k=Mine.look c k:=by
 cases e:Mine.look c k with
 |none=>
  rw[nP] at e⊢;exact λa=>e ((d.map (·.1)).mem_iff.mp a)
 |some a=>exact h.look (p:=(k,a)) (d.mem_iff.mpr (qH e))
def yX{a:List (Int×α)}(h:Nk a)(k:Int):look (bH a) k=look a k:=(tN h).Xb (wZ a) k
def Xc{d:Int×α}{c:List (Int×α)}(h:Sk c)(g:∀a∈c,a.1≠d.1):Sk (tM d c):=by
 induction c with
 |nil=>exact jZ _ _
 |cons j c i=>
  unfold Sk at h;rw[qa] at h;rw[IB];split
  .rename_i f;unfold Sk;rw[qa,qa];refine⟨λa b=>?_,h⟩;rcases bN.mp b with e|b
   .subst e;exact Mg.2 ⟨f,(g a (.head _)).symm⟩
   have:=h.1 a b;exact yo ‹_› ‹_›
  rename_i f;unfold Sk;rw[qa];refine⟨λa b=>?_,i h.2 λa b=>g a (.tail _ b)⟩;rcases Xa.mp b with e|b
  .subst e;exact qe.mp ‹_›
  exact h.1 a b
def u9{a:List (Int×α)}(h:Nk a):Sk (bH a):=by
 induction a with
 |nil=>exact Hu
 |cons f a d=>exact Xc (d h.tail) λe b c=>nP.mp h.head (c▸uA (kq.mp b))
def Sk.nk{b:List (Int×α)}(h:Sk b):Nk b:=jA.mpr (h.imp λ{d a} h (c:d.1=a.1)=>mu a.1 (c▸h))
def Sk.nd{c:List (Int×α)}(h:Sk c):c.Nodup:=Hv (S:=λb a=>b≠a) (λ{b a} h (d:b=a)=>mu a.1 (d▸h)) h
def Sk.ext{b d:List (Int×α)}(h:Sk b)(c:Sk d)(f:∀k,look b k=look d k):b=d:=
 List.Perm.eq_of_pairwise (λz z z z a g=>aV (oH a g) (mu _)) h c ((LG h.nd c.nd).mpr λe=>⟨λa=>qH ((f e.1).symm.trans (h.nk.look a)),λa=>qH ((f e.1).trans (c.nk.look a))⟩)
def lT{a:List (Int×α)}(h:Sk a):bH a=a:=(u9 h.nk).ext h λb=>yX h.nk b
noncomputable def vc(a:Int):aF->aF
 |[]=>[a]
 |q::l=>if a<=q then a::q::l else q::vc a l
def IC(b a:Int)(c:aF):vc b (a::c)=if b<=a then b::a::c else a::vc b c:=rfl
def jb(a:aF):aF:=a.foldr vc []
def PC(b:Int)(a:aF):(vc b a).Perm (b::a):=by
 induction a with
 |nil=>exact .refl _
 |cons c a d=>
  rw[IC];split
  .exact .refl _
  exact(Np c d).trans (.swap b c a)
def w4(a:aF):(jb a).Perm a:=by
 induction a with
 |nil=>exact .refl _
 |cons b a c=>exact(PC b (jb a)).trans (.cons b c)
def Xd(b:Int×α)(a:List (Int×α)):(tM b a).map (·.1)=vc b.1 (a.map (·.1)):=by
 induction a with
 |nil=>rfl
 |cons d a c=>
  rw[IB,dM,IC];split
  .rfl
  rw[dM,c]
def Xe(a:List (Int×α)):(bH a).map (·.1)=jb (a.map (·.1)):=by
 induction a with
 |nil=>rfl
 |cons b a c=>show(tM b (bH a)).map (·.1)=vc b.1 (jb (a.map (·.1)));rw[Xd,c]
def Xf(h:a.Pairwise (·<=·)):(vc b a).Pairwise (·<=·):=by
 induction a with
 |nil=>exact jZ _ _
 |cons i a g=>
  rw[qa] at h;rw[IC];split
  .rename_i f;rw[qa,qa];refine⟨λd c=>?_,h⟩;rcases bN.mp c with e|c
   .subst e;exact f
   have:=h.1 d c;exact dN ‹_› ‹_›
  rename_i f;rw[qa];refine⟨λd c=>?_,g h.2⟩;rcases bN.mp ((PC b a).mem_iff.mp c) with e|c
  .subst e;exact iJ (qe.1 f)
  exact h.1 d c
def Bq(a:aF):(jb a).Pairwise (·<=·):=by
 induction a with
 |nil=>exact Hu
 |cons c a b=>exact Xf b
def PD{a b:aF}(h:a.Pairwise (·<=·))(d:b.Pairwise (·<=·))(c:a.Perm b):a=b:=c.eq_of_pairwise (λz z z z=>sY) h d
def Br:b∈jb a↔b∈a:=(w4 a).mem_iff
def IE(a:aF):(jb a).length=aa a:=(w4 a).length_eq
def PF{b c:aF}(h:b.Nodup)(e:c.Nodup)(d:∀a,a∈b↔a∈c):b.Perm c:=(LG h e).mpr d
end
noncomputable def fV(ns:aF):aF:=ns.foldl (λa b=>if a.any (·==b) then a else a++[b]) []
abbrev aL:=Int×Int
noncomputable def blt(a b:aL):Bool:=decide (a.1<b.1)||(decide (a.1=b.1)&&decide (a.2<b.2))
abbrev ji:=Int×(aL×bz)
inductive gr where
 |prepare (b:aL) (f t:Int)
 |promise (b:aL) (f t:Int) (ks:List ji)
 |refuse (b:aL) (f t:Int) (p:aL)
 |accept (b:aL) (f t:Int) (s:Int) (v:bz)
 |accepted (b:aL) (f t:Int) (s:Int)
 |aq (b:aL) (f t:Int) (s:Int) (v:bz)
set_option genCtorIdx true in
inductive jk where
 |run
 |bW (v:bz)
 |again
 |e8
 |msg (m:gr)
structure aU where
 me:Int
 size:Nat
 promised:aL
 acc:List ji
 aq:bR
 phase:Nat
 aE:aL
 prom:List (Int×List ji)
 props:jQ
 out:List gr
structure aD where
 me:Int
 size:Nat
 promised:aL
 acc:List ji
 aq:bR
 phase:Nat
 aE:aL
 hp:List (Int×List ji)
 hl:jQ
instance:Nonempty gr:=⟨.prepare (0,0) 0 0⟩
instance:Nonempty jk:=⟨.run⟩
instance:Nonempty aU:=⟨⟨0,0,(0,0),[],[],0,(0,0),[],[],[]⟩⟩
instance:Nonempty aD:=⟨⟨0,0,(0,0),[],[],0,(0,0),[],[]⟩⟩
noncomputable def bu(n:Nat):aF:=(eT n).map λ(a:Nat)=>(a:Int)
def bx(c:Nat)(b:Int):aF:=(bu c).filter λa=>decide (a≠b)
noncomputable def cJ:aF->Int
 |[]=>0
 |k::ks=>ks.foldl max k
noncomputable def slots(top:Int):aF:=(eT top.toNat).map λ(a:Nat)=>(a:Int)+1
def aU.of(n:aD):aU:=⟨n.me,n.size,n.promised,dJ [] n.acc,dJ [] n.aq,n.phase,n.aE,if n.phase=1 then dJ [] n.hp else[],if n.phase=2 then dJ [] (n.hl.map λa=>(a.1,(a.2.1,fV a.2.2))) else[],[]⟩
def qK(b:jQ):jQ:=(bH b).map λa=>(a.1,(a.2.1,jb a.2.2))
def aU.tup(a:aU):aD:=⟨a.me,a.size,a.promised,bH a.acc,bH a.aq,a.phase,a.aE,if a.phase=1 then bH a.prom else[],if a.phase=2 then qK a.props else[]⟩
def aU.all(p:aU)(mk:Int->gr):aU:={p with out:=p.out++(bx p.size p.me).map mk}
noncomputable def aU.gV(a:aU)(b:aL):aU:=if b.2≠a.me then{a with promised:=b,phase:=0,prom:=[],props:=[]} else{a with promised:=b}
def aU.check(p:aU)(a:Int):aU:=match look p.props a with
 |some (v,ns)=>if decide (p.size<2*aa ns)&&(look p.aq a).isNone then({p with aq:=put p.aq a v}).all (λb=>.aq p.aE p.me b a v) else p
 |none=>p
def aU.bW(a:aU)(b:Int)(c:bz):aU:=
 (({a with props:=put a.props b (c,[a.me]),acc:=put a.acc b (a.aE,c)}).all (λd=>.accept a.aE a.me d b c)).check b
def gC(b:List ji)(a:ji):List ji:=match look b a.1 with
 |none=>put b a.1 a.2
 |some c=>if blt c.1 a.2.1 then put b a.1 a.2 else b
def eO(a:List ji):List ji:=a.foldl gC []
def aU.lead(a:aU):aU:=if 2*aa a.prom<=a.size then a else
 (slots (cJ ((eO (a.prom.map (·.2)).flatten).map (·.1)))).foldl (λc b=>c.bW b ((look (eO (a.prom.map (·.2)).flatten) b).elim ai (·.2))) {a with phase:=2,prom:=[]}
def aU.message(a:aU):gr->aU
 |.prepare b c _=>if blt b a.promised then{a with out:=a.out++[.refuse b a.me c a.promised]} else
  let d:=a.gV b
  {d with out:=d.out++[.promise b d.me c (bH d.acc)]}
 |.accept b c _ e f=>if blt b a.promised then{a with out:=a.out++[.refuse b a.me c a.promised]} else
  let d:=a.gV b
  {d with acc:=put d.acc e (b,f),out:=d.out++[.accepted b d.me c e]}
 |.aq _ _ _ e f=>{a with aq:=if(look a.aq e).isSome then a.aq else put a.aq e f}
 |.refuse b _ _ g=>if b=a.aE/\a.phase≠0/\blt a.aE g=af then{a with aE:=(g.1,a.me),phase:=0,prom:=[],props:=[]} else a
 |.promise b c _ h=>if b=a.aE/\a.phase=1/\look a.prom c=ai then({a with prom:=put a.prom c h}).lead else a
 |.accepted b c _ e=>if b=a.aE/\a.phase=2 then
  match look a.props e with
  |some (f,ns)=>({a with props:=put a.props e (f,if ns.contains c then ns else ns++[c])}).check e
  |none=>a
  else a
def aU.Eb(a:aU):List gr:=
 if a.phase=1 then(bu a.size).filter (λb=>(look a.prom b).isNone)|>.map λb=>.prepare a.aE a.me b
 else if a.phase=2 then(bH a.props).flatMap λc=>if(look a.aq c.1).isSome then(bx a.size a.me).map λb=>.aq a.aE a.me b c.1 c.2.1
  else((bu a.size).filter λb=>!c.2.2.contains b).map λb=>.accept a.aE a.me b c.1 c.2.1
 else[]
def aU.event(a:aU):jk->aU
 |.run=>
  let b:aL:=(max a.promised.1 a.aE.1+1,a.me)
  (({a with aE:=b,promised:=b,phase:=1,props:=[],prom:=[(a.me,bH a.acc)]}).all (λc=>.prepare b a.me c)).lead
 |.bW d=>if a.phase=2 then a.bW (cJ (a.props.map (·.1))+1) d else a
 |.again=>{a with out:=a.out++a.Eb}
 |.e8=>a
 |.msg e=>a.message e
def bK(n:aD)(a:jk):aD×List gr:=(((aU.of n).event a).tup,((aU.of n).event a).out)
abbrev aO:=List aD
abbrev cT:=List gr
abbrev bU:=List ji
open Mine.aU renaming of->ig,message->lU,check->sd,lead->yY,Eb->yZ,event->Bt,bW->Ec,tup->Ed
open Mine.gr renaming prepare->qL,accept->vd,aq->Bu
def PG(a:aF)(k:Int):fV (a++[k])=if k∈fV a then fV a else fV a++[k]:=by
 unfold fV;rw[j3,i6,List.foldl_nil]
 by_cases b:k∈Gz (λc k=>if(c.any λd=>d==k)=af then c else c++[k]) [] a
 .rw[az b,az];rw[yh];exact⟨k,b,by simp⟩
 rw[aB b,aB];rw[yh];intro f;let ⟨d,g,e⟩:=f;rw[beq_iff_eq] at e;exact b (e▸g)
def IF{e:Type}{b:List e->Prop}(h0:b [])(h1:∀c a,b c->b (c++[a]))(c:List e):b c:=by
 have:∀d:List e,b d.reverse:=by
  intro d
  induction d with
  |nil=>exact h0
  |cons a d f=>rw[ux];exact h1 _ _ f
 simpa using this c.reverse
def y9:b∈fV a↔b∈a:=by
 induction a using IF with
 |h0=>rfl
 |h1 a f d=>
  rw[PG,eE,dh];split
  .rename_i e;constructor
   .exact λc=>.inl (d.mp c)
   rintro(c|c)
   .exact d.mpr c
   subst c;exact e
  rw[eE,dh,d]
def IG(a:aF):(fV a).Nodup:=by
 induction a using IF with
 |h0=>exact uy
 |h1 a i c=>
  rw[PG];split
  .exact c
  rename_i f;rw[jz];exact⟨c,by simp,λg e h b d=>f (by simp at b;rw[<-b,<-d];exact e)⟩
def Xg{c f:Type}(d:Int->c->f)(b:List (Int×c))(k:Int):look (b.map λa=>(a.1,d a.1 a.2)) k=(look b k).map (d k):=by
 induction b with
 |nil=>rfl
 |cons h b g=>
  rw[dM,jD,jD,g]
  by_cases e:h.1=k
  .simp[e]
  simp[e]
def II(n:Nat):(slots (n:Int)).length=n:=by simp[slots]
def Xh(n:Nat):slots ((n:Int)+1)=slots n++[(n:Int)+1]:=by
 unfold slots;have:((n:Int)+1).toNat=n+1:=rfl;rw[this,v9,cy];simp
def se:k∈slots n↔1<=k/\k<=n:=aY.trans
 ⟨
  λa=>a.elim λc a=>a.2▸⟨GQ (fJ c),Int.add_one_le_iff.mpr (Mh.mp (uB.mp a.1))⟩,
  λa=>have b:=qf (Me a.1);⟨(k-1).toNat,uB.mpr (Mh.mpr (yo (uD b) (rL (Int.sub_lt_self k Int.one_pos) a.2))),(aR (·+1) b).trans (GK k 1)⟩⟩
def PJ(n:Int):(slots n).Pairwise (·<·):=jA.mpr (LH.imp λa=>Mi (dB.mpr a) 1)
def Ef(n:Nat):cJ (slots (n:Int))=n:=by
 have l:∀(c:aF) (d f:Int),(∀b∈c,b<=f)->d<=f->(d=f\/f∈c)->c.foldl max d=f:=by
  intro c
  induction c with
  |nil=>exact λd f z j h=>h.elim id λe=>nomatch e
  |cons m c o=>
   intro d f e j h;rw[i6];have k:=e m (.head _);refine o _ f (λb i=>e b (.tail _ i)) (Mj.mpr ⟨j,k⟩) ?_;rcases h with a|g
   .exact .inl (a▸GR (a▸k))
   rcases bN.mp g with a|g
   .exact .inl (a▸yp (a▸j))
   exact .inr g
 cases n with
 |zero=>rfl
 |succ n=>
  have a:slots ((n+1:Nat):Int)≠[]:=λe=>by have:=II (n+1);rw[e] at this;cases this
  cases e:slots ((n+1:Nat):Int) with
  |nil=>exact aV e a
  |cons d c=>
   show c.foldl max d=_;have g:∀b,b∈d::c↔1<=b/\b<=((n+1:Nat):Int):=λb=>by rw[<-e];exact se
   refine l c d _ (λb i=>((g b).mp (.tail _ i)).2) ((g d).mp (.head _)).2 ?_;have:=(g ((n+1:Nat):Int)).mpr ⟨iK.mpr (jK 1 n),lE _⟩;rcases bN.mp this with a|a
   .exact .inl a.symm
   exact .inr a
def Xi{b:Type}{a:List (Int×b)}{n:Int}(h:a.map (·.1)=slots n):Sk a:=by
 have:=PJ n;rw[<-h,jA] at this;exact this
def Xj{a c:Int}{f h:Prop}(g:¬f↔h):¬(a<c\/(a=c/\f))↔c<a\/(c=a/\h):=
 ⟨
  λd=>dite (c<a) .inl λi=>have e:c=a:=sY (iI.mp λa=>d (.inl a)) (iI.mp i);.inr ⟨e,g.mp λa=>d (.inr ⟨e.symm,a⟩)⟩,
  λb d=>b.elim (λb=>d.elim (λa=>mu _ (oH b a)) λa=>mu _ (a.1▸b)) λb=>d.elim (λa=>mu _ (b.1▸a)) λa=>g.mpr b.2 a.2⟩
def PK{b c d:Int}{e g C:Prop}(i:e->g->C)(h:b<c\/(b=c/\e))(f:c<d\/(c=d/\g)):b<d\/(b=d/\C):=
 h.elim (λh=>.inl (f.elim (oH h) λa=>a.1▸h)) λh=>f.elim (λa=>.inl (h.1▸a)) λa=>.inr ⟨h.1.trans a.1,i h.2 a.2⟩
def Xk{b c:Int}{d f:Prop}(h:b<c\/(b=c/\d))(e:c<b\/(c=b/\f)):b=c/\d/\f:=
 h.elim (λh=>e.elim (λa=>aV (oH h a) (mu _)) λa=>aV (a.1▸h) (mu _)) λh=>e.elim (λa=>aV (h.1▸a) (mu _)) λa=>⟨h.1,h.2,a.2⟩
def Eg:blt a b=af↔a.1<b.1\/(a.1=b.1/\a.2<b.2):=by simp[blt]
def sf{a b:aL}:blt a b=aA↔b.1<a.1\/(b.1=a.1/\b.2<=a.2):=(iff_of_eq (My _)).symm.trans ((not_congr Eg).trans (Xj iI))
def vf{a b c:aL}(h:blt b a=aA)(d:blt c b=aA):blt c a=aA:=sf.mpr (PK dN (sf.mp h) (sf.mp d))
def IJ(h:blt a b=af):blt b a=aA:=sf.mpr ((Eg.mp h).imp id (And.imp id iJ))
def PM{a b c:aL}(h1:blt a b=aA)(h:blt a c=af):blt b c=af:=Eg.mpr (PK yo (sf.mp h1) (Eg.mp h))
def IK{b c:aL}(h:blt b c=aA)(d:blt c b=aA):b=c:=have a:=Xk (sf.mp d) (sf.mp h);fh a.1 (sY a.2.1 a.2.2)
def IL(c:bU)(b:Int)(e:Option (aL×bz)):Prop:=match e with
 |none=>∀a∈c,a.1≠b
 |some d=>(b,d)∈c/\∀a∈c,a.1=b->blt d.1 a.2.1=aA
def tO(b:aL):blt b b=aA:=sf.mpr (.inr ⟨rfl,lE _⟩)
def IM(k:bU)(f:Int):IL k f (look (eO k) f):=by
 induction k using IF with
 |h0=>exact λc a=>by cases a
 |h1 e d g=>
  have n:eO (e++[d])=gC (eO e) d:=by simp[eO]
  rw[n]
  have o:∀i,IL e f i->d.1≠f->IL (e++[d]) f i:=by
   intro i l m;cases i with
   |none=>exact λc a=>(eE.mp a).elim (l c) λa=>by simp at a;rw[a];exact m
   |some j=>exact⟨mh _ l.1,λc a b=>(eE.mp a).elim (λa=>l.2 c a b) λa=>by simp at a;rw[a] at b;exact aV b m⟩
  by_cases b:d.1=f
  .unfold gC;subst b;cases e2:look (eO e) d.1 with
   |none=>
    rw[e2] at g;dsimp only;rw[qI,az J];refine⟨by simp,λc a b=>?_⟩;rcases eE.mp a with a|a
    .exact aV b (g c a)
    simp at a;rw[a];exact tO _
   |some j=>
    rw[e2] at g;dsimp only
    by_cases h:blt j.1 d.2.1=af
    .rw[az h,qI,az J];refine⟨by simp,λc a b=>?_⟩;rcases eE.mp a with a|a
     .exact IJ (PM (g.2 c a b) h)
     simp at a;rw[a];exact tO _
    rw[aB h,e2];refine⟨mh _ g.1,λc a b=>?_⟩;rcases eE.mp a with a|a
    .exact g.2 c a b
    simp at a;rw[a];simpa using h
  have:look (gC (eO e) d) f=look (eO e) f:=by
   unfold gC;cases look (eO e) d.1 with
   |none=>dsimp only;rw[qI,aB b]
   |some j=>
    dsimp only;split
    .rw[qI,aB b]
    rfl
  rw[this];exact o _ g b
def nQ(c:bU):Prop:=∀a∈c,∀b∈c,a.1=b.1->a.2.1=b.2.1->a.2.2=b.2.2
def Bv:∀{l:aF},l≠[]->cJ l∈l/\∀a∈l,a<=cJ l:=by
 have k:∀(l:aF) (b:Int),(l.foldl max b=b\/l.foldl max b∈l)/\b<=l.foldl max b/\∀a∈l,a<=l.foldl max b:=by
  intro l
  induction l with
  |nil=>exact λb=>⟨.inl J,lE _,λa c=>by cases c⟩
  |cons i l m=>
   intro b;rw[i6];let ⟨h,f,g⟩:=m (max b i);refine⟨?_,dN (CU b i) f,λa d=>?_⟩
   .rcases h with c|c
    .rw[c];rcases Int.le_total b i with hab|hab
     .right;rw[yp hab];exact .head _
     left;exact GR hab
    right;exact .tail _ c
   rcases bN.mp d with e|d
   .subst e;exact dN (Ml b a) f
   exact g a d
 intro l j;cases l with
 |nil=>exact aV J j
 |cons b l=>
  let ⟨h,f,g⟩:=k l b;refine⟨?_,λa d=>?_⟩
  .rcases h with c|c
   .show l.foldl max b∈_;rw[c];exact .head _
   exact .tail _ c
  rcases bN.mp d with e|d
  .subst e;exact f
  exact g a d
def Xl(h:∀c,c∈a↔c∈b):cJ a=cJ b:=by
 cases a with
 |nil=>
  cases b with
  |nil=>rfl
  |cons m b=>have:=(h m).mpr (.head _);cases this
 |cons e a=>
  have g:b≠[]:=λd=>by have:=(h e).mp (.head _);(first|exact ns (d) this|exact ns this (d)|(rw[d] at this;cases this))
  let ⟨k,i⟩:=Bv (l:=e::a) (by simp);let ⟨j,f⟩:=Bv g;exact sY (f _ ((h _).mp k)) (i _ ((h _).mpr j))
def qM{c:Type}{a:List (Int×c)}{k:Int}:k∈a.map (·.1)↔(look a k).isSome=af:=by
 rw[Option.isSome_iff_ne_none];have:=@nP c a k;constructor
 .exact λb d=>this.mp d b
 intro b;exact rR λe=>b (this.mpr e)
def PN(k:Int):slots k=slots ((k.toNat:Nat):Int):=by unfold slots;congr 2
def Xm{b:bU}(h:Nk b):nQ b:=λg f i e d z=>by
 have a:=h.look f;have c:=h.look e;rw[d,c] at a;rw[dF a]
def n0{b:Type}{c:b->Prop}:∀a∈([]:List b),c a:=Az _
def n1{b:Type}{d:b->Prop}{c:b}(h:d c):∀a∈[c],d a:=rI.mpr h
def PO{p:aU}(a:aL):(p.gV a).out=p.out/\(p.gV a).me=p.me/\(p.gV a).acc=p.acc/\(p.gV a).aE=p.aE:=by
 unfold aU.gV;split<;>exact⟨rfl,rfl,rfl,rfl⟩
def dP(b:Nat)(a:Int):Prop:=0<=a/\a<b
def Eh(h:a∈bu n):dP n a:=by
 let ⟨b,c,zy⟩:=aY.mp h;exact⟨fJ b,dB.mpr (uB.mp c)⟩
def PR{b a:Int}(h:a∈bx size b):dP size a:=Eh (cH.mp h).1
def Ei(n:Nat):(bu n).length=n:=(aP _).trans gx
def Bw{c:Type}{d:List (Int×c)}{p a:Int×c}(h:a∈put d p.1 p.2):a∈d\/a=p:=by
 unfold put at h;split at h
 .let ⟨g,e,b⟩:=aY.mp h;split at b
  .rename_i f;right;rw[<-b,f]
  left;rw[<-b];exact e
 exact(eE.mp h).imp id dh.mp
def Xn{e:Type}{d:List (Int×e)}:∀{b:List (Int×e)} {a:Int×e},a∈dJ b d->a∈b\/a∈d:=by
 induction d with
 |nil=>exact λc=>.inl c
 |cons f d h=>exact λc=>(h c).elim (λc=>(Bw c).imp id λg:_=f=>g▸.head _) λc=>.inr (.tail _ c)
def Xo{e g:Type}(c:e->List g)(n:Nat):∀(a:List e),(∀b∈a,(c b).length<=n)->(a.flatMap c).length<=n*aa a:=by
 intro i
 induction i with
 |nil=>
  intro _;exact cL _
 |cons j a f=>
  intro d;rw[sW,bO,iz,Nat.mul_succ,kK];exact dQ (f λb h=>d b (.tail _ h)) (d j (.head _))
noncomputable def gr.to:gr->Int
 |.prepare _ _ a|.promise _ _ a _|.refuse _ _ a _|.accept _ _ a _ _|.accepted _ _ a _|.aq _ _ a _ _=>a
noncomputable def aD.e8(n:aD):aD:={n with phase:=0,hp:=[],hl:=[]}
def nR(n:aD)(a:jk):aD×cT:=match a with
 |.e8=>(n.e8,[])
 |a=>bK n a
def IP{b:aF}:∀{u:aF},b.Nodup->(∀a∈b,a∈u)->aa b<=aa u:=by
 induction b with
 |nil=>exact λz z=>cL _
 |cons c b i=>
  intro u d g;rw[ff] at d;have e:c∈u:=g c (.head _);have:=i (u:=u.erase c) d.2 λa f=>(List.mem_erase_of_ne (λh:a=c=>d.1 (h▸f))).mpr (g a (.tail _ f))
  rw[List.length_erase_of_mem e] at this;exact aj (fG this) (cj (Nat.succ_pred_eq_of_pos (List.length_pos_of_mem e)))
set_option genCtorIdx true in
inductive Mv where
 |at(i:Nat) (e:jk)
 |deliver (k:Int)
 |drop (k:Int)
 |double (k:Int)
instance:Nonempty Mv:=⟨.drop 0⟩
noncomputable def bT(k:Int)(n:Nat):Nat:=(k.fmod (n:Int)).toNat
def tP(k:Int)(h:0<n):bT k n<n:=
 (AI (CV k (dB.mpr h))).mpr (Mm k (dB.mpr h))
def fq(a:aO×cT):Mv->aO×cT
 |.at f e=>match a.1[f]? with
  |some c=>(a.1.set f (nR c e).1,a.2++(nR c e).2)
  |none=>a
 |.deliver b=>match a.2[bT b (aa a.2)]? with
  |some d=>match a.1[d.to.toNat]? with
   |some c=>(a.1.set d.to.toNat (bK c (.msg d)).1,a.2.take (bT b (aa a.2))++a.2.drop (bT b (aa a.2)+1)++(bK c (.msg d)).2)
   |none=>a
  |none=>a
 |.drop b=>(a.1,a.2.take (bT b (aa a.2))++a.2.drop (bT b (aa a.2)+1))
 |.double b=>(a.1,a.2++(a.2[bT b (aa a.2)]?).toList)
def Xp{c:Type}(a:List c)(b:Nat):(a.take b++a.drop (b+1)).length<=aa a:=by
 rw[<-CH];exact LB a b
abbrev fE:=List Mv
open Mine.Mv renaming drop->za,deliver->Bx
section
variable {prog:Program}{w:World}{A:Around}{R:rE->Shared->Prop}{I:ak}{fp wr:i9}{n:Nat}{P:Nat->aC->Prop}{St:Nat->bY->Prop}{G:bY->Prop}{kw:List (Str×aC)}
def Xq(W:Walks prog w A.in1 I fp wr n P St)(t:Nat->Nat->Bool)(r:ak)(E:r∉fp)(F:∀h f,G h->(∀b d,b∉wr->b≠r->h.get? b=U d->f.get? b=U d)->G f)
 (N:∀i c m p (a:Shared) (o:cI) (q:cI),G a.heap->P i m->P c p->o (.bool (t i c)) a->wpAny (model prog w) A.in1 (richCompare .Gt m p) o q a):
 ∀(k c:Nat) (a:Shared) (e:aC) (l:Nat),n-(c+1)=k->c+1<=n->St (c+1) a.heap->G a.heap->P (argBest t c) e->
 a.heap.get? r=U {cls:=.type "list",dict:=ai,data:=.seq #[e,e] l,slots:=#[]}->
 (∀g f j,P (argBest t (n-1)) g->(∀b d,b∉wr->b≠r->a.heap.get? b=U d->f.get? b=U d)->R (.ok (.ret g)) {a with heap:=f,toks:=j})->
 codeAny (model prog w) A (.builtin "max.loop" ⟨[.ref I,.none,.ref r],kw⟩) R a:=by
 intros prog w A R I fp wr _ n P St G kw W t r E F N;intros n P St G kw t r _ W E F N;have V:r∉wr:=λh=>E (W.sub _ h)
 have Y:(toString "max"++toString ".loop":String)="max.loop":=by decide
 intro k
 induction k with
 |zero=>
  intro c a e l B a0 T X C z D;have ae:c+1=n:=Ny B a0;refine pW G8 ?_;rw[rQ uK _];show wpAny _ A.in1 (seqItems? (.ref r)>>=_) _ _ a;refine ay (Ak z J ?_);show wpAny _ A.in1 (tryCatch (pyNext (.ref I)) _>>=_) _ _ a;refine ay (yc (W.done a _ _ (ae▸T) λf j u=>?_));have y:=u r _ V z;show wpAny _ A.in1 (updateSeq r (λ_=>#[])>>=_) _ _ _;refine ay ?_;refine wpAny_updateSeq y J (ay (yd (aM ?_)));refine D e _ j (by rw[<-ae];exact C) λb d v x s=>(sX _ _ (cS x)).trans (u b d v s)
 |succ k au=>
  intro c a e l B a0 T X C z D;have S:c+1<n:=HA B;refine pW G8 ?_;rw[rQ uK _];show wpAny _ A.in1 (seqItems? (.ref r)>>=_) _ _ a;refine ay (Ak z J ?_);show wpAny _ A.in1 (tryCatch (pyNext (.ref I)) _>>=_) _ _ a;refine ay (yc (W.item (c+1) a _ _ S T λg f j av aw u=>?_));have y:=u r _ V z;have Q:G f:=F _ _ X λb d ax Z s=>u b d ax s
  show wpAny _ A.in1 (tryCatch (holding [g,g] (richCompare .Gt g e>>=_)) _>>=_) _ _ _;refine ay (yc (dW (ay (N (c+1) (argBest t c) g e _ _ _ Q av C ?_))));refine ay (dW (Ag ?_));refine ay (yd (aM ?_));cases hb:t (c+1) (argBest t c) with
  |true=>
   simp only[if_true];refine ay ?_;refine wpAny_updateSeq y J (ay (yd ?_));rw[Y];refine aM ⟨pX uK _,au (c+1) _ g _ (Dj B) S (W.frame _ _ _ aw λb a3 d s=>?_) (F _ _ Q λb d ax Z s=>(sX _ _ (cS Z)).trans s) (by simp only[argBest,hb,if_true];exact av) (rK _ y J)
    λM K O L H=>?_⟩
   .exact(sX _ _ (λh:r=b=>E (by rw[h];exact a3))).trans s
   exact D M K O L λb d v x s=>H b d v x ((sX _ _ (cS x)).trans (u b d v s))
  |false=>
   simp only[qg,if_false];refine ay (yd ?_);rw[Y];refine aM ⟨pX uK _,au (c+1) _ e l (Dj B) S aw Q (by simp only[argBest,hb,qg,if_false];exact C) y λM K O L H=>?_⟩;exact D M K O L λb d v x s=>H b d v x (u b d v s)
def PU(W:Walks prog w A.in1 I fp wr n P St)(u:Nat->Nat->Bool)(r:ak)(v:r∉fp)(x:∀h c,G h->(∀b a,b∉wr->b≠r->h.get? b=U a->c.get? b=U a)->G c)
 (H:∀i l g k (q:Shared) (j:cI) (p:cI),G q.heap->P i g->P l k->j (.bool (u i l)) q->wpAny (model prog w) A.in1 (richCompare .Gt g k) j p q)
 {q:Shared} {L:Nat} (y:St 0 q.heap) (C:G q.heap) (B:q.heap.get? r=U {cls:=.type "list",dict:=ai,data:=.seq #[] L,slots:=#[]})
 (E:∀f c e,0<n->P (argBest u (n-1)) f->(∀b a,b∉wr->b≠r->q.heap.get? b=U a->c.get? b=U a)->R (.ok (.ret f)) {q with heap:=c,toks:=e})
 (K:∀c e,n=0->(∀b a,b∉wr->b≠r->q.heap.get? b=U a->c.get? b=U a)->∃m d o,kw=(m,d)::o/\R (.ok (.ret d)) {q with heap:=c,toks:=e}):
 codeAny (model prog w) A (.builtin "max.loop" ⟨[.ref I,.none,.ref r],kw⟩) R q:=by
 intros prog w A R I fp wr n _ P St G kw W u r v x H q L y C B E K;intros P St G kw u r q L _ W v x H y C B E K;have Y:r∉wr:=λh=>v (W.sub _ h)
 have Z:(toString "max"++toString ".loop":String)="max.loop":=by decide
 refine pW G8 ?_;rw[rQ uK _];show wpAny _ A.in1 (seqItems? (.ref r)>>=_) _ _ q;refine ay (Ak B J ?_);show wpAny _ A.in1 (tryCatch (pyNext (.ref I)) _>>=_) _ _ q
 by_cases F:0<n
 .refine ay (yc (W.item 0 q _ _ F y λf c e N Q t=>?_));intros f c e _ N Q t;have O:=t r _ Y B;have ax:G c:=x _ _ C λb a z D s=>t b a z s
  show wpAny _ A.in1 (updateSeq r (λ_=>#[f,f])>>=_) _ _ _;refine ay ?_;refine wpAny_updateSeq O J ?_;rw[Z];refine aM ⟨pX uK _,Xq (G:=G) W u r v x H _ 0 _ f _ J F (W.frame _ _ _ Q λb au a s=>?_) (x _ _ ax λb a z D s=>(sX _ _ (cS D)).trans s) N (rK _ O J) λav X aw ae V=>?_⟩
  .exact(sX _ _ (λh:r=b=>v (by rw[h];exact au))).trans s
  exact E av X aw F ae λb a S M s=>V b a S M ((sX _ _ (cS M)).trans (t b a S s))
 have T:n=0:=Nat.eq_zero_of_not_pos ‹_›;refine ay (yc (W.done q _ _ (T▸y) λc e t=>?_));let ⟨m,d,o,s,a0⟩:=K c e T λb a z D s=>t b a z s
 subst s;show wpAny _ A.in1 (rule _>>=_) _ _ _;refine ay (rD ?_);exact aM a0
end
def PV(b:Nat->Int):∀n,argBest (λi a=>decide (b i>b a)) n<=n/\∀i,i<=n->b i<=b (argBest (λi a=>decide (b i>b a)) n):=by
 intro j
 induction j with
 |zero=>
  exact⟨cB _,λi d=>uD (aR b (FP.mp d))⟩
 |succ n g=>
  have e:=g;have h:argBest (λi a=>decide (b i>b a)) (n+1)=if decide (b (n+1)>b (argBest (λi a=>decide (b i>b a)) n)) then n+1 else argBest (λi a=>decide (b i>b a)) n:=rfl
  rw[h];generalize argBest (λi a=>decide (b i>b a)) n=k at e;split
  .rename_i f;exact⟨cB _,λi d=>(sP d).elim (λc=>dN (e.2 i (lu c)) (iJ (eZ f))) λc=>c▸lE _⟩
  rename_i f;exact⟨xV e.1,λi d=>(sP d).elim (λc=>e.2 i (lu c)) λc=>c▸iI.mp λc=>f (decide_eq_true c)⟩
def PW(a d:aC):argsOk "max" ⟨[a],[("default",d)]⟩:=by unfold argsOk;kernel_rfl
def IQ:bootBuiltins "max"=U (.builtin "max"):=by first|rfl|decide+kernel
section
variable {c:C}{ρ:Nm}{e o e₁ e₂:aT}{v:V}{p pos apos kp:Pos}{a:ak}{ds:aH}
def Xr{y:Program}{x:World}{p:Around}{c:Shared}{A d:aC}{a:cI}{G:bY->Prop}
 (h:wpAny (model y x) p.in1 (pyIter A) (λw f=>∃t r wr n k St l,w=.ref t/\Walks y x p.in1 t r wr n k St/\St 0 f.heap/\(∀b∈r,b<f.heap.objs.size)/\
  (∀i s m q (c:Shared) (a:cI) (u:cI),k i m->k s q->a (.bool (l i s)) c->wpAny (model y x) p.in1 (richCompare .Gt m q) a u c)/\
  (∀v g j,0<n->k (argBest l (n-1)) v->(∀b o,b∉wr->f.heap.get? b=U o->g.get? b=U o)->a v {f with heap:=g,toks:=j})/\
  (∀g j,n=0->(∀b o,b∉wr->f.heap.get? b=U o->g.get? b=U o)->a d {f with heap:=g,toks:=j})) no c):
 wpAny (model y x) p (call (.builtin "max") [A] [("default",d)]) a no c:=by
 intros y x p c A d a G _ h;have H:(toString "max"++toString ".loop":String)="max.loop":=by decide
 refine uw (Ga MW MX ?_);have I:=PW A d;simp only[checkBuiltinCall,MY]
 have main:wpAny (model y x) p.in1 (gX.«max» ⟨[A],[("default",d)]⟩) (λM z=>match M with
  |.done R=>(match (Hw R:rE) with|.ok (.ret v)=>a v z|.ok _=>False|.error e=>no e z)
  |.again E=>E.quiet=af/\codeAny (model y x) p E (λX z=>match X with|.ok (.ret v)=>a v z|.ok _=>False|.error e=>no e z) z) no c:=by
  show wpAny _ p.in1 (Dh "max" ["key","default"] 0 ⟨[],[("default",d)]⟩>>=_) _ _ c;refine ay (rF (show Dh "max" ["key","default"] 0 ⟨[],[("default",d)]⟩=pure [ai,U d] from rfl) ?_);refine ay (aM ?_);refine ay (kL h (λw f F=>?_) λZ Z e=>e);intros w f _ F;obtain⟨t,r,wr,n,k,St,l,rfl,W,T,L,P,O,V⟩:=F;refine ay (wpAny_newObj_type ?_);have N:f.heap.objs.size∉r:=λQ=>z9 _ (L _ Q)
  rw[H];refine aM ⟨pX uK _,PU (G:=λZ=>True) W l f.heap.objs.size N (λZ Z Z Z=>trivial) (λi s m q c a u Z=>P i s m q c a u) (W.frame _ _ _ T λb Z o e=>cG _ e) trivial (dw _ J) (λv g j B K D=>?_) λg j B D=>?_⟩
  .exact O v g j B K λb o C e=>D b o C (eN (d7 e)) (cG _ e)
  exact⟨_,d,[],rfl,V g j B λb o C e=>D b o C (eN (d7 e)) (cG _ e)⟩
 cases IT:Nq "max" with
 |none=>exact aM main
 |some Y=>
  have S:Nr "max" Y ⟨[A],[("default",d)]⟩=pure ():=by simpa only[argsOk,IT] using I
  simp only[S];exact aM main
def Ev.PX{kvs:List (Int×V)}{d:Int}(h:Ev c ρ e (.r a))(hs:c.σ a=U (.i kvs))(Y:Ev c ρ e₂ (.d (.int d)))(O:autoParam (c.env.kindOf "max"=U .globalImplicit) aI)(u:autoParam (cD e=aA) aI):
 Ev c ρ (.Call (.Name "max" p) [e] [⟨U "default",e₂,kp⟩] pos) (.d (.int (if kvs=[] then d else cJ (kvs.map (·.1))))):=by
 intros c ρ e e₂ p pos kp a kvs d _ h hs Y O u;exact λF l=>by
  have D:eval (.Call (.Name "max" p) [e] [⟨U "default",e₂,kp⟩] pos) c.env=(do callWith pos (<-eval (.Name "max" p) c.env) [] (backTo pos (starEach [e] c.env)) (backToKw pos (keywordEach [⟨U "default",e₂,kp⟩] c.env))):=rfl;rw[D];refine ay (l.tF O ∅ IQ ∅ ∅ ?_);have ae:(backToKw pos (keywordEach [⟨U "default",e₂,kp⟩] c.env)).all (·.1.isSome)=af:=rfl;have bj:(backToKw pos (keywordEach [⟨U "default",e₂,kp⟩] c.env)).any (·.1.isNone)=aA:=rfl;have a4:backTo pos (starEach [e] c.env)=(aA,eval e c.env)::backTo pos (starEach [] c.env):=by rw[iL _ u];rfl
  refine callWith_kw (e:=e) (rest:=[]) (kws:=[⟨U "default",e₂,kp⟩]) (M:=c.m) (env:=c.env) ?_ a4 (qx (es:=[e]) (rV u) pos c.env) ae bj;rw[iL _ u];refine m8 (aS (h F l) (λL b5 E=>qj ?_));refine kws_cons (aS (Y b5 (l.kp E.k)) (λW R T=>kws_nil ?_));obtain rfl:L=.ref a:=E.r;have N:=E.k.trans T.k;let ⟨x,dd,cw,y,ns⟩:=(l.bs.kp N).dict hs;let ⟨a9,t⟩:=dd.dictAt;have B:=y.length;let ⟨ax,zy⟩:=jT T.r;refine Xr (G:=λ_=>True) (wpAny_pyIter_dict ns t ?_);let f:Nat->Int:=λb=>(kvs.map (·.1)).getD b 0
  refine⟨R.heap.objs.size,_,_,aa x,_,_,λb j=>decide (f b>f j),rfl,Walks.dictKeys (A:=c.A.in1) (knd:=intKind c.prog c.w) l.bs.room.hh _ a (eN t.lt_size) x a9,⟨⟨_,dw _ J,rfl,rfl⟩,t.push _⟩,λn z=>?_,?_,?_,?_⟩
  .show n<(R.heap.push _).objs.size;rw[wF];rcases bN.mp z with e|z
   .rw[e];exact l7 _
   rw[dh.mp z];exact vQ t.lt_size
  .intro b j cf cp F a7 cb H au bo;let ⟨g,L,e,C⟩:=H;let ⟨S,ct,a8,av⟩:=au;let ⟨Q,zy⟩:=Bm C;let ⟨cq,zy⟩:=Bm av;let ⟨W,q,_⟩:=y.get e;let ⟨cx,bp,_⟩:=y.get a8;have a3:f b=g:=by show(kvs.map (·.1)).getD b 0=g;rw[kN,cC,q];rfl
   have a6:f j=S:=by show(kvs.map (·.1)).getD j 0=S;rw[kN,cC,bp];rfl
   have X:a7 (.bool (decide (f b>f j))) F:=bo;rw[a3,a6] at X;exact kR.int (op:=.Gt) J _ _ _ _ X
  .intro v a0 aw s H keep;let ⟨g,L,e,C⟩:=H;let ⟨Q,zy⟩:=Bm C;let ⟨W,q,_⟩:=y.get e;have P:kvs≠[]:=λh=>by rw[B,h] at s;exact z9 _ s
   have b6:kvs.map (·.1)≠[]:=λh=>P (GA.mp h)
   let ⟨cm,b4⟩:=PV f (aa x-1);let ⟨bk,b2⟩:=Bv b6;have a5:f (argBest (λb j=>decide (f b>f j)) (aa x-1))=g:=by show(kvs.map (·.1)).getD _ 0=g;rw[kN,cC,q];rfl
   have b1:g=cJ (kvs.map (·.1)):=by
    have bt:g<=cJ (kvs.map (·.1)):=b2 g (aY.mpr ⟨_,iZ q,rfl⟩);obtain⟨b,I,b3⟩:=LK bk;rw[aP] at I;have Z:=b4 b (vO (B▸I));have:f b=cJ (kvs.map (·.1)):=by show(kvs.map (·.1)).getD b 0=_;rw[<-b3];simp[kN,I]
    rw[a5,this] at Z;exact sY bt Z
   rw[aB P,<-b1];refine⟨N.trans ⟨rfl,rfl,λn o e=>keep n o (λK=>?_) (cG _ e)⟩,.int g Q⟩;rw[dh.mp K,dX] at e;cases e
  intro a0 aw s keep;have D:kvs=[]:=Am.mp (by rw[<-B];exact s);rw[az D];refine⟨N.trans ⟨rfl,rfl,λn o e=>keep n o (λK=>?_) (cG _ e)⟩,.int d ax⟩;rw[dh.mp K,dX] at e;cases e
def Ev.max2(y:Ev c ρ e₁ (.d (.int f)))(D:Ev c ρ e₂ (.d (.int b)))(w:autoParam (c.env.kindOf "max"=U .globalImplicit) aI)(u:autoParam (cD e₁=aA) aI)(t:autoParam (cD e₂=aA) aI):Ev c ρ (.Call (.Name "max" p) [e₁,e₂] [] pos) (.d (.int (max f b))):=by
 intros c ρ e₁ e₂ p pos f b _ y D w u t;exact λL x=>by
  refine OA x w ∅ IQ ∅ ∅ (cR y (cR D eX t) u) (by simp[ee,u,t]) (lC _ _) λj V E I=>?_
  apply A5 I;intro aw W S N;let ⟨g,zy⟩:=jT S;let ⟨h,zy⟩:=jT N;refine call_max_two ?_;have z:(j.heap.push {cls:=.type "tuple",data:=.seq #[.int f g,.int b h]}).IsTuple j.heap.objs.size #[.int f g,.int b h]:=⟨_,dw _ J,rfl,0,rfl⟩;refine Lq z ?_;have B:(j.heap.push {cls:=.type "tuple",data:=.seq #[lG f g,lG b h]}).objs.size=j.heap.objs.size+1:=by rw[wF]
  have T:j.heap.objs.size≠(j.heap.push {cls:=.type "tuple",data:=.seq #[lG f g,lG b h]}).objs.size:=by rw[wF];exact eN (l7 _)
  refine⟨_,_,_,_,_,_,λa l=>decide ((if a=0 then f else b)>(if l=0 then f else b)),rfl,Walks.tuple (A:=c.A.in1) x.bs.room.hh _ j.heap.objs.size T #[.int f g,.int b h],⟨⟨_,dw _ J,rfl,rfl⟩,z.push _⟩,λs m=>?_,by simp,?_,λv Y q H keep=>?_⟩
  .have Q:s<(j.heap.push {cls:=.type "tuple",data:=.seq #[lG f g,lG b h]}).objs.size+1:=by
    rcases bN.mp m with e|m
    .rw[e];exact l7 _
    rw[dh.mp m,B];exact vQ (l7 _)
   show s<((j.heap.push _).push _).objs.size;rw[wF];exact Q
  .have C:∀(a:Nat) v,(#[lG f g,lG b h]:Array aC)[a]?=U v->∃q,v=.int (if a=0 then f else b) q:=λa v i=>by
    match a,i with
    |0,i=>simp at i;exact⟨g,i.symm⟩
    |1,i=>simp at i;exact⟨h,i.symm⟩
    |n+2,i=>simp at i
   intro a l G K L Z X O R M;let ⟨au,zy⟩:=C a G O;let ⟨av,zy⟩:=C l K R;exact kR.int (op:=.Gt) J _ _ _ _ M
  have k:(#[lG f g,lG b h]:Array aC)[argBest (λa l=>decide ((if a=0 then f else b)>(if l=0 then f else b))) 1]?=U v:=H
  have m:argBest (λa l=>decide ((if a=0 then f else b)>(if l=0 then f else b))) 1=if b>f then 1 else 0:=by
   show(if decide ((if 0+1=0 then f else b)>(if 0=0 then f else b)) then 0+1 else 0)=_;simp
  rw[m] at k
  have F:∃q,v=.int (max f b) q:=by
   by_cases r:b>f
   .rw[az r] at k;simp at k;exact⟨h,by rw[<-k,yp (iJ r)]⟩
   rw[aB r] at k;simp at k;exact⟨g,by rw[<-k,GR (iI.mp r)]⟩
  let ⟨ae,zy⟩:=F;refine⟨E.trans ⟨rfl,rfl,λs o e=>keep s o (λP=>?_) (cG _ (cG _ e))⟩,.int _ _⟩;rw[dh.mp P] at e;have:=d7 e;rw[B] at this;exact aV this (Nat.not_lt_of_le (jw _))
end
def Xs:∀a<16,(fK a).toList.Nodup:=by decide+kernel
noncomputable def qN(b:Int×aC):Int:=match b.2 with|.int a _=>a|_=>0
def Xu(x:tw k i h g j):∃e a f d,h.get? g=U e/\e.ExactSet/\e.data=.set a f d/\oQ (fC i) a d/\d.fits a.size=af/\a.size<scanBound/\(a.toList.map qN).Perm j/\∀b∈a.toList,∃c,b.2=.int (qN b) c:=by
 intros k i h g j _ x;obtain⟨⟨e,a,f,d,z,B,y,O,D,A,G,M⟩,nd,L,K,J,N,t,v,q⟩:=x;rw[z] at t;cases t;rw[y] at v;cases v
 have u:∀b∈a.toList,∃c,b.2=.int (qN b) c:=λb n=>by
  let ⟨l,r⟩:=Lw n;let ⟨o,c,_,m⟩:=q.2.2.2.2.2.2 l b (by rw[<-gP];exact r);exact⟨c,by unfold qN;rw[m]⟩
 refine⟨e,a,f,d,z,B,y,q,G,A,?_,u⟩;refine PF ?_ nd λo=>?_
 .let ⟨E,F,C⟩:=q.2.2.2.2.1
  have I:a.toList.map qN=d.place.toList.map (λ(o:Nat)=>(o:Int)):=by
   apply kO;intro l;rw[cC,cC]
   by_cases r:l<a.size
   .have H:a.toList[l]?=U a[l]:=by rw[gP];exact yq r
    let ⟨o,c,m,p⟩:=q.2.2.2.2.2.2 l a[l] (yq r);rw[H,gP,m];show U (qN a[l])=U (o:Int);unfold qN;rw[p]
   rw[l9 (by simp;exact gO.mp ‹_›),l9 (by have:=q.2.2.2.2.2.1;simp;exact aj (cj (Eq.symm ‹_›)) (gO.mp ‹_›))];rfl
  rw[I,C];have:=Xs E F;rw[List.Nodup,jA];exact Hv (λh b=>h (oN b)) this
 have w:=D o;rw[gy] at w;rw[w,aY];constructor
 .intro s;let ⟨b,n,m⟩:=s;let ⟨c,p⟩:=u b n;exact⟨b,n,by rw[p,<-m];exact kM _ _ _ _⟩
 intro s;let ⟨b,n,m⟩:=s;let ⟨c,p⟩:=Bm m;exact⟨b,n,by unfold qN;rw[p]⟩
def Xv(E:e.handled=ai)(I:tw h c g.heap b k)
 (u:∀d i f,Kp g d->aW d.heap M i f->f.Perm (eY k)->j i d):wpAny (model h c) e (collect (.ref b)) j no g:=by
 let ⟨Q,m,n,P,L,t,J,G,C,s,v,x⟩:=Xu I;refine kdu_collect (A:=e) (U0 (prog:=h) (w:=c) (a:=b) t G C J) E L (K6 s) λR O y keep q=>?_
 have r:=Ob c b n m;refine u _ y.toList ((oR c b n m).toList.map λl=>.int (qN l)) ⟨rfl,rfl,keep⟩ ?_ ?_
 .refine Iw (by rw[jN,q.1,aP,jN,Oc]) λp N H=>?_
  let ⟨l,F,K⟩:=q.2 p N (by rw[<-gP];exact H);subst K;have o:(oR c b n m).toList[p]?=U l:=by rw[gP];exact F
  let ⟨B,z⟩:=x l (r.mem_iff.mp (iZ o));refine⟨.int (qN l),by rw[cC,o];rfl,?_⟩;rw[z];exact .int _ B
 have D:=(r.map qN).trans v;have:=D.map iM;rw[bV] at this;exact this
section
variable {c:C}{ρ:Nm}{e o e₁ e₂ A6:aT}{v:V}{p pos apos PY kp:Pos}{a:ak}{ds:aH}{ks:aF}{kvs:List (Int×V)}{i:Int}
def o7.set(h:Ev c ρ e (.r a))(hs:c.σ a=U (.s ks)):o7 c ρ e (eY ks):=λj d=>by
 refine aS (h j d) (λf o b=>⟨b.k,λn m l g=>?_⟩);obtain rfl:f=.ref a:=b.r;let ⟨_,_,i⟩:=(d.bs.kp b.k).dc a _ hs;exact Xv l i g
def d8.get{M:bC}{h:bY}{d:cQ}{f:gm}(j:d8 M h d f){c:Nat}{v:V}(e:f[c]?=U v):∃b,d[c]?=U b/\VR M h v b:=
 d8.rec (motive:=λd f z=>∀(c:Nat) (v:V),f[c]?=U v->∃b,d[c]?=U b/\VR M h v b) (λz z e=>nomatch An.symm.trans e) (λa z i c v=>Cq (λe=>⟨_,rfl,dF e▸a⟩) (λg z=>i g v) c) j c v e
def Ev.Xw{f:gm}{k:Int}{j:Nat}(x:Ev c ρ e₁ (.r a))(hs:c.σ a=U (.v f))(z:Ev c ρ e₂ (.d (.int k)))(w:seqIndex? k (aa f)=U j)(t:f[j]?=U v)(s:autoParam (uS e₂=aA) aI):Ev c ρ (.Subscript e₁ e₂ pos) v:=x.sub z λn A E q y p=>by
 obtain rfl:A=.ref a:=y;obtain⟨_,_,B,i,u,l⟩:=q.dc a _ hs;let ⟨C,zy⟩:=p.eF;let ⟨D,m,o⟩:=l.get t;have g:=l.size;have b:=Dy w;have h:=tu u;refine wD i.isList.typeIs slot_list_getitem.lookup ?_ (Dw s _ _)
 by_cases e:0<=k
 .exact Le i.isList e (oH b.2.1 h) (by rw[<-b.2.2.2.1 e,<-gP];exact m) ⟨gT n,o⟩
 exact Lf i.isList (qe.mp e) (g.symm▸b.1) (dN (CS (iJ h)) b.1) (by rw[g,<-b.2.2.2.2 (qe.mp e),<-gP];exact m) ⟨gT n,o⟩
def By:bootBuiltins "list"=U (.type "list"):=by first|rfl|decide+kernel
end
open Mine.Ev renaming Xw->IU
section
variable {c:C}{ρ:Nm}{e o e₁ e₂ A6:aT}{v:V}{p pos apos PY kp:Pos}{a:ak}{ds:aH}{ks:aF}{kvs:List (Int×V)}{i:Int}
def cF.copy(h:Ev c ρ e v)(s:iA c v ds)(t:autoParam (c.env.kindOf "list"=U .globalImplicit) aI)(hs:autoParam (cD e=aA) aI):cF c ρ (.Call (.Name "list" p) [e] [] pos) ds:=λA d=>by
 refine nA d t ∅ By ∅ ∅ (cR h eX hs) (by simp[ee,hs]) (lC _ _) λb x a j=>?_
 apply mC j;intro y l;have m:=d.bs.kp a;let ⟨q,r,zy,o,f,g⟩:=yJ l m s;let ⟨z,i⟩:=o;have k:=g.size;refine call_list_seq q (.inl J) i J J (λw u keep n=>?_) (by rw[k];exact gZ f);have kp:Kp b {b with heap:=w}:=⟨rfl,rfl,keep⟩;exact⟨a.trans kp,b.heap.objs.size,r,rfl,fL a (dX _),⟨u,n⟩,f,g.fresh (dX _) keep⟩
def Rep.Xx{M:bC}{h b:bY}{a:ak}{o:Obj}{u:aC}{d:D}(i:Rep h M u d)(ho:h.get? a=U o)(f:¬jR o)(j:iG a h b):Rep b M u d:=
 i.mono λl m k c e=>⟨(j.2 l λg=>by rw[g,ho] at e;cases e;exact f c).trans e,k⟩
def zb{g:Program}{k:World}{b:Type}[DecidableEq b]{c:KeyKind g k b}{h:bY}{a:ak}{i:List (b×aC)}(d:h.DictOf c a i):∃o,h.get? a=U o/\¬jR o:=by
 let ⟨o,l,m,j,_,dd,_⟩:=d;exact⟨o,j,λf=>by let ⟨a,n,e⟩:=f;exact by rw[dd] at e;cases e⟩
def gp.Xy(k:Ev c ρ e₁ (.d (.int i)))(n:Ev c ρ e₂ (.d x)):gp c ρ (.Dict [U e₁] [e₂] pos) (.i [(i,.d x)]):=by
 intros c ρ e₁ e₂ pos i x _ k n;exact λa h=>by
  have kp:Kp a {a with heap:=a.heap.push {cls:=.type "dict",data:=.dict #[]}}:=g8 a _;refine wpAny_Dict_walk (knd:=intKind c.prog c.w) J J (by simp) (by simp) ?_;show wpAny _ _ (evalPairs [(eval e₁ c.env,do let x<-eval e₂ c.env;standAt pos;pure x)]) _ _ _;refine evalPairs_cons (aS (k _ (h.kp kp)) (λC y ⟨b,t⟩=>ay (aS (n y ((h.kp kp).kp b)) (λf m v=>?_))));rcases v with⟨nN,Xz⟩
  refine ay (lB (aM (evalPairs_nil ?_)));let ⟨s,zy⟩:=jT t;have g:m.heap.DictOf (intKind c.prog c.w) a.heap.objs.size []:=mw (mw (Hs a.heap) (b.keep _)) (nN.keep _);refine⟨[(i,f)],⟨kM _ _ i s,rfl,trivial⟩,g,λA j l=>?_⟩;let ⟨z,r,n0⟩:=zb g;let ⟨B,u,n1⟩:=zb j;refine⟨⟨(kp.trans (b.trans nN)).gens,(kp.trans (b.trans nN)).os,λp o e=>(l.2 p λq=>by rw[q,dX] at e;cases e).trans ((kp.trans (b.trans nN)).keep p o e)⟩,a.heap.objs.size,rfl,dX _,[(i,f)],j,(show 1<=bf by decide),.cons ?_ .nil⟩;exact(Rep.Xx (show Rep m.heap c.M f x from Xz) r n0 l).H7 u n1
end
open Mine.cF renaming copy->IV
section
variable {c:C}{ρ:Nm}{k:eV}{rest:dH}{P:eH}{R:d9}{e e₁ e₂ o:aT}{v:V}{pos p apos:Pos}{x:Str}{Q:rS}{a:ak}{ds:aH}
def jC.vals(S:f.handled=ai)(m d:ak)(X:d≠m)(t:List (Int×aC))(kvs:List (Int×D))(G:Nat)(hl:aa t=aa kvs):
 jC prog g f m [m,d] [m] (kvs.map (·.2)) (λM i h=>h.IsValIter m d i (aa t) G/\h.DictAt (intKind prog g) d t G/\DR (Rep h M) t kvs) where
 sub:=λb j=>by simp at j;simp[j]
 has:=λM i h r L H=>by
  let ⟨a,b,q⟩:=r;simp at H;rcases H with rfl|rfl
  .let ⟨o,e,_⟩:=a;exact⟨o,e⟩
  let ⟨o,Y,e,_⟩:=b;exact⟨_,e⟩
 frame:=λM i h y I l=>by let ⟨a,b,q⟩:=I;exact⟨a.at λo e=>l m o (.inl (by simp)) e,b.at' λo e=>l d o (.inl (by simp)) e,q.mono λz x k=>k.mono λa o n k e=>⟨l a o (.inr ⟨n,k⟩) e,n⟩⟩
 up:=λM ae i h W l=>by let ⟨a,b,q⟩:=W;exact⟨a,b,q.mono λz x k=>k.mono λa o n k e=>⟨e,λN=>n (l a o e N)⟩⟩
 off:=λM i h r b j K v=>by
  let ⟨P,_,_⟩:=r;let ⟨o,e,_,d⟩:=P;simp at j;subst j;rw[e] at v;cases v;exact⟨_,d⟩
 item:=λM i x av w Q u r au A=>by
  let ⟨a,b,q⟩:=r;rw[cC] at u;cases Ej:kvs[i]? with
  |none=>rw[Ej] at u;cases u
  |some kv=>
   rw[Ej] at u;simp only[AP,AJ] at u;subst u
   have R:i<aa t:=by
    rw[hl];rcases uv i (aa kvs) with h|h
    .exact h
    exact ns (l9 h) Ej
   obtain⟨⟨Z,z⟩,F⟩:∃p,t[i]?=U p:=⟨t[i],dZ R⟩;let ⟨L,C,T⟩:=q.get F;rw[Ej] at C;cases C
   have B:∀b∈[m],∀o,w.heap.get? b=U o->lN o:=λb j K v=>by
    let ⟨o,e,_,d⟩:=a;simp at j;subst j;rw[e] at v;cases v;exact⟨_,d⟩
   refine wpAny_pyNext_values_item a b F λy E O=>⟨z,rfl,?_⟩
   let ⟨o,e,c,dd⟩:=id E;have l:∀b o,b∉[m]->w.heap.get? b=U o->y.get? b=U o:=λb o j e=>O.extBut b o (by simpa using j) e
   exact DE (s:={w with heap:=y}) e c ∅ (A z _ (T.off l B) ⟨E,b.at' λo e=>l d o (by simpa using X) e,q.mono λ_ _ k=>k.off l B⟩ ⟨rfl,rfl,λb o n e=>l b o n e⟩)
 done:=λM w Q r A=>by
  let ⟨a,b,q⟩:=r;rw[aP,<-hl] at a;exact wpAny_pyNext_values_end S a b (by simp) λy V=>⟨rfl,A _ ⟨rfl,rfl,λb o n e=>V b o (by simpa using n) e⟩⟩
 self:=λM i w Q J k=>by let ⟨a,_⟩:=J;exact wpAny_pyIter_valiter a k
def DR.XA:∀{f:List (Int×aC)} {b:List (Int×D)},DR (λu x=>VR M h x u) f (bP b)->DR (Rep h M) f b
 :=by
 intro f b
 induction b generalizing f with
 |nil=>intro c;cases c;exact .nil
 |cons p b d=>
  intro c;cases c with
  |cons a c=>exact .cons a (d c)
theorem Bd.vals(h:Ev c ρ o (.r a))(hs:c.σ a=U (.i (bP kvs)))(hw:¬c.wr a)(m:autoParam (attributeBase o "values" c.env (eval o c.env)=eval o c.env) aI)(n:autoParam ((apos.endLine==pos.line)=af) aI):Bd c ρ (.Call (.Attribute o "values" apos) [] [] pos) (kvs.map (·.2)):=by
 intros c ρ o pos apos a kvs _ h hs hw m n;exact λE f=>by
  refine W3 MU MZ PySem.F.type_dict_values m n J ∅ (aS (h E f) (λx b B=>?_));obtain⟨g,C⟩:=B;obtain rfl:x=.ref a:=C;let ⟨k,l,D,u,ns⟩:=(f.bs.kp g).dict hs;let ⟨p,G⟩:=Pg hs (f.bs.kp g) (show fD c b.heap (.ref a) (.r a) from rfl);refine⟨p,G,?_⟩;refine callWith_method0 (call_meetsIn MZ p PySem.F.entry_dict_values (PySem.F.args_dict_values_1 _) (meets_dict_values (intKind c.prog c.w) a ns) ⟨⟨k,l⟩,?_⟩);have y:Kp b {b with heap:=b.heap.push {cls:=.type "dict_values",data:=.fields #[.ref a]}}:=g8 b _;let ⟨q,j⟩:=(mw l (y.keep a)).dictAt;refine wpAny_pyIter_values (knd:=intKind c.prog c.w) ⟨_,dw _ J,rfl,rfl⟩ j ?_;have t:=y.trans (g8 {b with heap:=b.heap.push {cls:=.type "dict_values",data:=.fields #[.ref a]}} {cls:=.type "dict_valueiterator",data:=.fields #[.ref a,.int 0 0,.int (aa k) 0,.int q 0]});have z:aa k=aa kvs:=by have:=u.length;simpa [bP] using this
  have H:(b.heap.push {cls:=.type "dict_values",data:=.fields #[.ref a]}).objs.size=b.heap.objs.size+1:=by rw[wF]
  have s:b.heap.get? (b.heap.push {cls:=.type "dict_values",data:=.fields #[.ref a]}).objs.size=m9:=L8 (by rw[H];exact jw _);refine⟨g.trans t,by rw[aP];have:(bP kvs).length<=bf:=D;simpa [bP] using this,_,_,_,_,rfl,?_,?_,?_,jC.vals f.bs.room.hh (b.heap.push {cls:=.type "dict_values",data:=.fields #[.ref a]}).objs.size a (eN j.lt_size) k kvs q z,?_⟩
  .intro v d;rw[dh.mp d];exact fL g s
  .intro v d;rcases bN.mp d with e|d
   .rw[e];exact λh=>(f.bs.new (fL g s)) (h.elim (λh=>(f.bs.iR _ h).1) (f.bs.xm _))
   rw[dh.mp d];exact λh=>h.elim hw ((f.bs.dc a _ hs).2.1)
  .intro v d;rcases bN.mp d with e|d
   .rw[e];exact⟨_,dw _ J⟩
   rw[dh.mp d];let ⟨o,I,e,_⟩:=j;exact⟨o,cG _ e⟩
  exact⟨⟨_,dw _ J,rfl,rfl⟩,j.push _,(DR.XA u).mono λK x A=>A.keep t.keep⟩
def Ex.PZ(h:Ev c ρ e (.r a))(F:c.σ a=U (.v [i,f]))(s:kZ c ρ b [i,f] j g)(K:Ex j g (rest::k) P R)
 (hs:autoParam (swapsWithSole [.Tuple b n d] e pos.line c.env=pure aA) aI) (hw:autoParam (swappedStores [.Tuple b n d] e c.env=pure ai) aI):Ex c ρ ((.Assign [.Tuple b n d] e pos::rest)::k) P R:=
 qD λE l H=>Hg (aS (h E l) (λL T p=>by
  obtain rfl:L=.ref a:=p.r;obtain⟨_,_,y,J,O,o⟩:=(l.bs.kp p.k).dc a _ F;have u:=s.len c.env;let ⟨w,Q,e₁⟩:=LL o.length;let ⟨x,S,e₂⟩:=LL (yy ((aR yi e₁).symm.trans o.length));have G:y.toList=[w,x]:=e₁.trans (aR _ (e₂.trans (aR _ (List.eq_nil_of_length_eq_zero (yy ((aR yi e₂).symm.trans (yy ((aR yi e₁).symm.trans o.length))))))));have D:y=#[w,x]:=Mx.mp G;subst D;show wpAny c.m c.A (CF (.Tuple b n d) c.env (.ref a)) _ _ _;rw[arm_assign_Tuple];refine ay (lB ?_);refine Wa l.bs.room.hh J u.1 u.2 λM t=>?_
  have q:=p.k.trans t;exact aS (s.run (l.kp q) (H.kp q.keep) (o.keep t.keep)) (λZ N z=>by let ⟨C,I,B⟩:=z;exact⟨_,_,rfl,(j9 q).trans C,I,B,K⟩))) hs hw
end
def IW(d:tw prog e h b c):∃a,h.get? b=U a/\¬jR a:=by
 let ⟨j,_⟩:=d;let ⟨a,o,p,m,k,_,i,_⟩:=j;exact⟨a,k,λg=>by let ⟨l,n,f⟩:=g;exact by rw[i] at f;cases f⟩
structure PE where
 k:Int
 la:ak
 sa:ak
 d:D
 ks:aF
instance:Nonempty PE:=⟨⟨0,0,0,.none,[]⟩⟩
def zc(c:Program)(e:World)(M:bC)(h:bY)(a:PE):Prop:=∃b,PL h a.la #[b,.ref a.sa]/\Rep h M b a.d/\tw c e h a.sa a.ks
def XC(a:PE):D:=.tup [.int a.k,a.d,.lst (eY a.ks)]
noncomputable def cK(b:List PE):i9:=b.flatMap λa=>[a.la,a.sa]
def BA(g:bC)(i:World)(b:C)(f:ak)(e:Shared)(done:aH):Prop:=∃a:List PE,done=a.map XC/\(∃h,e.heap.DictOf (intKind b.prog b.w) f h/\h=a.map λd=>(d.k,uH d.la))/\
 (∀d∈a,zc b.prog i b.M e.heap d)/\(f::cK a).Nodup/\(∀c∈cK a,¬b.M c/\¬g c)/\(∀c,g c->∃j,e.heap.get? c=U j)/\aa done<=bf
def zc.tG(g:zc d f M h c)(h1:¬M c.la)(h2:¬M c.sa)(l:∀b a,¬M b->¬lN a->h.get? b=U a->e.get? b=U a):zc d f M e c:=by
 intros d f M h e c _ g h1 h2 l;let ⟨t,j,s,m⟩:=g;let ⟨k,q⟩:=j;refine⟨t,⟨k,l _ _ h1 (λo=>by let ⟨_,g⟩:=o;exact by cases g) q⟩,s.mono λb a k n g=>⟨l b a k (λi=>oX n i) g,k⟩,AY m λa g=>l _ a h2 (λi=>?_) g⟩;intros a _ g i;let ⟨j,_⟩:=m;let ⟨u,w,x,v,r,_,p,_⟩:=j;rw[r] at g;cases g;let ⟨_,j⟩:=i;revert j;intro i;rw[p] at i;cases i
def BA.ok(e:b.X a)(r:¬b.Y a):yN b a (BA c d b a) c:=
 ⟨λz y done m w p q=>by let ⟨l,h,o,s,nd,f,x,v⟩:=m;let ⟨u,t,n⟩:=o;exact⟨l,h,⟨u,mw t w,n⟩,λg e=>(s g e).tG (f _ (fB.mpr ⟨g,e,by simp⟩)).1 (f _ (fB.mpr ⟨g,e,by simp⟩)).1 p,nd,f,λj i=>let ⟨k,h⟩:=x j i;⟨k,q j k i h⟩,v⟩,e,r⟩
def BC(a:C)(k:Nm)(i:aT)(d:D)(j:aF):Prop:=∀b,St a k b->wpAny a.m a.A (eval i a.env) (λh e=>Kp b e/\∃c f g,h=.ref c/\c≠f/\b.heap.get? c=ai/\b.heap.get? f=ai/\PL e.heap c #[g,.ref f]/\Rep e.heap a.M g d/\tw a.prog a.w e.heap f j) no b
section
variable {c:C}{ρ:Nm}{e e₁ e₂:aT}{pos:Pos}{d:D}{ks:aF}
def BC.pair(k:Ev c ρ e₁ (.d d))(l:gp c ρ e₂ (.s ks))(m:autoParam (cD e₁=aA) aI)(g:autoParam (cD e₂=aA) aI):BC c ρ (.List [e₁,e₂] pos) d ks:=by
 intros c ρ e₁ e₂ pos d ks _ k l m g;exact λq h=>by
  refine Gi ?_;rw[iL _ m,iL _ g];refine m8 (aS (k q h) (λj p o=>?_));obtain⟨b,n⟩:=o;refine m8 (aS (l p (h.kp b)) (λt a r=>?_));rcases r with⟨nN,sa,ex,D5,cr⟩
  refine qj ⟨?_,?_⟩
  .simp;rw[pY];decide
  subst ex;have f:Kp a {a with heap:=a.heap.push {cls:=.type "list",data:=.seq #[j,.ref sa]}}:=g8 a _;let ⟨u,i,_⟩:=IW cr;refine⟨(b.trans nN).trans f,a.heap.objs.size,sa,j,rfl,(λe=>by rw[<-e,dX] at i;cases i),fL (b.trans nN) (dX _),fL b D5,⟨0,dw _ J⟩,yG (yG n nN.keep) f.keep,AY cr (f.keep sa)⟩
end
def XD:D->Int
 |.tup (.int k::_)=>k
 |_=>0
noncomputable def nU(b:List PE):List (ak×Cn):=b.flatMap λa=>[(a.la,.v [.d a.d,.r a.sa]),(a.sa,.s a.ks)]
noncomputable def nV(a:List (ak×Cn)):Sg:=λc=>(a.find? λb=>b.1=c).map (·.2)
def XE{a:List (Int×aC)}(h:k∉a.map (·.1))(b:aC):stored a k b=a++[(k,b)]:=by
 unfold stored;rw[aB];rw[yh];intro e;let ⟨c,f,d⟩:=e;exact h (aY.mpr ⟨c,f,eZ d⟩)
def yO.XF{e:C}{L:Nm}{f:ak}{K J:aT}{bk:List Ah}{scope:gh}{ax:Pos}{i:Int}{d:D}{q:aF}{a3:bC}{H:World}{done:aH}(I:e.X f)(ae:¬e.Y f)(hw:e.w=H)(V:i∉done.map XD)(a4:Ev e L K (.d (.int i)))(O:BC e L J d q):
 yO e L f (BA a3 H e f) (uU (.DictComp K J bk scope ax) (.ref f) e.env) done [.tup [.int i,d,.lst (eY q)]]:=by
 intros e L f K J bk scope _ ax i d q a3 H done I ae hw V a4 O;intros ax i d q a3 H done _ I ae hw V a4 O;exact λG s cz cp c0=>by
  let ⟨n,S,Z,bt,nd,N,av,cq⟩:=cp;let ⟨au,dd,R⟩:=Z;subst hw;show wpAny e.m e.A (eval K e.env>>=λkv=>holding [kv] (eval J e.env)>>=λdt=>_) _ _ G;refine ay (aS (a4 G s) (λdA bo g=>ay (dW (aS (O bo (s.kp g.k)) (λdr t b1=>?_)))));obtain⟨cb,v,u,c2,b3,b2,a5,a0,pl,c5,df⟩:=b1;subst b3;let ⟨b5,zy⟩:=jT g.r;have x:=g.k.trans cb;have c7:=s.kp x;have b4:=cz.kp x.keep;have Q:t.heap.DictOf (intKind e.prog e.w) f au:=mw dd (x.keep f);have cw:aa au=aa n:=by rw[R,aP]
  have c3:aa done=aa n:=by rw[S,aP]
  refine ay (lB (dW (Gu (kM _ _ i b5) Q (λF E P=>?_) (by rw[cw,<-c3];exact gZ cq))));have a7:Kx (·=f) t {t with heap:=F,toks:=t.toks+1}:=⟨rfl,rfl,λp c y b=>(P.2 p y).trans b⟩;let ⟨dj,cf⟩:=c7.Pn b4 I ae (D6 Q) (let ⟨c,b,_⟩:=D6 E;⟨c,b⟩) a7
  have dk:i∉au.map (·.1):=by
   intro j;apply V;rw[S,bV];rw[R,bV] at j;exact j
  rw[XE dk] at E;let ⟨dv,dy,dz⟩:=zb Q;have cx:e.M f:=s.bs.xm f I;have a8:¬e.M v:=(s.kp g.k).bs.new a5;have bj:¬e.M u:=(s.kp g.k).bs.new a0;have a9:∀a c,¬e.M a->¬lN c->t.heap.get? a=U c->F.get? a=U c:=λa c y _ b=>(P.2 a λT=>y (T▸cx)).trans b
  have ct:∀a c,¬e.M a->¬lN c->G.heap.get? a=U c->F.get? a=U c:=λa c y c4 b=>a9 a c y c4 (x.keep a c b)
  have cm:zc e.prog e.w e.M F ⟨i,v,u,d,q⟩:=zc.tG (h:=t.heap) ⟨c2,pl,c5,df⟩ a8 bj a9
  have di:∀a∈cK n,∃c,G.heap.get? a=U c:=λa o=>by
   let ⟨z,l,j⟩:=fB.mp o;let ⟨dq,Z,_,de⟩:=bt z l;let ⟨du,dp⟩:=Z;simp at j;rcases j with rfl|rfl
   .exact⟨_,dp⟩
   let ⟨c,b,_⟩:=IW de;exact⟨c,b⟩
  have bp:∀p,bo.heap.get? p=ai->p∉f::cK n:=λp W j=>by
   rcases bN.mp j with b|j
   .rw[b] at W;let ⟨c,b,_⟩:=zb dd;exact ns W (g.k.keep _ _ b)
   let ⟨c,b⟩:=di p j;exact ns W (g.k.keep _ _ b)
  refine⟨x.kx.trans (a7.mono λp b=>.inr b),dj,cf,n++[⟨i,v,u,d,q⟩],by rw[S,cy];rfl,⟨_,E,by rw[R,cy];rfl⟩,λz l=>?_,?_,λa o=>?_,λa o=>?_,c0⟩
  .rcases eE.mp l with l|l
   .exact(bt z l).tG (N _ (fB.mpr ⟨z,l,by simp⟩)).1 (N _ (fB.mpr ⟨z,l,by simp⟩)).1 ct
   rw[dh.mp l];exact cm
  .have c6:f::cK (n++[⟨i,v,u,d,q⟩])=(f::cK n)++[v,u]:=by simp[cK]
   rw[c6,jz];refine⟨nd,by simp[b2],λa o p a6 b=>?_⟩;simp at a6;rcases a6 with rfl|rfl
   .exact bp _ a5 (b▸o)
   exact bp _ a0 (b▸o)
  .have:a∈cK n\/a=v\/a=u:=by simpa [cK] using o
   rcases this with B|rfl|rfl
   .exact N a B
   .exact⟨a8,λaw=>by let ⟨c,b⟩:=av _ aw;exact ns a5 (g.k.keep _ _ b)⟩
   exact⟨bj,λaw=>by let ⟨c,b⟩:=av _ aw;exact ns a0 (g.k.keep _ _ b)⟩
  let ⟨c,b⟩:=av a o
  by_cases B:a=f
  .subst B;let ⟨b6,T,_⟩:=zb E;exact⟨b6,T⟩
  exact⟨c,(P.2 a B).trans (x.keep a c b)⟩
def P0(h:nV a b=U c):(b,c)∈a:=by
 unfold nV at h;cases e:a.find? (λd=>d.1=b) with
 |none=>rw[e] at h;cases h
 |some d=>
  rw[e] at h;simp at h;have g:=Ax e;have f:=CI e;have:d=(b,c):=fh (eZ g) h;rw[<-this];exact f
def IX(c:(a.map (·.1)).Nodup)(h:b∈a):nV a b.1=U b.2:=by
 intros a b _ c h
 induction a with
 |nil=>cases h
 |cons e a f=>
  rw[dM,ff] at c;unfold nV;rw[jg];rcases bN.mp h with d|h
  .subst d;simp
  have g:¬e.1=b.1:=λd=>c.1 (d▸uA h)
  simp only[g,decide_false];exact f c.2 h
def w5(b:List PE):(nU b).map (·.1)=cK b:=by
 induction b with
 |nil=>rfl
 |cons a b f=>
  have e:nU (a::b)=[(a.la,.v [.d a.d,.r a.sa]),(a.sa,.s a.ks)]++nU b:=by simp[nU]
  have c:cK (a::b)=[a.la,a.sa]++cK b:=by simp[cK]
  rw[e,c,cy,f];rfl
def zd(h:bY)(b:ak):Prop:=(∃a,h.get? b=U a/\¬jR a)\/∃c d a,PL h b c/\uH d∈c.toList/\h.get? d=U a/\¬jR a
def zd.tup{h:bY}{c:ak}{vs:Array aC}(d:zd h c)(i:PT h c vs):False:=i.elim λg b=>d.elim (λa=>a.elim λf a=>a.2 (dF (b.symm.trans a.1)▸⟨_,g,rfl⟩)) λa=>a.elim λk a=>a.elim λl a=>a.elim λf a=>a.1.elim λj e=>aV (aR Obj.cls (dF (b.symm.trans e))) (by simp)
def Rep.XG(k:Rep h M e d):∀b c,e=.ref b->h.get? b=U c->jR c:=
 Rep.rec (motive_1:=λe z z=>∀b c,e=.ref b->h.get? b=U c->jR c) (motive_2:=λz z z=>True) (λz z a=>nomatch a) (λz z z a=>nomatch a) (λz z z z a=>nomatch a) (λz z z z z a=>nomatch a)
  (λf z z z z b c a i=>f.elim λj g=>dF (g.symm.trans (Nt a▸i))▸⟨_,j,rfl⟩) (λf z z z z b c a i=>f.elim λj g=>dF (g.symm.trans (Nt a▸i))▸⟨_,j,rfl⟩) trivial (λz z z z=>trivial) k
def zd.lst(g:zd h b)(i:PL h b a)(m:aW h M a.toList ds):False:=i.elim λo e=>g.elim (λc=>c.elim λf c=>c.2 (dF (e.symm.trans c.1)▸⟨_,o,rfl⟩)) λc=>c.elim λj c=>c.elim λn c=>c.elim λf c=>c.1.elim λp l=>
 have d:j=a:=by have d:=dF (l.symm.trans e);injection d with _ _ d;injection d
 (m.mem (d▸c.2.1)).elim λq k=>c.2.2.2 (k.2.XG n f J c.2.2.1)
def Rep.XH(b:i9)(k:∀f∈b,zd h f)(j:Rep h M e d):Rep h (λc=>M c\/c∈b) e d:=
 Rep.rec (motive_1:=λe d z=>Rep h (λc=>M c\/c∈b) e d) (motive_2:=λm l z=>aW h (λc=>M c\/c∈b) m l) .none .bool .int .str (λa g i z=>.tup a (λh=>h.elim g λh=>(k _ h).tup a) i) (λa g i j=>.lst a (λh=>h.elim g λh=>(k _ h).lst a j) i) .nil (λz z=>.cons) j
def tQ(a:Int×(D×aF)):D:=.tup [.int a.1,a.2.1,.lst (eY a.2.2)]
def XI{a b:aF}:eY a=eY b->a=b:=(List.map_inj_right λz z c=>iM.inj c).mp
def XJ(h:tQ b=tQ a):b=a:=by
 unfold tQ at h;simp only[gn.injEq,List.cons.injEq,iM.injEq,oU.injEq,and_true] at h;exact fh h.1 (fh h.2.1 (XI h.2.2))
def XK{c Str:Type}{f:c->Str}(g:∀a b,f a=f b->a=b){d e:List c}:d.map f=e.map f->d=e:=(List.map_inj_right g).mp
noncomputable def PE.v(a:PE):Int×(D×aF):=(a.k,(a.d,a.ks))
def XM(e:List (Int×(D×aF)))(b:ak)(d:Sg):Prop:=∃a:List PE,a.map PE.v=e/\(b::cK a).Nodup/\d=nV ((b,.i (a.map λc=>(c.k,.r c.la)))::nU a)
section
variable {c:C}{ρ:Nm}{e:aT}{pos:Pos}
def r7.XO{N L F iter:aT}{scope:gh}{ds:aH}(tot:List (Int×(D×aF)))(hl:aa tot=aa ds)(W:(tot.map (·.1)).Nodup)(hz:aa tot<=bf)(a3:It c ρ iter ds)
 (X:∀b h M j (i:Nat) d a,ds[i]?=U d->tot[i]?=U a->∃g,iV (c.into scope b h M j) F d g/\(∀l∈g,(fj scope ρ).lookup l.1=ai)/\Ev (c.into scope b h M j) (g++fj scope ρ) N (.d (.int a.1))/\BC (c.into scope b h M j) (g++fj scope ρ) L a.2.1 a.2.2)
 (b1:kX c.env.kindOf (λa=>(ρ.lookup a).isSome) scope=af) (hs:autoParam (∀a,foldedSetIterable iter c.env a=pure a) lH):r7 c ρ (.DictComp N L [⟨F,iter,[],0⟩] scope pos) (XM tot):=by
 intros c ρ pos N L F iter scope ds tot _ hl W hz a3 X b1 hs;exact λT b6=>by
  let ⟨df,b5,cw,c4⟩:=DO b1
  have ax:((tot.map λa=>[tQ a]).flatten)=tot.map tQ:=by
   clear hl W hz X
   induction tot with
   |nil=>rfl
   |cons a cb P=>simp only[dM,yf,P];rfl
  have c5:∀i,((tot.map λa=>[tQ a]).take i).flatten=(tot.take i).map tQ:=λi=>by
   rw[<-AA];generalize tot.take i=c7
   induction c7 with
   |nil=>rfl
   |cons a cb P=>simp only[dM,yf,P];rfl
  show wpAny c.m c.A (comprehension (.DictComp N L [⟨F,iter,[],0⟩] scope pos) scope c.env (firstIterPos [⟨F,iter,[],0⟩] pos) newDict aA (eval iter c.env) ai) _ _ T;refine DN (H:=λn=>∃p,T.heap.get? n=U p) (hH:=λ_ u=>u) (rY:=λV=>BA (λn=>∃p,T.heap.get? n=U p) c.w V) (e:=.DictComp N L [⟨F,iter,[],0⟩] scope pos) (inner:=λcf cz=>uU (.DictComp N L [⟨F,iter,[],0⟩] scope pos) cf cz) (uX:=λp=>p={cls:=.type "dict",data:=.dict #[]}) (tot.map λa=>[tQ a]) (by simpa using hl) .d J (λ_ _ _=>rfl) hs df b5 cw c4 b6 a3.z
   (λdt dT O=>?_) (λp e=>by subst e;rfl) (λV dt s p e G bo=>by subst e;exact⟨[],rfl,⟨[],⟨_,#[],0,G,⟨rfl,rfl,rfl⟩,rfl,λ_ b3=>by simp at b3,Nn,uy⟩,rfl⟩,λa r=>(by cases r),by simp[cK],λn x=>(by cases x),bo,by decide⟩) (λV s r av=>BA.ok r av) ?_ (by rw[ax,aP];exact hz) ?_
  .show wpAny _ _ newDict _ _ _;simp only[newDict,newObj];exact ay (Af (aM (O _ J)))
  .intro b h M j s r av i d p dp K;rw[cC] at K;cases r9:tot[i]? with
   |none=>rw[r9] at K;cases K
   |some a=>
    rw[r9] at K;simp only[AP,AJ] at K;subst K;let ⟨g,cm,c2,dk,cp⟩:=X b h M j i d a dp r9;refine⟨g,af,cm,c2,.nil,λ_=>?_,λe=>by cases e⟩;refine yO.XF r av J ?_ dk cp;rw[c5,bV];intro au;have B:a.1∈(tot.take i).map (·.1):=au
    have de:i<aa tot:=by
     rcases uv i (aa tot) with u|u
     .exact u
     exact ns (l9 u) r9
    have du:tot.map (·.1)=(tot.take i).map (·.1)++a.1::(tot.drop (i+1)).map (·.1):=by
     have di:tot=tot.take i++a::tot.drop (i+1):=by
      have:tot[i]=a:=by rw[dZ de] at r9;exact dF r9
      rw[<-this,List.getElem_cons_drop,CG]
     conv=>lhs;rw[di]
     rw[cy,dM]
    rw[du,jz] at W;exact W.2.2 _ B _ (.head _) J
  intro V s b a7 a0 c0 au Y dv dq b2 c6 dC a8 _ y Z;let ⟨o,a4,b4,dz,nd,aw,bo,dE⟩:=c6;let ⟨bj,dd,cq⟩:=b4;rw[ax] at a4
  have a6:o.map PE.v=tot:=by
   refine XK (f:=tQ) (λa cx=>XJ) ?_;rw[bV];exact a4.symm
  have dj:∀n∈s::cK o,n≠b:=λn x e=>by
   rcases bN.mp x with E|x
   .exact b2 (E.symm.trans e)
   exact(aw n x).1 (e▸a8)
  have ae:∀n∈s::cK o,∀p,a7.heap.get? n=U p->y.get? n=U p:=λn x p e=>(Z.2 n (dj n x)).trans e
  rw[a0,c0] at dd;have bp:y.DictOf (intKind c.prog c.w) s bj:=mw dd (ae s (.head _));have bt:∀a∈o,a.la∈cK o/\a.sa∈cK o:=λa r=>⟨fB.mpr ⟨a,r,by simp⟩,fB.mpr ⟨a,r,by simp⟩⟩
  have bk:∀a∈o,∃t,PL y a.la #[t,.ref a.sa]/\Rep y c.M t a.d/\tw c.prog c.w y a.sa a.ks:=λa r=>by
   let ⟨t,pl,S,I⟩:=dz a r;rw[a0] at I;have dr:Rep a7.heap (λn=>c.M n\/n=b) t a.d:=S.lM λn u=>u.elim (au n) λe=>e▸a8
   refine⟨t,pl.at (ae _ (.tail _ (bt a r).1)),dr.mono λn p C _ e=>⟨(Z.2 n λE=>C (.inr E)).trans e,λc3=>C (.inl c3)⟩,AY I (ae _ (.tail _ (bt a r).2))⟩
  have ct:∀n∈s::cK o,zd y n:=λn x=>by
   rcases bN.mp x with e|x
   .rw[e];let ⟨p,G,C⟩:=zb bp;exact .inl ⟨p,G,C⟩
   let ⟨a,r,B⟩:=fB.mp x;let ⟨t,pl,_,I⟩:=bk a r;let ⟨p,G,C⟩:=IW I;simp at B;rcases B with rfl|rfl
   .exact .inr ⟨_,a.sa,p,pl,by simp,G,C⟩
   exact .inl ⟨p,G,C⟩
  have dA:(((s,mD (o.map λa=>(a.k,gF a.la)))::nU o).map (·.1)).Nodup:=by rw[dM,w5];exact nd
  have a9:∀q,nV ((s,mD (o.map λa=>(a.k,gF a.la)))::nU o) q≠ai->q∈s::cK o:=λq R=>by
   cases e:nV ((s,mD (o.map λa=>(a.k,gF a.la)))::nU o) q with
   |none=>exact aV e R
   |some a5=>
    have:=uA (f:=λl:ak×Cn=>l.1) (P0 e);rw[dM,w5] at this;exact this
  have dy:∀{t:aC} {d:D},Rep y c.M t d->Rep y (λq=>c.M q\/nV ((s,mD (o.map λa=>(a.k,gF a.la)))::nU o) q≠ai) t d:=λS=>(S.XH _ ct).lM λn u=>u.elim .inl λu=>.inr (a9 n u)
  refine⟨⟨Y.gens,Y.os,λq p e=>(Z.2 q λO=>by subst O;exact ns dq e).trans (Y.keep q p e)⟩,s,_,rfl,λq a5 e=>?_,λq a5 e=>?_,o,a6,nd,rfl⟩
  .have R:=a9 q (by rw[e];simp);rcases bN.mp R with E|R
   .rw[E];exact dv
   have:=(aw q R).2;cases O:T.heap.get? q with
   |none=>rfl
   |some p=>exact aV ⟨p,O⟩ this
  rcases bN.mp (P0 e) with E|B
  .cases E;refine⟨bj,bp,by
    rw[aP];have:aa o=aa tot:=by rw[<-a6,aP]
    rw[this];exact hz,?_⟩
   rw[cq]
   have:∀Q:List PE,DR (λt a=>VR (λq=>c.M q\/nV ((s,mD (o.map λa=>(a.k,gF a.la)))::nU o) q≠ai) y a t) (Q.map λa=>(a.k,uH a.la)) (Q.map λa=>(a.k,gF a.la)):=λQ=>by
    induction Q with
    |nil=>exact .nil
    |cons cx Q P=>exact .cons J P
   exact this o
  let ⟨a,r,B⟩:=fB.mp B;let ⟨t,pl,S,I⟩:=bk a r;simp at B;rcases B with⟨rfl,rfl⟩|⟨rfl,rfl⟩
  .exact⟨_,pl,show 2<=bf by decide,.cons (dy S) (.cons J .nil)⟩
  exact I
end
noncomputable def viewP:Program:={pw_sx_r018_1 with main:={pw_sx_r018_1.main with body:=(pw_sx_r018_1.main.body.drop 1).take 4++pw_sx_r018_1.main.body.drop 6}}
def XQ{h d:bY}{c:ak}(f:(h.get? c).isSome=true)(k:∀b a,h.get? b=some a->d.get? b=some a):(d.get? c).isSome=true:=by
 obtain⟨a,e⟩:=AN.mp f;rw[k c a e];rfl
noncomputable def xT:Shared->Bool:=λa=>recOk (Nu (Nv (Nx Hx))) a&&(a.heap.get? sysModules).isSome
abbrev xP:(Str->Option aC)->bY->Prop:=λz a=>(a.get? sysModules).isSome=true
def xT1(a:Shared)(b:xT a=true):RecFacts (Nu (Nv (Nx Hx))) a.heap:=recFacts_of ((gQ _ _).mp b).1
def xT2(a:Shared)(b:xT a=true):xP (a.heap.nsMap mainGlobals) a.heap:=((gQ _ _).mp b).2
def xTk(d:Str->Option aC)(h c:bY)(e:xP d h)(k:∀b a,h.get? b=some a->c.get? b=some a):xP d c:=XQ e k
open_top hd for Hx
noncomputable def jl{K:Frag}{a:ak}{b:Obj}{c:FuncData}(h:K.lookup a=some b)(d:b.data=.func c):FuncData:=c
noncomputable def bodyPick{fd:FuncData}{b:List Stmt}(h:fd.body=.stmts b):List Stmt:=b
noncomputable def IY(b:Params):FuncData:=by
 apply jl (K:=hd.heap_1 b) (a:=26)
 case h=>k_is
 case d=>rfl
def XR(a:Params):(hd.heap_1 a).lookup 26=some {cls:=.type "function",data:=.func (IY a)}:=by k_is
noncomputable def Ek(a:Params):List Stmt:=bodyPick (fd:=IY a) J
noncomputable def IZ(b:Params):FuncData:=by
 apply jl (K:=hd.heap_1 b) (a:=31)
 case h=>k_is
 case d=>rfl
def XS(a:Params):(hd.heap_1 a).lookup 31=some {cls:=.type "function",data:=.func (IZ a)}:=by k_is
noncomputable def P4(a:Params):List Stmt:=bodyPick (fd:=IZ a) J
noncomputable def El(b:Params):FuncData:=by
 apply jl (K:=hd.heap_1 b) (a:=36)
 case h=>k_is
 case d=>rfl
def XT(a:Params):(hd.heap_1 a).lookup 36=some {cls:=.type "function",data:=.func (El a)}:=by k_is
noncomputable def Em(a:Params):List Stmt:=bodyPick (fd:=El a) J
noncomputable def Ja(b:Params):FuncData:=by
 apply jl (K:=hd.heap_1 b) (a:=43)
 case h=>k_is
 case d=>rfl
def XU(a:Params):(hd.heap_1 a).lookup 43=some {cls:=.type "function",data:=.func (Ja a)}:=by k_is
noncomputable def P5(a:Params):List Stmt:=bodyPick (fd:=Ja a) J
noncomputable def En(b:Params):FuncData:=by
 apply jl (K:=hd.heap_1 b) (a:=50)
 case h=>k_is
 case d=>rfl
def XW(a:Params):(hd.heap_1 a).lookup 50=some {cls:=.type "function",data:=.func (En a)}:=by k_is
noncomputable def P6(a:Params):List Stmt:=bodyPick (fd:=En a) J
noncomputable def Eo(b:Params):FuncData:=by
 apply jl (K:=hd.heap_1 b) (a:=57)
 case h=>k_is
 case d=>rfl
def XY(a:Params):(hd.heap_1 a).lookup 57=some {cls:=.type "function",data:=.func (Eo a)}:=by k_is
noncomputable def P7(a:Params):List Stmt:=bodyPick (fd:=Eo a) J
noncomputable def w6(b:Params):FuncData:=by
 apply jl (K:=hd.heap_1 b) (a:=64)
 case h=>k_is
 case d=>rfl
def XZ(a:Params):(hd.heap_1 a).lookup 64=some {cls:=.type "function",data:=.func (w6 a)}:=by k_is
noncomputable def P8(a:Params):List Stmt:=bodyPick (fd:=w6 a) J
noncomputable def Jb(b:Params):FuncData:=by
 apply jl (K:=hd.heap_1 b) (a:=71)
 case h=>k_is
 case d=>rfl
def X0(a:Params):(hd.heap_1 a).lookup 71=some {cls:=.type "function",data:=.func (Jb a)}:=by k_is
noncomputable def P9(a:Params):List Stmt:=bodyPick (fd:=Jb a) J
noncomputable def o8(b:Params):FuncData:=by
 apply jl (K:=hd.heap_1 b) (a:=78)
 case h=>k_is
 case d=>rfl
def X3(a:Params):(hd.heap_1 a).lookup 78=some {cls:=.type "function",data:=.func (o8 a)}:=by k_is
noncomputable def BD(a:Params):List Stmt:=bodyPick (fd:=o8 a) J
noncomputable def nW(b:Params):FuncData:=by
 apply jl (K:=hd.heap_1 b) (a:=85)
 case h=>k_is
 case d=>rfl
def X4(a:Params):(hd.heap_1 a).lookup 85=some {cls:=.type "function",data:=.func (nW a)}:=by k_is
noncomputable def sj(a:Params):List Stmt:=bodyPick (fd:=nW a) J
noncomputable def Jc(b:Params):FuncData:=by
 apply jl (K:=hd.heap_1 b) (a:=99)
 case h=>k_is
 case d=>rfl
def X5(a:Params):(hd.heap_1 a).lookup 99=some {cls:=.type "function",data:=.func (Jc a)}:=by k_is
noncomputable def Qa(a:Params):List Stmt:=bodyPick (fd:=Jc a) J
noncomputable def w7(b:Params):FuncData:=by
 apply jl (K:=hd.heap_1 b) (a:=106)
 case h=>k_is
 case d=>rfl
def X6(a:Params):(hd.heap_1 a).lookup 106=some {cls:=.type "function",data:=.func (w7 a)}:=by k_is
noncomputable def Qc(a:Params):List Stmt:=bodyPick (fd:=w7 a) J
noncomputable def jU(b:Params):FuncData:=by
 apply jl (K:=hd.heap_1 b) (a:=111)
 case h=>k_is
 case d=>rfl
def X7(a:Params):(hd.heap_1 a).lookup 111=some {cls:=.type "function",data:=.func (jU a)}:=by k_is
noncomputable def w9(a:Params):List Stmt:=bodyPick (fd:=jU a) J
noncomputable def Jd(b:Params):FuncData:=by
 apply jl (K:=hd.heap_1 b) (a:=123)
 case h=>k_is
 case d=>rfl
def X8(a:Params):(hd.heap_1 a).lookup 123=some {cls:=.type "function",data:=.func (Jd a)}:=by k_is
noncomputable def Qd(a:Params):List Stmt:=bodyPick (fd:=Jd a) J
noncomputable def Je(b:Params):FuncData:=by
 apply jl (K:=hd.heap_1 b) (a:=128)
 case h=>k_is
 case d=>rfl
def Yb(a:Params):(hd.heap_1 a).lookup 128=some {cls:=.type "function",data:=.func (Je a)}:=by k_is
noncomputable def Qe(a:Params):List Stmt:=bodyPick (fd:=Je a) J
noncomputable def BE(b:Params):FuncData:=by
 apply jl (K:=hd.heap_1 b) (a:=133)
 case h=>k_is
 case d=>rfl
def Yc(a:Params):(hd.heap_1 a).lookup 133=some {cls:=.type "function",data:=.func (BE a)}:=by k_is
noncomputable def Qf(a:Params):List Stmt:=bodyPick (fd:=BE a) J
noncomputable def xd(b:Params):FuncData:=by
 apply jl (K:=hd.heap_1 b) (a:=138)
 case h=>k_is
 case d=>rfl
def Yd(a:Params):(hd.heap_1 a).lookup 138=some {cls:=.type "function",data:=.func (xd a)}:=by k_is
noncomputable def sr(a:Params):List Stmt:=bodyPick (fd:=xd a) J
noncomputable def lV(b:Params):FuncData:=by
 apply jl (K:=hd.heap_1 b) (a:=143)
 case h=>k_is
 case d=>rfl
def Ye(a:Params):(hd.heap_1 a).lookup 143=some {cls:=.type "function",data:=.func (lV a)}:=by k_is
noncomputable def jc(a:Params):List Stmt:=bodyPick (fd:=lV a) J
noncomputable def ze(b:Params):FuncData:=by
 apply jl (K:=hd.heap_1 b) (a:=148)
 case h=>k_is
 case d=>rfl
def Yg(a:Params):(hd.heap_1 a).lookup 148=some {cls:=.type "function",data:=.func (ze a)}:=by k_is
noncomputable def Qg(a:Params):List Stmt:=bodyPick (fd:=ze a) J
noncomputable def su(b:Params):FuncData:=by
 apply jl (K:=hd.heap_1 b) (a:=153)
 case h=>k_is
 case d=>rfl
def Yh(a:Params):(hd.heap_1 a).lookup 153=some {cls:=.type "function",data:=.func (su a)}:=by k_is
noncomputable def sy(a:Params):List Stmt:=bodyPick (fd:=su a) J
noncomputable def bq:bz->D
 |none=>.none
 |some a=>.str a
noncomputable def aK(b:aL):D:=.tup [.int b.1,.int b.2]
def ck(a:ji):D:=.tup [.int a.1,aK a.2.1,bq a.2.2]
noncomputable def jm:Nat->Str
 |0=>"idle"
 |1=>"preparing"
 |_=>"leading"
def bI:gr->D
 |.prepare b c a=>.tup [.str "prepare",aK b,.int c,.int a]
 |.promise b c a g=>.tup [.str "promise",aK b,.int c,.int a,.lst (g.map ck)]
 |.refuse b c a f=>.tup [.str "refuse",aK b,.int c,.int a,aK f]
 |.accept b c a d e=>.tup [.str "accept",aK b,.int c,.int a,.int d,bq e]
 |.accepted b c a d=>.tup [.str "accepted",aK b,.int c,.int a,.int d]
 |.aq b c a d e=>.tup [.str "chosen",aK b,.int c,.int a,.int d,bq e]
def ku(a:Int×bU):D:=.tup [.int a.1,.lst (a.2.map ck)]
def jV(a:Int×(bz×aF)):D:=.tup [.int a.1,bq a.2.1,.lst (eY a.2.2)]
def eB(a:Int×bz):D:=.tup [.int a.1,bq a.2]
def jd(n:aD):aH:=if n.phase=1 then n.hp.map ku else if n.phase=2 then n.hl.map jV else[]
def aX(n:aD):D:=.tup [.int n.me,.int n.size,aK n.promised,.lst (n.acc.map ck),.lst (n.aq.map eB),.str (jm n.phase),aK n.aE,.lst (jd n)]
structure PA where
 da:ak
 acc:ak
 ch:ak
 pm:ak
 pp:ak
 out:ak
 xs:List PE
instance:Nonempty PA:=⟨⟨0,0,0,0,0,0,[]⟩⟩
def PA.bD(a:PA):i9:=a.da::a.acc::a.ch::a.pm::a.pp::a.out::cK a.xs
def fP(b:bU):List (Int×D):=b.map λa=>(a.1,.tup [aK a.2.1,bq a.2.2])
def jn(b:bR):List (Int×D):=b.map λa=>(a.1,bq a.2)
def gu(b:List (Int×bU)):List (Int×D):=b.map λa=>(a.1,.lst (a.2.map ck))
def jo(b:jQ):List (Int×(D×aF)):=b.map λa=>(a.1,(bq a.2.1,a.2.2))
def gJ(b:aU)(a:PA):List (Str×V):=[("me",.d (.int b.me)),("size",.d (.int b.size)),("promised",.d (aK b.promised)),("phase",.d (.str (jm b.phase))),("ballot",.d (aK b.aE)),("acc",.r a.acc),("chosen",.r a.ch),("prom",.r a.pm),("props",.r a.pp),("out",.r a.out)]
structure bL(σ:Sg)(a:ak)(p:aU)(q:PA):Prop where
 o:σ a=U (.o q.da)
 t:σ q.da=U (.t (gJ p q))
 acc:σ q.acc=U (.i (bP (fP p.acc)))
 ch:σ q.ch=U (.i (bP (jn p.aq)))
 pm:σ q.pm=U (.i (bP (gu p.prom)))
 pp:σ q.pp=U (.i (q.xs.map λx=>(x.k,.r x.la)))
 xs:∀x∈q.xs,σ x.la=U (.v [.d x.d,.r x.sa])/\σ x.sa=U (.s x.ks)
 props:q.xs.map PE.v=jo p.props
 out:σ q.out=U (.l (p.out.map bI))
 nd:(a::q.bD).Nodup
noncomputable def Sg.set(σ:Sg)(b:ak)(c:Cn):Sg:=λa=>if a=b then U c else σ a
def Sg.zf{σ:Sg}:σ.set a b a=U b:=by simp[Sg.set]
def Sg.Qh{σ:Sg}(h:b≠a):σ.set a c b=σ b:=by simp[Sg.set,h]
def Sg.at{σ:Sg}(h:b≠c)(k:σ b=a):σ.set c d b=a:=(Sg.Qh h).trans k
section
variable {q:PA}{b:ak}
def PA.m1:q.da∈q.bD:=.head _
def PA.m2:q.acc∈q.bD:=.tail _ (.head _)
def PA.m3:q.ch∈q.bD:=.tail _ (.tail _ (.head _))
def PA.m4:q.pm∈q.bD:=.tail _ (.tail _ (.tail _ (.head _)))
def PA.m5:q.pp∈q.bD:=.tail _ (.tail _ (.tail _ (.tail _ (.head _))))
def PA.m6:q.out∈q.bD:=.tail _ (.tail _ (.tail _ (.tail _ (.tail _ (.head _)))))
def PA.m7(h:b∈cK q.xs):b∈q.bD:=.tail _ (.tail _ (.tail _ (.tail _ (.tail _ (.tail _ h)))))
def Jf(b:a∈xs):a.la∈cK xs:=fB.mpr ⟨a,b,.head _⟩
def Jg(b:a∈xs):a.sa∈cK xs:=fB.mpr ⟨a,b,.tail _ (.head _)⟩
end
structure Yi(a:ak)(q:PA):Prop where
 n1:a≠q.da/\a≠q.acc/\a≠q.ch/\a≠q.pm/\a≠q.pp/\a≠q.out
 n2:q.da≠q.acc/\q.da≠q.ch/\q.da≠q.pm/\q.da≠q.pp/\q.da≠q.out
 n3:q.acc≠q.ch/\q.acc≠q.pm/\q.acc≠q.pp/\q.acc≠q.out
 n4:q.ch≠q.pm/\q.ch≠q.pp/\q.ch≠q.out
 n5:q.pm≠q.pp/\q.pm≠q.out
 n6:q.pp≠q.out
 xs:∀x∈q.xs,∀b,b=x.la\/b=x.sa->b≠a/\b≠q.da/\b≠q.acc/\b≠q.ch/\b≠q.pm/\b≠q.pp/\b≠q.out
def xe{c:i9}(h:(a::c).Nodup):(∀b∈c,a≠b)/\c.Nodup:=qa.mp h
def bL.apart(h:bL σ c e b):Yi c b:=by
 intros σ c e b _ h;exact have a:=xe h.nd
  have f:=xe a.2;have g:=xe f.2;have i:=xe g.2;have j:=xe i.2;have l:=xe j.2;have s:=xe l.2
  ⟨⟨a.1 _ PA.m1,a.1 _ PA.m2,a.1 _ PA.m3,a.1 _ PA.m4,a.1 _ PA.m5,a.1 _ PA.m6⟩,
   ⟨f.1 _ (.head _),f.1 _ (.tail _ (.head _)),f.1 _ (.tail _ (.tail _ (.head _))),f.1 _ (.tail _ (.tail _ (.tail _ (.head _)))),f.1 _ (.tail _ (.tail _ (.tail _ (.tail _ (.head _)))))⟩,
   ⟨g.1 _ (.head _),g.1 _ (.tail _ (.head _)),g.1 _ (.tail _ (.tail _ (.head _))),g.1 _ (.tail _ (.tail _ (.tail _ (.head _))))⟩,
   ⟨i.1 _ (.head _),i.1 _ (.tail _ (.head _)),i.1 _ (.tail _ (.tail _ (.head _)))⟩,⟨j.1 _ (.head _),j.1 _ (.tail _ (.head _))⟩,l.1 _ (.head _),
   λu p d t=>have m:d∈cK b.xs:=t.elim (λk=>k▸Jf p) λk=>k▸Jg p
    have r:=Di b.out m;have n:=Di b.pp r;have o:=Di b.pm n;have q:=Di b.ch o
    ⟨cS (a.1 d (PA.m7 m)),cS (f.1 d (.tail _ q)),cS (g.1 d q),cS (i.1 d o),cS (j.1 d n),cS (l.1 d r),cS (s.1 d m)⟩⟩
section
variable {σ:Sg}{a:ak}{p:aU}{q:PA}
def bL.names(h:bL σ a p q)(k:p'.acc=p.acc)(g:p'.aq=p.aq)(j:p'.prom=p.prom)(f:p'.props=p.props)(e:p'.out=p.out)(i:dg=gJ p' q):bL (σ.set q.da (.t dg)) a p' q:=by
 subst i;have b:=h.apart;exact⟨Sg.at b.n1.1 h.o,Sg.zf,Sg.at (cS b.n2.1) (k▸h.acc),Sg.at (cS b.n2.2.1) (g▸h.ch),Sg.at (cS b.n2.2.2.1) (j▸h.pm),Sg.at (cS b.n2.2.2.2.1) h.pp,λd c=>⟨Sg.at (b.xs d c _ (.inl J)).2.1 (h.xs d c).1,Sg.at (b.xs d c _ (.inr J)).2.1 (h.xs d c).2⟩,f▸h.props,Sg.at (cS b.n2.2.2.2.2) (e▸h.out),h.nd⟩
def bL.Qi(h:bL σ a p q)(n:Nat)(b:y=jm n):bL (σ.set q.da (.t (fT "phase" (.d (.str y)) (gJ p q)))) a {p with phase:=n} q:=h.names (p':={p with phase:=n}) J J J J J (by subst b;rfl)
def bL.Yj(h:bL σ a p q)(b:aL):bL (σ.set q.da (.t (fT "promised" (.d (aK b)) (gJ p q)))) a {p with promised:=b} q:=h.names (p':={p with promised:=b}) J J J J J (by rfl)
def bL.Yk(h:bL σ a p q)(b:aL):bL (σ.set q.da (.t (fT "ballot" (.d (aK b)) (gJ p q)))) a {p with aE:=b} q:=h.names (p':={p with aE:=b}) J J J J J (by rfl)
def bL.Qj(h:bL σ a p q)(f:b=ms.map bI):bL (σ.set q.out (.l b)) a {p with out:=ms} q:=by
 have c:=h.apart;exact⟨Sg.at c.n1.2.2.2.2.2 h.o,Sg.at c.n2.2.2.2.2 h.t,Sg.at c.n3.2.2.2 h.acc,Sg.at c.n4.2.2 h.ch,Sg.at c.n5.2 h.pm,Sg.at c.n6 h.pp,λe d=>⟨Sg.at (c.xs e d _ (.inl J)).2.2.2.2.2.2 (h.xs e d).1,Sg.at (c.xs e d _ (.inr J)).2.2.2.2.2.2 (h.xs e d).2⟩,h.props,f▸Sg.zf,h.nd⟩
def zg{d Str:Type}(a:d->Str)(c:List (Int×d))(k:Int)(e:d):put (c.map λb=>(b.1,a b.2)) k (a e)=(put c k e).map λb=>(b.1,a b.2):=by
 unfold put;have:(c.map λb=>(b.1,a b.2)).any (λp=>p.1=k)=c.any (λp=>p.1=k):=by rw[List.any_map];rfl
 rw[this];split
 .rw[bV,bV];apply j0;intro b _;simp only[C4];split<;>rfl
 rw[cy];rfl
def vg{d Str:Type}(c:d->Str)(a:List (Int×d))(k:Int):look (a.map λb=>(b.1,c b.2)) k=(look a k).map c:=by
 induction a with
 |nil=>rfl
 |cons b a e=>rw[dM,jD,jD,e];split<;>rfl
def xg(a:List (Int×D))(k:Int):look (bP a) k=(look a k).map .d:=vg j6 a k
def Ep(a:List (Int×D))(k:Int)(b:D):put (bP a) k (.d b)=bP (put a k b):=zg j6 a k b
def bL.Yl(h:bL σ a p q)(f:Int)(c:aL×bz):bL (σ.set q.acc (.i (put (bP (fP p.acc)) f (.d (.tup [aK c.1,bq c.2]))))) a {p with acc:=put p.acc f c} q:=by
 have b:=h.apart
 have j:put (bP (fP p.acc)) f (.d (.tup [aK c.1,bq c.2]))=bP (fP (put p.acc f c)):=by
  rw[Ep];congr 1;exact zg (λe:aL×bz=>gn [aK e.1,bq e.2]) p.acc f c
 rw[j];exact⟨Sg.at b.n1.2.1 h.o,Sg.at b.n2.1 h.t,Sg.zf,Sg.at (cS b.n3.1) h.ch,Sg.at (cS b.n3.2.1) h.pm,Sg.at (cS b.n3.2.2.1) h.pp,λe g=>⟨Sg.at (b.xs e g _ (.inl J)).2.2.1 (h.xs e g).1,Sg.at (b.xs e g _ (.inr J)).2.2.1 (h.xs e g).2⟩,h.props,Sg.at (cS b.n3.2.2.2) h.out,h.nd⟩
def bL.Ym(h:bL σ a p q)(e:Int)(c:bz):bL (σ.set q.ch (.i (put (bP (jn p.aq)) e (.d (bq c))))) a {p with aq:=put p.aq e c} q:=by
 have b:=h.apart
 have j:put (bP (jn p.aq)) e (.d (bq c))=bP (jn (put p.aq e c)):=by
  rw[Ep];congr 1;exact zg bq p.aq e c
 rw[j];exact⟨Sg.at b.n1.2.2.1 h.o,Sg.at b.n2.2.1 h.t,Sg.at b.n3.1 h.acc,Sg.zf,Sg.at (cS b.n4.1) h.pm,Sg.at (cS b.n4.2.1) h.pp,λg f=>⟨Sg.at (b.xs g f _ (.inl J)).2.2.2.1 (h.xs g f).1,Sg.at (b.xs g f _ (.inr J)).2.2.2.1 (h.xs g f).2⟩,h.props,Sg.at (cS b.n4.2.2) h.out,h.nd⟩
def bL.Yn(h:bL σ a p q)(f:Int)(e:bU):bL (σ.set q.pm (.i (put (bP (gu p.prom)) f (.d (.lst (e.map ck)))))) a {p with prom:=put p.prom f e} q:=by
 have b:=h.apart
 have j:put (bP (gu p.prom)) f (.d (.lst (e.map ck)))=bP (gu (put p.prom f e)):=by
  rw[Ep];congr 1;exact zg (λc:bU=>oU (c.map ck)) p.prom f e
 rw[j];exact⟨Sg.at b.n1.2.2.2.1 h.o,Sg.at b.n2.2.2.1 h.t,Sg.at b.n3.2.1 h.acc,Sg.at b.n4.1 h.ch,Sg.zf,Sg.at (cS b.n5.1) h.pp,λc g=>⟨Sg.at (b.xs c g _ (.inl J)).2.2.2.2.1 (h.xs c g).1,Sg.at (b.xs c g _ (.inr J)).2.2.2.2.1 (h.xs c g).2⟩,h.props,Sg.at (cS b.n5.2) h.out,h.nd⟩
end
open Mine.PA renaming m1->iX,bD->o9,m3->vh,m6->vm,m2->xh,m4->xj,m5->zh
open Mine.Sg renaming Qh->iY,zf->sA
section
variable {σ:Sg}{a b:ak}{p:aU}{q:PA}{cn:Cn}
def PA.Er(a:c∈q.xs):c.la∈q.bD/\c.sa∈q.bD:=⟨PA.m7 (Jf a),PA.m7 (Jg a)⟩
def Jh(h:(l₁++x::c).Nodup)(a:b∉l₁++x::c):(l₁++b::c).Nodup:=
 we.nodup_iff.mpr (ff.mpr ⟨λd=>a (we.mem_iff.mpr (.tail _ d)),(ff.mp (we.nodup_iff.mp h)).2⟩)
def lW{a:i9}{c:ak}(n:b∉a)(e:c∈a):b≠c:=λd=>n (d▸e)
def Es(c:b≠a/\b∉q.bD):b∉a::q.bD:=λd=>(bN.mp d).elim c.1 c.2
def bL.agree(h:bL σ a p q)(g:∀b,b=a\/b∈q.bD->c b=σ b):bL c a p q:=
 have d {b:ak} (j:b∈q.bD) {i:Option Cn} (k:σ b=i):c b=i:=(g b (.inr j)).trans k
 ⟨(g a (.inl J)).trans h.o,d iX h.t,d xh h.acc,d vh h.ch,d xj h.pm,d zh h.pp,λf e=>⟨d (PA.Er e).1 (h.xs f e).1,d (PA.Er e).2 (h.xs f e).2⟩,h.props,d vm h.out,h.nd⟩
def bL.other(h:bL σ a p q)(d:b≠a/\b∉q.bD):bL (σ.set b cn) a p q:=h.agree λf c=>iY λe=>by
 rcases c with c|c
 .exact d.1 (e.symm.trans c)
 exact d.2 (e▸c)
def sC(a:σ b=ai)(e:σ c=U d):b≠c:=λf=>nomatch (f▸a).symm.trans e
def jW{a c:ak}{b:i9}(h:a≠c)(k:a∉b):a∉c::b:=λd=>(bN.mp d).elim h k
def bL.fresh(h:bL σ a p q)(c:σ b=ai):b≠a/\b∉q.bD:=
 ⟨sC c h.o,jW (sC c h.t) (jW (sC c h.acc) (jW (sC c h.ch) (jW (sC c h.pm) (jW (sC c h.pp) (jW (sC c h.out) λd=>by
  let ⟨e,f,d⟩:=fB.mp d;exact jW (sC c (h.xs e f).1) (jW (sC c (h.xs e f).2) jy) d)))))⟩
def bL.Qk(h:bL σ a p q){l:List (Int×bU)}(hs:σ b=U (.i (bP (gu l))))(f:b≠a/\b∉q.bD):bL (σ.set q.da (.t (fT "prom" (.r b) (gJ p q)))) a {p with prom:=l} {q with pm:=b}:=
 have c:=h.apart
 ⟨Sg.at c.n1.1 h.o,sA,Sg.at (cS c.n2.1) h.acc,Sg.at (cS c.n2.2.1) h.ch,Sg.at (lW f.2 iX) hs,Sg.at (cS c.n2.2.2.2.1) h.pp,
  λd e=>⟨Sg.at (c.xs d e _ (.inl J)).2.1 (h.xs d e).1,Sg.at (c.xs d e _ (.inr J)).2.1 (h.xs d e).2⟩,h.props,Sg.at (cS c.n2.2.2.2.2) h.out,Jh (l₁:=[a,q.da,q.acc,q.ch]) h.nd (Es f)⟩
def Ql{l₁ l₂ a:i9}(h:(l₁++l₂).Nodup)(k:a.Nodup)(d:∀c∈a,c∉l₁):(l₁++a).Nodup:=jz.mpr ⟨(jz.mp h).1,k,λc f e g b=>d e g (b▸f)⟩
def bL.Yo(h:bL σ a p q){f:List PE}{z:jQ}(hs:σ b=U (.i (f.map λc=>(c.k,.r c.la))))(u:b≠a/\b∉q.bD)(y:∀c∈f,σ c.la=U (.v [.d c.d,.r c.sa])/\σ c.sa=U (.s c.ks))(C:f.map PE.v=jo z)(x:(b::cK f).Nodup)(n:∀e∈cK f,e≠a/\e∉q.bD):
 bL (σ.set q.da (.t (fT "props" (.r b) (gJ p q)))) a {p with props:=z} {q with pp:=b,xs:=f}:=
 have j:=h.apart;have w {e:ak} (g:e∈cK f):e≠q.da:=lW (n e g).2 iX
 ⟨Sg.at j.n1.1 h.o,sA,Sg.at (cS j.n2.1) h.acc,Sg.at (cS j.n2.2.1) h.ch,Sg.at (cS j.n2.2.2.1) h.pm,Sg.at (lW u.2 iX) hs,
  λc m=>⟨Sg.at (w (Jf m)) (y c m).1,Sg.at (w (Jg m)) (y c m).2⟩,C,Sg.at (cS j.n2.2.2.2.2) h.out,
  have B:=Es u
  have nd:=Ql (l₁:=[a,q.da,q.acc,q.ch,q.pm,b,q.out]) (Jh (l₁:=[a,q.da,q.acc,q.ch,q.pm]) h.nd B) (ff.mp x).2 λe g=>
   have l:=(n e g).2
   jW (n e g).1 (jW (lW l iX) (jW (lW l xh) (jW (lW l vh) (jW (lW l xj) (jW (λA=>(ff.mp x).1 (A▸g)) (jW (lW l vm) jy))))))
  nd⟩
def zj{g:List PE}{a:jQ}(h:g.map PE.v=jo a)(k:Int):(look a k=ai/\look (g.map λc=>(c.k,gF c.la)) k=ai)\/∃c f e,c∈g/\c.k=k/\look a k=U (f,e)/\look (g.map λc=>(c.k,gF c.la)) k=U (.r c.la)/\c.d=bq f/\c.ks=e:=by
 induction g generalizing a with
 |nil=>
  cases a with
  |nil=>exact .inl ⟨rfl,rfl⟩
  |cons b a=>simp[jo] at h
 |cons c g o=>
  cases a with
  |nil=>simp[jo] at h
  |cons b a=>
   simp only[jo,dM] at h;let ⟨l,n⟩:=Dg h;have j:c.k=b.1:=aR (·.1) l;have m:c.d=bq b.2.1:=aR (·.2.1) l;have q:c.ks=b.2.2:=aR (·.2.2) l;rw[dM,jD,jD]
   by_cases i:b.1=k
   .right;exact⟨c,b.2.1,b.2.2,.head _,j.trans i,by rw[az i],by rw[az (j.trans i)],m,q⟩
   have p:¬c.k=k:=λh=>i (j.symm.trans h)
   rw[aB i,aB p];rcases o n with⟨a1,a2⟩|⟨x',f,e,a1,a2⟩
   .exact .inl ⟨a1,a2⟩
   exact .inr ⟨x',f,e,.tail _ a1,a2⟩
def bL.Ji(h:bL σ a p q){g:Int}{n:bz}{b e:ak}{m:aF}(x:look p.props g=ai)(h1:σ b=U (.v [.d (bq n),.r e]))(h2:σ e=U (.s m))(w:b≠a/\b∉q.bD)(u:e≠a/\e∉q.bD)(z:b≠e):
 bL (σ.set q.pp (.i (put (q.xs.map λc=>(c.k,gF c.la)) g (.r b)))) a {p with props:=put p.props g (n,m)} {q with xs:=q.xs++[⟨g,b,e,bq n,m⟩]}:=by
 intros σ a p q g n b e m _ h x h1 h2 w u z;have j:=h.apart
 have A:look (q.xs.map λc=>(c.k,gF c.la)) g=ai:=by
  rcases zj h.props g with⟨_,l⟩|⟨c,v',ks',_,_,l,_⟩
  .exact l
  exact ns x l
 rw[wY A];exact⟨Sg.at j.n1.2.2.2.2.1 h.o,Sg.at j.n2.2.2.2.1 h.t,Sg.at j.n3.2.2.1 h.acc,Sg.at j.n4.2.1 h.ch,Sg.at j.n5.1 h.pm,sA.trans (by rw[cy];rfl),λc f=>(eE.mp f).elim (λf=>⟨Sg.at (j.xs c f _ (.inl J)).2.2.2.2.2.1 (h.xs c f).1,Sg.at (j.xs c f _ (.inr J)).2.2.2.2.2.1 (h.xs c f).2⟩) λf=>by
  rw[dh.mp f];exact⟨Sg.at (lW w.2 zh) h1,Sg.at (lW u.2 zh) h2⟩,
  by rw[wY x];show _=oB _ _;rw[cy,cy,h.props];rfl,Sg.at (cS j.n6) h.out,by
  have C:a::o9 {q with xs:=q.xs++[⟨g,b,e,bq n,m⟩]}=(a::q.bD)++[b,e]:=by simp[o9,cK]
  rw[C];exact jz.mpr ⟨h.nd,ff.mpr ⟨jW z jy,ff.mpr ⟨jy,uy⟩⟩,λD y E B l=>jW (cS (lW (Es w) (l▸y))) (jW (cS (lW (Es u) (l▸y))) jy) B⟩⟩
def Qm(b:∀c,(d c).la=c.la/\(d c).sa=c.sa)(a:List PE):cK (a.map d)=cK a:=by
 induction a with
 |nil=>rfl
 |cons c a g=>
  have f:cK ((c::a).map d)=[(d c).la,(d c).sa]++cK (a.map d):=by simp[cK]
  have e:cK (c::a)=[c.la,c.sa]++cK a:=by simp[cK]
  rw[f,e,g,(b c).1,(b c).2]
def Qn:∀{c:List PE},(cK c).Nodup->∀{d e:PE},d∈c->e∈c->d.sa≠e.la/\(d.sa=e.sa->d=e):=by
 intro p
 induction p with
 |nil=>
  intro _ _ _ i _;cases i
 |cons b c m=>
  intro j d e i k;have n:cK (b::c)=[b.la,b.sa]++cK c:=by simp[cK]
  rw[n,jz] at j;let ⟨q,o,h⟩:=j;have r:b.la≠b.sa:=by simpa using q
  have g:∀f∈c,f.la∈cK c/\f.sa∈cK c:=λf l=>⟨fB.mpr ⟨f,l,by simp⟩,fB.mpr ⟨f,l,by simp⟩⟩
  rcases bN.mp i with ex|hx'
  .rcases bN.mp k with ey|hy'
   .subst ex;subst ey;exact⟨cS r,λz=>rfl⟩
   subst ex;exact⟨λa=>h _ (by simp) _ (g e hy').1 a,λa=>aV a (λa=>h _ (by simp) _ (g e hy').2 a)⟩
  rcases bN.mp k with ey|hy'
  .subst ey;exact⟨λa=>h _ (by simp) _ (g d hx').2 a.symm,λa=>aV a (λa=>h _ (by simp) _ (g d hx').2 a.symm)⟩
  exact m o hx' hy'
def Yp{h:Type}{f:h->Int}:∀{e:List h},(e.map f).Nodup->∀{c d:h},c∈e->d∈e->f c=f d->c=d:=by
 intro k
 induction k with
 |nil=>
  intro _ _ _ g _ _;cases g
 |cons l e j=>
  intro a c d g i b;rw[dM,ff] at a;rcases bN.mp g with ex|hx'
  .rcases bN.mp i with ey|hy'
   .rw[ex,ey]
   exact aV (aY.mpr ⟨d,hy',by rw[<-b,ex]⟩) a.1
  rcases bN.mp i with ey|hy'
  .exact aV (aY.mpr ⟨c,hx',by rw[b,ey]⟩) a.1
  exact j a.2 hx' hy' b
def bL.Jj(h:bL σ a p q)(y:Nk p.props){b:Int}{n:bz}{C ks':aF}{d:PE}(l:d∈q.xs)(z:d.k=b)(hl:look p.props b=U (n,C)):
 bL (σ.set d.sa (.s ks')) a {p with props:=put p.props b (n,ks')} {q with xs:=q.xs.map λc=>if c.k=b then{c with ks:=ks'} else c}:=by
 intros σ a p q b n C ks' d _ h y l z hl;have E:=h.apart;have j:=E.xs d l _ (.inr J)
 have A:(cK q.xs).Nodup:=by
  have:=h.nd;unfold o9 at this;simp only[ff] at this;exact this.2.2.2.2.2.2.2
 have H:∀c:PE,((λc:PE=>if c.k=b then{c with ks:=ks'} else c) c).la=c.la/\((λc:PE=>if c.k=b then{c with ks:=ks'} else c) c).sa=c.sa:=λc=>by dsimp only;split<;>exact⟨rfl,rfl⟩
 have M:(q.xs.map (·.k)).Nodup:=by
  have g:q.xs.map (·.k)=p.props.map (·.1):=by
   have:=aR (oB (·.1)) h.props
   simpa [jo,PE.v,s8] using this
  rw[g];exact y
 have K:(q.xs.map λc:PE=>if c.k=b then{c with ks:=ks'} else c).map (λd=>(d.k,gF d.la))=q.xs.map λd=>(d.k,gF d.la):=by
  rw[bV];apply j0;intro c _;simp only[C4];split<;>rfl
 refine⟨?_,?_,?_,?_,?_,?_,λc e=>?_,?_,?_,?_⟩
 .show Sg.set σ d.sa _ a=_;rw[iY (cS j.1)];exact h.o
 .show Sg.set σ d.sa _ q.da=_;rw[iY (cS j.2.1)];exact h.t
 .show Sg.set σ d.sa _ q.acc=_;rw[iY (cS j.2.2.1)];exact h.acc
 .show Sg.set σ d.sa _ q.ch=_;rw[iY (cS j.2.2.2.1)];exact h.ch
 .show Sg.set σ d.sa _ q.pm=_;rw[iY (cS j.2.2.2.2.1)];exact h.pm
 .show Sg.set σ d.sa _ q.pp=_;rw[iY (cS j.2.2.2.2.2.1)];show σ q.pp=U (.i ((q.xs.map λc:PE=>if c.k=b then{c with ks:=ks'} else c).map _));rw[K];exact h.pp
 .let ⟨f,w,r⟩:=aY.mp e;have B:=Qn A l w;let ⟨x,I⟩:=h.xs f w
  by_cases u:f.k=b
  .have F:f=d:=Yp M w l (u.trans z.symm);rw[az u] at r;subst r;dsimp only;rw[F] at x⊢;exact⟨by rw[iY (λg=>(Qn A l l).1 g.symm)];exact x,sA⟩
  rw[aB u] at r;subst r;refine⟨by rw[iY (λg=>B.1 g.symm)];exact x,?_⟩;rw[iY (λg=>u (by rw[<-B.2 g.symm];exact z))];exact I
 .have L:(q.xs.map λc:PE=>if c.k=b then{c with ks:=ks'} else c).map PE.v=(q.xs.map PE.v).map λf=>if f.1=b then(f.1,(f.2.1,ks')) else f:=by
   rw[bV,bV];apply j0;intro c _;show PE.v (if c.k=b then{c with ks:=ks'} else c)=if(PE.v c).1=b then((PE.v c).1,((PE.v c).2.1,ks')) else PE.v c
   by_cases e:c.k=b
   .rw[az e,az (show(PE.v c).1=b from e)];rfl
   rw[aB e,aB (show ¬(PE.v c).1=b from e)]
  show(q.xs.map λc:PE=>if c.k=b then{c with ks:=ks'} else c).map PE.v=jo (put p.props b (n,ks'));rw[L,h.props];unfold put jo;rw[Bo,hl];simp only[MI,if_true];rw[bV,bV];apply j0;intro c e;intros c _ e;simp only[C4]
  by_cases m:c.1=b
  .have:=y.look e;rw[m,hl] at this;have D:n=c.2.1:=aR (·.1) (dF this);rw[az m,az m,D]
  rw[aB m,aB m]
 .show Sg.set σ d.sa _ q.out=_;rw[iY (cS j.2.2.2.2.2.2)];exact h.out
 have G:o9 {q with xs:=q.xs.map λc=>if c.k=b then{c with ks:=ks'} else c}=q.bD:=by
  unfold o9;rw[Qm H]
 rw[G];exact h.nd
end
def gv{c a:C}(h:a={c with M:=a.M,σ:=a.σ,wr:=a.wr}):∃M σ wr,a=c.set M σ wr:=⟨_,_,_,h⟩
def cU(c:Nm)(b:Str)(a:V):Prop:=c.lookup b=U a
theorem Ev.self{P:Params}{a:C}{f:Nm}{e:ak}{c:aU}{b:PA}{n:Str}{d:V}{p1 p2:Pos}(i:nH a.toG0)(j:gU a.toG0 n)(h:bL a.σ e c b)(hs:cU f "self" (.r e))(g:(gJ c b).lookup n=U d):Ev a f (.Attribute (.Name "self" p1) n p2) d:=
 Bf i j (ah hs) h.o h.t g
def Jk(h:(gA 0 n)[i]?=U d):d=.int (i:Int)/\i<n:=by
 unfold gA at h;rw[cC] at h
 by_cases a:i<n
 .rw[pZ a] at h;simp at h;exact⟨h.symm,a⟩
 rw[l9 (by simp;exact gO.mp ‹_›)] at h;cases h
def D.Yq(i a:Int):dS (.int i) (.int a)=decide (i=a):=by
 show jP (.int i) (.int a)=_;simp only[jP]
 by_cases b:i=a
 .simp[b]
 simp[b]
noncomputable def pq(n:Nat)(b:Int):aF:=((eT n).map λ(c:Nat)=>(c:Int)).filter λa=>decide (a≠b)
def Qo(n:Nat)(a:Int):pq (n+1) a=pq n a++if(n:Int)≠a then[(n:Int)] else[]:=by
 unfold pq;rw[v9,cy,oE]
 congr 1
 by_cases b:(n:Int)=a
 .simp[b]
 simp[b]
def zk(n:Nat)(a:Int):(pq n a).length<=n:=by
 unfold pq;exact aj (fZ _ _) (by simp)
def je(c:ak)(d:PA)(e:aU)(σ f:Sg):Prop:=∃a,bL f c e a/\∀b∈a.bD,b∈d.bD\/σ b=ai
structure Inv(a:ak)(bJ:PA)(bg:Sg)(c:C)(p:aU)(q:PA):Prop where
 at':bL c.σ a p q
 wr:∀x∈q.bD,c.wr x
 old:∀x∈q.bD,x∈bJ.bD\/bg x=ai
 dm:∀x,bg x≠ai->x∉bJ.bD->c.σ x=bg x
section
variable {a b:ak}{bJ q q':PA}{bg:Sg}{c c':C}{p p':aU}{cn:Cn}{ρ:Nm}{k:eV}{rest:dH}{Pp:eH}{R:d9}{e:aT}{v:V}{n:Str}{p1 p2 p3 p4 pos:Pos}
def Inv.start(h:bL c.σ a p q):Inv a q c.σ (c.fn fd fa L (λd=>d∈q.bD)) p q:=⟨h,λd b=>b,λd b=>.inl b,λd z z=>rfl⟩
def Inv.done(b:Inv a bJ bg c p q):je a bJ p bg c.σ:=⟨q,b.at',b.old⟩
theorem Inv.upd(f:Inv a bJ bg c p q)(k:b∈q.bD)(h:bL (Sg.set c.σ b cn) a p' q')(hs:∀d∈q'.bD,d∈q.bD\/(c.wr d/\(d∈bJ.bD\/bg d=ai))):Inv a bJ bg (c.upd b cn) p' q':=by
 refine⟨h,λd g=>(hs d g).elim (f.wr d) (·.1),λd g=>(hs d g).elim (f.old d) (·.2),λd j i=>?_⟩;show Sg.set c.σ b cn d=_;rw[iY]
 .exact f.dm d j i
 intro e;rcases f.old b k with h|h
 .exact i (e▸h)
 exact j (e▸h)
def Inv.vn(d:Inv a bJ bg c p q)(e:b∈q.bD)(h:bL (Sg.set c.σ b cn) a p' q):Inv a bJ bg (c.upd b cn) p' q:=d.upd e h λg f=>.inl f
def Inv.BF(f:Inv a bJ bg c p q)(d:c.σ b=ai):b∈bJ.bD\/bg b=ai:=by
 cases h:bg b with
 |none=>exact .inr J
 |some cn=>
  left;refine rR λe=>?_
  have:=f.dm b (by rw[h];simp) e;rw[d,h] at this;cases this
theorem Inv.add(d:Inv a bJ bg c p q)(h:c.σ b=ai):Inv a bJ bg (c.add b cn) p q:=by
 refine⟨d.at'.other (d.at'.fresh h),λf j=>.inl (d.wr f j),d.old,λf g i=>?_⟩;show Sg.set c.σ b cn f=_;rw[iY]
 .exact d.dm f g i
 intro e;have:=d.dm f g i;rw[e,h] at this;exact g (by rw[e];exact this.symm)
theorem Inv.adds(g:Inv a bJ bg c p q)(k:∀b,τ b≠ai->c.σ b=ai):Inv a bJ bg (c.adds τ) p q:=by
 have i:∀d,c.σ d≠ai->(c.adds τ).σ d=c.σ d:=λd h=>by
  cases f:τ d with
  |none=>exact C.yV f
  |some cn=>exact aV (k d (by rw[f];simp)) h
 have m:∀b,b=a\/b∈q.bD->c.σ b≠ai:=λb f e=>by
  have:=g.at'.fresh e;rcases f with f|f
  .exact this.1 f
  exact this.2 f
 refine⟨g.at'.agree λb f=>i b (m b f),λd h=>.inl (g.wr d h),g.old,λd j l=>?_⟩;have:=g.dm d j l;rw[i d (by rw[this];exact j)];exact this
def Inv.call(b:Inv a bJ bg c p q)(i:Ii c (λd=>d∈q.bD) c')(h:je a q p' c.σ c'.σ):∃q',Inv a bJ bg c' p' q':=by
 let ⟨q',l,j⟩:=h;refine⟨q',l,λd f=>?_,λd f=>?_,λd g k=>?_⟩
 .rcases j d f with h|h
  .exact i.ww d (b.wr d h)
  refine rR λn=>?_
  cases e:c'.σ d with
  |none=>exact(l.fresh e).2 f
  |some cn=>
   let ⟨o,_⟩:=i.nw d cn e n;let ⟨s,r⟩:=o;exact ns h r
 .rcases j d f with h|h
  .exact b.old d h
  exact b.BF h
 have e:=b.dm d g k;cases h:bg d with
 |none=>exact aV h g
 |some cn=>
  refine i.sg d cn (λm=>?_) (by rw[e,h]);rcases b.old d m with h'|h'
  .exact k h'
  exact g h'
def Ex.Yr(b:Inv a bJ bg c p q)(f:nH c.toG0)(i:gU c.toG0 n)(h:Ev c ρ e v)(hs:cU ρ "self" (.r a))(g:Ex (c.upd q.da (.t (fT n v (gJ p q)))) ρ (rest::k) Pp R)
 (hsw:autoParam (swapsWithSole [.Attribute (.Name "self" p1) n p2] e pos.line c.env=pure aA) aI) (hw:autoParam (swappedStores [.Attribute (.Name "self" p1) n p2] e c.env=pure ai) aI):Ex c ρ ((.Assign [.Attribute (.Name "self" p1) n p2] e pos::rest)::k) Pp R:=by
 refine mH (h.m) (λc' j z d=>?_) J hsw hw;let ⟨zy,zy⟩:=d;exact⟨_,_,Bg f i (ah hs) b.at'.o b.at'.t (b.wr _ iX) (hz:=by show 10<=100;decide),g⟩
def Ex.Ys(b:Inv a bJ bg c p q)(B:lS c.toG0 m f)(A:fU c.toG0 i f (.r a::d) (λg=>g∈q.bD) (λσ=>bL σ a p q) (je a q p'))(hs:cU ρ "self" (.r a))(D:(gJ p q).lookup m=ai)(j:EvVs c ρ eW d)(y:i<=c.n)
 (F:∀c' q',c'={c with M:=c'.M,σ:=c'.σ,wr:=c'.wr}->Inv a bJ bg c' p' q'->Ex c' ρ (rest::k) Pp R)
 (l:eW=[]->d=[]:=by intro h;first|rfl|cases h) (w:autoParam (attributeBase (.Name "self" p1) m c.env (eval (.Name "self" p1) c.env)=eval (.Name "self" p1) c.env) aI) (x:autoParam ((p2.endLine==p3.line)=af) aI) (C:autoParam (ee eW=af) aI) (hz:aa eW<29:=by decide)
 (hi:autoParam (interactive c.env=aA) aI) (hsw:autoParam (swapsWith (.Call (.Attribute (.Name "self" p1) m p2) eW [] p3) ai p4.line c.env=pure aA) aI):
 Ex c ρ ((.Expr (.Call (.Attribute (.Name "self" p1) m p2) eW [] p3) p4::rest)::k) Pp R:=by
 refine kY (Ij A B (ah hs) b.at'.o b.at'.t D j y b.wr b.at' l w x C hz) (λc' v z e=>?_) hi hsw;let ⟨s,_,_,u⟩:=e;let ⟨q',E⟩:=b.call s u;exact F c' q' z E
end
open Mine.Ev renaming self->iB
open Mine.D renaming Yq->kB
open Mine.Inv renaming start->nY
open Mine.Ex renaming Ys->pA,Yr->Et
def Sub(d c:Nm):Prop:=∀b a,d.lookup b=U a->c.lookup b=U a
def Sub.Yt:Sub a a:=λz z b=>b
def Sub.skip(h:Sub a b)(j:a.lookup c=ai):Sub a ((c,d)::b):=λi f e=>by
 rw[gI]
 .exact h i f e
 intro g;rw[g,j] at e;cases e
def BG(b:bR)(a:Int):(look (bP (jn b)) a).isSome=(look b a).isSome:=by
 rw[xg];unfold jn;rw[vg];cases look b a<;>rfl
def Qp{c:Type}(n a:Nat)(b:Option c):(decide (2*(n:Int)>(a:Int))&&(!b.isSome&&af))=(decide (a<2*n)&&b.isNone):=by
 have:decide (2*(n:Int)>(a:Int))=decide (a<2*n):=by
  exact decide_eq_decide.mpr dB
 rw[this];cases b<;>rfl
section
variable {a b:ak}{bJ q q':PA}{bg:Sg}{c c':C}{p p':aU}{cn:Cn}{ρ:Nm}{k:eV}{rest:dH}{Pp:eH}{R:d9}{e:aT}{v:V}{n:Str}{p1 p2 p3 p4 pos:Pos}
def Ev.Qq(e:nH c.toG0)(f:gU c.toG0 n)(b:Inv a bJ bg c p q)(hs:cU ρ "self" (.r a))(d:(gJ p q).lookup n=U v):Ev c ρ (.Attribute (.Name "self" p1) n p2) v:=
 Bf e f (ah hs) b.at'.o b.at'.t d
theorem iW.self(d:nH c.toG0)(e:gU c.toG0 n)(b:Inv a bJ bg c p q)(hs:cU ρ "self" (.r a)):iW c ρ (.Attribute (.Name "self" p1) n p2) v (c.upd q.da (.t (fT n v (gJ p q)))) ρ:=
 Bg d e (ah hs) b.at'.o b.at'.t (b.wr _ iX) (hz:=by show 10<=100;decide)
theorem Inv.phase(b:Inv a bJ bg c p q)(n:Nat)(e:f=jm n):Inv a bJ bg (c.upd q.da (.t (fT "phase" (.d (.str f)) (gJ p q)))) {p with phase:=n} q:=b.vn iX (b.at'.Qi n e)
theorem Inv.promised(e:Inv a bJ bg c p q)(b:aL):Inv a bJ bg (c.upd q.da (.t (fT "promised" (.d (aK b)) (gJ p q)))) {p with promised:=b} q:=e.vn iX (e.at'.Yj b)
theorem Inv.aE(e:Inv a bJ bg c p q)(b:aL):Inv a bJ bg (c.upd q.da (.t (fT "ballot" (.d (aK b)) (gJ p q)))) {p with aE:=b} q:=e.vn iX (e.at'.Yk b)
theorem Inv.out(b:Inv a bJ bg c p q)(e:d=ms.map bI):Inv a bJ bg (c.upd q.out (.l d)) {p with out:=ms} q:=b.vn vm (b.at'.Qj e)
theorem Inv.acc(f:Inv a bJ bg c p q)(e:Int)(b:aL×bz):Inv a bJ bg (c.upd q.acc (.i (put (bP (fP p.acc)) e (.d (.tup [aK b.1,bq b.2]))))) {p with acc:=put p.acc e b} q:=f.vn xh (f.at'.Yl e b)
theorem Inv.aq(e:Inv a bJ bg c p q)(b:Int)(v:bz):Inv a bJ bg (c.upd q.ch (.i (put (bP (jn p.aq)) b (.d (bq v))))) {p with aq:=put p.aq b v} q:=e.vn vh (e.at'.Ym b v)
def Inv.Yu(f:Inv a bJ bg c p q)(b:Int)(e:bU):Inv a bJ bg (c.upd q.pm (.i (put (bP (gu p.prom)) b (.d (.lst (e.map ck)))))) {p with prom:=put p.prom b e} q:=f.vn xj (f.at'.Yn b e)
def Nw(a:ak)(bJ:PA)(bg:Sg)(c:C)(q:PA)(b:ak):Prop:=c.wr b/\(b∈bJ.bD\/bg b=ai)/\b≠a/\b∉q.bD
def Inv.nw(d:Inv a bJ bg c p q)(e:c.σ b=ai):Nw a bJ bg (c.add b cn) q b:=⟨.inr J,d.BF e,(d.at'.fresh e).1,(d.at'.fresh e).2⟩
theorem Nw.add(h:Nw a bJ bg c q b):Nw a bJ bg (c.add d cn) q b:=⟨.inl h.1,h.2⟩
theorem Inv.prom(f:Inv a bJ bg c p q)(d:Nw a bJ bg c q b)(hs:c.σ b=U (.i (bP (gu l)))):Inv a bJ bg (c.upd q.da (.t (fT "prom" (.r b) (gJ p q)))) {p with prom:=l} {q with pm:=b}:=
 f.upd iX (f.at'.Qk hs d.2.2) λg e=>by
  unfold o9 at e⊢;simp only[bN] at e⊢;rcases e with h|h|h|h|h|h|h
  .exact .inl (.inl h)
  .exact .inl (.inr (.inl h))
  .exact .inl (.inr (.inr (.inl h)))
  .subst h;exact .inr ⟨d.1,by have:=d.2.1;unfold o9 at this;simpa using this⟩
  .exact .inl (.inr (.inr (.inr (.inr (.inl h)))))
  .exact .inl (.inr (.inr (.inr (.inr (.inr (.inl h))))))
  exact .inl (.inr (.inr (.inr (.inr (.inr (.inr h))))))
theorem Inv.props(o:Inv a bJ bg c p q)(n:Nw a bJ bg c q b)(hs:c.σ b=U (.i (g.map λf=>(f.k,.r f.la))))(e:∀f∈g,c.σ f.la=U (.v [.d f.d,.r f.sa])/\c.σ f.sa=U (.s f.ks))(w:g.map PE.v=jo l)(u:(b::cK g).Nodup)(m:∀j∈cK g,Nw a bJ bg c q j):
 Inv a bJ bg (c.upd q.da (.t (fT "props" (.r b) (gJ p q)))) {p with props:=l} {q with pp:=b,xs:=g}:=by
 intros a b bJ q bg c p g l _ o n hs e w u m;exact o.upd iX (o.at'.Yo hs n.2.2 e w u λj x=>(m j x).2.2) λf e=>by
  unfold o9 at e;simp only[bN] at e;rcases e with h|h|h|h|h|h|h
  .exact .inl (by subst h;exact iX)
  .exact .inl (by subst h;exact xh)
  .exact .inl (by subst h;exact vh)
  .exact .inl (by subst h;exact xj)
  .subst h;exact .inr ⟨n.1,n.2.1⟩
  .exact .inl (by subst h;exact vm)
  exact .inr ⟨(m f h).1,(m f h).2.1⟩
def Inv.Qs(d:Inv a bJ bg c p q)(f:Nw a bJ bg c q b)(hs:c.σ b=U (.i [])):Inv a bJ bg (c.upd q.da (.t (fT "props" (.r b) (gJ p q)))) {p with props:=[]} {q with pp:=b,xs:=[]}:=
 d.props f hs (λh g=>by cases g) J (by simp[cK]) λj e=>by cases e
theorem Inv.Ji(n:Inv a bJ bg c p q){g:Int}{v:bz}{b e:ak}{l:aF}(u:look p.props g=ai)(h1:c.σ b=U (.v [.d (bq v),.r e]))(h2:c.σ e=U (.s l))(j:Nw a bJ bg c q b)(m:Nw a bJ bg c q e)(t:b≠e):
 Inv a bJ bg (c.upd q.pp (.i (put (q.xs.map λf=>(f.k,gF f.la)) g (.r b)))) {p with props:=put p.props g (v,l)} {q with xs:=q.xs++[⟨g,b,e,bq v,l⟩]}:=by
 intros a bJ q bg c p g v b e l _ n u h1 h2 j m t;exact n.upd zh (n.at'.Ji u h1 h2 j.2.2 m.2.2 t) λf o=>by
  unfold o9 cK at o;simp only[bN,AB,eE,sW,List.flatMap_nil,c8,jy,or_false] at o;rcases o with h|h|h|h|h|h|h|h|h
  .exact .inl (by subst h;exact iX)
  .exact .inl (by subst h;exact xh)
  .exact .inl (by subst h;exact vh)
  .exact .inl (by subst h;exact xj)
  .exact .inl (by subst h;exact zh)
  .exact .inl (by subst h;exact vm)
  .exact .inl (by unfold o9 cK;simp only[bN];exact .inr (.inr (.inr (.inr (.inr (.inr h))))))
  .subst h;exact .inr ⟨j.1,j.2.1⟩
  subst h;exact .inr ⟨m.1,m.2.1⟩
theorem Inv.Jj(f:Inv a bJ bg c p q)(j:Nk p.props){b:Int}{v:bz}{i ks':aF}{e:PE}(h:e∈q.xs)(l:e.k=b)(hl:look p.props b=U (v,i)):
 Inv a bJ bg (c.upd e.sa (.s ks')) {p with props:=put p.props b (v,ks')} {q with xs:=q.xs.map λd=>if d.k=b then{d with ks:=ks'} else d}:=
 f.upd (PA.Er h).2 (f.at'.Jj j h l hl) λd g=>by
  left;unfold o9 at g⊢
  rwa [Qm (λd=>by split<;>exact⟨rfl,rfl⟩)] at g
theorem Nw.pm(h:Nw a bJ bg c q d)(g:d≠b):Nw a bJ bg c {q with pm:=b} d:=by
 intros a b bJ q bg c d _ h g;exact⟨h.1,h.2.1,h.2.2.1,λf=>by
  have e:=h.2.2.2;unfold o9 at f e;simp only[bN,not_or] at f e;rcases f with h|h|h|h|h|h|h
  .exact e.1 h
  .exact e.2.1 h
  .exact e.2.2.1 h
  .exact g h
  .exact e.2.2.2.2.1 h
  .exact e.2.2.2.2.2.1 h
  exact e.2.2.2.2.2.2 h⟩
def Ex.idle{n1 L:Nat}(B:Inv a bJ bg c p q)(C:nH c.toG0)(A1:gU c.toG0 "phase")(E:gU c.toG0 "prom")(H:gU c.toG0 "props")(hs:cU ρ "self" (.r a))(G:f=jm ph)(F:uG f=af)
 (K:∀c' q',c'={c with M:=c'.M,σ:=c'.σ,wr:=c'.wr}->Inv a bJ bg c' {p with phase:=ph,prom:=[],props:=[]} q'->Ex c' ρ (rest::k) Pp R)
 (hw:autoParam (swappedStores [.Tuple [.Attribute (.Name "self" z) "phase" w,.Attribute (.Name "self" j) "prom" g,.Attribute (.Name "self" h) "props" o] n1 x] (.Tuple [.Constant (.str f) u s,.Dict [] [] m,.Dict [] [] t] L y) c.env=pure ai) aI):
 Ex c ρ ((.Assign [.Tuple [.Attribute (.Name "self" z) "phase" w,.Attribute (.Name "self" j) "prom" g,.Attribute (.Name "self" h) "props" o] n1 x] (.Tuple [.Constant (.str f) u s,.Dict [] [] m,.Dict [] [] t] L y) pos::rest)::k) Pp R:=by
 intros a bJ q bg c p ρ k rest Pp _ R pos f ph x y n1 L z w j g h o s m t u B C A1 E H hs G F K hw;intros R pos f ph x y n1 L z w _ j g h o s m t u B C A1 E H hs G F K hw;intros j g h o s m t u _ B C A1 E H hs G F K hw;refine yT (Q:=λc' I=>∃n v,c.σ n=ai/\(c.add n (.i [])).σ v=ai/\c'=(c.add n (.i [])).add v (.i [])/\I=[.d (.str f),.r n,.r v]) ?_ (λc' I N ae=>?_) (by show 3<=100;decide) hw
 .refine nF (tK (dR F)) (λa9 bj _ a5=>?_);let ⟨zy,zy⟩:=a5;refine nF (lR wV) (λbo bt _ av=>?_);let ⟨n,_,D,zy,zy⟩:=av;refine nF (lR wV) (λb1 bp _ a0=>?_);let ⟨v,_,A,zy,zy⟩:=a0;intro a3 pos aw a4;refine aS (Be a3 pos aw a4) (λa8 bk a6=>?_);rcases a6 with⟨c',I,X,S',L',r',N,hv⟩
  refine⟨c',I,X,S',L',r',n,v,D,A,N,?_⟩;rw[hv]
 let ⟨n,v,D,A,zy,zy⟩:=ae;intros n v _ D A N
 have O:v≠n:=by
  intro e;rw[e] at A;have:(c.add n (.i [])).σ n=U (.i []):=by show(if n=n then _ else _)=_;rw[az J]
  exact ns A this
 have W:=(B.add (cn:=.i []) D).add (cn:=.i []) A;have V:Nw a bJ bg ((c.add n (.i [])).add v (.i [])) q n:=(B.nw (cn:=.i []) D).add;have Y:Nw a bJ bg ((c.add n (.i [])).add v (.i [])) q v:=(B.add (cn:=.i []) D).nw A
 have ax:((c.add n (.i [])).add v (.i [])).σ n=U (.i []):=by
  show(if n=v then _ else if n=n then _ else _)=_;rw[aB (cS O),az J]
 have au:((c.add n (.i [])).add v (.i [])).σ v=U (.i []):=by
  show(if v=v then _ else _)=_;rw[az J]
 have P:=W.phase ph G;have a7:n≠q.da:=λe=>V.2.2.2 (e▸by exact iX)
 have T:v≠q.da:=λe=>Y.2.2.2 (e▸by exact iX)
 have S:=P.prom (b:=n) (l:=[]) V (by show Sg.set _ _ _ _=_;rw[iY a7];exact ax);have Z:=S.Qs (b:=v) (Y.pm O) (by show Sg.set _ _ _ _=_;rw[iY T];show Sg.set _ _ _ _=_;rw[iY T];exact au);refine⟨_,_,gq (iW.self C A1 W hs) J (gq (iW.self C E P hs) J (gq (iW.self C H S hs) J jh)),K _ _ J Z⟩
def fU.mono{j:G0}{n:Nat}{i:ak}{f:gm}{g:bC}{b:Sg->Prop}{a e:Sg->Sg->Prop}(t:fU j n i f g b a)(h:∀σ d,a σ d->e σ d):fU j n i f g b e:=
 λc q s l u w m r p v k=>t c q s l u w m r p v λc' o A x y z=>k c' o A x y (h _ _ z)
end
open Mine.Sub renaming skip->gw,Yt->BH
open Mine.iW renaming self->Jl
def xo(a b:aL):D.ord .Lt (aK a) (aK b)=U (blt a b):=by
 intros a b;show(if dS (.int a.1) (.int b.1) then if dS (.int a.2) (.int b.2) then U (decide (2<2)) else U (decide (a.2<b.2)) else U (decide (a.1<b.1)))=_;simp only[kB,blt]
 by_cases c:a.1=b.1
 .by_cases d:a.2=b.2
  .simp[c,d]
  simp[c,d]
 simp[c]
def BI(a b:aL):D.ord .Gt (aK a) (aK b)=U (blt b a):=by
 intros a b;show(if dS (.int a.1) (.int b.1) then if dS (.int a.2) (.int b.2) then U (decide (2>2)) else U (decide (a.2>b.2)) else U (decide (a.1>b.1)))=_;simp only[kB,blt]
 by_cases c:a.1=b.1
 .by_cases d:a.2=b.2
  .simp[c,d]
  simp[c,d]
 have:¬b.1=a.1:=λe=>c e.symm
 simp[c,this]
def lX(a:aL):(aK a).dep<=400:=by
 unfold aK;simp[D.dep,D.dO]
def fU.Yv(u:fU g n d c O tL Po)(h:∀a,O a->b a):fU g n d c b tL Po:=
 λt p r j v y k q o x i=>u t p r (λa f=>j a (h a f)) v y k q o x λz l e A B C=>
  i z l ⟨e.eq,e.kx.mono λa f=>h a f,e.al,e.m,e.mm,e.w,e.ww,λa s n=>e.sg a s λf=>n (h a f),e.sn,e.nw⟩ A B C
section
variable {a b:ak}{bJ q q':PA}{bg:Sg}{c c':C}{p p':aU}{cn:Cn}{ρ:Nm}{k:eV}{rest:dH}{Pp:eH}{R:d9}{e:aT}{v:V}{n:Str}{p1 p2 p3 p4 pos:Pos}
def Ex.Yw(b:Inv a bJ bg c p q)(G:lS c.toG0 m g)(E:fU c.toG0 i g (.r a::f) (λd=>d∈q.bD) (λσ=>bL σ a p q) (je a q p'))(hs:cU ρ "self" (.r a))(K:(gJ p q).lookup m=ai)(y:EvVs c ρ eW f)(u:i<=c.n)
 (O:∀c' q',c'={c with M:=c'.M,σ:=c'.σ,wr:=c'.wr}->Inv a bJ bg c' p' q'->(∀d cn,d∉q.bD->c.σ d=U cn->c'.σ d=U cn/\d∉q'.bD)->Ex c' ρ (rest::k) Pp R)
 (z:eW=[]->f=[]:=by intro h;first|rfl|cases h) (B:autoParam (attributeBase (.Name "self" p1) m c.env (eval (.Name "self" p1) c.env)=eval (.Name "self" p1) c.env) aI) (C:autoParam ((p2.endLine==p3.line)=af) aI) (J:autoParam (ee eW=af) aI) (hz:aa eW<29:=by decide)
 (hi:autoParam (interactive c.env=aA) aI) (hsw:autoParam (swapsWith (.Call (.Attribute (.Name "self" p1) m p2) eW [] p3) ai p4.line c.env=pure aA) aI):
 Ex c ρ ((.Expr (.Call (.Attribute (.Name "self" p1) m p2) eW [] p3) p4::rest)::k) Pp R:=by
 refine kY (Ij E G (ah hs) b.at'.o b.at'.t K y u b.wr b.at' z B C J hz) (λc' v D x=>?_) hi hsw;let ⟨s,_,_,A⟩:=x;let ⟨q',w,l⟩:=A;let ⟨Q,N⟩:=b.call s ⟨q',w,l⟩
 have L:Inv a bJ bg c' p' q':=by
  refine⟨w,λd j=>?_,λd j=>?_,N.dm⟩
  .rcases l d j with h|h
   .exact s.ww d (b.wr d h)
   refine rR λu=>?_
   cases e:c'.σ d with
   |none=>exact(w.fresh e).2 j
   |some cn=>
    let ⟨I,_⟩:=s.nw d cn e u;let ⟨P,F⟩:=I;exact ns h F
  rcases l d j with h|h
  .exact b.old d h
  exact b.BF h
 refine O c' q' D L λd cn j e=>⟨s.sg d cn j e,λH=>?_⟩
 rcases l d H with h|h
 .exact j h
 exact ns h e
end
structure PB(p:aU)(i:Nat)(p':aU):Prop where
 me:p'.me=p.me
 size:p'.size=p.size
 out:aa p'.out<=aa p.out+8*i
 acc:aa p'.acc<=aa p.acc+i
 ch:aa p'.aq<=aa p.aq+i
 pl:aa p'.props<=aa p.props+i
def aU.Qt(a:aU)(b:Int)(c:a.size<=4):(a.check b).me=a.me/\(a.check b).size=a.size/\(a.check b).out.length<=aa a.out+4/\(a.check b).acc=a.acc/\(a.check b).aq.length<=aa a.aq+1/\(a.check b).props=a.props:=by
 intros a b _ c;unfold sd;split
 .split
  .refine⟨rfl,rfl,?_,rfl,qG _ _ _,rfl⟩;show(a.out++(pq a.size a.me).map _).length<=_;have:=zk a.size a.me;rw[bO,aP];exact gc (aj ‹_› ‹_›) _
  exact⟨rfl,rfl,fz ..,rfl,jw _,rfl⟩
 exact⟨rfl,rfl,fz ..,rfl,jw _,rfl⟩
def aU.Yx(a:aU)(b:Int)(c:bz)(d:a.size<=4):PB a 1 (a.bW b c):=by
 intros a b c _ d;unfold Ec;let ⟨j,f,h,e,i,k⟩:=aU.Qt (({a with props:=put a.props b (c,[a.me]),acc:=put a.acc b (a.aE,c)}:aU).all (λg=>.accept a.aE a.me g b c)) b d;refine⟨j,f,aj h ?_,?_,i,?_⟩
 .show(a.out++(pq a.size a.me).map _).length+4<=_;have:=zk a.size a.me;rw[bO,aP];exact aj (cj (rC ..)) (gc (gg (aj ‹_› ‹_›) 4) _)
 .rw[e];exact qG _ _ _
 rw[k];exact qG _ _ _
def aU.Yy(a:aU)(b:Int)(c:bz)(e:a.size<=4):(a.bW b c).props=put a.props b (c,[a.me]):=by
 unfold Ec;rw[(aU.Qt (({a with props:=put a.props b (c,[a.me]),acc:=put a.acc b (a.aE,c)}:aU).all (λd=>.accept a.aE a.me d b c)) b e).2.2.2.2.2];rfl
def Yz(e:Int->bz)(c:aU)(l:c.size<=4)(h0:c.props=[]):∀n:Nat,PB c n ((slots (n:Int)).foldl (λa b=>a.bW b (e b)) c)/\∀k,(n:Int)<k->look ((slots (n:Int)).foldl (λa b=>a.bW b (e b)) c).props k=ai:=by
 intro o
 induction o with
 |zero=>
  exact⟨⟨rfl,rfl,cB _,cB _,cB _,cB _⟩,λk z=>by show look c.props k=ai;rw[h0];rfl⟩
 |succ n j=>
  let ⟨d,g⟩:=j
  have m:slots ((n+1:Nat):Int)=slots (n:Int)++[(n:Int)+1]:=by
   unfold slots;simp only[j5];rw[v9,cy];rfl
  rw[m,j3];generalize(slots (n:Int)).foldl (λa b=>a.bW b (e b)) c=a at d g⊢;show PB c (n+1) (a.bW ((n:Int)+1) (e ((n:Int)+1)))/\∀k,_->look (a.bW ((n:Int)+1) (e ((n:Int)+1))).props k=ai;have i:a.size<=4:=by rw[d.size];exact l
  have f:=aU.Yx a ((n:Int)+1) (e ((n:Int)+1)) i;refine⟨⟨f.me.trans d.me,f.size.trans d.size,aj f.out (gg d.out 8),aj f.acc (fG d.acc),aj f.ch (fG d.ch),aj f.pl (fG d.pl)⟩,λk h=>?_⟩;rw[aU.Yy _ _ _ i,qI,aB (show ¬(n:Int)+1=k from Mn h)];exact g k (oH (GS (lE _)) h)
def D.BJ(a b:Str):dS (.str a) (.str b)=decide (a=b):=by
 show jP (.str a) (.str b)=_;simp only[jP]
 by_cases c:a=b
 .simp[c]
 simp[c]
def tR(n:Nat):dS (.str (jm n)) (.str "preparing")=decide (n=1):=by
 rw[D.BJ]
 match n with
 |0=>decide+kernel
 |1=>decide+kernel
 |n+2=>rewrite [decide_eq_false (λa=>FW _ (yy a):¬n+2=1)];show decide (("leading":Str)="preparing")=aA;decide+kernel
def mK(h:n<=2):dS (.str (jm n)) (.str "leading")=decide (n=2):=by
 rw[D.BJ];exact(show ∀n<3,decide (jm n="leading")=decide (n=2) by decide+kernel) n (F4 h)
def zl(n:Nat):dS (.str (jm n)) (.str "idle")=decide (n=0):=by
 rw[D.BJ]
 match n with
 |0=>decide+kernel
 |1=>decide+kernel
 |n+2=>rewrite [decide_eq_false (FW _:¬n+2=0)];show decide (("leading":Str)="idle")=aA;decide+kernel
section
variable {c:C}{ρ:Nm}{e:aT}{p pos:Pos}{b:ak}{α:Type}
def eG.Jm{d:List (Int×V)}{l:List (Int×α)}(h:Ev c ρ e (.r b))(hs:c.σ b=U (.i d))(o:d.map (·.1)=l.map (·.1))(k:aa l<64)(j:autoParam (c.env.kindOf "sorted"=U .globalImplicit) aI)(n:autoParam (cD e=aA) aI):
 eG c ρ (.Call (.Name "sorted" p) [e] [] pos) ((bH l).map λa=>.int a.1):=by
 have q:(bH l).map (λa=>iM a.1)=eY (jb (l.map (·.1))):=by rw[<-Xe];simp[eY,s8]
 rw[q];have f:=o7.keys h hs;have m:(d.map λg=>iM g.1)=eY (l.map (·.1)):=by rw[<-o];simp[eY,s8]
 rw[m] at f;exact dU (bF (Iz f (by simpa using k) (w4 _) (Bq _) j n))
def Ev.YA(h:Ev c ρ e (.r b))(hs:c.σ b=U (.s ks))(f:aa ks<64)(a:autoParam (c.env.kindOf "sorted"=U .globalImplicit) aI)(g:autoParam (cD e=aA) aI):
 Ev c ρ (.Call (.Name "sorted" p) [e] [] pos) (.d (.lst (eY (jb ks)))):=
 bF (Iz (o7.set h hs) f (w4 _) (Bq _) a g)
end
section
variable {c:C}{ρ:Nm}{x t u:Str}{ds:aH}{p1 p2 p3 p4 p5 p6:Pos}{k0 k1:Nat}{body orelse rest:dH}{k:eV}{P:eH}{R:d9}
def YB(n:Nat):seqIndex? 0 (n+1)=U 0:=by unfold seqIndex?;simp<;>omega
def bX.tag(a:ρ.lookup x=U (.d (.tup (.str t::ds))))(b:uG u=af):
 bX c ρ (.Compare (.Subscript (.Name x p1) (.Constant (.int 0) k0 p2) p3) [.Eq] [.Constant (.str u) k1 p4] p5) (dS (.str t) (.str u)):=
 bS (br (ds:=.str t::ds) (j:=0) (ah a) aQ (YB _) J) (dR b) (gz minZ)
def Ex.YC(f:ρ.lookup x=U (.d (.tup (.str t::ds))))(b:(dS (.str t) (.str u)&&uG u)=af)(g:Ex c ρ (body::rest::k) P R):
 Ex c ρ ((.If (.Compare (.Subscript (.Name x p1) (.Constant (.int 0) k0 p2) p3) [.Eq] [.Constant (.str u) k1 p4] p5) body orelse p6::rest)::k) P R:=
 have a:=(gQ _ _).mp b
 b7 (bX.tag f a.2) (λz=>g) λe=>oO (e.symm.trans a.1)
def Ex.YD(f:ρ.lookup x=U (.d (.tup (.str t::ds))))(b:(dS (.str t) (.str u)||!PyData.strOk u)=aA)(g:Ex c ρ (orelse::rest::k) P R):
 Ex c ρ ((.If (.Compare (.Subscript (.Name x p1) (.Constant (.int 0) k0 p2) p3) [.Eq] [.Constant (.str u) k1 p4] p5) body orelse p6::rest)::k) P R:=
 have a:=(Mz).mp b
 b7 (bX.tag f (by simpa using a.2)) (λe=>s9 (e.symm.trans a.1)) λz=>g
def bX.nm(a:ρ.lookup x=U (.d (.str t)))(b:uG u=af):
 bX c ρ (.Compare (.Name x p1) [.Eq] [.Constant (.str u) k1 p4] p5) (dS (.str t) (.str u)):=
 bS (ah a) (dR b) (gz minZ)
def Ex.Jo(f:ρ.lookup x=U (.d (.str t)))(b:(dS (.str t) (.str u)&&uG u)=af)(g:Ex c ρ (body::rest::k) P R):
 Ex c ρ ((.If (.Compare (.Name x p1) [.Eq] [.Constant (.str u) k1 p4] p5) body orelse p6::rest)::k) P R:=
 have a:=(gQ _ _).mp b
 b7 (bX.nm f a.2) (λz=>g) λe=>oO (e.symm.trans a.1)
def Ex.YE(f:ρ.lookup x=U (.d (.str t)))(b:(dS (.str t) (.str u)||!PyData.strOk u)=aA)(g:Ex c ρ (orelse::rest::k) P R):
 Ex c ρ ((.If (.Compare (.Name x p1) [.Eq] [.Constant (.str u) k1 p4] p5) body orelse p6::rest)::k) P R:=
 have a:=(Mz).mp b
 b7 (bX.nm f (by simpa using a.2)) (λe=>s9 (e.symm.trans a.1)) λz=>g
end
open Mine.Ex renaming YE->zo,YD->zu,YC->Eu
open Mine.eG renaming Jm->BK
section
variable {a b:ak}{bJ q q':PA}{bg:Sg}{c c':C}{p p':aU}{cn:Cn}{ρ:Nm}{k:eV}{rest:dH}{Pp:eH}{R:d9}{e:aT}{v:V}{n:Str}{p1 p2 p3 p4 p5 pos:Pos}
def EvVs.ms(h:EvVs c ρ f d):o4 c ρ f (λc' g=>c'=c/\g=d):=λe pos b i=>
 aS (h e pos b) (λl j a=>⟨c,d,.qA a.k,b.kp a.k,i.kp a.k.keep,a.r,rfl,rfl⟩)
def Ex.YF(b:Inv a bJ bg c p q)(l:nH c.toG0)(s:gU c.toG0 "out")(hs:cU ρ "self" (.r a))(f:Ev c ρ e (.d (bI m)))(hz:aa p.out+1<=bf)
 (o:∀c',c'={c with M:=c'.M,σ:=c'.σ,wr:=c'.wr}->Inv a bJ bg c' {p with out:=p.out++[m]} q->Ex c' ρ (rest::k) Pp R)
 (g:autoParam (attributeBase (.Attribute (.Name "self" p1) "out" p2) "append" c.env (eval (.Attribute (.Name "self" p1) "out" p2) c.env)=eval (.Attribute (.Name "self" p1) "out" p2) c.env) aI) (i:autoParam ((p3.endLine==p4.line)=af) aI) (n:autoParam (cD e=aA) aI)
 (hi:autoParam (interactive c.env=aA) aI) (hsw:autoParam (swapsWith (.Call (.Attribute (.Attribute (.Name "self" p1) "out" p2) "append" p3) [e] [] p4) ai p5.line c.env=pure aA) aI):
 Ex c ρ ((.Expr (.Call (.Attribute (.Attribute (.Name "self" p1) "out" p2) "append" p3) [e] [] p4) p5::rest)::k) Pp R:=by
 refine kY (qF (Ev.Qq l s b hs J) b.at'.out (b.wr _ vm) f (by simpa using hz) g i n) (λc' v j h=>?_) hi hsw;let ⟨zy,_⟩:=h;exact o _ j (b.out (by simp))
end
def YG(e b c d:D)(a:aH):j7 ([e,b,c,d]++a) (U 4) ai=a:=by
 have f:clipAt ([e,b,c,d]++a).length 4=4:=(DA _ 4).trans (sQ (jK 4 (aa a)));unfold j7;show(([e,b,c,d]++a).drop (clipAt ([e,b,c,d]++a).length 4)).take (([e,b,c,d]++a).length-clipAt ([e,b,c,d]++a).length 4)=a;rw[f];show a.take (([e,b,c,d]++a).length-4)=a;apply Aq;simp only[bO,iz,GC];exact kJ (cj (kK ..))
def Ev.sliceTo{a:C}{b:Nm}{e:aT}{ds out:aH}{c hi:Option aT}{l u:Option Int}{f h:Pos}(j:Ev a b e (.d (.tup ds)))(hl:nq a b c l)(i:nq a b hi u)(g:j7 ds l u=out):Ev a b (.Subscript e (.Slice c hi m9 f) h) (.d (.tup out)):=g▸Ev.Vi j hl i
def tS(a b:aL):dS (aK a) (aK b)=decide (a=b):=by
 intros a b
 have f:dS (aK a) (aK b)=(decide (a.1=b.1)&&decide (a.2=b.2)):=by
  rw[<-kB,<-kB];show jP (.tuple [.int a.1,.int a.2]) (.tuple [.int b.1,.int b.2])=_;simp[jP,C2,dS,D.py]
 rw[f]
 by_cases c:a=b
 .subst c;simp
 rw[decide_eq_false c];rw[Bool.and_eq_false_iff]
 by_cases d:a.1=b.1
 .right;rw[decide_eq_false];intro e;exact c (fh d e)
 left;exact decide_eq_false d
def Sg.set_same(h:σ a=U c):Sg.set σ a c=σ:=by
 funext b;unfold Sg.set;split
 .rename_i d;rw[d,h]
 rfl
structure Ew(p:aU):Prop where
 it:(p.prom.map (·.2)).flatten.length<=1000
 lo:0<=cJ ((eO (p.prom.map (·.2)).flatten).map (·.1))
 hi:cJ ((eO (p.prom.map (·.2)).flatten).map (·.1))<=100
structure mL(p:aU):Prop where
 Jp:0<=p.me
 Jq:p.me<4
 size:p.size<=4
 ph:p.phase<=2
 Qu:Nk p.acc
 acc:aa p.acc<64
 ch:aa p.aq<=1000
 out:aa p.out<=1000
 Qv:Nk p.props
 props:aa p.props<64
 Ey:∀x∈p.props,aa x.2.2<=4
 p0:p.phase≠2->p.props=[]
 pm:aa p.prom<=3
def zv(a:aU):gr->Prop
 |.promise d b _ c=>d=a.aE->a.phase=1->look a.prom b=ai->Ew {a with prom:=put a.prom b c}
 |.accepted _ b _ _=>0<=b/\b<4
 |_=>True
open Mine.Ev renaming sliceTo->sD
open Mine.Ex renaming YF->zw
def vq:jk->D
 |.run=>.tup [.str "run"]
 |.bW a=>.tup [.str "propose",bq a]
 |.again=>.tup [.str "again"]
 |.e8=>.tup [.str "crash"]
 |.msg b=>.tup [.str "message",bI b]
def Jr(a:aU):jk->Prop
 |.run=>Ew {a with prom:=[(a.me,bH a.acc)]}
 |.msg b=>zv a b
 |.e8=>False
 |_=>True
def Qw(c:aF):∀a:Int,a<=c.foldl max a/\∀b∈c,b<=c.foldl max a:=by
 induction c with
 |nil=>intro a;exact⟨lE _,λb d=>by cases d⟩
 |cons e c i=>
  intro a;let ⟨f,g⟩:=i (max a e);refine⟨dN (CU a e) f,λb d=>?_⟩;rcases bN.mp d with rfl|h
  .exact dN (Ml a _) f
  exact g b h
def YH(h:b∈a):b<=cJ a:=by
 cases a with
 |nil=>cases h
 |cons c a=>
  rcases bN.mp h with rfl|h
  .exact(Qw a _).1
  exact(Qw a _).2 b h
def YI{b:Type}(a:List (Int×b)):look a (cJ (a.map (·.1))+1)=ai:=nP.mpr λc=>qe.2 (sZ _) (YH c)
def Qx(n:Nat)(a:Int->Bool):(bu (n+1)).filter a=(bu n).filter a++if a (n:Int) then[(n:Int)] else[]:=by
 unfold bu;rw[v9,cy,oE]
 congr 1
 by_cases b:a (n:Int)=af
 .simp[b]
 simp[b]
def Js(n:Nat)(a:Int->Bool):((bu n).filter a).length<=n:=aj (fZ _ _) (by simp[bu])
section
variable {a b:ak}{bJ q q':PA}{bg:Sg}{c c':C}{p p':aU}{cn:Cn}{ρ:Nm}{k:eV}{rest:dH}{Pp:eH}{R:d9}{e:aT}{v:V}{n:Str}{p1 p2 p3 p4 pos:Pos}
def Ex.YJ{n1 C:Nat}(x:Inv a bJ bg c p q)(A:nH c.toG0)(A1:gU c.toG0 "phase")(V:gU c.toG0 "props")(hs:cU ρ "self" (.r a))(P:f=jm ph)(I:uG f=af)
 (W:∀c' q',c'={c with M:=c'.M,σ:=c'.σ,wr:=c'.wr}->Inv a bJ bg c' {p with phase:=ph,props:=[]} q'->Ex c' ρ (rest::k) Pp R)
 (hw:autoParam (swappedStores [.Tuple [.Attribute (.Name "self" u) "phase" g,.Attribute (.Name "self" h) "props" j] n1 l] (.Tuple [.Constant (.str f) t m,.Dict [] [] o] C s) c.env=pure ai) aI):
 Ex c ρ ((.Assign [.Tuple [.Attribute (.Name "self" u) "phase" g,.Attribute (.Name "self" h) "props" j] n1 l] (.Tuple [.Constant (.str f) t m,.Dict [] [] o] C s) pos::rest)::k) Pp R:=by
 refine yT (Q:=λc' w=>∃n,c.σ n=ai/\c'=c.add n (.i [])/\w=[.d (.str f),.r n]) ?_ (λc' w z F=>?_) (by show 2<=100;decide) hw
 .refine nF (tK (dR I)) (λZ ae Z S=>?_);let ⟨zy,zy⟩:=S;refine nF (lR wV) (λaw av Z K=>?_);let ⟨n,_,v,zy,zy⟩:=K;intro L pos H O;refine aS (Be L pos H O) (λY au T=>?_);rcases T with⟨c',w,X,S',L',r',z,hv⟩
  refine⟨c',w,X,S',L',r',n,v,z,?_⟩;rw[hv]
 let ⟨n,v,zy,zy⟩:=F;have B:=x.add (cn:=.i []) v;have D:Nw a bJ bg (c.add n (.i [])) q n:=x.nw v;have G:(c.add n (.i [])).σ n=U (.i []):=sA;have y:=B.phase ph P;have N:n≠q.da:=λe=>D.2.2.2 (e▸by exact iX)
 have E:=y.Qs (b:=n) D (by show Sg.set _ _ _ _=_;rw[iY N];exact G);exact⟨_,_,gq (Jl A A1 B hs) J (gq (Jl A V y hs) J jh),W _ _ J E⟩
end
structure IS(x dx:ak)(bg:Sg)(c:C)(dg:List (Str×V))(l:List (ak×Cn)):Prop where
 hx:c.σ x=U (.o dx)
 hd:c.σ dx=U (.t dg)
 wd:c.wr dx
 lm:∀p∈l,c.σ p.1=U p.2
 nd:(x::dx::l.map (·.1)).Nodup
 n0:∀p∈l,bg p.1=ai
 dm:∀b,bg b≠ai->b≠dx->c.σ b=bg b
section
variable {x dx:ak}{bg:Sg}{c:C}{dg:List (Str×V)}{l:List (ak×Cn)}{n:Str}{v:V}{b:ak}{cn:Cn}{ρ:Nm}{p1 p2:Pos}
def IS.attr(a:IS x dx bg c dg l)(n:Str)(v:V):IS x dx bg (c.upd dx (.t (fT n v dg))) (fT n v dg) l:=by
 have nd:=a.nd;simp only[ff,bN,not_or] at nd;refine⟨?_,sA,a.wd,λd f=>?_,a.nd,a.n0,λb h e=>?_⟩
 .show Sg.set c.σ dx _ x=_;rw[iY nd.1.1];exact a.hx
 .show Sg.set c.σ dx _ d.1=_;rw[iY (λg=>nd.2.1 (by rw[<-g];exact uA f))];exact a.lm d f
 show Sg.set c.σ dx _ b=_;rw[iY e];exact a.dm b h e
def IS.tg(a:IS x dx bg c dg l)(b:nH c.toG0)(d:gU c.toG0 n)(hs:cU ρ "self" (.r x))(hz:aa dg<=100):iW c ρ (.Attribute (.Name "self" p1) n p2) v (c.upd dx (.t (fT n v dg))) ρ:=
 Bg b d (ah hs) a.hx a.hd a.wd (hz:=hz)
def IS.new(e:IS x dx bg c dg l)(a:c.σ b=ai):b≠x/\b≠dx/\b∉l.map (·.1)/\bg b=ai:=by
 intros x dx bg c dg l b _ e a;have f:b≠dx:=λd=>by rw[d,e.hd] at a;cases a
 refine⟨λd=>(by rw[d,e.hx] at a;cases a),f,λh=>?_,?_⟩
 .let ⟨g,i,zy⟩:=aY.mp h;exact ns a (e.lm g i)
 cases d:bg b with
 |none=>rfl
 |some cn=>have:=e.dm b (by rw[d];simp) f;rw[a,d] at this;cases this
theorem IS.adds(e:IS x dx bg c dg l)(p:τ=nV m)(n:(m.map (·.1)).Nodup)(o:∀b,τ b≠ai->c.σ b=ai):IS x dx bg (c.adds τ) dg (l++m):=by
 have q:∀d∈m,c.σ d.1=ai:=λd f=>o d.1 (by rw[p,IX n f];simp)
 have g:∀b,c.σ b≠ai->(c.adds τ).σ b=c.σ b:=λb a=>by
  cases h:τ b with
  |none=>exact C.yV h
  |some cn=>exact aV (o b (by rw[h];simp)) a
 refine⟨?_,?_,.inl e.wd,λd f=>?_,?_,λd f=>?_,λb r t=>?_⟩
 .rw[g x (by rw[e.hx];simp)];exact e.hx
 .rw[g dx (by rw[e.hd];simp)];exact e.hd
 .rcases eE.mp f with a|a
  .rw[g d.1 (by rw[e.lm d a];simp)];exact e.lm d a
  exact Io (by rw[p];exact IX n a)
 .have nd:=e.nd
  have k:∀i∈m.map (·.1),i≠x/\i≠dx/\i∉l.map (·.1):=λi u=>by
   let ⟨d,f,zy⟩:=aY.mp u;have:=e.new (q d f);exact⟨this.1,this.2.1,this.2.2.1⟩
  rw[cy];rw[ff] at nd⊢;let ⟨n1,j⟩:=nd;rw[ff] at j⊢;let ⟨s,v⟩:=j;revert s;intro j;refine⟨λa=>?_,λa=>?_,?_⟩
  .rcases bN.mp a with a|a
   .exact n1 (a▸sV)
   rcases eE.mp a with a|a
   .exact n1 (vZ _ a)
   exact(k x a).1 J
  .rcases eE.mp a with a|a
   .exact j a
   exact(k dx a).2.1 J
  exact jz.mpr ⟨v,n,λz w b y h=>(k b y).2.2 (h▸w)⟩
 .rcases eE.mp f with a|a
  .exact e.n0 d a
  exact(e.new (q d a)).2.2.2
 have:=e.dm b r t;rw[g b (by rw[this];exact r)];exact this
theorem IS.add(j:IS x dx bg c dg l)(h:c.σ b=ai):IS x dx bg (c.add b cn) dg (l++[(b,cn)]):=by
 have e:c.add b cn=c.adds (nV [(b,cn)]):=by
  unfold C.add C.adds nV
  have f:∀a,(([(b,cn)]:List (ak×Cn)).find? λi=>i.1=a).map (·.2)=if a=b then U cn else ai:=λa=>by
   by_cases d:a=b
   .subst d;simp
   have:¬b=a:=λe=>d e.symm
   simp[d,this]
  congr 1
  .funext a;rw[f];by_cases d:a=b<;>simp[d]
  .funext a;rw[f];by_cases d:a=b<;>simp[d]
  funext a;rw[f];by_cases d:a=b<;>simp[d]
 rw[e];refine j.adds J (by simp) λa g=>?_
 unfold nV at g
 by_cases d:b=a
 .rw[<-d];exact h
 simp[d] at g
end
def Ex.YK(h:a={base with M:=a.M,σ:=a.σ,wr:=a.wr})(g:IS b c e a dg d)
 (i:∀M σ wr,IS b c e (oZ (base) M σ wr) dg d->Ex (oZ (base) M σ wr) f k P R):Ex a f k P R:=by
 let ⟨M,σ,wr,zy⟩:=gv h;exact i M σ wr g
def IS.fin(c:IS e f u q dg a)(I:dg=gJ p ⟨f,i,g,pm,h,j,xs⟩)(h1:(i,mD (bP (fP p.acc)))∈a)(h2:(g,mD (bP (jn p.aq)))∈a)(E:(pm,mD (bP (gu p.prom)))∈a)(C:(h,mD (xs.map λe=>(e.k,gF e.la)))∈a)(D:(j,Cn.l (p.out.map bI))∈a)(B:∀m∈nU xs,m∈a)(J:xs.map PE.v=jo p.props)(K:(i::g::pm::h::j::cK xs).Nodup):
 ∃n:PA,n.da=f/\bL q.σ e p n/\∀b∈n.bD,b=f\/u b=ai:=by
 have A:∀b∈i::g::pm::h::j::cK xs,∃z,(b,z)∈a:=λb w=>by
  simp only[bN] at w;rcases w with rfl|rfl|rfl|rfl|rfl|w
  .exact⟨_,h1⟩
  .exact⟨_,h2⟩
  .exact⟨_,E⟩
  .exact⟨_,C⟩
  .exact⟨_,D⟩
  rw[<-w5] at w;let ⟨m,H,zy⟩:=aY.mp w;exact⟨m.2,B m H⟩
 have F:∀o∈xs,(o.la,Cn.v [.d o.d,.r o.sa])∈a/\(o.sa,Cn.s o.ks)∈a:=λo y=>⟨B _ (fB.mpr ⟨o,y,by simp⟩),B _ (fB.mpr ⟨o,y,by simp⟩)⟩
 have nd:=c.nd;rw[ff] at nd;let ⟨n1,G⟩:=nd;rw[ff] at G;refine⟨⟨f,i,g,pm,h,j,xs⟩,rfl,⟨c.hx,I▸c.hd,c.lm _ h1,c.lm _ h2,c.lm _ E,c.lm _ C,λo y=>⟨c.lm _ (F o y).1,c.lm _ (F o y).2⟩,J,c.lm _ D,?_⟩,λb w=>?_⟩
 .show(e::f::i::g::pm::h::j::cK xs).Nodup;refine ff.mpr ⟨λt=>?_,ff.mpr ⟨λt=>?_,K⟩⟩
  .rcases bN.mp t with t|t
   .exact n1 (t▸sV)
   let ⟨z,x⟩:=A e t;exact n1 (vZ _ (aY.mpr ⟨_,x,rfl⟩))
  let ⟨z,x⟩:=A f t;exact G.1 (aY.mpr ⟨_,x,rfl⟩)
 rcases bN.mp w with t|t
 .exact .inl t
 let ⟨z,x⟩:=A b t;exact .inr (c.n0 _ x)
def Jt{e Str:Type}(d:e->Str):∀(c b:List (Int×e)),dJ (b.map λa=>(a.1,d a.2)) (c.map λa=>(a.1,d a.2))=(dJ b c).map λa=>(a.1,d a.2):=by
 intro g
 induction g with
 |nil=>
  intro b;exact J
 |cons a c f=>
  intro b;show dJ (put (b.map λa=>(a.1,d a.2)) a.1 (d a.2)) (c.map λa=>(a.1,d a.2))=(dJ (put b a.1 a.2) c).map _;rw[zg d,f]
open Mine.Ex renaming YK->Ez
def Qy:bootBuiltins "type"=U (.type "type"):=by first|rfl|decide+kernel
def YL:bootBuiltins "int"=U (.type "int"):=by first|rfl|decide+kernel
section
variable {c:C}{ρ:Nm}{e o e₁ e₂:aT}{pos p p1 p2 p3 p4 apos PY:Pos}{a:ak}
def Ev.YM(j:c.mg b=U f)(hr:Rep c.h₀ (λa=>c.h₀.get? a=m9) f d)(k:autoParam (c.env.kindOf b=U .globalImplicit) aI)(h:autoParam ((b==("__debug__":Str))=aA) aI):Ev c ρ (.Name b p) (.d d):=λl g=>
 g.O8 k j h ⟨gT l,hr.mono λa o i z e=>⟨g.bs.keep a o e,λm=>i (g.bs.jS a m)⟩⟩
def bX.YN(h:Ev c ρ e (.d (.int i)))(m:autoParam (c.env.kindOf "type"=U .globalImplicit) aI)(j:autoParam (c.env.kindOf "int"=U .globalImplicit) aI)(f:autoParam (cD e=aA) aI):bX c ρ (.Compare (.Call (.Name "type" p1) [e] [] p2) [.Is] [.Name "int" p3] p4) af:=λp b=>
 Gj (nA b m ∅ Qy ∅ ∅ (.cons h .nil f) (by simp[ee,f]) (lC _ _) λk o a g=>by
  apply mC g;intro q n;let ⟨l,zy⟩:=jT n;refine call_type_of (Tx:="int") (typeIs_int k i l) ∅ ?_;refine(b.kp a).tF j ∅ YL ∅ ∅ ?_;exact wpAny_is_self J (Ag ⟨a,rfl⟩)) J
end
open Mine.bX renaming YN->Ju
section
variable {c:C}{ρ:Nm}{e e₁ e₂:aT}{v v₁ v₂:V}{pos p:Pos}{a b:Int}{s:Shared}{ds:aH}
def Bin.pow(g:0<=b)(f:b<=1000000)(h:a.natAbs<2^64):Bin c .Pow (.d (.int a)) (.d (.int b)) (.d (.int (a^b.toNat))):=λs j m k i e=>by
 let ⟨l,zy⟩:=i.eF;let ⟨n,zy⟩:=e.eF;exact pow_int_small g f h ⟨iS s _,qp _ _⟩
def Cmp.Qz(a:iA c v ds)(l:min (D.dO ds) f.dep<=400):Cmp c .In (.d f) v (yI ds f):=λs r q e n h=>by
 let ⟨b,i⟩:=yK n;let ⟨o,g⟩:=b;let ⟨b,j⟩:=h.Oo e a;let ⟨p,m⟩:=b;exact SeqAt.in_list_reads m g j i (by rw[yH,D.wK];exact uM (k:=1) l e.room.u J) ⟨gT s,rfl⟩
def Cmp.ge:Cmp c .GtE (.d (.int a)) (.d (.int b)) (decide (a>=b)):=λs g j h f e=>by
 let ⟨i,zy⟩:=f.eF;let ⟨k,zy⟩:=e.eF;exact ge_int ⟨gT s,rfl⟩
noncomputable def C.vz(c:C)(a:ak):C:={c with M:=λb=>c.M b/\b≠a,σ:=λb=>if b=a then ai else c.σ b,wr:=λb=>c.wr b/\b≠a}
def EA{c:C}{a b:ak}{f:Cn}(e:(c.vz a).σ b=U f):b≠a/\c.σ b=U f:=
 dite (b=a) (λd=>nomatch (az d).symm.trans e) λd=>⟨d,(aB d).symm.trans e⟩
def Ex.freeze{a:ak}{x:Str}{k:eV}{q:eH}{R:d9}(z:ρ.lookup x=U (.r a))(hs:c.σ a=U (.l ds))(v:¬c.B a)(F:Ex (c.vz a) ((x,.d (.lst ds))::ρ) k q R):Ex c ρ k q R:=by
 intros c ρ ds a x k q R _ z hs v F;exact λs g I=>by
  have p:=g.bs.dc a _ hs;have E:∀{n:aC} {A:D},Rep s.heap c.M n A->Rep s.heap (c.vz a).M n A:=λj=>j.lM λZ f=>f.1
  have u:∀b,c.B b->b≠a:=λb f e=>v (e▸f)
  have w:Bs (c.vz a) s:=⟨g.bs.keep,g.bs.base,g.bs.room,λb m=>g.bs.fR b m.1,λb f=>⟨g.bs.xm b f,λe=>p.2.1 (e▸f)⟩,λb m=>g.bs.jS b m.1,
   λb i e=>have j:=EA e;have h:=g.bs.dc b i j.2;⟨⟨h.1,j.1⟩,h.2.1,h.2.2.mono E λZ e=>e⟩,
   λb f=>have h:=g.bs.iR b f.1;⟨⟨h.1,f.2⟩,h.2.1,h.2.2.imp λi e=>(aB f.2).trans e⟩,λb f=>⟨g.bs.bm b f,u b f⟩⟩
  have y:=g.gen (M':=(c.vz a).M) (σ':=(c.vz a).σ) (wr':=(c.vz a).wr) (B':=c.B) I w (λZ Z o=>o) (λZ e=>e) E;let ⟨L,o,K,j⟩:=p.2.2
  have G:St (c.vz a) ((x,.d (.lst ds))::ρ) s:=⟨w,g.kind,g.globals,g.builtins,g.inj,g.qo,λC h e=>by
   rw[iF] at e;cases hy:C==x with
   |true=>
    rw[hy] at e;cases e;rw[beq_iff_eq.mp hy];have h:=g.vars x _ z;refine⟨h.1,h.2.1,h.2.2.imp λn f=>⟨f.1,?_⟩⟩;obtain rfl:n=.ref a:=f.2;exact Rep.lst o (λm=>m.2 J) K (j.lM λZ f=>f.1)
   |false=>rw[hy] at e;exact y.1.vars C h e⟩
  exact F.go ⟨rfl,(gT s).kx,λb t e=>⟨t,e⟩,λb Z Z f=>f.1,λb Z Z f=>f.1,λb f h=>⟨h,u b f⟩,λb t i Z f Z e=>(aB (u b f)).trans e,λb t i Z e=>⟨i,(EA e).2⟩,λb i e H=>⟨⟨i,(EA e).2⟩,λh=>H ⟨h,(EA e).1⟩⟩⟩ G y.2
end
open Mine.Ex renaming freeze->BL
abbrev EC(a c:aC)(d:ak)(n:Int)(b:aC):Obj:={cls:=.type "enumerate",dict:=ai,data:=.fields #[a,c,.ref d,rawInt n,.none,b],slots:=#[]}
def jq(h:bY)(b f:ak)(n:Int):Prop:=∃a d e,h.get? b=U (EC a d f n e)/\(a=.none\/∃c:Nat,a=rawInt c)
section
variable {prog:Program}{w:World}{A:Around}{E:cI}{s:Shared}{e it l:ak}{n:Int}{i:Nat}{items:Array aC}{x:aC}
def YO(k:jq s.heap e it n)(f:∀b a,jq a e it n->iG e s.heap a->c b {s with heap:=a}):wpAny (model prog w) A (Hy (.ref e)) c E s:=by
 intros prog w A E s e it n c _ k f;let ⟨m,j,o,d,l⟩:=k;have g:∀b,c b s:=λb=>f b s.heap ⟨m,j,o,d,l⟩ ⟨rfl,λz z=>rfl⟩
 unfold Hy;refine ay (rG d J (x:=m) J ?_);rcases l with h|⟨i,h⟩
 .subst h;exact aM (g af)
 subst h;show wpAny _ _ (loadIfAlive (i:Int).toNat>>=_) _ _ s;refine ay λt r z=>?_
 show Sem.wp _ _ (.loadIfAlive _ .pure) _ _ _ _
 rewrite [Sem.wp_loadIfAlive,Sem.wp_pure]
 cases h:s.heap.get? (i:Int).toNat with
 |none=>exact aM (E:=E) (g af)
 |some u=>
  show wpAny (model prog w) A (field (.ref e) 1>>=_) c E s;refine ay (rG d J (x:=j) J ?_);cases hb:j !=.bool af with
  |false=>exact aM (g aA)
  |true=>exact ay (Lr d (by simp) λa p q=>aM (f aA a ⟨_,_,_,p,.inr ⟨i,rfl⟩⟩ q))
def zA(ho:s.heap.get? e=U (EC f0 f1 it n old))(d:k<6)(h:∀a,a.get? e=U {cls:=.type "enumerate",dict:=ai,data:=.fields ((#[f0,f1,.ref it,rawInt n,.none,old]:Array aC).setIfInBounds k c),slots:=#[]}->iG e s.heap a->b () {s with heap:=a}):wpAny (model prog w) A (setField (.ref e) k c) b E s:=Lr ho d h
def Jv(x:iG a h b)(e:iG a b c):iG a h c:=⟨e.1.trans x.1,λf d=>(e.2 f d).trans (x.2 f d)⟩
def YQ{q:cI}(t:jq s.heap e it n)(B:s.heap.IsListIter it l i)(hl:s.heap.IsList l items)(H:items[i]?=U x)(k:e≠it)
 (D:∀d c,s.heap.get? d=ai->jq c e it (n+1)->c.IsListIter it l (i+1)->c.get? d=U {cls:=.type "tuple",data:=.seq #[.int n s.toks,x]}->(∀b a,b≠e->b≠it->s.heap.get? b=U a->c.get? b=U a)->q (.ref d) {s with heap:=c,toks:=s.toks+1}):
 wpAny (model prog w) A (gX.«enumerate.__next__» ⟨[.ref e],[]⟩) (λg h=>∃f,g=.done (.ret f)/\q f h) E s:=by
 intros prog w A E s e it _ l n i items x q t B hl H k D;intros l n i items x q _ t B hl H k D;let ⟨C,y,F,S,a5⟩:=t;show wpAny _ _ (field (.ref e) 2>>=_) _ _ _;refine ay (rG S J (x:=.ref it) J (ay (wpAny_nextOf_list_item B hl H λp a9 L=>?_)));have z:p.get? e=U (EC C y it n F):=(L.2 e k).trans S;show wpAny _ _ (field (.ref e) 3>>=_) _ _ {s with heap:=p};refine ay (rG z J (x:=rawInt n) J ?_);show wpAny _ _ (field (.ref e) 4>>=_) _ _ {s with heap:=p};refine ay (rG z J (x:=.none) J ?_);show wpAny _ _ (mkInt n>>=_) _ _ {s with heap:=p};refine ay (wpAny_mkInt ?_);show wpAny _ _ (setField (.ref e) 3 (rawInt (n+1))>>=_) _ _ {s with heap:=p,toks:=s.toks+1};refine ay (zA z ∅ λa8 V G=>?_);show wpAny _ _ (setField (.ref e) 4 .none>>=_) _ _ {s with heap:=a8,toks:=s.toks+1};refine ay (zA (n:=n+1) (f0:=C) (f1:=y) (old:=F) V ∅ λj R I=>?_);show wpAny _ _ (newTuple [.int n s.toks,x]>>=_) _ _ {s with heap:=j,toks:=s.toks+1};refine ay (wpAny_newTuple ?_);have a7:j.objs.size=s.heap.objs.size:=by rw[I.1,G.1,L.1]
 have W:∀b a,b≠e->b≠it->s.heap.get? b=U a->j.get? b=U a:=λb a m K r=>I.extBut b a m (G.extBut b a m (L.extBut b a K r))
 have au:j.IsListIter it l (i+1):=(a9.extBut G.extBut k.symm).extBut I.extBut k.symm;have a6:j.objs.size≠e:=pR (d7 R);have Z:s.heap.get? j.objs.size=ai:=by rw[a7];exact dX _
 have T:=dw j (o:={cls:=.type "tuple",data:=.seq #[.int n s.toks,x]}) J
 have done:∀c:bY,jq c e it (n+1)->iG e (j.push {cls:=.type "tuple",data:=.seq #[.int n s.toks,x]}) c->q (.ref j.objs.size) {s with heap:=c,toks:=s.toks+1}:=λc bj v=>
  D _ c Z bj ((au.at λa r=>cG _ r).extBut v.extBut k.symm) ((v.2 _ a6).trans T) λb a m K r=>(v.2 b m).trans (cG _ (W b a m K r))
 show wpAny _ _ (Hy (.ref e)>>=_) _ _ {s with heap:=j.push {cls:=.type "tuple",data:=.seq #[.int n s.toks,x]},toks:=s.toks+1};refine ay (YO (n:=n+1) ⟨C,y,F,cG _ R,a5⟩ λb u M N=>?_);cases b with
 |false=>exact aM ⟨_,rfl,done u M N⟩
 |true=>
  let ⟨Y,Q,av,O,_⟩:=M;refine ay (rD ?_);show wpAny _ _ (field (.ref e) 5>>=_) _ _ {s with heap:=u,toks:=s.toks+1};refine ay (rG O J (x:=av) J ?_);show wpAny _ _ (setField (.ref e) 5 x>>=_) _ _ {s with heap:=u,toks:=s.toks+1};refine ay (zA O ∅ λP aw X=>?_);show wpAny _ _ (T5 (.ref e) (.ref j.objs.size)>>=_) _ _ {s with heap:=P,toks:=s.toks+1};refine ay ?_;show wpAny _ _ (setField (.ref e) 0 (rawInt j.objs.size)>>=λ_=>setField (.ref e) 1 (.bool aA)) _ _ {s with heap:=P,toks:=s.toks+1};refine ay (zA (f0:=Y) (f1:=Q) (n:=n+1) (old:=x) aw ∅ λbk a3 ax=>?_);refine zA (f0:=rawInt j.objs.size) (f1:=Q) (n:=n+1) (old:=x) a3 ∅ λae a0 a4=>?_
  exact ay (yd (aM ⟨_,rfl,done ae ⟨_,_,_,a0,.inr ⟨_,rfl⟩⟩ (Jv (Jv (Jv N X) ax) a4)⟩))
def sE(a:jq s.heap e it n):s.TypeIs (.ref e) "enumerate":=let ⟨_,_,_,b,_⟩:=a;⟨_,b,rfl⟩
def QA(g:jq s.heap e it n)(j:s.heap.IsListIter it l i)(hl:s.heap.IsList l items)(m:items[i]?=U x)(r:e≠it)
 (h:∀c a,s.heap.get? c=ai->jq a e it (n+1)->a.IsListIter it l (i+1)->a.get? c=U {cls:=.type "tuple",data:=.seq #[.int n s.toks,x]}->(∀b d,b≠e->b≠it->s.heap.get? b=U d->a.get? b=U d)->f (U (.ref c)) {s with heap:=a,toks:=s.toks+1}):
 wpAny (model prog w) A (pyNext (.ref e)) f E s:=by
 unfold pyNext;exact ay (Cx (xY (name:=wC "__next__") (sE g) AS
  (pV AS (sE g) M0 (YQ g j hl m r λc a q b p o k=>aM (h c a q b p o k)) (M1 _))))
def QB(o:A.handled=ai)(d:jq s.heap e it n)(h:s.heap.IsListIter it l i)(hl:s.heap.IsList l items)(m:items[i]?=ai)
 (g:∀a,L6 it s.heap a->c ai {s with heap:=a}):wpAny (model prog w) A (pyNext (.ref e)) c E s:=by
 unfold pyNext;refine ay (Cx (xY (name:=wC "__next__") (sE d) AS
  (pV AS (sE d) M0 ?_ (M1 _))))
 let ⟨t,y,u,k,r⟩:=d;show wpAny _ _ (field (.ref e) 2>>=_) _ _ _;refine ay (rG k J (x:=.ref it) J ?_);refine ay (wpAny_nextOf_list_end o h hl m λa v q j=>?_);let ⟨p,f⟩:=j;exact ay (Gh (T:="StopIteration") (b:=af) ⟨p,f.1,f.2⟩ Lb (aM (g _ q)))
def Jw(b:jq s.heap e it n)(h:a (.ref e) s):wpAny (model prog w) A (pyIter (.ref e)) a E s:=by
 refine Ge (sE b) M3 (pV M3 (sE b) PySem.F.entry_enumerate_iter ?_ (PySem.F.args_enumerate_iter_1 _));show wpAny _ _ (ret (.ref e)) _ _ s;exact aM ⟨_,rfl,"enumerate",_,sE b,AS.lookup,h⟩
def YR(j:jq s.heap e it n)(g:∀a,jq a e it n->iG e s.heap a->b () {s with heap:=a}):wpAny (model prog w) A (letOwnedTupleGo d (.ref e) (.ref c)) b E s:=by
 let ⟨m,r,p,f,l⟩:=j;have i:b () s:=g s.heap ⟨m,r,p,f,l⟩ ⟨rfl,λz z=>rfl⟩
 have h:wpAny (model prog w) A (do
  let o<-load e
  match o.cls,o.data with
  |.type n,.fields vs=>
   if["enumerate","zip","dict_itemiterator","dict_reverseitemiterator","odict_iterator","itertools.zip_longest","itertools.pairwise"].contains n&&vs[0]?==U (rawInt c) then
    rule "for.unpacks-the-owned-tuple"
    updateField e 0 .none
  |_,_=>pure ():Sem Unit) b E s:=by
  refine ay (wpAny_load f ?_);dsimp only;split
  .exact ay (rD (zA f ∅ λa k q=>g a ⟨_,_,_,k,.inl J⟩ q))
  exact aM i
 cases d with
 |Tuple=>exact h
 |List=>exact h
 |_=>exact aM i
end
def jE(k:Int)(a:aH):aH:=a.mapIdx λb c=>.tup [.int (k+b),c]
def zB(d:jq h a it n):∃b,h.get? a=U b:=d.elim λz c=>c.elim λz c=>c.elim λz c=>⟨_,c.1⟩
def BN(j:jq h c it n)(b:h.IsListIter it e i):∀d∈[c,it],∀a,h.get? d=U a->lN a:=
 eU.mpr ⟨λa g=>j.elim λz f=>f.elim λz f=>f.elim λz f=>dF (f.1.symm.trans g)▸⟨_,rfl⟩,rI.mpr λa g=>b.elim λk f=>dF (f.1.symm.trans g)▸⟨_,f.2.2⟩⟩
def jC.enum(P:c.handled=ai)(m l p:ak)(h1:m≠l)(h2:p≠m)(N:p≠l)(t:Array aC)(r:aH)(hl:t.size=aa r)(k:Int):
 jC prog e c m [m,l,p] [m,l] (jE k r) (λM i h=>jq h m l (k+(i:Nat))/\h.IsListIter l p i/\PL h p t/\aW h M t.toList r) where
 sub:=λf o=>by simp at o;rcases o with h|h<;>simp[h]
 has:=λM i h b=>eU.mpr ⟨zB b.1,eU.mpr ⟨b.2.1.imp λd a=>a.1,rI.mpr (b.2.2.1.elim λj a=>⟨_,a⟩)⟩⟩
 frame:=λM i h F b n=>⟨b.1.imp λY=>kP λX=>kP λau a=>⟨n m _ (.inl (by simp)) a.1,a.2⟩,b.2.1.at λd a=>n l d (.inl (by simp)) a,b.2.2.1.at λd a=>n p d (.inl (by simp)) a,b.2.2.2.mono λg d j b a=>⟨n g d (.inr ⟨j,b⟩) a,j⟩⟩
 up:=λM ae i h b n=>⟨b.1,b.2.1,b.2.2.1,b.2.2.2.mono λg d j b a=>⟨a,λz=>j (n g d a z)⟩⟩
 off:=λM i h b=>BN b.1 b.2.1
 item:=λM i W av s G q b S A=>by
  let ⟨g,f,u,B⟩:=b;unfold jE at q;rw[mX] at q;cases Jx:r[i]? with
  |none=>rw[Jx] at q;cases q
  |some Z=>
   rw[Jx] at q;cases q;let ⟨H,K,O⟩:=B.get Jx;refine QA g f u.isList (x:=H) (by rw[<-gP];exact K) h1 λy F E C L T n=>⟨_,rfl,YR C λI V w=>?_⟩
   have R:y≠m:=λb=>(zB g).elim λd a=>ns (b▸E) a
   have v:∀f d,f∉[m,l]->s.heap.get? f=U d->I.get? f=U d:=λf d o a=>by
    simp at o;exact(w.2 f o.1).trans (n f d o.1 o.2 a)
   have D:=BN g f;refine A _ _ (Ds (vs:=#[.int (k+i) s.toks,H]) ⟨0,(w.2 y R).trans T⟩ (λz=>(S y z).elim λd a=>ns E a) (bM J) (.cons (.int _ _) (.cons (O.off v D) .nil))) ⟨?_,L.at λd a=>(w.2 l h1.symm).trans a,u.at λd a=>v p d (by simp[h2,N]) a,B.off v D⟩ ⟨rfl,rfl,λf d j a=>v f d j a⟩;rw[show k+((i+1:Nat):Int)=k+(i:Int)+1 from(GO k i 1).symm];exact V
 done:=λM s G b A=>by
  let ⟨g,f,u,B⟩:=b;have Q:(jE k r).length=t.size:=by unfold jE;rw[qb];exact hl.symm
  exact QB P g f u.isList (by rw[Q];simp) λF C=>⟨rfl,A _ ⟨rfl,rfl,λf d j a=>C f d (λb=>j (by simp[b])) a⟩⟩
 self:=λM i s G b a=>Jw b.1 a
def YS(a b:aC):checkTypeCall "enumerate" ⟨[a,b],[]⟩=pure ():=by kernel_rfl
def YT(a b:aC):checkBuiltinCall "enumerate.__new__" ⟨[.type "enumerate",a,b],[]⟩=pure ():=by kernel_rfl
def YU(a b c:aC):argsOk "object.__init__" ⟨[a,b,c],[]⟩:=by
 unfold argsOk;rewrite [Gd (id:="object.__init__") (n:=['_','_','t','i','n','i','_','_']) (o:=['t','c','e','j','b','o']) (by kernel_rfl) PySem.F.owner_object];kernel_rfl
def YV(b:ak)(c:Array aC)(n:Nat)(k:Tok):
 Meets (gX.«enumerate.__new__» ⟨[.type "enumerate",.ref b,.int 1 k],[]⟩) (λz R a=>a.heap.get? b=U {cls:=.type "list",dict:=ai,data:=.seq c n,slots:=#[]}/\
  R (.ok (.ret (.ref (a.heap.push {cls:=.type "list_iterator",data:=.fields #[.ref b,.int 0 0]}).objs.size)))
   {a with heap:=(a.heap.push {cls:=.type "list_iterator",data:=.fields #[.ref b,.int 0 0]}).push {cls:=.type "enumerate",data:=.fields #[.none,.bool aA,.ref a.heap.objs.size,rawInt 1,.none,.none]}}):=by
 intros b c n k;exact .of_wp λp s w R a e=>by
  obtain⟨l,o,j,h,i⟩:=a;obtain⟨g,e⟩:=e;have x:=sub_enumerate;have t:Heap.IsList (Shared.heap ⟨l,o,j,h,i⟩) b c:=⟨_,g,rfl,n,rfl⟩
  wp_walk using AutoSeq1.wpAny_loadPart' g
  refine wpAny_stack_any λy=>aM ?_
  have f:wpAny (model p s) w.in1 (do let it<-pyIter (.ref b);let r<-T6 (.type "enumerate") (T7++[it,rawInt 1,.none,.none]);ret r) (λv d=>∃m,v=Fin.done (Hq m)/\R (Hw (Hq m)) d) (λq d=>R (Except.error q) d) ⟨l,o,j,h,i⟩:=by
   wp_walk using xX t
   exact⟨_,rfl,e⟩
  split
  .rename_i u _ _ _ _ _;cases(u==qi "enumerate")
   .exact f
   exact f
  exact f
section
variable {prog:Program}{w:World}{A:Around}{E:cI}{s:Shared}{l:ak}{items:Array aC}
def QC(hl:PL s.heap l items)(h:∀a,jq a (s.heap.objs.size+1) s.heap.objs.size 1->a.IsListIter s.heap.objs.size l 0->(∀b c,s.heap.get? b=U c->a.get? b=U c)->d (.ref (s.heap.objs.size+1)) {s with heap:=a}):
 wpAny (model prog w) A (call (.type "enumerate") [.ref l,.int 1 e]) d E s:=by
 let ⟨j,k⟩:=hl;refine callType_new PySem.F.called_enumerate ∅ (YS _ _) (YT _ _) (λm=>YU m _ _) PySem.F.entry_enumerate_new (YV l items j e) ⟨k,?_⟩;have g:(s.heap.push {cls:=.type "list_iterator",data:=.fields #[.ref l,.int 0 0]}).objs.size=s.heap.objs.size+1:=wj ..;show _/\_;rw[g];have f:=dw (s.heap.push {cls:=.type "list_iterator",data:=.fields #[.ref l,.int 0 0]}) (o:=EC .none (.bool aA) s.heap.objs.size 1 .none) J;rw[g] at f;exact⟨⟨_,f,rfl⟩,h _ ⟨_,_,_,f,.inl J⟩ ⟨_,cG _ (dw _ J),rfl,rfl⟩ λb c i=>cG _ (cG _ i)⟩
end
def Jy:bootBuiltins "enumerate"=U (.type "enumerate"):=by first|rfl|decide+kernel
section
variable {c:C}{ρ:Nm}{e:aT}{pos p p1:Pos}{ds:aH}{s fM:Shared}{l:ak}{vs:Array aC}{n:Nat}
def It.QD(p:St c ρ s)(f:Kp s fM)(i:PL fM.heap l vs)(u:¬c.M l)(t:aa ds<=bf)(q:aW fM.heap c.M vs.toList ds)(h:jq d (fM.heap.objs.size+1) fM.heap.objs.size k)(hi:d.IsListIter fM.heap.objs.size l 0)(g:∀b a,fM.heap.get? b=U a->d.get? b=U a):
 wpAny c.m c.A (pyIter (.ref (fM.heap.objs.size+1))) (HO c.M c s (jE k ds)) no {fM with heap:=d}:=by
 have r:l<fM.heap.objs.size:=i.elim λn i=>d7 i
 have j:fM.heap.get? (fM.heap.objs.size+1)=ai:=by
  cases e:fM.heap.get? (fM.heap.objs.size+1) with
  |none=>rfl
  |some a=>exact aV (d7 e) (gO.mpr (jw _))
 have o:=p.bs.kp f;refine Jw h ⟨⟨f.gens,f.os,λb a e=>g b a (f.keep b a e)⟩,by unfold jE;rw[qb];exact t,_,_,_,_,rfl,?_,?_,?_,jC.enum p.bs.room.hh (fM.heap.objs.size+1) fM.heap.objs.size l (pR (l7 _)) (eN (vQ r)) (eN r) vs ds q.size k,?_⟩
 .exact eU.mpr ⟨fL f j,rI.mpr (fL f (dX _))⟩
 .exact eU.mpr ⟨o.new j,eU.mpr ⟨o.size,rI.mpr u⟩⟩
 .exact eU.mpr ⟨zB h,eU.mpr ⟨hi.imp λa e=>e.1,rI.mpr (i.elim λn i=>⟨_,g _ _ i⟩)⟩⟩
 exact⟨(Mf k).symm▸h,hi,i.at λa e=>g l a e,q.keep g⟩
def eG.bh{t:Nat}(h:Ev c ρ e (.d (.lst ds)))(q:autoParam (c.env.kindOf "enumerate"=U .globalImplicit) aI)(hs:autoParam (cD e=aA) aI):eG c ρ (.Call (.Name "enumerate" p) [e,.Constant (.int 1) t p1] [] pos) (jE 1 ds):=λs f=>by
 refine nA f q ∅ Jy ∅ ∅ (.cons h (.cons aQ .nil) hs) (DF hs J) (lC _ _) λfM u k a=>?_
 apply A5 a;intro v x a g;let ⟨w,zy⟩:=g.eF;let ⟨l,vs,zy,b,r,o,m⟩:=wJ a;exact QC b λy j n i=>It.QD f k b r o m j n i
def eG.YW(h:Ev c ρ e (.d (.lst ds)))(r:autoParam (c.env.kindOf "enumerate"=U .globalImplicit) aI)(hs:autoParam (cD e=aA) aI):eG c ρ (.Call (.Name "enumerate" p) [e] [] pos) (jE 0 ds):=λs f=>by
 refine nA f r ∅ Jy ∅ ∅ (.cons h .nil hs) (rV hs) (lC _ _) λfM u k a=>?_
 apply mC a;intro v a;let ⟨l,vs,zy,b,t,q,m⟩:=wJ a;refine b.elim λn j=>?_
 exact call_enumerate_1 j λw i o z g=>It.QD f k b t q m ⟨_,_,_,i,.inl J⟩ o g
end
abbrev ED(a:Array aC)(b:Nat):Obj:={cls:=.type "list",dict:=ai,data:=.seq a b,slots:=#[]}
structure YX(M:bC)(S e it l:ak)(vs:Array aC)(ds:aH)(s₀:Shared)(i:Nat)(acc:Array aC)(s:Shared):Prop where
 en:jq s.heap e it (1+(i:Nat))
 li:s.heap.IsListIter it l i
 pl:PL s.heap l vs
 r:aW s.heap M vs.toList ds
 a:aW s.heap M acc.toList ((jE 1 ds).take i)
 md:∀a,M a->∃o,s.heap.get? a=U o
 ms:M S
 k:Kp s₀ s
def Jz(k:Int)(a:aH):(jE k a).length=aa a:=qb
def YY{k:Int}{a:aH}{i:Nat}{d:D}(h:a[i]?=U d):(jE k a)[i]?=U (.tup [.int (k+(i:Nat)),d]):=by unfold jE;rw[mX,h];rfl
section
variable {prog:Program}{w:World}{A:Around}{M:bC}{S e it l:ak}{vs:Array aC}{ds:aH}{s₀:Shared}{R:rE->Shared->Prop}
def YZ(au:A.handled=ai)(h1:e≠it)(h2:l≠e)(W:l≠it)(K:S≠e)(C:S≠it)(T:S≠l)(hz:aa ds<=bf)(av:s₀.heap.get? e=ai)(G:s₀.heap.get? it=ai)(X:s₀.heap.get? S=ai):
 ∀(k i:Nat) (b:Shared) (c:Array aC) (f:Nat),aa ds-i=k->i<=aa ds->YX M S e it l vs ds s₀ i c b->b.heap.get? S=U (ED c f)->
 (∀d g h,Kp s₀ d->d.heap.get? S=U (ED g h)->aW d.heap M g.toList (jE 1 ds)->R (.ok (.ret .none)) d)->
 codeAny (model prog w) A (.builtin "list.extend.loop" ⟨[.ref S,.ref e,.none],[]⟩) R b:=by
 intros prog w A M S e it l vs ds s₀ R _ au h1 h2 W K C T hz av G X;intro k
 induction k with
 |zero=>
  intro i b c f E y n D I;obtain rfl:i=aa ds:=mW y (K1 E);refine pW M4 ?_
  rewrite [rQ C5 _]
  show wpAny _ A.in1 (pyNext (.ref e)>>=_) _ _ b;refine ay (QB au n.en n.li n.pl.isList (by rw[<-n.r.size];simp) λz N=>aM (I _ c f ⟨n.k.gens,n.k.os,λp j m=>N p j (λo=>ns (o▸G) m) (n.k.keep p j m)⟩ (N S _ C D) ?_));have:=n.a;rw[<-Jz 1 ds,oF] at this;exact this.off (wr:=[it]) (λp j B m=>N p j (λo=>B (o▸.head _)) m) λp a4 j m=>BN n.en n.li p (.tail _ a4) j m
 |succ k a5=>
  intro i b c f E y n D I;have Y:i<aa ds:=Nat.lt_of_sub_eq_succ E;have aw:ds[i]?=U ds[i]:=dZ Y;let ⟨ax,a6,a8⟩:=n.r.get aw;refine pW M4 ?_
  rewrite [rQ C5 _]
  show wpAny _ A.in1 (pyNext (.ref e)>>=_) _ _ b;refine ay (QA n.en n.li n.pl.isList (x:=ax) (by rw[<-gP];exact a6) h1 λt z F a0 V a9 u=>?_);have H:=u S _ K C D;show wpAny _ A.in1 (updateSeq S (·.push (.ref t))>>=_) _ _ _
  have ae:c.size=i:=by
   have:=n.a.size;rw[uC,Jz,sQ y] at this;exact this
  have a7:t≠S:=λo=>ns (o▸F) D
  have bk:t≠e:=λo=>(zB n.en).elim λj m=>ns (o▸F) m
  refine ay (wpAny_updateSeq H J (aM ⟨pX C5 _,a5 (i+1) _ (c.push (.ref t)) _ (Nat.sub_succ (aa ds) i▸aR Nat.pred E) Y ?_ (rK _ H J) I⟩) (by rw[ae];exact gZ (aj y hz)) (by show(c.push _).size<=sizeLine+1;rw[Mq,ae];exact fG (gZ (aj y hz))));have q:∀p j,p≠S->z.get? p=U j->(z.update S (gR (·.push (.ref t)))).get? p=U j:=λp j o m=>(sX _ _ o.symm).trans m
  have O:∀{Z:cQ} {Q:aH},aW b.heap M Z Q->aW (z.update S (gR (·.push (.ref t)))) M Z Q:=λbj=>bj.mono λp j B o m=>⟨q p j (λv=>B (v▸n.ms)) (u p j (λv=>oX o (BN n.en n.li e (.head _) j (v▸m))) (λv=>oX o (BN n.en n.li it (.tail _ (.head _)) j (v▸m))) m),B⟩
  refine⟨?_,V.at λj m=>q it j C.symm m,n.pl.at λj m=>q l j T.symm (u l j h2 W m),O n.r,?_,λs L=>?_,n.ms,⟨n.k.gens,n.k.os,λp j m=>q p j (λo=>ns (o▸X) m) (u p j (λo=>ns (o▸av) m) (λo=>ns (o▸G) m) (n.k.keep p j m))⟩⟩
  .rw[show(1:Int)+((i+1:Nat):Int)=1+(i:Int)+1 from(GO 1 i 1).symm];exact a0.imp λ_=>kP λ_=>kP λ_ m=>⟨q e _ K.symm m.1,m.2⟩
  .rw[AL,rH,YY aw];refine(O n.a).append (.one (.tup (vs:=#[.int (1+i) b.toks,ax]) ⟨0,q t _ a7 a9⟩ (λL=>(n.md t L).elim λj m=>ns F m) (bM J) (.cons (.int _ _) (O (.one a8)))))
  by_cases o:s=S
  .subst o;exact⟨_,rK _ H J⟩
  refine(n.md s L).elim λj m=>?_
  by_cases P:s=e
  .exact(zB a0).elim λj m=>⟨j,q s j o (P▸m)⟩
  by_cases a3:s=it
  .exact V.elim λj m=>⟨j,q s j o (a3▸m.1)⟩
  exact⟨j,q s j o (u s j P a3 m)⟩
def Y0:typeLookup (.type "enumerate") "__len__"=pure ai:=by rewrite [Cu,Cv];kernel_rfl
def Y3:typeLookup (.type "enumerate") "__length_hint__"=pure ai:=by rewrite [Cu,Cv];kernel_rfl
def Y4{r:cI}{x:cI}{i:Shared}{xq:bC}(D:A.handled=ai)(h1:e≠it)(h2:l≠e)(B:l≠it)(hz:aa ds<=bf)(E:s₀.heap.get? e=ai)(y:s₀.heap.get? it=ai)
 (o:jq i.heap e it 1) (hi:i.heap.IsListIter it l 0) (hl:PL i.heap l vs) (H:aW i.heap xq vs.toList ds) (G:∀c,xq c->∃a,i.heap.get? c=U a) (m:Kp s₀ i)
 (C:∀d S f g,Kp s₀ d->s₀.heap.get? S=ai->d.heap.get? S=U (ED f g)->aW d.heap (λb=>xq b\/b=S) f.toList (jE 1 ds)->r (.ref S) d):
 wpAny (model prog w) A (call (.type "list") [.ref e]) r x i:=by
 intros prog w A e it l vs _ ds s₀ r x i xq D h1 h2 B hz E y o hi hl H G m C;intros ds s₀ r x i xq _ D h1 h2 B hz E y o hi hl H G m C;have k:∀{c:ak} {a:Obj},i.heap.get? c=U a->c≠i.heap.objs.size:=λh=>eN (d7 h)
 have I:∀(a:Obj) b z,i.heap.get? b=U z->(i.heap.push a).get? b=U z:=λa b z h=>cG _ h
 refine Lp (Q₁:=λL T=>L=.ref i.heap.objs.size/\T={i with heap:=i.heap.push {cls:=.type "list",data:=.seq #[]}}) PySem.F.called_list (PySem.F.typeCall_list_1 _) PySem.F.entry_list_init (code_list_new _ ⟨rfl,rfl⟩) λL T Y=>?_
 let ⟨zy,zy⟩:=Y;have u:(i.heap.push {cls:=.type "list",data:=.seq #[]}).get? i.heap.objs.size=U (ED #[] 0):=dw _ J;have O:s₀.heap.get? i.heap.objs.size=ai:=fL m (dX _);have s:=(zB o).elim λa h=>(k h).symm
 have W:=hi.elim λa h=>(k h.1).symm
 have V:=hl.elim λN h=>(k h).symm
 refine⟨⟨_,u,rfl⟩,PySem.F.args_list_init_2 _ _,?_⟩;show wpAny _ _ (do let av<-Nd (.ref i.heap.objs.size);Nc (.ref i.heap.objs.size) (λ_=>#[]);letGo av.toList.reverse;Ho (.ref i.heap.objs.size) (.ref e) .none) _ _ _;generalize a4:i.heap.objs.size=S at*;refine ay ?_;unfold Nd;refine ay (Ak u J (aM ?_));show wpAny _ _ (updateSeq S (λ_=>#[])>>=λ_=>letGo (#[]:Array aC).toList.reverse>>=λ_=>Ho (.ref S) (.ref e) .none) _ _ _;refine ay (wpAny_updateSeq u J ?_);have P:=rK (gR (λ_=>(#[]:Array aC))) u J;refine ay (yd ?_);have t:∀(Q:Obj->Obj) (v:bY) b a,b≠S->v.get? b=U a->(v.update S Q).get? b=U a:=λQ v b a j h=>(sX _ _ j.symm).trans h
 have q:jq ((i.heap.push {cls:=.type "list",data:=.seq #[]}).update S (gR (λ_=>(#[]:Array aC)))) e it 1:=o.imp λ_=>kP λ_=>kP λ_ h=>⟨t _ _ e _ s.symm (I _ e _ h.1),h.2⟩
 unfold Ho;refine ay (vW (sE q) ?_);have aw:Nf (.ref S) (.ref e)=aA:=by simp[Nf,s]
 have a0:(qi "enumerate"==qi "list")=aA:=by decide
 have X:(qi "enumerate"==qi "tuple")=aA:=by decide
 simp only[aw,a0,X,wA,qg,if_false];refine ay (Jw q (ay (dW ?_)));unfold Hl;refine ay (Cy (sE q) Y0 ?_);show wpAny _ _ (specialOf (uH e) (wC "__length_hint__")>>=_) _ _ _;refine ay (Cy (sE q) Y3 (aM ?_));show wpAny _ _ (rule "list.extend.makes-room">>=λ_=>TX (.ref S)>>=λ_=>again (.builtin "list.extend.loop" ⟨[.ref S,.ref e,.none],[]⟩)) _ _ _;refine ay (rD (ay ?_));show wpAny _ _ (updateSeq S (·.push .none)>>=λ_=>updateSeq S (·.pop)) _ _ _;refine ay (wpAny_updateSeq P J ?_);have K:=rK (gR (·.push oM)) P J;refine wpAny_updateSeq (hz:=by seq_fits) K J ?_;have R:=rK (gR (·.pop)) K J;have n:∀b a,b≠S->i.heap.get? b=U a->((((i.heap.push {cls:=.type "list",data:=.seq #[]}).update S (gR (λ_=>(#[]:Array aC)))).update S (gR (·.push oM))).update S (gR (·.pop))).get? b=U a:=λb a j h=>t _ _ b a j (t _ _ b a j (t _ _ b a j (I _ b a h)))
 refine aM ⟨pX C5 _,YZ (A:=A.in1) (M:=λb=>xq b\/b=S) D h1 h2 B s W V hz E y O (aa ds) 0 _ _ _ J (cL _) ⟨?_,hi.at λa h=>n it a W.symm h,hl.at λa h=>n l a V.symm h,H.mono λb a N _ h=>⟨n b a (k h) h,λj=>j.elim N λj=>k h j⟩,.nil,λc p=>p.elim (λp=>(G c p).imp λa h=>n c a (k h) h) λp=>⟨_,(aR (Heap.get? _) p).trans R⟩,.inr J,⟨m.gens,m.os,λb a h=>n b a (k (m.keep b a h)) (m.keep b a h)⟩⟩ R λd a3 au Z ae ax=>⟨rfl,C d S a3 au Z O ae ax⟩⟩;exact o.imp λ_=>kP λ_=>kP λ_ h=>⟨n e _ s.symm h.1,h.2⟩
end
section
variable {c:C}{ρ:Nm}{e:aT}{pos p p1 p2 p3:Pos}{ds:aH}{c1:Nat}
def cF.Y5(h:Ev c ρ e (.d (.lst ds)))(r:autoParam (c.env.kindOf "enumerate"=U .globalImplicit) aI)(f:autoParam (c.env.kindOf "list"=U .globalImplicit) aI)(hs:autoParam (cD e=aA) aI):cF c ρ (.Call (.Name "list" p2) [.Call (.Name "enumerate" p) [e,.Constant (.int 1) c1 p1] [] pos] [] p3) (jE 1 ds):=by
 intros c ρ e pos p p1 p2 p3 ds c1 _ h r f hs;exact λz k=>by
  refine yM (k.tF f ∅ By ∅ ∅ ?_);refine Hf (m8 ?_) (iL _ J []) J;refine nA k r ∅ Jy ∅ ∅ (.cons h (.cons aQ .nil) hs) (DF hs J) (lC _ _) λj F g m=>?_
  apply A5 m;intro O K m a;let ⟨G,zy⟩:=a.eF;let ⟨q,P,zy,i,Q,o,y⟩:=wJ m;refine QC i λH u C f=>qj ?_
  have n:q<j.heap.objs.size:=i.elim λI i=>d7 i
  have t:j.heap.get? (j.heap.objs.size+1)=ai:=by
   cases a:j.heap.get? (j.heap.objs.size+1) with
   |none=>rfl
   |some b=>exact aV (d7 a) (gO.mpr (jw _))
  refine Y4 (xq:=c.M) (s₀:=z) k.bs.room.hh (pR (l7 _)) (eN (vQ n)) (eN n) o (fL g t) (fL g (dX _)) u C (i.at λb a=>f q b a) (y.keep f) (λl A=>(k.bs.fR l A).imp λb a=>f l b (g.keep l b a)) ⟨g.gens,g.os,λs b a=>f s b (g.keep s b a)⟩ λN x v L w B E D=>?_
  exact⟨w,x,v,rfl,B,⟨_,E⟩,by rw[Jz];exact o,D⟩
end
open Mine.cF renaming Y5->QE
def Y6{i:Type}:∀c:List i,(eT (aa c)).filterMap (λk=>c[k]?)=c:=by
 intro g
 induction g with
 |nil=>
  exact J
 |cons d h e=>
  rw[iz,List.range_succ_eq_map];refine(List.filterMap_cons_some (f:=λk=>(d::h)[k]?) (a:=0) (b:=d) J).trans ?_;rw[Gv];exact aR (d::·) (e)
def Y7{e k:Type}{c f:e->Option k}:∀{b:List e},(∀a∈b,c a=f a)->b.filterMap c=b.filterMap f:=by
 intro i
 induction i with
 |nil=>
  intro _;exact J
 |cons j b g=>
  intro d;rw[LM,LM,d j (.head _),g λa h=>d a (.tail _ h)]
def Y8(a:Array aC):(slicePick a ai ai (U (-1))).toList=a.toList.reverse:=by
 intros a;have d:=Y6 a.toList.reverse;rw[yj,jN] at d;refine Eq.trans ?_ d;unfold slicePick sliceBounds sliceRange
 have e:(if(-1:Int)>0 then(if((a.size:Int)-1)< -1 then(-1-((a.size:Int)-1)+-1-1)/(-1) else 0) else(if((a.size:Int)-1)>-1 then(((a.size:Int)-1)-(-1)-(-1)-1)/(-(-1)) else 0)).toNat=a.size:=by
  rw[aB ∅];split
  .rw[show((a.size:Int)-1)-(-1)-(-1)-1=a.size by omega,show(-(-1):Int)=1 from rfl,GJ];exact j5 _
  omega
 show((oB _ (eT (if(-1:Int)>0 then(if((a.size:Int)-1)< -1 then(-1-((a.size:Int)-1)+-1-1)/(-1) else 0) else(if((a.size:Int)-1)>-1 then(((a.size:Int)-1)-(-1)-(-1)-1)/(-(-1)) else 0)).toNat)).filterMap _).toArray.toList=_;rw[e,LF,Gv];refine Y7 λc b=>?_
 have b:=uB.mp b;show a[((a.size:Int)-1+-1*(c:Int)).toNat]?=a.toList.reverse[c]?;rw[List.getElem?_reverse (by rw[jN];exact b),jN,gP]
 congr 1
 omega
theorem aW.reverse(d:aW h M b a):aW h M b.reverse a.reverse:=d.ind (m:=λb a=>aW h M b.reverse a.reverse) .nil λc z e=>by rw[ux,ux];exact e.append (.one c)
section
variable {c:C}{ρ:Nm}{e:aT}{v:V}{pos p p1 p2 p3:Pos}{ds:aH}{k1:Nat}{n:Int}
def cF.rev(h:Ev c ρ e v)(n:iA c v ds):cF c ρ (.Subscript e (.Slice ai ai (U (.UnaryOp .USub (.Constant (.int 1) k1 p1) p2)) p) pos) ds.reverse:=by
 intros c ρ e v pos p p1 p2 ds k1 _ h n;exact λE b=>by
  refine C8 (aS (h E b) (λH A a=>Gl (aS (HM.run A (b.kp a.k)) (λs G ⟨d,q⟩=>aS (HM.run G (b.kp (a.k.trans d))) (λu t ⟨g,D⟩=>aS ((nq.int (Ev.neg aQ)).run t (b.kp ((a.k.trans d).trans g))) λx B ⟨l,z⟩=>?_)))));have i:=((a.k.trans d).trans g).trans l;let ⟨F,C,zy,w,m,j⟩:=(a.r.keep ((d.trans g).trans l).keep).qq (b.bs.kp i) n;have f:=g8 B {cls:=.type "slice",data:=.fields #[s,u,x]};have o:=w.at (f.keep F);have y:C.size<=sizeLine:=by rw[j.size];exact gZ m
  refine wD o.isList.typeIs slot_list_getitem.lookup (Lh o.isList (Hp ..) q D z (by simp) ?_ y) J;refine⟨(i.trans f).trans (g8 _ _),_,_,rfl,fL (i.trans f) (dX _),⟨0,dw _ J⟩,by rw[yj];exact m,?_⟩;rw[Y8];exact(aW.reverse (j.keep f.keep)).fresh (dX _) λZ Z e=>cG _ e
def Y9(y:c.A.handled=ai)(k:Kp b a)(hr:IsRange a.heap d 0 n 1 g u f)(h:0<=n/\n<=1000000):wpAny c.m c.A (call (.type "list") [.ref d]) (Oi c b (gA 0 n.toNat)) no a:=by
 have lim:n.toNat<=bf:=wo.mpr h.2;have l:(gA 0 n.toNat).length=n.toNat:=by unfold gA;rw[aP,gx]
 refine call_list_range (n:=n.toNat) y hr (OB 0 n ∅ ⟨dN ∅ h.1,h.2⟩) ((HS 0 n).trans (by rw[GP])) (aj lim ∅) λD z w C s r i=>?_
 refine⟨⟨k.gens,k.os,λo p q=>s o p (k.keep o p q)⟩,_,w,rfl,fL k (dX _),⟨_,r⟩,by rw[l];exact lim,?_⟩;refine Iw (by rw[jN,i.1,l]) λj v e=>?_
 rw[gP] at e;let ⟨B,x⟩:=i.2 j v e;have t:j<n.toNat:=by rw[<-i.1];exact(Array.getElem?_eq_some_iff.mp e).1
 refine⟨.int (0+(j:Int)),by unfold gA;rw[cC,pZ t];rfl,?_⟩;rw[x,Mc];exact .int _ _
def cF.Za(h:Ev c ρ e (.d (.int n)))(g:0<=n/\n<=1000000)(i:autoParam (c.env.kindOf "range"=U .globalImplicit) aI)(f:autoParam (c.env.kindOf "list"=U .globalImplicit) aI)(hs:autoParam (cD e=aA) aI):cF c ρ (.Call (.Name "list" p2) [.Call (.Name "range" p) [e] [] pos] [] p3) (gA 0 n.toNat):=by
 intros c ρ e pos p p2 p3 n _ h g i f hs;exact λq a=>by
  refine yM (a.tF f ∅ By ∅ ∅ ?_);refine Hf (m8 ?_) (iL _ J []) J;refine nA a i ∅ HR ∅ ∅ (.cons h .nil hs) (rV hs) (lC _ _) λk l j b=>?_
  apply mC b;intro m b;let ⟨o,zy⟩:=b.eF;refine call_range_1 (qj ?_);exact Y9 a.bs.room.hh (j.trans ((g8 k _).trans (iS _ _))) (dw _ J) g
end
def Zb:∀{a:Nat} {d:D},b[a]?=U d->(D.fS b)[a]?=U d.py:=by
 induction b with
 |nil=>exact λc=>nomatch An.symm.trans c
 |cons f b e=>
  intro a d c;cases a with
  |zero=>exact aR (rP D.py) c
  |succ a=>exact e c
section
variable {c:C}{ρ:Nm}{e o:aT}{v:V}{pos apos:Pos}{ds:aH}{x:D}{j:Nat}
theorem Ev.index(h:Ev c ρ o v)(w:iA c v ds)(M:Ev c ρ e (.d x))(hj:∃d,ds[j]?=U d/\dS d x=af)(L:∀(i:Nat) d,i<j->ds[i]?=U d->dS d x=aA)(r:min (D.dO ds) x.dep<=400)(Q:autoParam (attributeBase o "index" c.env (eval o c.env)=eval o c.env) aI)(S:autoParam ((apos.endLine==pos.line)=af) aI)(G:autoParam (cD e=aA) aI):
 Ev c ρ (.Call (.Attribute o "index" apos) [e] [] pos) (.d (.int j)):=λX t=>
 Bc t h (.cons M .nil G) G6 M5 PySem.F.type_list_index (λX Y l av=>by
  let ⟨E,b,zy,i,_⟩:=av.qq l w;let ⟨y,f⟩:=i;exact⟨⟨_,f,rfl⟩,λa4 e=>by cases e;exact⟨_,f,rfl⟩⟩) Q S (rV G) (bM J) λm Y ax s P ae=>by
  have l:=t.bs.kp s;apply mC ae;intro aw au;let ⟨E,b,zy,i,W,z⟩:=P.qq l w;let ⟨y,f⟩:=i;let ⟨p,B⟩:=aW.reads z;let ⟨a0,I⟩:=p;let ⟨p,R⟩:=yK au;let ⟨a3,N⟩:=p;have Z:=readsAll_map _ _ _ B I
  have A:∀(a:Nat) (g:a<b.size) (d:D),ds[a]?=U d->jP (readOf m.heap b[a]) x.py=dS d x:=λa g d r=>by
   have H:=Zb r;rw[<-Z,cC,gP,yq g] at H;rw[show readOf m.heap b[a]=d.py from dF H];rfl
  let ⟨d,K,O⟩:=hj;have n:b.size=aa ds:=z.size;have q:j<aa ds:=(fH.mp K).1;refine Aj M5 ⟨_,f,rfl⟩ PySem.F.entry_list_index (PySem.F.args_list_index_2 _ _) (list_indexAt E b y m9 #[] aw (λT=>jP (readOf m.heap T) x.py) j (by rw[n];exact q) ?_ ?_ λa g V=>?_) ⟨f,items_eqAt I N B R (by rw[yH,D.wK];exact uM (k:=1) r l.room.u J),s.trans (iS m _),.int _ _⟩
  .exact rL (dB.mpr (jL q W)) ∅
  .exact(A j (by rw[n];exact q) d K).trans O
  have C:=dZ (n▸g:a<aa ds);exact(A a g _ C).trans (L a _ V C)
end
def Zc{z:Program}{y:World}{x:Around}{w:Shared}{B d:aC}{v:cI}
 (h:wpAny (model z y) x.in1 (pyIter B) (λp e=>∃o m wr n k St l,∃j:bY->Prop,p=.ref o/\Walks z y x.in1 o m wr n k St/\St 0 e.heap/\(∀b∈m,b<e.heap.objs.size)/\j e.heap/\(∀h c,j h->(∀b a,b∉wr->b≠e.heap.objs.size->h.get? b=U a->c.get? b=U a)->j c)/\
  (∀i s q r (w:Shared) (v:cI) (t:cI),j w.heap->k i q->k s r->v (.bool (l i s)) w->wpAny (model z y) x.in1 (richCompare .Gt q r) v t w)/\
  (∀f c g,0<n->k (argBest l (n-1)) f->(∀b a,b∉wr->e.heap.get? b=U a->c.get? b=U a)->v f {e with heap:=c,toks:=g})/\
  (∀c g,n=0->(∀b a,b∉wr->e.heap.get? b=U a->c.get? b=U a)->v d {e with heap:=c,toks:=g})) no w):
 wpAny (model z y) x (call (.builtin "max") [B] [("default",d)]) v no w:=by
 intros z y x w B d v _ h;have L:(toString "max"++toString ".loop":String)="max.loop":=by decide
 refine uw (Ga MW MX ?_);have M:=PW B d;simp only[checkBuiltinCall,MY]
 have main:wpAny (model z y) x.in1 (gX.«max» ⟨[B],[("default",d)]⟩) (λP A=>match P with
  |.done V=>(match (Hw V:rE) with|.ok (.ret f)=>v f A|.ok _=>False|.error u=>no u A)
  |.again F=>F.quiet=af/\codeAny (model z y) x F (λae A=>match ae with|.ok (.ret f)=>v f A|.ok _=>False|.error u=>no u A) A) no w:=by
  show wpAny _ x.in1 (Dh "max" ["key","default"] 0 ⟨[],[("default",d)]⟩>>=_) _ _ w;refine ay (rF (show Dh "max" ["key","default"] 0 ⟨[],[("default",d)]⟩=pure [ai,U d] from rfl) ?_);refine ay (aM ?_);refine ay (kL h (λp e H=>?_) λ_ _ u=>u);intros p e _ H;obtain⟨o,m,wr,n,k,St,l,j,rfl,W,Y,O,K,I,S,R,Z⟩:=H;refine ay (wpAny_newObj_type ?_);have Q:e.heap.objs.size∉m:=λT=>z9 _ (O _ T)
  rw[L];refine aM ⟨pX uK _,PU (G:=j) W l e.heap.objs.size Q I S (W.frame _ _ _ Y λb _ a u=>cG _ u) (I _ _ K λb a _ _ u=>cG _ u) (dw _ J) (λf c g C N E=>?_) λc g C E=>?_⟩
  .exact R f c g C N λb a D u=>E b a D (eN (d7 u)) (cG _ u)
  exact⟨_,d,[],rfl,Z c g C λb a D u=>E b a D (eN (d7 u)) (cG _ u)⟩
 cases IT:Nq "max" with
 |none=>exact aM main
 |some au=>
  have X:Nr "max" au ⟨[B],[("default",d)]⟩=pure ():=by simpa only[argsOk,IT] using M
  simp only[X];exact aM main
section
variable {c:C}{ρ:Nm}{e e₂:aT}{v:V}{p pos kp:Pos}{ds:aH}
def Ev.QF{kf:D->Int}{n L:D}(h:Ev c ρ e v)(Z:iA c v ds)(a4:Ev c ρ e₂ (.d L))(a7:∀a∈ds,∀b∈ds,D.ord .Gt a b=U (decide (kf a>kf b)))(R:(ds=[]->n=L)/\(ds≠[]->n∈ds/\(∀a∈ds,kf a<=kf n)/\∀a∈ds,kf a=kf n->a=n))(a8:D.dO ds<=400)
 (Y:autoParam (c.env.kindOf "max"=U .globalImplicit) aI) (G:autoParam (cD e=aA) aI):Ev c ρ (.Call (.Name "max" p) [e] [⟨U "default",e₂,kp⟩] pos) (.d n):=by
 intros c ρ e e₂ v p pos kp ds _ kf n L h Z a4 a7 R a8 Y G;exact λP x=>by
  have bj:eval (.Call (.Name "max" p) [e] [⟨U "default",e₂,kp⟩] pos) c.env=(do callWith pos (<-eval (.Name "max" p) c.env) [] (backTo pos (starEach [e] c.env)) (backToKw pos (keywordEach [⟨U "default",e₂,kp⟩] c.env))):=rfl;rw[bj];refine ay (x.tF Y ∅ IQ ∅ ∅ ?_);have bp:backTo pos (starEach [e] c.env)=(aA,eval e c.env)::backTo pos (starEach [] c.env):=by rw[iL _ G];rfl
  refine callWith_kw (e:=e) (rest:=[]) (kws:=[⟨U "default",e₂,kp⟩]) (M:=c.m) (env:=c.env) ?_ bp (qx (es:=[e]) (rV G) pos c.env) J J;rw[iL _ G];refine m8 (aS (h P x) (λa cz N=>qj ?_));refine kws_cons (aS (a4 cz (x.kp N.k)) (λb g O=>kws_nil ?_));have T:=N.k.trans O.k;let ⟨Q,B,zy,f,a0,W⟩:=yJ (N.r.keep O.k.keep) (x.bs.kp T) Z;have X:=W.size;have ae:Q<g.heap.objs.size:=f.elim λc3 f=>d7 f
  let l:Nat->Int:=λf=>kf (ds.getD f kQ)
  have a9:g.heap.get? g.heap.objs.size=m9:=dX _;have cf:g.heap.get? (g.heap.objs.size+1)=m9:=L8 (jw _);have aw:∀(o:bY) (t:Nat),(∀i q,i∉[g.heap.objs.size]->(g.heap.push {cls:=.type "list_iterator",data:=.fields #[.ref Q,.int 0 0]}).get? i=U q->o.get? i=U q)->Kp g {g with heap:=o,toks:=t}:=λo t keep=>⟨rfl,rfl,λi q e=>keep i q (λj=>ns (dh.mp j▸a9) e) (cG _ e)⟩
  refine Zc (xX f.isList ⟨g.heap.objs.size,_,_,B.size,_,_,λf s=>decide (l f>l s),λh=>aW h (λi=>c.M i\/i=g.heap.objs.size\/i=g.heap.objs.size+1) B.toList ds,rfl,Ni (prog:=c.prog) (w:=c.w) (A:=c.A.in1) x.bs.room.hh g.heap.objs.size Q (eN ae) B,⟨⟨_,dw _ J,rfl,rfl⟩,f.isList.push _⟩,λi j=>?_,?_,?_,?_,?_,?_⟩)
  .show i<(g.heap.push _).objs.size;rw[wF];rcases bN.mp j with e|j
   .rw[e];exact l7 _
   rw[dh.mp j];exact vQ ae
  .exact W.mono λi q z _ e=>⟨cG _ e,λh=>h.elim z λh=>h.elim (λK=>ns (K▸a9) e) λK=>ns (K▸cf) e⟩
  .intro h o F b1;exact F.mono λi q z _ e=>⟨b1 i q (λj=>z (.inr (.inl (dh.mp j)))) (λj=>z (.inr (.inr (j.trans (wF _ _))))) e,z⟩
  .intro f s bo b4 P b3 c2 F H ct b6;let ⟨C,I,b5⟩:=F.get' (by rw[gP];exact H);let ⟨S,a5,c0⟩:=F.get' (by rw[gP];exact ct);have bk:l f=kf C:=by show kf (ds.getD f kQ)=_;rw[kN,I];rfl
   have b2:l s=kf S:=by show kf (ds.getD s kQ)=_;rw[kN,a5];rfl
   have a3:b3 (.bool (decide (l f>l s))) P:=b6;rw[bk,b2] at a3;have au:=iZ I;exact kR.rep (op:=.Gt) J C.dep C S c.A.in1 bo b4 _ (cB _) b5 c0 (a7 C au S (iZ a5)) (uM (k:=1) (aj (D.Dv au) a8) x.bs.room.u J) _ _ _ _ a3
  .intro v o t av bt keep;have y:=aw o t keep;let ⟨E,ax,cw⟩:=W.get' (by rw[gP];exact bt);have V:=iZ ax;have j:=PV l (B.size-1);let ⟨cx,cm,cb⟩:=R.2 (LN V);have cp:l (argBest (λf s=>decide (l f>l s)) (B.size-1))=kf E:=by show kf (ds.getD _ kQ)=_;rw[kN,ax];rfl
   have cq:E=n:=by
    refine cb E V (sY (cm E V) ?_);refine(LK cx).elim λf a0=>a0.elim λH I=>?_
    have a6:=j.2 f (vO (X▸H));have:l f=kf n:=by show kf (ds.getD f kQ)=_;rw[<-I];simp[kN,H]
    rw[cp,this] at a6;exact a6
   subst cq;exact⟨T.trans y,cw.keep y.keep⟩
  intro o t av keep;have y:=aw o t keep;rw[R.1 (Am.mp (X▸av))];exact⟨T.trans y,yG O.r y.keep⟩
end
def jC.tuple(J:A.handled=ai)(l n:ak)(C:n≠l)(u:Array aC)(t:aH)(hl:u.size=aa t):
 jC prog c A l [l,n] [l] t (λM i h=>h.IsTupleIter l n i/\PT h n u/\aW h M u.toList t) where
 sub:=λd g=>by simp at g;simp[g]
 has:=λM i h b=>eU.mpr ⟨b.1.imp λa f=>f.1,rI.mpr (b.2.1.elim λk f=>⟨_,f⟩)⟩
 frame:=λM i h p b j=>⟨b.1.at λa e=>j l a (.inl (by simp)) e,b.2.1.at λa e=>j n a (.inl (by simp)) e,b.2.2.mono λm a k b e=>⟨j m a (.inr ⟨k,b⟩) e,k⟩⟩
 up:=λM O i h b j=>⟨b.1,b.2.1,b.2.2.mono λm a k b e=>⟨e,λH=>k (j m a e H)⟩⟩
 off:=λM i h b d g E q=>by
  simp at g;subst g;exact b.1.elim λa f=>dF (f.1.symm.trans q)▸⟨_,f.2.2⟩
 item:=λM i N Q o y K F P r=>by
  let ⟨m,d,B⟩:=F;let ⟨v,D,I⟩:=B.get K
  have w:∀d∈[l],∀a,o.heap.get? d=U a->lN a:=λd g E q=>by
   simp at g;subst g;exact m.elim λa f=>dF (f.1.symm.trans q)▸⟨_,f.2.2⟩
  refine wpAny_pyNext_tuple_item m d.AX (x:=v) (by rw[<-gP];exact D) λp z G=>⟨v,rfl,?_⟩
  have j:∀d a,d∉[l]->o.heap.get? d=U a->p.get? d=U a:=λd a g e=>G.extBut d a (by simpa using g) e
  refine(id z).elim λa f=>?_
  exact DE (s:={o with heap:=p}) f.1 f.2.1 ∅ (r v _ (I.off j w) ⟨z,d.at λa e=>j n a (by simpa using C) e,B.off j w⟩ ⟨rfl,rfl,λd a k e=>j d a k e⟩)
 done:=λM o y b r=>wpAny_pyNext_tuple_end J b.1 b.2.1.AX (by simp[hl]) λp L=>⟨rfl,r _ ⟨rfl,rfl,λd a k e=>L d a (by simpa using k) e⟩⟩
 self:=λM i o y b f=>wpAny_pyIter_tupleiter b.1 f
section
variable {c:C}{ρ:Nm}{e:aT}{p pos:Pos}{ds:aH}
theorem eG.tup(h:Ev c ρ e (.d (.tup ds))):eG c ρ e ds:=λo g=>aS (h o g) (λs f b=>by
 let ⟨j,m,zy,a,p,n,i⟩:=HH b.r;have q:j<f.heap.objs.size:=a.elim λl a=>d7 a
 refine Lq a.AX ⟨b.k.trans (g8 f _),n,f.heap.objs.size,_,_,_,rfl,?_,?_,?_,jC.tuple g.bs.room.hh f.heap.objs.size j (eN q) m ds i.size,?_⟩
 .exact rI.mpr (fL b.k (dX _))
 .exact eU.mpr ⟨(g.bs.kp b.k).size,rI.mpr p⟩
 .exact eU.mpr ⟨⟨_,dw _ J⟩,rI.mpr (a.elim λl a=>⟨_,cG _ a⟩)⟩
 exact⟨⟨_,dw _ J,rfl,rfl⟩,a.at λt e=>cG _ e,i.keep λz z e=>cG _ e⟩)
def cF.Zd(h:Ev c ρ e (.d (.tup ds)))(s:autoParam (c.env.kindOf "list"=U .globalImplicit) aI)(hs:autoParam (cD e=aA) aI):cF c ρ (.Call (.Name "list" p) [e] [] pos) ds:=λz o=>by
 refine nA o s ∅ By ∅ ∅ (cR h eX hs) (rV hs) (lC _ _) λa w b i=>?_
 apply mC i;intro x k;let ⟨r,q,zy,n,A,f,g⟩:=Ol k;refine n.elim λy l=>?_
 have j:=g.size;refine call_list_seq r (.inr J) l J J (λu t keep m=>?_) (by rw[j];exact gZ f);have v:Kp a {a with heap:=u}:=⟨rfl,rfl,keep⟩;exact⟨b.trans v,a.heap.objs.size,q,rfl,fL b (dX _),⟨t,m⟩,f,g.fresh (dX _) keep⟩
end
def Ze:bootBuiltins "zip"=U (.type "zip"):=by first|rfl|decide+kernel
section
variable {c:C}{ρ:List (Str×V)}{s s':Shared}{a:ak}
def St.hide(e:St c ρ s)(h:Kp s s')(o:s.heap.get? a=ai)(ho:s'.heap.get? a=U d):St {c with M:=λb=>c.M b\/b=a} ρ s':=by
 intros c ρ s s' a d _ e h o ho;have r:∀{p:aC} {q:D},Rep s.heap c.M p q->Rep s'.heap (λb=>c.M b\/b=a) p q:=λw=>w.mono λb d t z f=>⟨h.keep b d f,λg=>g.elim t λg=>ns (g▸o) f⟩
 exact⟨⟨λb d f=>h.keep b d (e.bs.keep b d f),e.bs.base,e.bs.room,λb j=>j.elim (λj=>(e.bs.fR b j).imp λd f=>h.keep b d f) λj=>⟨d,j▸ho⟩,λb g=>.inl (e.bs.xm b g),λb j=>j.elim (e.bs.jS b) λf=>e.bs.tB (f▸o),
  λb v f=>have i:=e.bs.dc b v f;⟨.inl i.1,i.2.1,i.2.2.mono r (h.keep b)⟩,λb g=>have i:=e.bs.iR b g;⟨.inl i.1,i.2.1,i.2.2⟩,λb g=>.inl (e.bs.bm b g)⟩,e.kind,e.globals,e.builtins,e.inj,λl a u=>(e.qo l a u).imp λn m=>m.keeps h.keep,λl n f=>have k:=e.vars l n f;⟨k.1,k.2.1,k.2.2.imp λp k=>⟨k.1.gen (λd f=>h.keep _ d f) (λa n m=>m.keeps h.keep),k.2.mono r⟩⟩⟩
end
structure ZT(z TI TO i1 i2 l1 l2:ak)(ds es:aH)(M:bC)(i:Nat)(h:bY):Prop where
 z:IsZip h z TI TO .none
 ti:IsPair h TI (.ref i1) (.ref i2)
 to:∃a b,IsPair h TO a b
 i1:h.IsListIter i1 l1 i
 i2:h.IsListIter i2 l2 i
 m:M TO
 q1:Rep h M (.ref l1) (.lst ds)
 q2:Rep h M (.ref l2) (.lst es)
def Rep.EE(a:Rep h M (.ref c) (.lst d)):∃e,PL h c e/\aW h M e.toList d/\¬M c:=by
 intros h M c d _ a;cases a with
 |lst f b g a=>exact⟨_,f,a,b⟩
def f5{c:bC}{f b g d e:ak}(h1:c f)(h2:c b)(h:c g)(j:c d)(i:c e):∀a∈[f,b,g,d,e],c a:=eU.mpr ⟨h1,eU.mpr ⟨h2,eU.mpr ⟨h,eU.mpr ⟨j,eU.mpr ⟨i,Az _⟩⟩⟩⟩⟩
def f4{P:bC}{c b e d:ak}(h1:P c)(h2:P b)(f:P e)(g:P d):∀a∈[c,b,e,d],P a:=eU.mpr ⟨h1,eU.mpr ⟨h2,eU.mpr ⟨f,eU.mpr ⟨g,Az _⟩⟩⟩⟩
def tT(c b:aH):aH:=(c.zip b).map λa=>.tup [a.1,a.2]
def Zf{c e:aH}{i:Nat}{d:D}(h:(tT c e)[i]?=U d):∃a b,c[i]?=U a/\e[i]?=U b/\d=.tup [a,b]:=by
 unfold tT at h;rw[cC] at h;cases hz:(c.zip e)[i]? with
 |none=>rw[hz] at h;cases h
 |some f=>
  rw[hz] at h;cases h;have:=List.getElem?_zip_eq_some.mp hz;exact⟨f.1,f.2,this.1,this.2,rfl⟩
def yQ.zip{a8:Program}{a0:World}{R:Around}{a6:cN}{n:Nat}{aw:Pos}(bt:R.handled=ai){p H r x w Y Z:ak}(k:ZipApart p H r x w Y Z)(A C:aH)(av:aa A=aa C):
 yQ (.Tuple a6 n aw) a8 a0 R p [p,H,r,x,w] [p,r,x,w] [r] (tT A C) (ZT p H r x w Y Z A C) where
 sub:=f4 (.head _) (.tail _ (.tail _ (.head _))) (.tail _ (.tail _ (.tail _ (.head _)))) (.tail _ (.tail _ (.tail _ (.tail _ (.head _)))))
 hs:=eU.mpr ⟨.tail _ (.head _),Az _⟩
 has:=λj B f a=>f5 ⟨_,a.z⟩ ⟨_,a.ti⟩ (a.to.elim λ_ f=>f.elim λ_ f=>⟨_,f⟩) (a.i1.imp λ_ f=>f.1) (a.i2.imp λ_ f=>f.1)
 frame:=λj B f J a e=>⟨e _ _ (.inl (.head _)) a.z,e _ _ (.inl (.tail _ (.head _))) a.ti,a.to.imp λ_ f=>f.imp λ_ f=>e _ _ (.inl (.tail _ (.tail _ (.head _)))) f,a.i1.at λc b=>e _ c (.inl (.tail _ (.tail _ (.tail _ (.head _))))) b,a.i2.at λc b=>e _ c (.inl (.tail _ (.tail _ (.tail _ (.tail _ (.head _)))))) b,a.m,a.q1.mono λl c n d b=>⟨e l c (.inr ⟨n,d⟩) b,n⟩,a.q2.mono λl c n d b=>⟨e l c (.inr ⟨n,d⟩) b,n⟩⟩
 up:=λj ct B f a y O=>⟨a.z,a.ti,a.to,a.i1,a.i2,O r (.head _),a.q1.mono λl c n d b=>⟨b,λt=>n (y l c b t)⟩,a.q2.mono λl c n d b=>⟨b,λt=>n (y l c b t)⟩⟩
 off:=λj B f a=>f4 (λc b=>.inl (by cases a.z.symm.trans b;exact⟨_,rfl⟩)) (λc b=>.inr ⟨a.m,by let ⟨_,_,o⟩:=a.to;cases o.symm.trans b;exact λcf d=>nomatch d⟩) (λc b=>.inl (by let ⟨_,o,_,u⟩:=a.i1;cases o.symm.trans b;exact⟨_,u⟩)) (λc b=>.inl (by let ⟨_,o,_,u⟩:=a.i2;cases o.symm.trans b;exact⟨_,u⟩))
 item:=λj B I s T O a b2 K=>by
  let ⟨cx,cq,b6,bo,b⟩:=Zf O;subst b;let ⟨l,i,N⟩:=a.to;let ⟨a3,G,M,cb⟩:=a.q1.EE;let ⟨a4,L,W,a9⟩:=a.q2.EE;let ⟨y,V,cm⟩:=M.get b6;let ⟨cf,Q,bj⟩:=W.get bo;rw[gP] at V Q;have b5:s.heap.objs.size≠p:=pR (d7 a.z);refine wpAny_pyNext_zip_item k a.z a.ti N a.i1 a.i2 G.isList L.isList V Q λJ bp b1 a7 au b3 cw X=>⟨_,rfl,wpAny_letOwnedTupleGo_zip bp λF bk ax=>?_⟩
  have e:∀g c,g≠p->J.get? g=U c->F.get? g=U c:=λg c h b=>(ax.2 g h).trans b
  have S:∀g c,g∉[p,r,x,w]->s.heap.get? g=U c->F.get? g=U c:=λg c h b=>e g c (λd=>h (d▸.head _)) (X g c (λd=>h (d▸.head _)) (λd=>h (d▸.tail _ (.head _))) (λd=>h (d▸.tail _ (.tail _ (.head _)))) (λd=>h (d▸.tail _ (.tail _ (.tail _ (.head _))))) b)
  have a5:∀{i:ak} {c:Obj},¬j i->jR c->s.heap.get? i=U c->i∉[p,r,x,w]:=λ{i c} v q b t=>by
   revert v q b;refine f4 (P:=λi=>¬j i->jR c->s.heap.get? i=U c->False) (λ_ q b=>?_) (λv _ _=>v a.m) (λ_ q b=>?_) (λ_ q b=>?_) i t
   .cases a.z.symm.trans b;exact oX q ⟨_,rfl⟩
   .let ⟨_,o,_,u⟩:=a.i1;cases o.symm.trans b;exact oX q ⟨_,u⟩
   let ⟨_,o,_,u⟩:=a.i2;cases o.symm.trans b;exact oX q ⟨_,u⟩
  have E:∀{y:aC} {I:D},Rep s.heap j y I->Rep F j y I:=λcp=>cp.mono λi c v q b=>⟨S i c (a5 v q b) b,v⟩
  have b4:¬j s.heap.objs.size:=λt=>(b2 _ t).elim λc b=>ns (dX _) b
  exact K _ _ (.tup ⟨_,e _ _ b5 b3⟩ b4 (show 2<=bf by decide) (.cons (E cm) (.cons (E bj) .nil)))
   ⟨bk,e _ _ k.TIz (X _ _ k.TIz k.TITO k.TIi1 k.TIi2 a.ti),⟨_,_,e _ _ k.TOz b1⟩,a7.at λc b=>e _ c k.i1z b,au.at λc b=>e _ c k.i2z b,a.m,E a.q1,E a.q2⟩ ⟨rfl,rfl,S⟩
 done:=λj s T a K=>by
  let ⟨l,i,N⟩:=a.to;let ⟨a3,G,M,cb⟩:=a.q1.EE;let ⟨a4,L,W,a9⟩:=a.q2.EE;have ae:(tT A C).length=aa A:=by unfold tT;rw[aP,CK,<-av,FU]
  refine wpAny_pyNext_zip_end bt k a.z a.ti N a.i1 a.i2 G.isList L.isList (.inl (wu ?_)) λJ e=>⟨rfl,K _ ⟨rfl,rfl,λg c h b=>e g c (λd=>h (d▸.head _)) (λd=>h (d▸.tail _ (.head _))) (λd=>h (d▸.tail _ (.tail _ (.head _)))) (λd=>h (d▸.tail _ (.tail _ (.tail _ (.head _))))) b⟩⟩
  have:=M.length;rw[jN] at this;rw[this,ae];exact cB _
 self:=λj B s T a d=>Ls a.z d
section
variable {c:C}{ρ:List (Str×V)}{e₁ e₂:aT}{ds es:aH}{p zp:Pos}{QG:cN}{n:Nat}{tp:Pos}
theorem uW.zip(C:Ev c ρ e₁ (.d (.lst ds)))(P:Ev c ρ e₂ (.d (.lst es)))(y:aa ds=aa es)(S:autoParam (c.env.kindOf "zip"=U .globalImplicit) aI)(r:autoParam (cD e₁=aA) aI)(o:autoParam (cD e₂=aA) aI):uW (.Tuple QG n tp) c ρ (.Call (.Name "zip" zp) [e₁,e₂] [] p) (tT ds es):=by
 intros c ρ e₁ e₂ ds es p zp QG n tp _ C P y S r o;exact λax l=>by
  refine nA l S ∅ Ze ∅ ∅ (.cons C (.cons P .nil o) r) (DF r o) (lC _ _) λa av e j=>?_
  cases j with
  |@cons a0 _ _ _ Q j=>
  cases j with
  |@cons a5 _ _ _ B j=>
  cases j;let ⟨u,aw,zy,K,_,Y,_⟩:=wJ Q;let ⟨x,a3,zy,z,_⟩:=wJ B;have s:u<a.heap.objs.size:=let ⟨n,w⟩:=K;d7 w;have q:x<a.heap.objs.size:=let ⟨n,w⟩:=z;d7 w;refine call_zip_2 K.isList z.isList λG v N m H F a4 O=>Ls v ?_
  have g:∀f,a.heap.get? (a.heap.objs.size+f)=ai:=λf=>by
   cases i:a.heap.get? (a.heap.objs.size+f) with
   |none=>rfl
   |some E=>exact aV (d7 i) (gO.mpr (fz _ _))
  have ae:ZipApart (a.heap.objs.size+4) (a.heap.objs.size+2) (a.heap.objs.size+3) a.heap.objs.size (a.heap.objs.size+1) u x:=by
   generalize a.heap.objs.size=R at s q;have s:@LT.lt Nat _ u R:=s;have q:@LT.lt Nat _ x R:=q;constructor<;>exact λb=>aV (show(_:Nat)=_ from b) (by first|exact λb=>aV (Nat.add_left_cancel b) ∅|exact eN (Cs ∅)|exact(eN (Cs ∅)).symm|exact eN ‹_›|exact eN (Nat.lt_add_right _ ‹_›))
  have I:=l.bs.kp e;have k:∀f,¬c.X (a.heap.objs.size+f):=λf Z=>I.new (g f) (I.xm _ Z)
  have T:Kp a {a with heap:=G}:=⟨rfl,rfl,O⟩;have L:∀{V:aC} {A:D},Rep a.heap c.M V A->Rep G (λh=>c.M h\/h=a.heap.objs.size+3) V A:=λau=>au.mono λh E W _ i=>⟨O h E i,λt=>t.elim W λt=>ns (t▸g 3) i⟩
  exact⟨e.trans T,by unfold tT;rw[aP,CK];exact aj (oA _ _) Y,_,_,_,_,_,_,rfl,f4 (fL e (g 4)) (fL e (g 3)) (fL e (g 0)) (fL e (g 1)),f5 (k 4) (k 2) (k 3) (k 0) (k 1),f5 ⟨_,v⟩ ⟨_,N⟩ ⟨_,m⟩ (H.imp λ_ b=>b.1) (F.imp λ_ b=>b.1),yQ.zip l.bs.room.hh ae ds es y,(l.kp e).hide T (g 3) m,λh b=>.inl b,λh b=>b.imp id λ(i:h=a.heap.objs.size+3)=>i▸.head _,eU.mpr ⟨.inr J,Az _⟩,⟨v,N,⟨_,_,m⟩,H,F,.inr J,L Q,L B⟩⟩
end
section
variable {c:C}{ρ:Nm}{e:aT}{v:V}{p1 p2 p3 p4:Pos}{ds:aH}
def bX.typeIs(h:Ev c ρ e v)(j:bootBuiltins a=U (.type b))(n:∀(s:Shared) d,Bs c s->fD c s.heap d v->s.TypeIs d b)(u:a∈oS:=by decide)(m:(a==("__debug__":Str))=aA:=by decide)(o:a≠"__name__":=by decide)(q:(qi b==qi "builtin_function_or_method")=aA:=by decide)(r:autoParam (c.env.kindOf "type"=U .globalImplicit) aI)(l:autoParam (c.env.kindOf a=U .globalImplicit) aI)(i:autoParam (cD e=aA) aI):bX c ρ (.Compare (.Call (.Name "type" p1) [e] [] p2) [.Is] [.Name a p3] p4) af:=λs g=>
 Gj (nA g r ∅ Qy ∅ ∅ (.cons h .nil i) (rV i) (lC _ _) λp x f k=>by
  apply mC k;intro w t;refine call_type_of (Tx:=b) (n p w (g.bs.kp f) t) q ?_;refine(g.kp f).tF l u j m o ?_;exact wpAny_is_self J (Ag ⟨f,rfl⟩)) J
def Zg:bootBuiltins "tuple"=U (.type "tuple"):=by first|rfl|decide+kernel
def bX.Zh(h:Ev c ρ e (.d (.tup ds)))(g:autoParam (c.env.kindOf "type"=U .globalImplicit) aI)(a:autoParam (c.env.kindOf "tuple"=U .globalImplicit) aI)(f:autoParam (cD e=aA) aI):bX c ρ (.Compare (.Call (.Name "type" p1) [e] [] p2) [.Is] [.Name "tuple" p3] p4) af:=
 bX.typeIs h Zg (λn j k i=>by
  let ⟨o,m,zy,⟨l,b⟩,_⟩:=HH i;exact⟨_,b,rfl⟩) ∅ ∅ ∅ ∅ g a f
def bX.Zi(h:Ev c ρ e (.d (.lst ds)))(g:autoParam (c.env.kindOf "type"=U .globalImplicit) aI)(b:autoParam (c.env.kindOf "list"=U .globalImplicit) aI)(f:autoParam (cD e=aA) aI):bX c ρ (.Compare (.Call (.Name "type" p1) [e] [] p2) [.Is] [.Name "list" p3] p4) af:=
 bX.typeIs h By (λn j k i=>by
  let ⟨o,m,zy,a,_⟩:=wJ i;exact a.elim λl a=>⟨_,a,rfl⟩) ∅ ∅ ∅ ∅ g b f
end
def all0{b:cQ->Prop}(h:b []):∀a:cQ,aa a=0->b a:=λa c=>by
 rw[Am.mp c];exact h
def dK{d:cQ->Prop}{n:Nat}(h:∀b,∀a:cQ,aa a=n->d (b::a)):∀a:cQ,aa a=n+1->d a:=λa c=>by
 cases a with
 |nil=>cases c
 |cons b a=>exact h b a (yy c)
structure WW(g:G0)(P:Params):Prop where
 hK:g.K=hd.heap_1 P
 jB:g.K.In g.h₀
 hc:g.cls=88
 Zj:g.mg "_Pax"=U (.ref 88)
 Zk:g.mg "fresh"=U (.ref 99)
 JA:g.mg "step"=U (.ref 106)
 Zl:g.mg "play"=U (.ref 111)
 QH:g.mg "_law_put"=U (.ref 123)
 QI:g.mg "_law_links"=U (.ref 128)
 Zm:g.mg "_law_log"=U (.ref 133)
 Zn:g.mg "_law_office"=U (.ref 138)
 Zo:g.mg "_law_votes"=U (.ref 143)
 Zp:g.mg "_law_again"=U (.ref 148)
section
variable {g:G0}{P:Params}(W:WW g P)
include W
def sF{n:Str}{a:Option aC}(b:plainGet (hd.heap_1 P) 88 n=af)(d:findIn (hd.heap_1 P) (.ref 88) n=U a)(e:noGet (hd.heap_1 P) a=af)(c:takerIn (hd.heap_1 P) 88 n=U ai):gU g n:=
 ⟨W.hK.symm▸W.hc.symm▸b,⟨a,W.hK.symm▸W.hc.symm▸d,W.hK.symm▸e⟩,W.hK.symm▸W.hc.symm▸c⟩
def tU{n:Str}{a:ak}(c:plainGet (hd.heap_1 P) 88 n=af)(d:findIn (hd.heap_1 P) (.ref 88) n=U (U (.ref a)))(e:isFn (hd.heap_1 P) (.ref a)=af)(b:keepIn (hd.heap_1 P) (.ref a)=af):lS g n a:=
 ⟨W.hK.symm▸W.hc.symm▸c,W.hK.symm▸W.hc.symm▸d,W.hK.symm▸e,W.hK.symm▸b⟩
def jr{d:ak}{c:FuncData}{b:dH}{ns:List Str}(p:(hd.heap_1 P).lookup d=U {cls:=.type "function",data:=.func c})(i:codeIn (hd.heap_1 P) c.code c.qualname=af)(o:c.body=.stmts b)(j:c.closure=[])(n:c.globals=mainGlobals)(f:c.builtins=builtinsNs)(e:c.scope.kind=.function)(m:c.scope.isGenerator=aA)(l:c.scope.isCoroutine=aA)(q:∀a:cQ,aa a=aa ns->bindArgs c ⟨a,[]⟩=pure (ns.zip a))(nd:ns.Nodup)(h:Ia c.scope ns=af)(k:keepIn (hd.heap_1 P) (.ref d)=af):iN g d c b ns:=
 ⟨⟨⟨_,W.jB _ _ (W.hK.symm▸p),rfl⟩,codeRec_of W.jB (W.hK.symm▸i),o,j,n,f,e,m,l⟩,q,nd,h,W.hK.symm▸k⟩
def cM:nH g where
 hasDict:=by rw[W.hK,W.hc];rfl
 setter:=by rw[W.hK,W.hc];rfl
 plain:=by rw[W.hK,W.hc];rfl
 makes:=by rw[W.hK,W.hc];rfl
 keep:=by rw[W.hK,W.hc];rfl
def BO:gU g "me":=sF W J J J J
def BP:gU g "size":=sF W J J J J
def BQ:gU g "promised":=sF W J J J J
def qO:gU g "phase":=sF W J J J J
def zC:gU g "ballot":=sF W J J J J
def EF:gU g "acc":=sF W J J J J
def EG:gU g "chosen":=sF W J J J J
def qQ:gU g "prom":=sF W J J J J
def tV:gU g "props":=sF W J J J J
def sG:gU g "out":=sF W J J J J
def Zq:lS g "acc_list" 31:=tU W J J J J
def Zr:lS g "tup" 36:=tU W J J J J
def EH:lS g "all" 43:=tU W J J J J
def QJ:lS g "promise_to" 50:=tU W J J J J
def QK:lS g "check" 57:=tU W J J J J
def QL:lS g "propose" 64:=tU W J J J J
def QM:lS g "lead" 71:=tU W J J J J
def Zs:lS g "event" 78:=tU W J J J J
def Zt:lS g "message" 85:=tU W J J J J
def Zu:iN g 26 (IY P) (Ek P) ["self","t"]:=jr W (XR P) J J J J J J J J (dK λz=>dK λz=>all0 J) ∅ rfl J
def Zv:iN g 31 (IZ P) (P4 P) ["self"]:=jr W (XS P) J J J J J J J J (dK λz=>all0 J) ∅ rfl J
def Zw:iN g 36 (El P) (Em P) ["self"]:=jr W (XT P) J J J J J J J J (dK λz=>all0 J) ∅ rfl J
def Zx:iN g 43 (Ja P) (P5 P) ["self","kind","rest"]:=jr W (XU P) J J J J J J J J (dK λz=>dK λz=>dK λz=>all0 J) ∅ rfl J
def Zy:iN g 50 (En P) (P6 P) ["self","b"]:=jr W (XW P) J J J J J J J J (dK λz=>dK λz=>all0 J) ∅ rfl J
def Zz:iN g 57 (Eo P) (P7 P) ["self","s"]:=jr W (XY P) J J J J J J J J (dK λz=>dK λz=>all0 J) ∅ rfl J
def ZA:iN g 64 (w6 P) (P8 P) ["self","s","v"]:=jr W (XZ P) J J J J J J J J (dK λz=>dK λz=>dK λz=>all0 J) ∅ rfl J
def ZC:iN g 71 (Jb P) (P9 P) ["self"]:=jr W (X0 P) J J J J J J J J (dK λz=>all0 J) ∅ rfl J
def EI:iN g 78 (o8 P) (BD P) ["self","e"]:=jr W (X3 P) J J J J J J J J (dK λz=>dK λz=>all0 J) ∅ rfl J
def zD:iN g 85 (nW P) (sj P) ["self","m"]:=jr W (X4 P) J J J J J J J J (dK λz=>dK λz=>all0 J) ∅ rfl J
def QN:iN g 99 (Jc P) (Qa P) ["me","size"]:=jr W (X5 P) J J J J J J J J (dK λz=>dK λz=>all0 J) ∅ rfl J
def JB:iN g 106 (w7 P) (Qc P) ["node","event"]:=jr W (X6 P) J J J J J J J J (dK λz=>dK λz=>all0 J) ∅ rfl J
def ZD:iN g 111 (jU P) (w9 P) ["size","actions"]:=jr W (X7 P) J J J J J J J J (dK λz=>dK λz=>all0 J) ∅ rfl J
def ZE:iN g 123 (Jd P) (Qd P) ["rows","row"]:=jr W (X8 P) J J J J J J J J (dK λz=>dK λz=>all0 J) ∅ rfl J
def ZF:iN g 128 (Je P) (Qe P) ["x","n","me"]:=jr W (Yb P) J J J J J J J J (dK λz=>dK λz=>dK λz=>all0 J) ∅ rfl J
def ZG:iN g 133 (BE P) (Qf P) ["known"]:=jr W (Yc P) J J J J J J J J (dK λz=>all0 J) ∅ rfl J
def ZH:iN g 138 (xd P) (sr P) ["nodes","me","x","turn","k"]:=jr W (Yd P) J J J J J J J J (dK λz=>dK λz=>dK λz=>dK λz=>dK λz=>all0 J) ∅ rfl J
def ZI:iN g 143 (lV P) (jc P) ["nodes","me","b","log","words","x","lost","k"]:=jr W (Ye P) J J J J J J J J (dK λz=>dK λz=>dK λz=>dK λz=>dK λz=>dK λz=>dK λz=>dK λz=>all0 J) ∅ rfl J
def ZJ:iN g 148 (ze P) (Qg P) ["node"]:=jr W (Yg P) J J J J J J J J (dK λz=>all0 J) ∅ rfl J
def ZK(h:(gJ b a).lookup n=U c):gU g n:=by
 intros g P b a n c _ W h;have d:=VD h;unfold gJ at d;simp only[bN,Prod.mk.injEq,jy,or_false] at d;rcases d with h|h|h|h|h|h|h|h|h|h<;>rw[h.1]
 .exact BO W
 .exact BP W
 .exact BQ W
 .exact qO W
 .exact zC W
 .exact EF W
 .exact EG W
 .exact qQ W
 .exact tV W
 exact sG W
end
section
variable {a b:ak}{bJ q q':PA}{bg:Sg}{c c':C}{p p':aU}{cn:Cn}{ρ:Nm}{k:eV}{rest:dH}{Pp:eH}{R:d9}{e:aT}{v:V}{n:Str}{p1 p2 p3 p4 pos:Pos}{P:Params}
def Ev.slf(W:WW c.toG0 P)(d:Inv a bJ bg c p q)(hs:cU ρ "self" (.r a))(b:(gJ p q).lookup n=U v):Ev c ρ (.Attribute (.Name "self" p1) n p2) v:=Ev.Qq (cM W) (ZK W b) d hs b
end
section
variable {g:G0}{P:Params}(W:WW g P)
include W
def ZL{k:ak}{e:aU}{l:PA}{kind:Str}{o:aH}{p:Int->gr}(K:∀b,bI (p b)=.tup ([.str kind,aK e.aE,.int e.me,.int b]++o))(Q:e.size<=4)(hz:aa e.out+4<=bf)(hr:aa o<=10):
 fU g 1 43 [.r k,.d (.str kind),.d (.tup o)] (λa=>a∈l.bD) (λσ=>bL σ k e l) (λσ c=>bL c k (e.all p) l):=by
 intros g P k e l kind o p _ W K Q hz hr;refine k6 (n:=0) (Zx W) J λY V D R T z=>?_;intros Y V _ D R T z
 subst D;unfold P5 bodyPick;apply Ex.for (Inv:=λh q i=>bL q.σ k {e with out:=e.out++(pq h e.me).map p} l/\(∀a∈l.bD,q.wr a)/\cU i "self" (.r k)/\cU i "kind" (.d (.str kind))/\cU i "rest" (.d (.tup o)))
 .apply A9
  .exact iB (P:=P) (cM W) (BP W) z J J
  .exact AV ‹_› ∅
  .rfl
  rfl
 .exact⟨by
   have A:e.out++(pq 0 e.me).map p=e.out:=by simp[pq]
   rw[A];exact z,λa X=>X,rfl,rfl,rfl⟩
 .intro h N q i u G t;let ⟨f,v,F,I,E⟩:=t;intros h N q i _ u G f v F I E;let ⟨L,σ,M,zy⟩:=gv u;intros L σ M _ u f v;let ⟨zy,au⟩:=Jk G;refine⟨_,cW ⟨.inl J,rfl,rfl⟩,?_⟩;have H:cU ((("j":Str),j6 (.int (h:Int)))::i) "j" (.d (.int (h:Int))):=rfl;have m:cU ((("j":Str),j6 (.int (h:Int)))::i) "self" (.r k):=F;have B:cU ((("j":Str),j6 (.int (h:Int)))::i) "kind" (.d (.str kind)):=I;have y:cU ((("j":Str),j6 (.int (h:Int)))::i) "rest" (.d (.tup o)):=E;apply b7
  .apply bS
   .exact ah H
   .exact iB (P:=P) (cM W) (BO W) f m J
   .exact uQ (by show min 0 _<=400;exact aj (oA 0 _) (cL _))
   with_unfolding_all rfl
  case h2=>
   intro s;apply aG;apply aG;apply cP;rw[kB] at s;have C:(h:Int)=e.me:=by simpa using s
   refine⟨?_,v,m,B,y⟩;rw[Qo,aB (λO=>O C),c8];exact f
  intro s;rw[kB] at s;have C:(h:Int)≠e.me:=by simpa using s
  apply kY
  .apply qF (x:=bI (p h))
   .exact iB (P:=P) (cM W) (sG W) f m J
   .exact f.out
   .exact v _ vm
   .rw[K];apply dY
    .apply bQ
     .apply aN
      case hs=>rfl
      .exact ah B
      apply aN
      case hs=>rfl
      .exact iB (P:=P) (cM W) (zC W) f m J
      apply aN
      case hs=>rfl
      .exact iB (P:=P) (cM W) (BO W) f m J
      apply aN
      case hs=>rfl
      .exact ah H
      exact aZ
     exact bM J
    .exact ah y
    exact oV (by simp;unfold bf;exact lA (j:=4) ‹_› rfl)
   have:=zk h e.me;simp only[aP,bO];exact Dk ‹aa e.out+4<=bf› (gc this _) (jL ‹h<(e.size:Int).toNat› ‹e.size<=4›) J
  .intro ae Z S t;let ⟨zy,w⟩:=t;clear w;intros Z _ S;apply aG;apply aG;apply cP;refine⟨?_,v,m,B,y⟩;rw[Qo,az C];exact f.Qj (by simp)
  .rfl
  rfl
 intro q i u t;let ⟨f,w⟩:=t;clear w;intros q i _ u f;apply aG;apply cP;have A:(gA 0 ((e.size:Nat):Int).toNat).length=e.size:=by simp[gA]
 rw[A] at f;exact f
def EJ(i:∀c,bI (mk c)=.tup ([.str kind,aK p.aE,.int p.me,.int c]++rs))(e:p.size<=4)(hz:aa p.out+4<=bf)(hr:aa rs<=10):
 fU g 1 43 [.r a,.d (.str kind),.d (.tup rs)] (λb=>b∈q.bD) (λσ=>bL σ a p q) (je a q (p.all mk)):=(ZL W i e hz hr).mono λσ j h=>⟨q,h,λb f=>.inl f⟩
end
seal Ev EvAll cF gp EvVs bX iT Cmp Bin Ex r4 gB
local macro_rules (kind:=Lean.Parser.Tactic.left)
 |x=>en true [] "repeat' first | exact Ev.name % rfl %{!Ev.int %!Ev.none %!Ev.bool %!Ev.str % *{!Ev.slf % by assumption ^assumption 1 ~ &byTactic 2 by assumption ^assumption 1 ~ &byTactic 2 rfl % rfl % null 4 &app 2 ^exact 2 null 2 | refine Ev.slf % by assumption ^assumption 1 ~ &byTactic 2 by assumption ^assumption 1 ~ &byTactic 2 # # null 4 &app 2 ^refine 2 <;> exact rfl % ^exact 2 ^«tactic_<;>_» 3 null 2 | apply EvVs.nil % ^apply 2 null 2 | apply EvAll.nil % ^apply 2 null 2 | apply EvVs.cons % ^apply 2 null 2 | apply EvAll.cons % ^apply 2 null 2 | apply Ev.tup % ^apply 2 null 2 | apply Ev.bin % ^apply 2 null 2 | exact Cmp.inT % minZ %{!Cmp.lt %!Cmp.le %!Cmp.gt %!Bin.add %!Bin.sub %!Bin.mul % IntMulOk.of_left % *{{!Nat.le_of_ble_eq_true % rfl %{ ^exact 2 null 2 | rfl ^tacticRfl 1 null 2 | with_unfolding_all rfl ^tacticRfl 1 ~ ^withUnfoldingAll 2 null 2 | intro _ &hole 1 null 1 ^intro 2 rfl ^tacticRfl 1 null 2 null 2 | decide + kernel % ^posConfigItem 2 ^configItem 1 null 1 ^optConfig 1 ^decide 2 null 2 null 25 ^first 2 ~ ^repeat' 2"
section
variable {g:G0}{P:Params}(W:WW g P)
include W
def QO{a:ak}{p:aU}{q:PA}{b:aL}:
 fU g 1 50 [.r a,.d (aK b)] (λc=>c∈q.bD) (λσ=>bL σ a p q) (je a q (p.gV b)):=by
 intros g P a p q b _ W;refine k6 (n:=0) (Zy W) J λy m h u w k=>?_;intros y m _ h u w k
 subst h;unfold P6 bodyPick;have i:=nY (fd:=En P) (fa:=50) (L:=m) k;apply Et i (cM W) (BQ W)
 .left
 .rfl
 have l:=i.promised b;apply b7
 .apply bS
  .apply br (j:=1)
   .exact ah J
   left
   all_goals rfl
  .left
  .exact uQ (by show min 0 _<=400;exact aj (oA 0 _) (cL _))
  with_unfolding_all rfl
 case h2=>
  intro e;apply aG;apply aG;apply cP;rw[kB] at e;have f:b.2=p.me:=by simpa using e
  unfold aU.gV;rw[aB (λt=>t f)];exact l.done
 intro e;rw[kB] at e;have f:b.2≠p.me:=by simpa using e
 apply Ex.idle (ph:=0) l (cM W) (qO W) (qQ W) (tV W)
 .rfl
 .rfl
 .decide+kernel
 intro v s x o;intros v s _ x o;apply aG;apply aG;apply cP;unfold aU.gV;rw[az f];exact o.done
def QS{a:ak}{p:aU}{q:PA}{s:Int}{v:bz}{ns:aF}(hl:look p.props s=U (v,ns))(u:p.size<=4)(hz:aa p.out+4<=bf)(x:aa p.aq+1<=bf):
 fU g 3 57 [.r a,.d (.int s)] (λb=>b∈q.bD) (λσ=>bL σ a p q) (je a q (p.check s)):=by
 intros g P a p q s v ns _ W hl u hz x;refine k6 (n:=2) (Zz W) J λF A t w M c=>?_;intros F A _ t w M c
 subst t;unfold P7 bodyPick;have m:=nY (fd:=Eo P) (fa:=57) (L:=A) c;obtain⟨b,j,H,S,T,z,N,R,Q⟩:∃b j B,b∈q.xs/\b.k=s/\look p.props s=U (j,B)/\look (q.xs.map λb=>(b.k,gF b.la)) s=U (.r b.la)/\b.d=bq j/\b.ks=B:=by
  rcases zj c.props s with⟨e,_⟩|h
  .rw[hl] at e;cases e
  exact h
 obtain⟨rfl,rfl⟩:v=j/\ns=H:=by rw[hl] at z;simpa using z
 have o:=c.xs b S;rw[R,Q] at o;apply Ex.PZ
 .apply r8
  .left
  .exact c.pp
  .left
  .exact N
  left
 .exact o.1
 .exact gq (mJ ⟨.inl J,rfl,rfl⟩) J (gq (mJ ⟨.inl J,rfl,rfl⟩) J jh)
 .apply b7
  .apply iU;apply ia
   .apply bS
    .apply dY
     .left
     .apply lO
      .left
      .show(match F.σ b.sa with|some (.l ds)=>U (aa ds)|some (.i kvs)=>U (aa kvs)|some (.s ks)=>U (aa ks)|_=>ai)=U (aa ns);rw[o.2]
      left
     exact Bin.mul (IntMulOk.of_left (by decide+kernel))
    .left
    .exact Dt
    left
   .intro _;apply ia
    .apply bS
     .left
     .left
     .exact Bj c.ch
     left
    intro _;exact wL
  .intro f;rw[BG,Qp] at f;apply mH
   .exact tK (ah J)
   .intro y j E O;let ⟨zy,zy⟩:=O;have I:=m.aq s v;refine⟨_,_,wW (by left) (by left) m.at'.ch (m.wr _ vh) (by simpa [bP,jn] using x),?_⟩;have K:=EJ W (a:=a) (q:=q) (p:={p with aq:=put p.aq s v}) (mk:=λC=>.aq p.aE p.me C s v) (kind:="chosen") (rs:=[.int s,bq v]) (λC=>rfl) u hz (by show 2<=10;decide);apply pA I (EH W) K
    .rfl
    .rfl
    .left
    .exact iQ w J
    intro y G E D;intros y G _ E D;apply aG;apply aG;apply cP;unfold sd;rw[hl];dsimp only;rw[az f];exact D.done;left
   left
  intro f;rw[BG,Qp] at f;apply aG;apply aG;apply cP;unfold sd;rw[hl];dsimp only;rw[aB (by rw[f];simp)];exact m.done
 left
def QT{a:ak}{p:aU}{q:PA}{s:Int}{v:bz}(M:look p.props s=ai)(G:0<=p.me)(O:p.me<4)(i:p.size<=4)(hz:aa p.out+8<=bf)(I:aa p.aq+1<=bf)(H:aa p.acc+1<=bf)(N:aa p.props+1<=bf):
 fU g 5 64 [.r a,.d (.int s),.d (bq v)] (λb=>b∈q.bD) (λσ=>bL σ a p q) (je a q (p.bW s v)):=by
 intros g P a p q s v _ W M G O i hz I H N;refine k6 (n:=4) (ZA W) J λc f F z aw x=>?_;intros c f _ F z aw x
 subst F;unfold P8 bodyPick;have e:=nY (fd:=w6 P) (fa:=64) (L:=f) x;apply mH
 .apply r7.m;apply r7.pair
  .left
  .apply gp.WQ
   .left
   .exact G
   .exact O
   .rw[show(c.fn (w6 P) 64 f λb=>b∈q.bD).K=c.K from rfl,W.hK];rfl
   left
  left
 .intro bj bk ae B;let ⟨o,h,zy,zy,V,u⟩:=B;let ⟨k,S,j,l,a4⟩:=V;intros o h k _ u ae S j l a4;have A:=e.adds (τ:=h) λa8 T=>(u a8 T).2
  have Q:=u o (by rw[j];simp);have R:=u k (by rw[l];simp);have a3:Nw a q c.σ ((c.fn (w6 P) 64 f λb=>b∈q.bD).adds h) q o:=⟨.inr (by rw[j];simp),e.BF Q.2,e.at'.fresh Q.2⟩;have a7:Nw a q c.σ ((c.fn (w6 P) 64 f λb=>b∈q.bD).adds h) q k:=⟨.inr (by rw[l];simp),e.BF R.2,e.at'.fresh R.2⟩;have C:=A.Ji M (Io j) (Io l) a3 a7 S;refine⟨_,_,wW (by left) (by left) A.at'.pp (A.wr _ zh) (by
   have:=aR yi x.props;simp[jo] at this;simp[this];exact N),?_⟩
  apply mH
  .apply tK;left
  .intro bo bp a9 B;let ⟨zy,zy⟩:=B;have Z:=C.acc s (p.aE,v);refine⟨_,_,wW (by left) (by left) C.at'.acc (C.wr _ xh) (by simpa [bP,fP] using H),?_⟩;have au:=EJ W (a:=a) (q:={q with xs:=q.xs++[⟨s,o,k,bq v,[p.me]⟩]}) (p:={p with props:=put p.props s (v,[p.me]),acc:=put p.acc s (p.aE,v)}) (mk:=λt=>.accept p.aE p.me t s v) (kind:="accept") (rs:=[.int s,bq v]) (λt=>rfl) i (by show aa p.out+4<=bf;exact aj (gc ∅ _) ‹aa p.out+8<=_›) (by show 2<=10;decide);apply pA Z (EH W) au
   .rfl
   .rfl
   .left
   .exact iQ z J
   intro a6 D w y;intros a6 D _ w y;let ⟨X,σ,Y,zy⟩:=gv w;intros X σ Y _ w y
   have a5:=QS W (a:=a) (q:=D) (p:=({p with props:=put p.props s (v,[p.me]),acc:=put p.acc s (p.aE,v)}:aU).all (λt=>.accept p.aE p.me t s v)) (s:=s) (v:=v) (ns:=[p.me]) (by show look (put p.props s (v,[p.me])) s=_;rw[qI,az J]) i (by
    have:=zk p.size p.me;show(p.out++(pq p.size p.me).map _).length+4<=bf;rw[bO,aP];exact aj (cj (rC ..)) (aj (gc (gg (aj this i) 4) _) ‹aa p.out+8<=_›)) I
   apply pA y (QK W) a5
   .rfl
   .rfl
   .left
   .exact iQ z J
   intro av ax a0 E;intros av ax _ a0 E;apply aG;apply cP;exact E.done;left;left
  left
 left
theorem JC{b:Type}{a:List b}{i:Nat}{c:b}(h:a[i]?=U c):a.take (i+1)=a.take i++[c]:=by
 rw[rH,h];rfl
end
structure LI(a:ak)(q:PA)(bg:Sg)(bb:ak)(p:aU)(c:C)(best:bU):Prop where
 at':bL c.σ a p q
 wr:∀x∈q.bD,x≠q.pm->c.wr x
 dm:∀x,bg x≠ai->c.σ x=bg x
 bw:c.wr bb
 bn:bb≠a/\bb∉q.bD
 b0:bg bb=ai
 b:c.σ bb=U (.i (bP (fP best)))
theorem LI.upd(h:LI k f j d g e best)(c:cn=.i (bP (fP l))):LI k f j d g (e.upd d cn) l:=
 ⟨h.at'.other h.bn,h.wr,λa b=>by
  show Sg.set e.σ d _ a=_;rw[iY (λm=>b (by rw[m];exact h.b0))];exact h.dm a b,h.bw,h.bn,h.b0,by subst c;exact sA⟩
def xr(b:bU)(c:Int):look (bP (fP b)) c=(look b c).map λa=>j6 (.tup [aK a.1,bq a.2]):=by
 rw[xg];unfold fP;rw[vg (λa:aL×bz=>gn [aK a.1,bq a.2])];cases look b c<;>rfl
def QU(c:bU)(b:Int)(a:aL×bz):put (bP (fP c)) b (.d (.tup [aK a.1,bq a.2]))=bP (fP (put c b a)):=by
 rw[Ep];unfold fP;rw[zg (λa:aL×bz=>gn [aK a.1,bq a.2])]
def QV(a:bU):(bP (fP a)).map (·.1)=a.map (·.1):=by simp[bP,fP,s8]
def ZM(a:bU)(b:ji):(gC a b).length<=aa a+1:=by
 unfold gC;split
 .exact qG _ _ _
 split
 .exact qG _ _ _
 exact jw _
def QW:∀(b:bU) (a:bU),(b.foldl gC a).length<=aa a+aa b:=by
 intro e
 induction e with
 |nil=>
  intro a;simp
 |cons c b d=>
  intro a;have:=d (gC a c);have:=ZM a c;simp only[i6,iz];exact aj (d (gC a c)) (aj (gg this (aa b)) (cj (KW (aa a) (aa b))))
theorem Ex.best{h:C}{l:Nm}{B:ak}{f:bU}{it:ji}{k:eV}{M:dH}{H:eH}{R:d9}{p1 p2 y P K E N F I O A p q t o u w G L:Pos}{n1 v:Nat}
 (hs:h.σ B=U (.i (bP (fP f)))) (hw:h.wr B) (hz:aa f+1<=bf) (m:cU l "s" (.d (.int it.1))) (s:cU l "b" (.d (aK it.2.1))) (z:cU l "v" (.d (bq it.2.2))) (n:cU l "best" (.r B))
 (Q:gC f it=f->Ex h l (M::k) H R) (D:∀e,e=.i (bP (fP (gC f it)))->Ex (h.upd B e) l (M::k) H R)
 (hsw:swapsWithSole [.Subscript (.Name "best" A) (.Name "s" p) q] (.Tuple [.Name "b" t,.Name "v" o] v u) w.line h.env=pure aA) (hsw2:swappedStores [.Subscript (.Name "best" A) (.Name "s" p) q] (.Tuple [.Name "b" t,.Name "v" o] v u) h.env=pure ai):
 Ex h l ((.If (.BoolOp .Or [.Compare (.Name "s" p1) [.NotIn] [.Name "best" p2] y,.Compare (.Name "b" P) [.Gt] [.Subscript (.Subscript (.Name "best" K) (.Name "s" E) N) (.Constant (.int 0) n1 F) I] O] G) [.Assign [.Subscript (.Name "best" A) (.Name "s" p) q] (.Tuple [.Name "b" t,.Name "v" o] v u) w] [] L::M)::k) H R:=by
 intros h l B f it k M H R p1 _ p2 y P K E N F I O A p q t o u w G L n1 v hs hw hz m s z n Q D hsw hsw2;intros p2 y P K E N F I O A _ p q t o u w G L n1 v hs hw hz m s z n Q D hsw hsw2;intros p q t o u w G L n1 v _ hs hw hz m s z n Q D hsw hsw2;cases hl:look f it.1 with
 |none=>
  refine b7 (b:=af) (iU (tD (a:=af) (b:=af) ?_ λV=>by cases V)) (λY=>?_) λV=>by cases V
  .have:=bS (pos:=y) (c:=h) (ρ:=l) (e₁:=.Name "s" p1) (e₂:=.Name "best" p2) (ah m) (ah n) (Bj (i:=it.1) hs);rw[xr,hl] at this;exact this
  refine mH (tK (bQ (aN (ah s) (aN (ah z) aZ)))) (λY Z Y T=>?_) J hsw hsw2;let ⟨zy,zy⟩:=T;refine⟨_,_,wW (ah n) (ah m) hs hw (by simpa [bP,fP] using hz),aG (D _ ?_)⟩;have:gC f it=put f it.1 it.2:=by unfold gC;rw[hl]
  rw[this,QU]
 |some g=>
  have W:=bS (pos:=y) (c:=h) (ρ:=l) (e₁:=.Name "s" p1) (e₂:=.Name "best" p2) (ah m) (ah n) (Bj (i:=it.1) hs);rw[xr,hl] at W;have X:look (bP (fP f)) it.1=U (.d (.tup [aK g.1,bq g.2])):=by rw[xr,hl];rfl
  have ae:=bS (pos:=O) (c:=h) (ρ:=l) (e₁:=.Name "b" P) (e₂:=.Subscript (.Subscript (.Name "best" K) (.Name "s" E) N) (.Constant (.int 0) n1 F) I) (ah s) (br (j:=0) (x:=aK g.1) (r8 (ah n) hs (ah m) X) aQ J J) (uR (op:=.Gt) (BI it.2.1 g.1) (lX _) J);refine b7 (b:=blt g.1 it.2.1) ?_ (λS=>?_) λS=>?_
  .have:=tD W (λY=>tD ae (λY=>Ox));have au:(!(rP (λg:aL×bz=>j6 (.tup [aK g.1,bq g.2])) (U g)).isSome||(blt g.1 it.2.1||false))=blt g.1 it.2.1:=by simp
   rw[au] at this;exact iU this
  .refine mH (tK (bQ (aN (ah s) (aN (ah z) aZ)))) (λY Z Y T=>?_) J hsw hsw2;let ⟨zy,zy⟩:=T;refine⟨_,_,wW (ah n) (ah m) hs hw (by simpa [bP,fP] using hz),aG (D _ ?_)⟩;have:gC f it=put f it.1 it.2:=by unfold gC;rw[hl];exact az S
   rw[this,QU]
  refine aG (Q ?_);unfold gC;rw[hl];exact aB (by rw[S];simp)
def Ev.ZN{t:C}{n1 y:Nat}(hs:t.σ e=U (.i (bP (fP best))))(v:cU b "s" (.d (.int a)))(u:cU b "best" (.r e)):
 Ev t b (.IfExp (.Compare (.Name "s" p1) [.In] [.Name "best" p2] f) (.Subscript (.Subscript (.Name "best" l) (.Name "s" p) g) (.Constant (.int 1) n1 o) k) (.Constant .none y n) h) (.d (bq ((look best a).elim m9 (·.2)))):=by
 have m:=bS (pos:=f) (c:=t) (ρ:=b) (e₁:=.Name "s" p1) (e₂:=.Name "best" p2) (ah v) (ah u) (Iu (i:=a) hs);cases hl:look best a with
 |none=>
  rw[xr,hl] at m;exact DC m (v₁:=.d .none) (λs=>by cases s) λz=>HG
 |some q=>
  rw[xr,hl] at m;have w:look (bP (fP best)) a=U (.d (.tup [aK q.1,bq q.2])):=by rw[xr,hl];rfl
  exact DC m (v₂:=.d .none) (λz=>br (j:=1) (x:=bq q.2) (r8 (ah u) hs (ah v) w) aQ J J) (λs=>by cases s)
def JD{f c b:ak}{a:PA}(nd:(f::a.bD).Nodup)(g:c∈({a with pm:=b}:PA).bD):c=b\/(c∈a.bD/\c≠a.pm):=
 (bN.mp ((we (l₁:=[a.da,a.acc,a.ch])).mem_iff.mp g)).elim .inl λd=>.inr ⟨(we (l₁:=[a.da,a.acc,a.ch])).mem_iff.mpr (.tail _ d),
  λe=>(ff.mp ((we (l₁:=[a.da,a.acc,a.ch])).nodup_iff.mp (ff.mp nd).2)).1 (e▸d)⟩
def LI.new(h:LI j k e g l f best)(b:f.σ d=ai):e d=ai:=rR λa=>a ((h.dm d a).symm.trans b)
section
variable {g:G0}{P:Params}(W:WW g P)
include W
def QX{a:ak}{p:aU}{q:PA}(h0:p.props=[])(c2:0<=p.me)(dq:p.me<4)(bt:p.size<=4)(eh:aa p.prom<=4)(c7:(p.prom.map (·.2)).flatten.length<=1000)(ct:0<=cJ ((eO (p.prom.map (·.2)).flatten).map (·.1)))(V:cJ ((eO (p.prom.map (·.2)).flatten).map (·.1))<=100)(hz:aa p.out+1000<=bf)(a7:aa p.aq+200<=bf)(c3:aa p.acc+200<=bf):
 fU g 7 71 [.r a] (λe=>e∈q.bD) (λσ=>bL σ a p q) (je a q p.lead):=by
 intros g P a p q _ W h0 c2 dq bt eh c7 ct V hz a7 c3;refine fU.Yv (O:=λe=>e∈q.bD/\e≠q.pm) ?_ λe j=>j.1
 refine k6 (n:=6) (ZC W) J λR b6 cx di eb I=>?_;intros R b6 _ cx di eb I
 subst cx;change let Z:C:=_;let bp:C->Nm->Prop:=_;let cw:C->D->Prop:=_;Ex Z _ _ bp cw;intro Z bp cw;unfold P9 bodyPick;have d1:=I.apart;apply b7
 .apply bS
  .apply dY
   .left
   .apply lO
    .exact iB (P:=P) (cM W) (qQ W) I J J
    .show(match R.σ q.pm with|some (.l ds)=>U (aa ds)|some (.i dT)=>U (aa dT)|some (.s B)=>U (aa B)|_=>ai)=U (bP (gu p.prom)).length;rw[I.pm]
    left
   left
  .exact iB (P:=P) (cM W) (BP W) I J J
  left
 .intro av;apply Ex.VF;refine⟨rfl,?_⟩;unfold yY;have f:(bP (gu p.prom)).length=aa p.prom:=by simp[bP,gu]
  rw[f] at av;rw[az (iK.1 (eZ av))];exact⟨q,I,λe k=>.inl k⟩
 intro av;have f:(bP (gu p.prom)).length=aa p.prom:=by simp[bP,gu]
 rw[f] at av
 have eu:p.lead=(slots (cJ ((eO (p.prom.map (·.2)).flatten).map (·.1)))).foldl (λq w=>q.bW w ((look (eO (p.prom.map (·.2)).flatten) w).elim ai (·.2))) {p with phase:=2,prom:=[]}:=by
  unfold yY;rw[aB (λj=>of_decide_eq_false av (iK.2 j))]
 apply aG;apply r6 (x:="best") (cn:=.i [])
 .exact wR wV ⟨.inl J,rfl,rfl⟩
 intro m eC b1;have b3:=I.fresh b1
 have b5:LI a q R.σ m p (Z.add m (.i [])) []:=by
  refine⟨I.other b3,λe k cz=>.inl ⟨k,cz⟩,λe k=>?_,.inr J,b3,b1,?_⟩
  .show Sg.set R.σ m _ e=_;rw[iY (λf=>k (by rw[f];exact b1))]
  exact sA
 apply Ex.O0 (Inv:=λh E H=>LI a q R.σ m p E (((p.prom.map (·.2)).take h).flatten.foldl gC [])/\Sub [("best",.r m),("self",.r a)] H)
 .apply Bd.vals (kvs:=gu p.prom)
  .exact iB (P:=P) (cM W) (qQ W) b5.at' J J
  .exact b5.at'.pm
  rintro(⟨_,j⟩|j)
  .exact j J
  exact b3.2 (j▸xj);left
 .exact⟨b5,BH⟩
 .intro h a5 E H au G F;let ⟨A,cp⟩:=F;let ⟨aw,σ,ax,zy⟩:=gv au;obtain⟨B,du,rfl⟩:∃B,(p.prom.map (·.2))[h]?=U B/\a5=.lst (B.map ck):=by
   simp only[gu,bV,cC] at G⊢;cases j:p.prom[h]? with
   |none=>rw[j] at G;cases G
   |some e=>rw[j] at G;exact⟨e.2,rfl,by simpa using G.symm⟩
  have eI:((p.prom.map (·.2)).take h).flatten.length+aa B<=1000:=by
   have dt:((p.prom.map (·.2)).take (h+1)).flatten.length<=1000:=by
    refine aj ?_ c7
    conv=>rhs;rw[<-CG (h+1) (p.prom.map (·.2))]
    rw[Ar,bO];exact fz _ _
   rw[JC W du,Ar,bO] at dt
   simpa using dt
  refine⟨_,cW ⟨.inl J,rfl,rfl⟩,?_⟩;refine fO (ρ':=[("known",.d (.lst (B.map ck))),("best",.r m),("self",.r a)]) ?_ (λe Y f=>by
   by_cases k:e="known"
   .subst k;exact f
   rw[gI k] at f;show((("known":Str),j6 (.lst (B.map ck)))::H).lookup e=U Y;rw[gI k];exact cp e Y f)
  apply Ex.for (Inv:=λN E H=>LI a q R.σ m p E ((B.take N).foldl gC (((p.prom.map (·.2)).take h).flatten.foldl gC []))/\Sub [("best",.r m),("self",.r a)] H)
  .exact dU (ah J)
  case h0=>exact⟨A,λe Y f=>by
   have k:e≠"known":=by intro j;subst j;cases f
   rw[gI k];exact f⟩
  .intro N a5 d6 c0 dp G F;let ⟨T,cf⟩:=F;let ⟨aw,σ,ax,zy⟩:=gv dp;rw[cC] at G;obtain⟨M,c5,rfl⟩:∃M,B[N]?=U M/\a5=ck M:=by
    cases j:B[N]? with
    |none=>rw[j] at G;cases G
    |some e=>rw[j] at G;exact⟨e,rfl,by simpa using G.symm⟩
   have e4:N<aa B:=(fH.mp c5).1;refine⟨_,j8 (.cons ⟨.inl J,rfl,rfl⟩ (.cons ⟨.inl J,rfl,rfl⟩ (.cons ⟨.inl J,rfl,rfl⟩ .nil))),?_⟩;have b4:Sub [("best",.r m),("self",.r a)] (("v",j6 (bq M.2.2))::("b",j6 (aK M.2.1))::("s",j6 (.int M.1))::c0):=((cf.skip J).skip J).skip J
   have dr:gC ((B.take N).foldl gC (((p.prom.map (·.2)).take h).flatten.foldl gC [])) M=(B.take (N+1)).foldl gC (((p.prom.map (·.2)).take h).flatten.foldl gC []):=by
    rw[JC W c5,j3];rfl
   apply Ex.best (it:=M) T.b T.bw
   .have K:=QW (B.take N) (((p.prom.map (·.2)).take h).flatten.foldl gC []);have L:=QW ((p.prom.map (·.2)).take h).flatten [];rw[uC] at K;simp only[GC] at L;show _<=1000000;exact lA (aj K (aj (dQ (aj L (cj (rB _))) (vU ..)) ‹_<=1000›)) ∅
   .rfl
   .rfl
   .rfl
   .exact b4 _ _ J
   case hsw=>rfl
   case hsw2=>rfl
   .intro d2;apply aG;apply cP;refine⟨?_,b4⟩;rw[<-dr,d2];exact T
   intro eM ek;apply aG;apply cP;refine⟨?_,b4⟩;rw[<-dr];exact T.upd ek
  intro d6 c0 dp F;let ⟨T,cf⟩:=F;apply aG;apply cP;refine⟨?_,cf⟩;rw[aP,oF] at T;rw[JC W du,Ar,j3]
  simpa using T
  left
 intro E H au F;let ⟨A,cp⟩:=F;let ⟨aw,σ,ax,zy⟩:=gv au;refine fO (ρ':=[("best",.r m),("self",.r a)]) ?_ cp;have et:(oB (λe=>e.2) (gu p.prom)).length=(p.prom.map (·.2)).length:=by simp[gu]
 rw[et,oF] at A;have cz:∀e∈q.bD,e≠q.pm->Z.wr e:=λe K L=>⟨K,L⟩
 apply yT (Q:=λE a9=>∃u,σ u=ai/\E=(oZ (Z.add m (.i [])) aw σ ax).add u (.i [])/\a9=[.d (.str "leading"),.r u])
 .refine nF (tK (dR (by decide+kernel))) (λeJ eP _ K=>?_);let ⟨zy,zy⟩:=K;refine nF (lR wV) (λed eR _ L=>?_);let ⟨u,_,ae,zy,zy⟩:=L;intro w er dE b6;refine aS (Be w er dE b6) (λeA eQ ei=>?_);rcases ei with⟨E,a9,X,S',L',r',a7,hv⟩
  refine⟨E,a9,X,S',L',r',u,ae,a7,?_⟩;rw[hv]
 intro ed a9 eD F;let ⟨u,ae,zy,zy⟩:=F;have a4:=A.at'.fresh ae;have dj:u≠q.da:=lW a4.2 iX;have bo:m≠q.da:=lW A.bn.2 iX;have cm:m≠u:=cS (sC ae A.b);have bj:=A.at'.other (cn:=.i []) a4;have cq:q.da≠q.pm:=d1.n2.2.2.1;have a6:=bj.Qi 2 (y:="leading") J;have dA:=a6.Qk (b:=u) (l:=[]) (Sg.at dj sA) a4
 have d5:Inv a q R.σ ((((oZ (Z.add m (.i [])) aw σ ax).add u (.i [])).upd q.da (.t (fT "phase" (.d (.str "leading")) (gJ p q)))).upd q.da (.t (fT "prom" (.r u) (gJ {p with phase:=2} q)))) {p with phase:=2,prom:=[]} {q with pm:=u}:=by
  exact⟨dA,λe k=>(JD I.nd k).elim .inr λj=>.inl (A.wr e j.1 j.2),λe k=>(JD I.nd k).elim (λf=>.inr (A.new (f▸ae))) λj=>.inl j.1,
   λe K L=>have c4:e≠q.da:=lW L iX
    Sg.at c4 (Sg.at c4 (Sg.at (λf=>K (A.new (f▸ae))) (A.dm e K)))⟩
 have dv:(Sg.set (Sg.set (Sg.set σ u (.i [])) q.da (.t (fT "phase" (.d (.str "leading")) (gJ p q)))) q.da (.t (fT "prom" (.r u) (gJ {p with phase:=2} q)))) m=U (.i (bP (fP (eO (p.prom.map (·.2)).flatten)))):=by
  exact Sg.at bo (Sg.at bo (Sg.at cm A.b))
 have ec:m∉({q with pm:=u}:PA).bD:=λk=>(JD I.nd k).elim cm λj=>A.bn.2 j.1
 refine⟨_,_,gq (Bg (cM W) (qO W) (ah J) bj.o bj.t (.inl (A.wr _ iX cq)) (hz:=by show 10<=100;decide)) J (gq (Bg (cM W) (qQ W) (ah J) a6.o a6.t (.inl (A.wr _ iX cq)) (hz:=by show 10<=100;decide)) J jh),?_⟩;clear A bj a6 dA a4 dj bo cm;generalize eO (p.prom.map (·.2)).flatten=z at*;apply Ex.for (Inv:=λh E H=>∃a0,Inv a q R.σ E ((slots (h:Int)).foldl (λq w=>q.bW w ((look z w).elim ai (·.2))) {p with phase:=2,prom:=[]}) a0/\E.σ m=U (.i (bP (fP z)))/\m∉a0.bD/\Sub [("best",.r m),("self",.r a)] H)
 .apply OC (a:=1) (b:=cJ (z.map (·.1))+1)
  .left
  .apply dY
   .apply Ev.PX (kvs:=bP (fP z)) (d:=0)
    .left
    .exact dv
    left
   .left
   have f:(if bP (fP z)=[] then(0:Int) else cJ ((bP (fP z)).map (·.1)))=cJ (z.map (·.1)):=by
    rw[QV];split
    .rename_i j;have:z=[]:=by simpa [bP,fP] using j
     rw[this];rfl
    rfl
   rw[f];exact qt
  .decide
  .exact Uo V ct J J
  exact Un V J;left
 .exact⟨_,d5,dv,ec,BH⟩
 .intro h a5 E H au G F;let ⟨a0,a3,cb,dk,de⟩:=F;let ⟨aw,σ,ax,zy⟩:=gv (c:=Z) au;let ⟨zy,a8⟩:=Oz G;let ⟨S,c6⟩:=Yz (λw=>(look z w).elim ai (·.2)) {p with phase:=2,prom:=[]} bt h0 h
  have d4:(slots ((h+1:Nat):Int)).foldl (λ(q:aU) w=>q.bW w ((look z w).elim ai (·.2))) {p with phase:=2,prom:=[]}=((slots (h:Int)).foldl (λ(q:aU) w=>q.bW w ((look z w).elim ai (·.2))) {p with phase:=2,prom:=[]}).bW ((h:Int)+1) ((look z ((h:Int)+1)).elim ai (·.2)):=by
   have f:slots ((h+1:Nat):Int)=slots (h:Int)++[(h:Int)+1]:=by
    unfold slots;simp only[j5];rw[v9,cy];rfl
   rw[f,j3];rfl
  rw[d4];generalize(slots (h:Int)).foldl (λq w=>q.bW w ((look z w).elim ai (·.2))) {p with phase:=2,prom:=[]}=b2 at a3 S c6⊢;have u:=S.out;have dy:=S.acc;have df:=S.ch;have bk:=S.pl;dsimp only at u dy df bk;rw[h0,GC] at bk;have dz:b2.me=p.me:=S.me;have ej:b2.size=p.size:=S.size;refine⟨_,cW ⟨.inl J,rfl,rfl⟩,?_⟩;refine fO (ρ':=[("s",.d (.int ((h:Int)+1))),("best",.r m),("self",.r a)]) ?_ (λe Y f=>by
   by_cases k:e="s"
   .subst k;exact f
   rw[gI k] at f;show((("s":Str),j6 (.int ((h:Int)+1)))::H).lookup e=U Y;rw[gI k];exact de e Y f)
  have ea:=QT W (a:=a) (q:=a0) (p:=b2) (s:=(h:Int)+1) (v:=(look z ((h:Int)+1)).elim ai (·.2)) (c6 _ (sZ _)) (by rw[dz];exact c2) (by rw[dz];exact dq) (by rw[ej];exact bt) (Um hz u (Dm V a8) J) (Dk a7 df (Dm V a8) J) (Dk c3 dy (Dm V a8) J) (Dk (cj (rB 1000000)) bk (Dm V a8) J);apply Ex.Yw a3 (QL W) ea
  .rfl
  .rfl
  .apply cR
   .left
   .apply cR
    .exact Ev.ZN cb J J
    .left
    left
   left
  .exact iQ di J
  intro e5 dC e0 d0 eg;apply aG;apply cP;let ⟨ez,d3⟩:=eg m _ dk cb;exact⟨dC,d0,ez,d3,λe Y f=>by
   have k:e≠"s":=by intro j;subst j;cases f
   rw[gI k];exact f⟩
  left
 intro E H au F;let ⟨a0,a3,cb,dk,de⟩:=F;apply aG;apply cP;dsimp only[bp];rw[eu,PN];have f:(gA 1 (cJ (z.map (·.1))+1-1).toNat).length=(cJ (z.map (·.1))).toNat:=by simp[gA]
 rw[f] at a3;exact a3.done;left;left;left
end
def cX{c:Nm}:∀a∈([]:Nm),c.lookup a.1=ai:=λa b=>gS b
def b8{c d:Nm}(h:c.lookup n=ai)(k:∀a∈d,c.lookup a.1=ai):∀a∈(n,b)::d,c.lookup a.1=ai:=λa e=>(bN.mp e).elim (λf=>f▸h) (k a)
section
variable {g:G0}{P:Params}(W:WW g P)
include W
def ZO{b:aU}(l:Nk b.acc)(h:aa b.acc<64):kg g 1 31 [.r a] (λσ=>bL σ a b q) (.lst ((bH b.acc).map ck)):=by
 refine o6 (n:=0) (Zv W) J λu m i s e=>?_
 subst i;unfold P4 bodyPick;apply lQ (d:=.lst ((bH b.acc).map ck))
 case hr=>rfl
 apply nE;apply bF;have j:(bH b.acc).map ck=((bH b.acc).filter λz=>af).map ck:=by rw[rJ.mpr λz z=>rfl]
 rw[j];apply rZ (enc:=λc=>.int c.1)
 .apply qy;apply BK
  .exact iB (P:=P) (cM W) (EF W) e J J
  .exact e.acc
  .exact QV _
  .exact h
  left
 .intro t p o v c f;refine⟨_,cW ⟨.inl J,rfl,rfl⟩,?_,mF,λz=>?_⟩
  .exact b8 J cX
  have k:look b.acc c.1=U c.2:=l.look (kq.mp f);apply dY
  .left
  .apply r8
   .exact iB (P:=P) (cM W) (EF W) e J J
   .exact e.acc
   .left
   .rw[xr,k];rfl
   left
  exact oV (by show 3<=1000000;decide)
 .rw[u7];unfold bf;exact aj (gf ‹_›) ∅
 rfl;left
end
def Ev.JE(W:WW b.toG0 P)(i:bL b.σ e c f)(hs:cU h "self" (.r e))(p:Nk c.acc)(k:aa c.acc<64)(m:1<=b.n)(j:attributeBase (.Name "self" p1) "acc_list" b.env (eval (.Name "self" p1) b.env)=eval (.Name "self" p1) b.env)(l:(p2.endLine==g.line)=af):Ev b h (.Call (.Attribute (.Name "self" p1) "acc_list" p2) [] [] g) (.d (.lst ((bH c.acc).map ck))):=
 Ev.DZ (ZO W (a:=e) (q:=f) p k) (Zq W) (ah hs) i.o i.t J eX m i (λz=>rfl) j l
section
variable {g:G0}{P:Params}(W:WW g P)
include W
def ZP{a:ak}{c:aU}{q:PA}(au:Nk c.acc)(L:Nk c.aq)(A:c.phase=1->Nk c.prom/\aa c.prom<64)(u:c.phase=2->Nk c.props/\aa c.props<64/\∀b∈c.props,aa b.2.2<64)(Y:aa c.acc<64)(ae:aa c.aq<64)(H:c.phase<=2):kg g 3 36 [.r a] (λσ=>bL σ a c q) (aX c.tup):=by
 intros g P a c q _ W au L A u Y ae H;refine o6 (n:=2) (Zw W) J λav S I N f=>?_;intros av S _ I N f
 subst I
 have o:∀(C:Nm) (k:eV),cU C "self" (.r a)->cU C "heard" (.d (.lst (jd c.tup)))->Ex (av.fn (El P) 36 S λ_=>False) C (((Em P).drop 2)::k) (λ_ _=>aX c.tup=.none) (λ_ ax=>ax=aX c.tup):=by
  intro C k K X;intros C k _ K X;unfold Em bodyPick;refine fO (ρ':=[("self",.r a),("heard",.d (.lst (jd c.tup)))]) ?_ (λb a9 l=>by
   by_cases G:b="self"
   .subst G;rw[rW] at l;rw[<-l];exact K
   rw[gI G] at l
   by_cases V:b="heard"
   .subst V;rw[rW] at l;rw[<-l];exact X
   exact ns (gI V) l)
  apply lQ (d:=aX c.tup)
  case hr=>rfl
  apply nE;apply bQ
  .apply aN
   .exact iB (P:=P) (cM W) (BO W) f J J
   apply aN
   .exact iB (P:=P) (cM W) (BP W) f J J
   apply aN
   .exact iB (P:=P) (cM W) (BQ W) f J J
   apply aN
   .exact Ev.JE W f J au Y (by exact iQ N J) J J
   apply aN
   .apply bF;have l:(bH c.aq).map eB=((bH c.aq).filter λ_=>af).map eB:=by rw[rJ.mpr λ_ _=>rfl]
    rw[show c.tup.aq=bH c.aq from rfl,l];apply rZ (enc:=λe=>.int e.1)
    .apply qy;apply BK
     .exact iB (P:=P) (cM W) (EG W) f J J
     .exact f.ch
     .simp[bP,jn,s8]
     .exact ae
     left
    .intro z B y D e m;intros z B y D e _ m;refine⟨_,cW ⟨.inl J,rfl,rfl⟩,?_,mF,λ_=>?_⟩
     .exact b8 J cX
     have t:look c.aq e.1=U e.2:=L.look (kq.mp m);apply bQ
     .apply aN
      .left
      apply aN
      .apply r8
       .exact iB (P:=P) (cM W) (EG W) f J J
       .exact f.ch
       .left
       .rw[xg];unfold jn;rw[vg,t];rfl
       left
      exact aZ
      all_goals rfl
     left
    .rw[u7];unfold bf;exact aj (gf ‹_›) ∅
    rfl;left
   apply aN
   .exact iB (P:=P) (cM W) (qO W) f J J
   apply aN
   .exact iB (P:=P) (cM W) (zC W) f J J
   apply aN
   .exact ah J
   exact aZ
   all_goals rfl
  left
 unfold Em bodyPick at o⊢;apply fN (x:="heard") (v:=.d (.lst []))
 .exact bF (eL aZ)
 .exact⟨.inl J,rfl,rfl⟩
 apply b7
 .apply bS
  .exact iB (P:=P) (cM W) (qO W) f J J
  .left
  .exact gz minZ
  left
 .intro i;rw[tR] at i;have s:c.phase=1:=eZ i;have a3:=(A s).2;have A:=(A s).1
  have w:jd c.tup=((bH c.prom).filter λ_=>af).map ku:=by
   rw[rJ.mpr λ_ _=>rfl];show(if c.phase=1 then(if c.phase=1 then bH c.prom else[]).map ku else _)=_;rw[az s,az s]
  rw[w] at o;apply Ex.H8 (x:="heard")
  .apply Ik;apply yU
   .apply Bh (ts:=bH c.prom) (g:=ku) (q:=λ_=>af) (enc:=λe=>.int e.1)
    .apply qy;apply BK
     .exact iB (P:=P) (cM W) (qQ W) f J J
     .exact f.pm
     .simp[bP,gu,s8]
     .exact a3
     left
    .intro z B y D e m;intros z B y D e _ m;refine⟨_,cW ⟨.inl J,rfl,rfl⟩,?_,mF,λ_=>?_⟩
     .exact b8 J cX
     have t:look c.prom e.1=U e.2:=A.look (kq.mp m);apply bQ
     .apply aN
      .left
      apply aN
      .apply r8
       .exact iB (P:=P) (cM W) (qQ W) f J J
       .exact f.pm
       .left
       .rw[xg];unfold gu;rw[vg (λa0:bU=>oU (a0.map ck)),t];rfl
       left
      exact aZ
      all_goals rfl
     left
    .rw[u7];unfold bf;exact aj (gf ‹_›) ∅
    rfl;left
   .exact⟨.inl J,rfl,rfl⟩
   rfl
  apply aG;exact o _ _ J J
 intro i;rw[tR] at i;have s:¬c.phase=1:=of_decide_eq_false i;apply b7
 .apply bS
  .exact iB (P:=P) (cM W) (qO W) f J J
  .left
  .exact gz minZ
  left
 .intro i;rw[mK H] at i;have p:c.phase=2:=eZ i;have a6:=(u p).2.1;have aw:=(u p).2.2;have u:=(u p).1
  have w:jd c.tup=((bH c.props).filter λ_=>af).map (λb=>jV (b.1,(b.2.1,jb b.2.2))):=by
   rw[rJ.mpr λ_ _=>rfl];show(if c.phase=1 then _ else if c.phase=2 then(if c.phase=2 then qK c.props else[]).map jV else _)=_;rw[aB s,az p,az p];unfold qK;rw[bV];rfl
  rw[w] at o
  have a7:(q.xs.map λb=>(b.k,gF b.la)).map (·.1)=c.props.map (·.1):=by
   have:=aR (oB (·.1)) f.props
   simpa [jo,PE.v,s8] using this
  apply Ex.H8 (x:="heard")
  .apply Ik;apply yU
   .apply Bh (ts:=bH c.props) (g:=λb=>jV (b.1,(b.2.1,jb b.2.2))) (q:=λ_=>af) (enc:=λe=>.int e.1)
    .apply qy;apply BK
     .exact iB (P:=P) (cM W) (tV W) f J J
     .exact f.pp
     .exact a7
     .exact a6
     left
    .intro z B y D e m;intros z B y D e _ m;refine⟨_,cW ⟨.inl J,rfl,rfl⟩,?_,mF,λ_=>?_⟩
     .exact b8 J cX
     have Z:=kq.mp m;have t:look c.props e.1=U e.2:=u.look Z;obtain⟨b,F,M,G,a8,R,Q,a5,a4⟩:∃b F T,b∈q.xs/\b.k=e.1/\look c.props e.1=U (F,T)/\look (q.xs.map λb=>(b.k,gF b.la)) e.1=U (.r b.la)/\b.d=bq F/\b.ks=T:=by
      rcases zj f.props e.1 with⟨l,_⟩|h
      .exact ns l t
      exact h
     have O:e.2=(F,M):=by rw[t] at R;simpa using R
     have E:=f.xs b G;rw[a5,a4] at E;refine bQ (ds:=[.int e.1,bq e.2.1,.lst (eY (jb e.2.2))]) ?_;rw[O];apply aN
     .left
     apply aN
     .apply IU (k:=0) (j:=0)
      .apply r8
       .exact iB (P:=P) (cM W) (tV W) f J J
       .exact f.pp
       .left
       .exact Q
       left
      .exact E.1
      left
     apply aN
     .apply Ev.YA (ks:=M)
      .apply IU (k:=1) (j:=1)
       .apply r8
        .exact iB (P:=P) (cM W) (tV W) f J J
        .exact f.pp
        .left
        .exact Q
        left
       .exact E.1
       left
      .exact E.2
      have:=aw e Z;rw[O] at this;exact this;left
     exact aZ
     all_goals rfl
    .rw[u7];unfold bf;exact aj (gf ‹_›) ∅
    rfl;left
   .exact⟨.inl J,rfl,rfl⟩
   rfl
  apply aG;apply aG;exact o _ _ J J
 intro i;rw[mK H] at i;have p:¬c.phase=2:=of_decide_eq_false i
 have w:jd c.tup=[]:=by
  show(if c.phase=1 then _ else if c.phase=2 then _ else[])=_;rw[aB s,aB p]
 rw[w] at o;apply aG;apply aG;exact o _ _ J J;left
def zE{j:ak}{c:PA}{h:C}{e:ak}{kd:Str}{b:aL}{f t:Int}{rs:aH}{l:eH}{R:d9}(h2:aa rs<=2)(n:Ex (h.fn (nW P) 85 e λa=>a∈c.bD) [("rest",.d (.tup rs)),("frm",.d (.int f)),("b",.d (aK b)),("kind",.d (.str kd)),("self",.r j),("m",.d (.tup ([.str kd,aK b,.int f,.int t]++rs)))] [(sj P).drop 1] l R):
 Ex (h.fn (nW P) 85 e λa=>a∈c.bD) [("self",.r j),("m",.d (.tup ([.str kd,aK b,.int f,.int t]++rs)))] [sj P] l R:=by
 intros g P j c h e kd _ W b f t rs l R h2 n;intros b f t rs l R _ W h2 n;unfold sj bodyPick at n⊢;have m:∀{u:Pos},Ev (h.fn (nW P) 85 e λa=>a∈c.bD) [("self",.r j),("m",.d (.tup ([.str kd,aK b,.int f,.int t]++rs)))] (.Name "m" u) (.d (.tup ([.str kd,aK b,.int f,.int t]++rs))):=ah J;have o:∀{i:Nat} (q:i<4),seqIndex? (i:Int) ([D.str kd,aK b,.int f,.int t]++rs).length=U i:=λ{i} q=>g9 (jL q (jK 4 (aa rs)))
 apply yT (Q:=λp s=>p=(h.fn (nW P) 85 e λa=>a∈c.bD)/\s=[.d (.str kd),.d (aK b),.d (.int f),.d (.tup rs)])
 .apply EvVs.ms;apply cR
  .exact br m aQ (o (i:=0) ∅) J
  apply cR
  .exact br m aQ (o (i:=1) ∅) J
  apply cR
  .exact br m aQ (o (i:=2) ∅) J
  apply cR
  .exact sD m (nq.int (k:=4) aQ) HM (YG _ _ _ _ rs)
  exact eX
  all_goals rfl
 intro p s w v;let ⟨zy,zy⟩:=v;exact⟨_,_,gq (mJ ⟨.inl J,rfl,rfl⟩) J (gq (mJ ⟨.inl J,rfl,rfl⟩) J (gq (mJ ⟨.inl J,rfl,rfl⟩) J (gq (mJ ⟨.inl J,rfl,rfl⟩) J jh))),n⟩;left
def ZQ{o:ak}{e:aU}{l:PA}{b:aL}{j s:Int}(i:mL e):fU g 9 85 [.r o,.d (bI (.prepare b j s))] (λc=>c∈l.bD) (λσ=>bL σ o e l) (je o l (e.message (.prepare b j s))):=by
 intros g P o e l b j s _ W i;refine k6 (n:=8) (zD W) J λK C y v H A=>?_;intros K C _ y v H A
 subst y;have O:=i.out;have R:=i.acc;have Q:=i.ch;refine zE W (kd:="prepare") (b:=b) (f:=j) (t:=s) (rs:=[]) (bM J) ?_;unfold sj bodyPick;have z:=nY (fd:=nW P) (fa:=85) (L:=C) A;apply b7
 .apply bS
  .left
  left
 case h2=>intro k;exact aV k (by decide+kernel)
 intro I;clear I;apply b7
 .apply bS
  .left
  .left
  .exact uR (op:=.Lt) (xo b e.promised) (lX _) J
  left
 .intro k;apply zw (m:=.refuse b e.me j e.promised) z (cM W) (sG W)
  .rfl
  .left
  .exact uO ‹_› rfl
  intro w x h;intros w _ x h;apply aG;apply aG;apply aG;apply cP;unfold lU;dsimp only;rw[az k];exact h.done;left
 intro k;have G:=QO W (a:=o) (p:=e) (q:=l) (b:=b);apply pA z (QJ W) G
 .rfl
 .rfl
 .left
 .exact iQ v J
 intro F E B h;intros F E _ B h;let ⟨M,σ,N,zy⟩:=gv B;have u:=PO (p:=e) b;apply Ex.Jo;exact J;decide+kernel;apply zw (m:=.promise b (e.gV b).me j (bH (e.gV b).acc)) h (cM W) (sG W)
 .rfl
 .apply bQ
  .apply aN
   .left
   apply aN
   .left
   apply aN
   .left
   apply aN
   .left
   apply aN
   .exact Ev.JE W h.at' J (by rw[u.2.2.1];exact i.Qu) (by rw[u.2.2.1];exact i.acc) (by exact iQ v J) J J
   exact aZ
   all_goals rfl
  left
 .rw[u.1];exact uO ‹_› rfl
 intro w x D;intros w _ x D;apply aG;apply aG;apply aG;apply aG;apply cP;unfold lU;dsimp only;rw[aB (by rw[k];simp)];exact D.done;left;left
def ZR{u:ak}{h:aU}{s:PA}{b:aL}{l v e:Int}{i:bz}(w:mL h):fU g 9 85 [.r u,.d (bI (.accept b l v e i))] (λc=>c∈s.bD) (λσ=>bL σ u h s) (je u s (h.message (.accept b l v e i))):=by
 intros g P u h s b l v e i _ W w;refine k6 (n:=8) (zD W) J λV H B G Q D=>?_;intros V H _ B G Q D
 subst B;have Y:=w.out;have av:=w.acc;have ae:=w.ch;refine zE W (kd:="accept") (b:=b) (f:=l) (t:=v) (rs:=[.int e,bq i]) (bM J) ?_;unfold sj bodyPick;have C:=nY (fd:=nW P) (fa:=85) (L:=H) D;apply b7
 .apply bS
  .left
  left
 case h2=>intro o;exact aV o (by decide+kernel)
 intro R;clear R;apply b7
 .apply bS
  .left
  .left
  .exact uR (op:=.Lt) (xo b h.promised) (lX _) J
  left
 .intro o;apply zw (m:=.refuse b h.me l h.promised) C (cM W) (sG W)
  .rfl
  .left
  .exact uO ‹_› rfl
  intro z A k;intros z _ A k;apply aG;apply aG;apply aG;apply cP;unfold lU;dsimp only;rw[az o];exact k.done;left
 intro o;have O:=QO W (a:=u) (p:=h) (q:=s) (b:=b);apply pA C (QJ W) O
 .rfl
 .rfl
 .left
 .exact iQ G J
 intro N I y k;intros N I _ y k;let ⟨K,σ,M,zy⟩:=gv y;intros K σ M _ y k;have F:=PO (p:=h) b;apply zo;exact J;decide+kernel;apply mH
 .apply tK;apply bQ (ds:=[aK b,bq i]);apply aN
  .left
  apply aN
  .apply br (ds:=[.int e,bq i]) (j:=1)
   .left
   left
  exact aZ
  all_goals rfl
  left
 .intro Z au X S;let ⟨zy,zy⟩:=S;have T:=k.acc e (b,i);refine⟨_,_,wW (by left) (br (ds:=[.int e,bq i]) (j:=0) (x:=.int e) (by left) aQ J J) k.at'.acc (k.wr _ xh) (by rw[F.2.2.1];simp[bP,fP];exact lim ‹_› rfl),?_⟩;apply zw (m:=.accepted b (h.gV b).me l e) T (cM W) (sG W)
  .rfl
  .apply bQ
   .apply aN
    .left
    apply aN
    .left
    apply aN
    .left
    apply aN
    .left
    apply aN
    .exact br (ds:=[.int e,bq i]) (j:=0) (x:=.int e) (by left) aQ J J
    exact aZ
    all_goals rfl
   left
  .show(h.gV b).out.length+1<=bf;rw[F.1];exact uO ‹_› rfl
  intro z A E;intros z _ A E;apply aG;apply aG;apply aG;apply aG;apply cP;unfold lU;dsimp only;rw[aB (by rw[o];simp)];exact E.done;left
 left;left
def ZS{p:ak}{h:aU}{l:PA}{b:aL}{s m c:Int}{e:bz}(q:mL h):fU g 9 85 [.r p,.d (bI (.aq b s m c e))] (λa=>a∈l.bD) (λσ=>bL σ p h l) (je p l (h.message (.aq b s m c e))):=by
 intros g P p h l b s m c e _ W q;refine k6 (n:=8) (zD W) J λD w v z A u=>?_;intros D w _ v z A u
 subst v;have G:=q.out;have K:=q.acc;have I:=q.ch;refine zE W (kd:="chosen") (b:=b) (f:=s) (t:=m) (rs:=[.int c,bq e]) (bM J) ?_;unfold sj bodyPick;have k:=nY (fd:=nW P) (fa:=85) (L:=w) u;apply b7
 .apply bS
  .left
  left
 .intro y;exact aV y (by decide+kernel)
 intro B;clear B;apply Ex.Jo;exact J;decide+kernel;apply kY
 .apply gB.WN (kvs:=bP (jn h.aq)) (i:=c) (x:=bq e)
  .left
  .exact u.ch
  .exact k.wr _ vh
  .exact br (ds:=[.int c,bq e]) (j:=0) (x:=.int c) (by left) aQ J J
  .exact br (ds:=[.int c,bq e]) (j:=1) (x:=bq e) (by left) aQ J J
  simp[bP,jn];(first|(refine lim ‹_› ?_;rfl)|(refine uO ‹_› ?_;rfl)|(show _<=1000000;lia));left
 .intro E H F C;subst C;apply aG;apply aG;apply aG;apply cP;rw[BG];unfold lU;dsimp only
  by_cases o:(look h.aq c).isSome=af
  .rw[az o,az o];refine(k.vn vh ?_).done;rw[Sg.set_same k.at'.ch];exact k.at'
  rw[aB o,aB o];exact(k.aq c e).done
 left
def ZU{o:ak}{h:aU}{i:PA}{b:aL}{q l:Int}{e:aL}(p:mL h):fU g 9 85 [.r o,.d (bI (.refuse b q l e))] (λa=>a∈i.bD) (λσ=>bL σ o h i) (je o i (h.message (.refuse b q l e))):=by
 intros g P o h i b q l e _ W p;refine k6 (n:=8) (zD W) J λK w s B F u=>?_;intros K w _ s B F u
 subst s;have M:=p.out;have O:=p.acc;have N:=p.ch;refine zE W (kd:="refuse") (b:=b) (f:=q) (t:=l) (rs:=[aK e]) (bM J) ?_;unfold sj bodyPick;have k:=nY (fd:=nW P) (fa:=85) (L:=w) u;apply b7
 .apply bS
  .left
  left
 .intro c;exact aV c (by decide+kernel)
 intro G;clear G;apply zo;exact J;decide+kernel;apply b7
 .apply iU;apply ia
  .apply bS
   .left
   .left
   .exact gz (aj (oA _ _) (lX _))
   left
  .intro _;apply ia
   .apply bS
    .left
    .left
    .exact uQ minZ
    left
   intro _;exact wL
 case h2=>
  intro c;rw[tS,zl] at c;apply aG;apply aG;apply aG;apply aG;apply cP;unfold lU;dsimp only;rw[aB (by intro m;rw[decide_eq_true m.1,decide_eq_false m.2.1] at c;cases c)];exact k.done
 intro c;rw[tS,zl] at c;have H:b=h.aE:=by simp at c;exact c.1
 have E:h.phase≠0:=by simp at c;exact c.2
 apply Ex.Jo;exact J;decide+kernel;apply b7
 .apply bS
  .exact br (ds:=[aK e]) (j:=0) (x:=aK e) (by left) aQ J J
  .left
  .exact uR (op:=.Gt) (BI e h.aE) (lX _) J
  left
 case h2=>
  intro c;apply aG;apply aG;apply aG;apply aG;apply aG;apply aG;apply cP;unfold lU;dsimp only;rw[aB (by intro m;rw[m.2.2] at c;cases c)];exact k.done
 intro A;apply Et k (cM W) (zC W) (v:=.d (aK (e.1,h.me)))
 .apply bQ
  .apply aN
   .exact br (ds:=[.int e.1,.int e.2]) (j:=0) (x:=.int e.1) (br (ds:=[aK e]) (j:=0) (x:=aK e) (by left) aQ J J) aQ J J
   apply aN
   .left
   exact aZ
   all_goals rfl
  left
 .rfl
 have C:=k.aE (e.1,h.me);apply Ex.idle (ph:=0) C (cM W) (qO W) (qQ W) (tV W)
 .rfl
 .rfl
 .decide+kernel
 intro D z I y;intros D z _ I y;apply aG;apply aG;apply aG;apply aG;apply aG;apply aG;apply cP;unfold lU;dsimp only;rw[az ⟨H,E,A⟩];exact y.done;left;left
def ZV{w:ak}{h:aU}{s:PA}{b:aL}{k u:Int}{l:bU}(m:mL h)(H:zv h (.promise b k u l)):fU g 9 85 [.r w,.d (bI (.promise b k u l))] (λc=>c∈s.bD) (λσ=>bL σ w h s) (je w s (h.message (.promise b k u l))):=by
 intros g P w h s b k u l _ W m H;refine k6 (n:=8) (zD W) J λY G D F R y=>?_;intros Y G _ D F R y
 subst D;have ae:=m.out;have a0:=m.acc;have aw:=m.ch;refine zE W (kd:="promise") (b:=b) (f:=k) (t:=u) (rs:=[.lst (l.map ck)]) (bM J) ?_;unfold sj bodyPick;have o:=nY (fd:=nW P) (fa:=85) (L:=G) y;apply b7
 .apply bS
  .left
  left
 .intro e;exact aV e (by decide+kernel)
 intro S;clear S;apply zo;exact J;decide+kernel;apply b7
 .apply iU;apply ia
  .apply bS
   .left
   .left
   .exact gz (aj (oA _ _) (lX _))
   left
  .intro _;apply ia
   .apply bS
    .left
    .left
    .exact uQ minZ
    left
   intro _;exact wL
 case h2=>
  intro e;rw[tS,zl] at e;apply aG;apply aG;apply aG;apply aG;apply cP;unfold lU;dsimp only;rw[aB (by intro i;rw[decide_eq_true i.1,decide_eq_false (λB=>aV (i.2.1.symm.trans B) ∅)] at e;cases e)];exact o.done
 intro e;rw[tS,zl] at e;have I:b=h.aE:=by simp at e;exact e.1
 have au:h.phase≠0:=by simp at e;exact e.2
 apply zo;exact J;decide+kernel;apply b7
 .apply iU;apply ia
  .apply bS
   .left
   .left
   .exact gz minZ
   left
  .intro _;apply ia
   .apply bS
    .left
    .left
    .exact gz minZ
    left
   intro _;exact wL
 case h2=>
  intro e;have C:dS (.str "promise") (.str "promise")=af:=by decide+kernel
  rw[C,tR] at e;have v:¬h.phase=1:=by simpa using e
  apply b7
  .apply iU;apply ia
   .apply bS
    .left
    .left
    .exact gz minZ
    left
   case b=>exact af
   intro i;exact aV i (by decide+kernel)
  .intro i;exact aV i (by decide+kernel)
  intro _;apply aG;apply aG;apply aG;apply aG;apply aG;apply aG;apply aG;apply cP;unfold lU;dsimp only;rw[aB (by intro i;exact v i.2.1)];exact o.done
 intro e;have C:dS (.str "promise") (.str "promise")=af:=by decide+kernel
 rw[C,tR] at e;have v:h.phase=1:=by simpa using e
 apply b7
 .apply bS
  .left
  .left
  .exact Bj y.pm
  left
 case h2=>
  intro e;apply aG;apply aG;apply aG;apply aG;apply aG;apply aG;apply aG;apply cP;unfold lU;dsimp only;rw[aB (by
   intro i;rw[xg] at e;unfold gu at e;rw[vg (λA:bU=>oU (A.map ck)),i.2.2] at e;cases e)]
  exact o.done
 intro e
 have K:look h.prom k=ai:=by
  rw[xg] at e;unfold gu at e;rw[vg (λA:bU=>oU (A.map ck))] at e;cases i:look h.prom k with
  |none=>rfl
  |some c=>rw[i] at e;cases e
 have z:=H I v K;apply mH
 .exact tK (br (ds:=[.lst (l.map ck)]) (j:=0) (x:=.lst (l.map ck)) (by left) aQ J J)
 .intro av ax Z T;let ⟨zy,zy⟩:=T;have V:=o.Yu k l;have O:=m.pm;refine⟨_,_,wW (by left) (by left) o.at'.pm (o.wr _ xj) (by simp[bP,gu];exact uO ‹_› rfl),?_⟩;have Q:=QX W (a:=w) (q:=s) (p:={h with prom:=put h.prom k l}) (m.p0 λB=>aV (v.symm.trans B) ∅) m.Jp m.Jq m.size (aj (qG h.prom k l) (fG O)) z.it z.lo z.hi (by exact lA ‹_› rfl) (by exact lA ‹_› rfl) (by exact lA (gf ‹_›) J);apply pA V (QM W) Q
  .rfl
  .rfl
  .exact eX
  .exact iQ F J
  intro X M N E;intros X M _ N E;apply aG;apply aG;apply aG;apply aG;apply aG;apply aG;apply aG;apply cP;unfold lU;dsimp only;rw[az ⟨I,v,K⟩];exact E.done;left
 left
def ZW{D:ak}{m:aU}{u:PA}{b:aL}{l C e:Int}(w:mL m)(K:zv m (.accepted b l C e)):fU g 9 85 [.r D,.d (bI (.accepted b l C e))] (λc=>c∈u.bD) (λσ=>bL σ D m u) (je D u (m.message (.accepted b l C e))):=by
 intros g P D m u b l C e _ W w K;refine k6 (n:=8) (zD W) J λa8 S O R ax y=>?_;intros a8 S _ O R ax y
 subst O;have bk:=w.out;have b2:=w.acc;have b1:=w.ch;refine zE W (kd:="accepted") (b:=b) (f:=l) (t:=C) (rs:=[.int e]) (bM J) ?_;unfold sj bodyPick;have B:=nY (fd:=nW P) (fa:=85) (L:=S) y;apply b7
 .apply bS
  .left
  left
 .intro h;exact aV h (by decide+kernel)
 intro H;clear H;apply zo;exact J;decide+kernel;apply b7
 .apply iU;apply ia
  .apply bS
   .left
   .left
   .exact gz (aj (oA _ _) (lX _))
   left
  .intro _;apply ia
   .apply bS
    .left
    .left
    .exact uQ minZ
    left
   intro _;exact wL
 case h2=>
  intro h;rw[tS,zl] at h;apply aG;apply aG;apply aG;apply aG;apply cP;unfold lU;dsimp only;rw[aB (by intro o;rw[decide_eq_true o.1,decide_eq_false (λE=>aV (o.2.symm.trans E) ∅)] at h;cases h)];exact B.done
 intro h;rw[tS,zl] at h;have a5:b=m.aE:=by simp at h;exact h.1
 have bp:m.phase≠0:=by simp at h;exact h.2
 apply zo;exact J;decide+kernel;apply b7
 .apply iU;apply ia
  .apply bS
   .left
   .left
   .exact gz minZ
   left
  case b=>exact af
  intro o;exact aV o (by decide+kernel)
 .intro o;exact aV o (by decide+kernel)
 intro H;clear H;apply b7
 .apply iU;apply ia
  .apply bS
   .left
   .left
   .exact gz minZ
   left
  .intro _;apply ia
   .apply bS
    .left
    .left
    .exact gz minZ
    left
   intro _;apply ia
   .apply bS
    .exact br (ds:=[.int e]) (j:=0) (x:=.int e) (by left) aQ J J
    .left
    .exact Iu y.pp
    left
   intro _;exact wL
 case h2=>
  intro h;have N:dS (.str "accepted") (.str "accepted")=af:=by decide+kernel
  rw[N,mK w.ph] at h;apply aG;apply aG;apply aG;apply aG;apply aG;apply aG;apply aG;apply cP;unfold lU;dsimp only;split
  .rename_i o;split
   .rename_i A ns z;rcases zj y.props e with⟨E,_⟩|⟨c,v',bt,_,_,_,I,_⟩
    .rw[E] at z;cases z
    rw[I,decide_eq_true o.2] at h;cases h
   exact B.done
  exact B.done
 intro h;have N:dS (.str "accepted") (.str "accepted")=af:=by decide+kernel
 rw[N,mK w.ph] at h;have ae:m.phase=2:=by simp at h;exact h.1
 have V:(look (u.xs.map λc=>(c.k,gF c.la)) e).isSome=af:=by simp at h;simpa using h.2
 obtain⟨c,A,ns,M,au,z,I,a6,a4⟩:∃c A T,c∈u.xs/\c.k=e/\look m.props e=U (A,T)/\look (u.xs.map λc=>(c.k,gF c.la)) e=U (.r c.la)/\c.d=bq A/\c.ks=T:=by
  rcases zj y.props e with⟨_,E⟩|o
  .rw[E] at V;cases V
  exact o
 have F:=y.xs c M;rw[a6,a4] at F;have a0:=w.Ey _ (qH z);dsimp only at a0;apply kY
 .apply gB.setAdd (a:=c.sa) (ks:=ns) (i:=l)
  .apply IU (k:=1) (j:=1)
   .apply r8
    .left
    .exact y.pp
    .exact br (ds:=[.int e]) (j:=0) (x:=.int e) (by left) aQ J J
    .exact I
    left
   .exact F.1
   left
  .exact F.2
  .exact B.wr _ (PA.Er M).2
  .left
  .exact K.1
  .exact K.2
  show _<4096;exact eK (fG ‹_<=4›) ∅;left
 .intro a9 bo bj a3;let ⟨zy,Y⟩:=a3;clear Y;have av:=B.Jj w.Qv (ks':=if ns.contains l then ns else ns++[l]) M au z;have aw:=QS W (a:=D) (q:={u with xs:=u.xs.map λG=>if G.k=e then{G with ks:=if ns.contains l then ns else ns++[l]} else G}) (p:={m with props:=put m.props e (A,if ns.contains l then ns else ns++[l])}) (s:=e) (v:=A) (ns:=if ns.contains l then ns else ns++[l]) (by show look (put m.props e _) e=_;rw[qI,az J]) w.size (by exact lA ‹_› rfl) (by exact lA ‹_› rfl);apply pA av (QK W) aw
  .rfl
  .rfl
  .apply cR
   .exact br (ds:=[.int e]) (j:=0) (x:=.int e) (by left) aQ J J
   .exact eX
   rfl
  .exact iQ R J
  intro a7 X Z Q;intros a7 X _ Z Q;apply aG;apply aG;apply aG;apply aG;apply aG;apply aG;apply aG;apply cP;unfold lU;dsimp only;rw[az ⟨a5,ae⟩,z];exact Q.done;left
 left
def ZX(c:mL p)(i:zv p m):fU g 9 85 [.r a,.d (bI m)] (λb=>b∈q.bD) (λσ=>bL σ a p q) (je a q (p.message m)):=by
 cases m with
 |prepare h e f=>exact ZQ W c
 |promise h e f l=>exact ZV W c i
 |refuse h e f n=>exact ZU W c
 |accept h e f j k=>exact ZR W c
 |accepted h e f j=>exact ZW W c i
 |aq h e f j k=>exact ZS W c
end
def Ev.ZY(o:bL a.σ f b h)(W:WW a.toG0 P)(hs:cU g "self" (.r f))(m:Nk b.acc)(j:aa b.acc<64)(l:1<=a.n)(i:attributeBase (.Name "self" p1) "acc_list" a.env (eval (.Name "self" p1) a.env)=eval (.Name "self" p1) a.env)(k:(p2.endLine==c.line)=af)(hl:(bH b.acc).map ck=e):Ev a g (.Call (.Attribute (.Name "self" p1) "acc_list" p2) [] [] c) (.d (.lst e)):=hl▸Ev.JE W o hs m j l i k
section
variable {g:G0}{P:Params}(W:WW g P)
include W
def ZZ{m:ak}{e:aU}{k:PA}(h:mL e)(s:Ew {e with prom:=[(e.me,bH e.acc)]}):fU g 11 78 [.r m,.d (vq (.run))] (λb=>b∈k.bD) (λσ=>bL σ m e k) (je m k (e.event (.run))):=by
 intros g P m e k _ W h s;refine k6 (n:=10) (EI W) J λF w H u Y K=>?_;intros F w _ H u Y K
 subst H;have a4:=h.out;have bj:=h.acc;have a8:=h.ch;have a5:=h.props;unfold BD bodyPick;have I:=nY (fd:=o8 P) (fa:=78) (L:=w) K;refine Eu (t:="run") J (by decide+kernel) ?_;obtain⟨f,z⟩:∃f:aL,f=(max e.promised.1 e.aE.1+1,e.me):=⟨_,rfl⟩;intros f _ z;apply Et I (cM W) (zC W) (v:=.d (aK f))
 .rw[z];apply bQ
  .apply aN
   .apply dY
    .apply Ev.max2
     .exact br (ds:=[.int e.promised.1,.int e.promised.2]) (j:=0) (x:=.int e.promised.1) (by left) aQ J J
     .exact br (ds:=[.int e.aE.1,.int e.aE.2]) (j:=0) (x:=.int e.aE.1) (by left) aQ J J
     left
    left
   apply aN
   .left
   exact aZ
   all_goals rfl
  left
 .rfl
 have N:=I.aE f;apply Et N (cM W) (BQ W) (v:=.d (aK f))
 .left
 .rfl
 have aw:=N.promised f;apply Ex.YJ (ph:=1) aw (cM W) (qO W) (tV W)
 .rfl
 .rfl
 .decide+kernel
 intro ax G C o;intros ax G _ C o;let ⟨A,σ,B,zy⟩:=gv (c:=F.fn (o8 P) 78 w λb=>b∈k.bD) C;intros A σ B _ C o;apply mH
 .apply lR;apply gp.Xy (i:=e.me) (x:=.lst ((bH e.acc).map ck))
  .left
  exact Ev.ZY o.at' W J h.Qu h.acc (by exact iQ u J) J J J
 .intro a6 a7 a9 au;let ⟨X,_,R,zy,zy⟩:=au;have M:=o.add (cn:=.i [(e.me,.d (.lst ((bH e.acc).map ck)))]) R;have V:=o.nw (cn:=.i [(e.me,.d (.lst ((bH e.acc).map ck)))]) R;have S:=M.prom (l:=[(e.me,bH e.acc)]) V sA;refine⟨_,_,Jl (cM W) (qQ W) M J,?_⟩;have Z:=EJ W (a:=m) (q:={G with pm:=X}) (p:={e with aE:=f,promised:=f,phase:=1,props:=[],prom:=[(e.me,bH e.acc)]}) (mk:=λy=>.prepare f e.me y) (kind:="prepare") (rs:=[]) (λy=>rfl) h.size (by exact lA ‹_› rfl) ∅;apply pA S (EH W) Z
  .rfl
  .rfl
  .left
  .exact iQ u J
  intro a0 Q D E;intros a0 Q _ D E;let ⟨A,σ,B,zy⟩:=gv (c:=F.fn (o8 P) 78 w λb=>b∈k.bD) D;intros A σ B _ D E
  have T:=QX W (a:=m) (q:=Q) (p:=({e with aE:=f,promised:=f,phase:=1,props:=[],prom:=[(e.me,bH e.acc)]}:aU).all (λy=>.prepare f e.me y)) J h.Jp h.Jq h.size (by show 1<=4;decide) s.it s.lo s.hi (by
   show(e.out++(pq e.size e.me).map _).length+1000<=1000000;rw[bO,aP];exact lA (dQ ‹e.out.length<=_› (aj (zk e.size e.me) h.size)) J) (by exact lA ‹_› rfl) (by exact lA (gf ‹_›) J)
  apply pA E (QM W) T
  .rfl
  .rfl
  .exact eX
  .exact iQ u J
  intro a3 ae av O;intros a3 ae _ av O;apply aG;apply aG;apply cP;subst z;exact O.done;left;left
 left;left;left;left
def Z0{l:ak}{f:aU}{e:PA}{h:bz}(c:mL f):fU g 11 78 [.r l,.d (vq (.bW h))] (λb=>b∈e.bD) (λσ=>bL σ l f e) (je l e (f.event (.bW h))):=by
 intros g P l f e h _ W c;refine k6 (n:=10) (EI W) J λK z o w H m=>?_;intros K z _ o w H m
 subst o;have M:=c.out;have Q:=c.acc;have O:=c.ch;have N:=c.props;unfold BD bodyPick;have u:=nY (fd:=o8 P) (fa:=78) (L:=z) m;refine zu (t:="propose") J (by decide+kernel) ?_;refine Eu (t:="propose") J (by decide+kernel) ?_;apply b7
 .apply bS
  .left
  .left
  .exact gz minZ
  left
 case h2=>
  intro i;rw[mK c.ph] at i;apply aG;apply aG;apply aG;apply aG;apply cP;unfold Bt;dsimp only;rw[aB (of_decide_eq_false i)];exact u.done
 intro i;rw[mK c.ph] at i;have G:f.phase=2:=eZ i
 have A:(e.xs.map λb=>(b.k,gF b.la)).map (·.1)=f.props.map (·.1):=by
  have:=aR (oB (·.1)) m.props
  simpa [jo,PE.v,s8] using this
 have F:=QT W (a:=l) (q:=e) (p:=f) (s:=cJ (f.props.map (·.1))+1) (v:=h) (YI _) c.Jp c.Jq c.size (by show _<=1000000;exact aj (gg ‹_› _) ∅) (by show _<=1000000;exact aj (gg ‹_› _) ∅) (by exact lK ‹_› rfl) (by exact lK ‹_› rfl);apply pA u (QL W) F
 .rfl
 .rfl
 .apply cR
  .apply dY
   .apply Ev.PX (kvs:=e.xs.map λb=>(b.k,gF b.la)) (d:=0)
    .left
    .exact m.pp
    left
   .left
   have I:(if(e.xs.map λb=>(b.k,gF b.la))=[] then(0:Int) else cJ ((e.xs.map λb=>(b.k,gF b.la)).map (·.1)))=cJ (f.props.map (·.1)):=by
    rw[A];split
    .rename_i C;rw[<-A,C];rfl
    rfl
   rw[I];exact qt
  .apply cR
   .exact br (ds:=[.str "propose",bq h]) (j:=1) (x:=bq h) (by left) aQ J J
   .exact eX
   rfl
  rfl
 .exact iQ w J
 intro D B E y;intros D B _ E y;apply aG;apply aG;apply aG;apply aG;apply cP;unfold Bt;dsimp only;rw[az G];exact y.done;left
def Z1{i:ak}{e:aU}{h:PA}{c:gr}(f:mL e)(s:zv e c):fU g 11 78 [.r i,.d (vq (.msg c))] (λb=>b∈h.bD) (λσ=>bL σ i e h) (je i h (e.event (.msg c))):=by
 intros g P i e h c _ W f s;refine k6 (n:=10) (EI W) J λC l k o w v=>?_;intros C l _ k o w v
 subst k;have F:=f.out;have H:=f.acc;have E:=f.ch;have G:=f.props;unfold BD bodyPick;have z:=nY (fd:=o8 P) (fa:=78) (L:=l) v;refine zu (t:="message") J (by decide+kernel) ?_;refine zu (t:="message") J (by decide+kernel) ?_;refine zu (t:="message") J (by decide+kernel) ?_;have B:=ZX W (a:=i) (q:=h) (p:=e) (m:=c) f s;apply pA z (Zt W) B
 .rfl
 .rfl
 .apply cR
  .exact br (ds:=[.str "message",bI c]) (j:=1) (x:=bI c) (by left) aQ J J
  .exact eX
  rfl
 .exact iQ o J
 intro D y A u;intros D y _ A u;apply aG;apply aG;apply aG;apply aG;apply cP;exact u.done;left
end
def QY(b:List (Int×bU))(a:Int):(look (bP (gu b)) a).isSome=(look b a).isSome:=by
 rw[xg];unfold gu;rw[vg (λc:bU=>oU (c.map ck))];cases look b a<;>rfl
def jF(a:aU)(b:Int×(bz×aF)):cT:=if(look a.aq b.1).isSome then(bx a.size a.me).map λc=>.aq a.aE a.me c b.1 b.2.1
 else((bu a.size).filter λc=>!b.2.2.contains c).map λc=>.accept a.aE a.me c b.1 b.2.1
def Z2(a:aU)(b:Int×(bz×aF))(h:a.size<=4):(jF a b).length<=4:=by
 unfold jF;split
 .rw[aP];exact aj (zk a.size a.me) h
 rw[aP];exact aj (Js _ _) h
section
variable {g:G0}{P:Params}(W:WW g P)
include W
def Z3{s:ak}{e:aU}{z:PA}(H:mL e):fU g 11 78 [.r s,.d (vq (.again))] (λb=>b∈z.bD) (λσ=>bL σ s e z) (je s z (e.event (.again))):=by
 intros g P s e z _ W H;refine k6 (n:=10) (EI W) J λN Y bo Q ct M=>?_;intros N Y _ bo Q ct M
 subst bo;have c6:=H.out;have de:=H.acc;have c7:=H.ch;have cq:=H.props;have a8:=H.size;unfold BD bodyPick;have a4:=nY (fd:=o8 P) (fa:=78) (L:=Y) M;refine zu (t:="again") J (by decide+kernel) ?_;refine zu (t:="again") J (by decide+kernel) ?_;refine Eu (t:="again") J (by decide+kernel) ?_;apply b7
 .apply bS
  .left
  .left
  .exact gz minZ
  left
 .intro j;rw[tR] at j;have av:e.phase=1:=eZ j;apply Ex.for (Inv:=λi B u=>Inv s z N.σ B {e with out:=e.out++((bu i).filter λf=>(look e.prom f).isNone).map λf=>.prepare e.aE e.me f} z/\Sub [("self",.r s)] u)
  .apply A9 (n:=e.size)
   .left
   exact AV ‹_› ∅;left
  .refine⟨?_,λb C h=>?_⟩
   .have h:e.out++((bu 0).filter λf=>(look e.prom f).isNone).map (λf=>qL e.aE e.me f)=e.out:=by simp[bu]
    rw[h];exact a4
   by_cases y:b="self"
   .subst y;exact h
   exact ns (gI y) h
  .intro i T B u F E D;let ⟨w,au⟩:=D;intros i T B u _ F E w au;let ⟨a0,σ,a3,zy⟩:=gv (c:=N.fn (o8 P) 78 Y λb=>b∈z.bD) F;let ⟨zy,b4⟩:=Jk E;have df:i<e.size:=by simpa using b4
   refine⟨_,cW ⟨.inl J,rfl,rfl⟩,?_⟩;refine fO (ρ':=[("j",.d (.int (i:Int))),("self",.r s)]) ?_ (λb C h=>by
    by_cases y:b="j"
    .subst y;exact h
    rw[gI y] at h;show((("j":Str),j6 (.int (i:Int)))::u).lookup b=U C;rw[gI y];exact au b C h)
   have R:Sub [("self",.r s)] [(("j":Str),j6 (.int (i:Int))),("self",gF s)]:=λb C h=>by
    have y:b≠"j":=by intro x;subst x;cases h
    rw[gI y];exact h
   have cf:=Js i λf=>(look e.prom f).isNone
   have Z:=Qx i λf=>(look e.prom f).isNone
   apply b7
   .apply bS
    .left
    .left
    .exact Bj w.at'.pm
    left
   .intro j;rw[QY] at j
    have Q:(look e.prom (i:Int)).isNone=af:=by
     cases x:look e.prom (i:Int) with
     |none=>rfl
     |some b=>rw[x] at j;cases j
    apply zw (m:=.prepare e.aE e.me i) w (cM W) (sG W)
    .rfl
    .left
    .simp only[bO,aP];exact lA (dQ ‹e.out.length<=_› (aj ‹_<=i› (aj (gf ‹_›) ‹e.size<=4›))) ∅
    intro V X I;intros V _ X I;apply aG;apply aG;apply cP;refine⟨?_,R⟩;rw[Z,az Q,cy,<-e9];exact I;left
   intro j;rw[QY] at j
   have Q:¬(look e.prom (i:Int)).isNone=af:=by
    cases x:look e.prom (i:Int) with
    |none=>rw[x] at j;cases j
    |some b=>simp
   apply aG;apply aG;apply cP;refine⟨?_,R⟩;rw[Z,aB Q,c8];exact w
  intro B u F D;let ⟨w,ax⟩:=D;clear ax;apply aG;apply aG;apply aG;apply aG;apply aG;apply cP;have h:(gA 0 ((e.size:Nat):Int).toNat).length=e.size:=by simp[gA]
  rw[h] at w
  have ae:e.event .again={e with out:=e.out++((bu e.size).filter λf=>(look e.prom f).isNone).map λf=>qL e.aE e.me f}:=by
   unfold Bt yZ;dsimp only;rw[az av]
  rw[ae];exact w.done;left
 intro j;rw[tR] at j;have av:¬e.phase=1:=of_decide_eq_false j;apply b7
 .apply bS
  .left
  .left
  .exact gz minZ
  left
 case h2=>
  intro j;rw[mK H.ph] at j;have a6:¬e.phase=2:=of_decide_eq_false j;apply aG;apply aG;apply aG;apply aG;apply aG;apply aG;apply cP
  have ae:e.event .again=e:=by
   unfold Bt yZ;dsimp only;rw[aB av,aB a6,c8]
  rw[ae];exact a4.done
 intro j;rw[mK H.ph] at j;have a6:e.phase=2:=eZ j
 have c3:∀{z:PA} {σ:Sg} {aw:aU},bL σ s aw z->aw.props=e.props->(z.xs.map λb=>(b.k,gF b.la)).map (·.1)=e.props.map (·.1):=by
  intro z σ aw M bj;intros z σ aw _ M bj;have:=aR (oB (·.1)) M.props;rw[bj] at this
  simpa [jo,PE.v,s8] using this
 apply Ex.for (Inv:=λi B u=>∃G,Inv s z N.σ B {e with out:=e.out++((bH e.props).take i).flatMap (jF e)} G/\Sub [("self",.r s)] u)
 .apply BK (l:=e.props)
  .left
  .exact M.pp
  .exact c3 M J
  exact cq;left
 .refine⟨z,?_,λb C h=>?_⟩
  .have h:e.out++((bH e.props).take 0).flatMap (jF e)=e.out:=by simp
   rw[h];exact a4
  by_cases y:b="self"
  .subst y;exact h
  exact ns (gI y) h
 .intro i T B u F E D;let ⟨G,w,au⟩:=D;intros i T B u G _ F E w au;let ⟨a0,σ,a3,zy⟩:=gv (c:=N.fn (o8 P) 78 Y λb=>b∈z.bD) F;intros a0 σ a3 _ F w;rw[cC] at E;obtain⟨o,a5,rfl⟩:∃o,(bH e.props)[i]?=U o/\T=.int o.1:=by
   cases x:(bH e.props)[i]? with
   |none=>rw[x] at E;cases E
   |some b=>rw[x] at E;exact⟨b,rfl,by simpa using E.symm⟩
  have b4:i<aa e.props:=by
   have:=(fH.mp a5).1;rw[u7] at this;exact this
  have c2:o∈e.props:=kq.mp (iZ a5);have bt:look e.props o.1=U o.2:=H.Qv.look c2
  have Z:((bH e.props).take (i+1)).flatMap (jF e)=((bH e.props).take i).flatMap (jF e)++jF e o:=by
   rw[rH,a5,AB];simp
  have c5:(e.out++((bH e.props).take i).flatMap (jF e)).length<=1000+4*64:=by
   rw[bO];have:=Xo (jF e) 4 ((bH e.props).take i) λb _=>Z2 e b a8
   rw[uC] at this;exact dQ ‹e.out.length<=1000› (aj this (lz 4 (aj (oA ..) (gf (Ac ‹i<aa e.props› ‹aa e.props<64›)))))
  refine⟨_,cW ⟨.inl J,rfl,rfl⟩,?_⟩;refine fO (ρ':=[("s",.d (.int o.1)),("self",.r s)]) ?_ (λb C h=>by
   by_cases y:b="s"
   .subst y;exact h
   rw[gI y] at h;show((("s":Str),j6 (.int o.1))::u).lookup b=U C;rw[gI y];exact au b C h)
  obtain⟨b,A,O,y,dj,b2,cw,E,b6⟩:∃b A b3,b∈G.xs/\b.k=o.1/\look e.props o.1=U (A,b3)/\look (G.xs.map λb=>(b.k,gF b.la)) o.1=U (.r b.la)/\b.d=bq A/\b.ks=b3:=by
   rcases zj w.at'.props o.1 with⟨h,_⟩|x
   .exact ns h bt
   exact x
  have b1:o.2=(A,O):=by rw[bt] at b2;simpa using b2
  have bk:=w.at'.xs b y;rw[E,b6] at bk;apply Ex.PZ
  .apply r8
   .left
   .exact w.at'.pp
   .left
   .exact cw
   left
  .exact bk.1
  .exact gq (mJ ⟨.inl J,rfl,rfl⟩) J (gq (mJ ⟨.inl J,rfl,rfl⟩) J jh)
  .have di:∀{u:Nm},Sub [("self",.r s)] u->Sub [("self",.r s)] u:=λx=>x
   apply b7
   .apply bS
    .left
    .left
    .exact Iu w.at'.ch
    left
   .intro j;rw[BG] at j;have cp:=EJ W (a:=s) (q:=G) (p:={e with out:=e.out++((bH e.props).take i).flatMap (jF e)}) (mk:=λf=>.aq e.aE e.me f o.1 A) (kind:="chosen") (rs:=[.int o.1,bq A]) (λf=>rfl) a8 (by show _<=1000000;dsimp only;exact lA ‹_› rfl) (by show 2<=10;decide);apply pA w (EH W) cp
    .rfl
    .rfl
    .left
    .exact iQ Q J
    intro V a9 X I;intros V a9 _ X I;apply aG;apply aG;apply cP;refine⟨a9,?_,?_⟩
    .rw[Z]
     have h:jF e o=(bx e.size e.me).map λf=>.aq e.aE e.me f o.1 A:=by
      unfold jF;rw[az j,b1]
     rw[h,<-e9];exact I
    exact((BH.skip J).skip J).skip J;left
   intro j;rw[BG] at j;apply Ex.for (Inv:=λf B u=>Inv s z N.σ B {e with out:=(e.out++((bH e.props).take i).flatMap (jF e))++((bu f).filter λf=>!O.contains f).map λf=>.accept e.aE e.me f o.1 A} G/\Sub [("ns",.r b.sa),("v",.d (bq A)),("s",.d (.int o.1)),("self",.r s)] u)
   .apply A9 (n:=e.size)
    .left
    exact AV ‹_› ∅;left
   .refine⟨?_,BH⟩;have h:(e.out++((bH e.props).take i).flatMap (jF e))++((bu 0).filter λf=>!O.contains f).map (λf=>vd e.aE e.me f o.1 A)=e.out++((bH e.props).take i).flatMap (jF e):=by simp[bu]
    rw[h];exact w
   .intro f T B u F cx D;let ⟨S,R⟩:=D;let ⟨a0,σ,a3,zy⟩:=gv (c:=N.fn (o8 P) 78 Y λb=>b∈z.bD) F;let ⟨zy,c0⟩:=Jk cx;have c4:f<e.size:=by simpa using c0
    refine⟨_,cW ⟨.inl J,rfl,rfl⟩,?_⟩;refine fO (ρ':=[("j",.d (.int (f:Int))),("ns",.r b.sa),("v",.d (bq A)),("s",.d (.int o.1)),("self",.r s)]) ?_ (λK C h=>by
     by_cases a7:K="j"
     .subst a7;exact h
     rw[gI a7] at h;show((("j":Str),j6 (.int (f:Int)))::u).lookup K=U C;rw[gI a7];exact R K C h)
    have bp:Sub [("ns",.r b.sa),("v",.d (bq A)),("s",.d (.int o.1)),("self",.r s)] [("j",.d (.int (f:Int))),("ns",.r b.sa),("v",.d (bq A)),("s",.d (.int o.1)),("self",.r s)]:=BH.skip J;have cf:=Js f λf=>!O.contains f
    have b5:=Qx f λf=>!O.contains f
    have cb:=S.at'.xs b y;rw[b6] at cb;apply b7
    .apply bS
     .left
     .left
     .exact Cmp.Wu cb.2
     left
    .intro j;apply zw (m:=.accept e.aE e.me f o.1 A) S (cM W) (sG W)
     .rfl
     .left
     .show(e.out++((bH e.props).take i).flatMap (jF e)++_).length+1<=1000000;rw[bO,aP];exact lA (dQ ‹_<=1000+_› (aj ‹_<=f› (aj (gf ‹_›) ‹e.size<=4›))) ∅
     intro V X I;intros V _ X I;apply aG;apply aG;apply cP;refine⟨?_,bp⟩;rw[b5,az j,cy,<-e9];exact I;left
    intro j;apply aG;apply aG;apply cP;refine⟨?_,bp⟩;rw[b5,aB (by rw[j];simp),c8];exact S
   intro B u F D;let ⟨S,R⟩:=D;apply aG;apply aG;apply cP;have h:(gA 0 ((e.size:Nat):Int).toNat).length=e.size:=by simp[gA]
   rw[h] at S;refine⟨G,?_,λK C h=>R K C ?_⟩
   .rw[Z]
    have h:jF e o=((bu e.size).filter λf=>!O.contains f).map λf=>.accept e.aE e.me f o.1 A:=by
     unfold jF;rw[aB (by rw[j];simp),b1]
    rw[h,<-e9];exact S
   have cz:K≠"ns":=by intro x;subst x;cases h
   have h2:K≠"v":=by intro x;subst x;cases h
   have cm:K≠"s":=by intro x;subst x;cases h
   rw[gI cz,gI h2,gI cm];exact h;left
  left
 intro B u F D;let ⟨G,w,ax⟩:=D;clear ax;apply aG;apply aG;apply aG;apply aG;apply aG;apply aG;apply cP;rw[aP,oF] at w
 have ae:e.event .again={e with out:=e.out++(bH e.props).flatMap (jF e)}:=by
  unfold Bt yZ;dsimp only;rw[aB av,az a6];rfl
 rw[ae];exact w.done;left
def Z4(f:mL b)(h:Jr b c):fU g 11 78 [.r a,.d (vq c)] (λe=>e∈q.bD) (λσ=>bL σ a b q) (je a q (b.event c)):=by
 cases c with
 |run=>exact ZZ W f h
 |bW i=>exact Z0 W f
 |again=>exact Z3 W f
 |e8=>exact h.elim
 |msg j=>exact Z1 W f h
end
structure JF(n:aD):Prop where
 acc:aa n.acc<=1000
 ch:aa n.aq<=1000
 ph:n.phase<=2
 hp:aa n.hp<=1000
 hl:aa n.hl<=1000
 QZ:Nk n.hl
 Ey:∀x∈n.hl,aa x.2.2<=4/\∀k∈x.2.2,0<=k/\k<4
def Z5(n:aD)(d b:ak)(σ e:Sg):Prop:=∃a:PA,a.da=b/\bL e d (ig n) a/\∀c∈a.bD,c=b\/σ c=ai
def Q0{c Str:Type}(d:c->Str)(b:List c):(b.map λa=>[d a]).flatten=b.map d:=by
 induction b with
 |nil=>rfl
 |cons a b e=>rw[dM,yf,e];rfl
def Q2(h:¬n.phase=2):oB PE.v []=jo (ig n).props:=(aR jo (aB h:(ig n).props=[])).symm
section
variable {g:G0}{P:Params}(W:WW g P)
include W
def Z6(A:JF n):Pa g 1 26 [.d (aX n)] (Z5 n):=by
 intros g P n _ W A;intro b a3 du;intros b a3 _ du;refine k6 (n:=0) (Zu W) J λbj cp c4 d4 ec ae=>?_;intros bj cp _ c4 d4 ec ae
 subst c4;change let w:C:=_;let bt:C->Nm->Prop:=_;let bo:C->D->Prop:=_;Ex w _ _ bt bo;intro w bt bo
 have a7:∀(I:C) (bp:Nm) (cq:eV) (f h L H:ak) (s:List PE) (G:List (ak×Cn)),cq=[]->(∃E N M,I=(oZ (w) E N M))->cU bp "self" (.r b)->
  IS b a3 bj.σ I [("me",.d (.int n.me)),("size",.d (.int n.size)),("promised",.d (aK n.promised)),("phase",.d (.str (jm n.phase))),("ballot",.d (aK n.aE)),("acc",.r f),("chosen",.r h),("prom",.r L),("props",.r H)] G->
  (f,mD (bP (fP (dJ [] n.acc))))∈G->(h,mD (bP (jn (dJ [] n.aq))))∈G->(L,mD (bP (gu (ig n).prom)))∈G->(H,mD (s.map λb=>(b.k,gF b.la)))∈G->(∀q∈nU s,q∈G)->s.map PE.v=jo (ig n).props->(f::h::L::H::cK s).Nodup->
  Ex I bp (((Ek P).drop 5)::cq) bt bo:=by
  intro I bp cq f h L H s G u bk d1 c6 dq h2 df a8 c7 b2 eA;subst u;let ⟨E,N,M,zy⟩:=bk;unfold Ek bodyPick;apply mH
  .exact lR (qE (eL aZ))
  .intro eg ej dy u;let ⟨V,_,o,zy,zy⟩:=u;have Y:=c6.add (cn:=.l []) o;have T:=Y.attr "out" (.r V);refine⟨_,_,Y.tg (cM W) (sG W) d1 (bM J),?_⟩;apply aG;apply cP
   have dC:V∉f::h::L::H::cK s:=λe=>(c6.new o).2.2.1 (by
    simp only[bN] at e;rcases e with rfl|rfl|rfl|rfl|e
    .exact aY.mpr ⟨_,dq,rfl⟩
    .exact aY.mpr ⟨_,h2,rfl⟩
    .exact aY.mpr ⟨_,df,rfl⟩
    .exact aY.mpr ⟨_,a8,rfl⟩
    rw[<-w5] at e;let ⟨q,t,zy⟩:=aY.mp e;exact aY.mpr ⟨_,c7 q t,rfl⟩)
   have aw:∀{q:ak×Cn},q∈G->q∈G++[(V,Cn.l [])]:=λe=>eE.mpr (.inl e)
   refine⟨T.hx,IS.fin (p:=ig n) T J (aw dq) (aw h2) (aw df) (aw a8) (eE.mpr (.inr sV)) (λq t=>aw (c7 q t)) b2 ?_⟩;have ae:(f::h::L::H::V::cK s).Perm (V::f::h::L::H::cK s):=(we (l₁:=[f,h,L,H]) (a:=V) (l₂:=cK s));exact ae.nodup_iff.mpr (ff.mpr ⟨dC,eA⟩)
  left
 unfold Ek bodyPick at a7⊢;have eP:=A.acc;have eR:=A.ch;have eJ:=A.hp;have e4:=A.hl;have b3:IS b a3 bj.σ w [] []:=⟨ae.1,ae.2,rfl,λed e=>(by cases e),by simp[du],λed e=>(by cases e),λw _ _=>rfl⟩;have cb:=b3.attr "me" (.d (.int n.me));have Y:=cb.attr "size" (.d (.int n.size));have T:=Y.attr "promised" (.d (aK n.promised));have b5:=T.attr "phase" (.d (.str (jm n.phase)));have a0:=b5.attr "ballot" (.d (aK n.aE));apply uZ (ds:=[.int n.me,.int n.size,aK n.promised,.lst (n.acc.map ck),.lst (n.aq.map eB),.str (jm n.phase),aK n.aE,.lst (jd n)])
 .exact ah J
 .refine gq (b3.tg (cM W) (BO W) J ∅) J (gq (cb.tg (cM W) (BP W) J (bM J)) J (gq (Y.tg (cM W) (BQ W) J (bM J)) J (gq (mJ ⟨.inl J,rfl,rfl⟩) J (gq (mJ ⟨.inl J,rfl,rfl⟩) J (gq (T.tg (cM W) (qO W) J (bM J)) J (gq (b5.tg (cM W) (zC W) J (bM J)) J (gq (mJ ⟨.inl J,rfl,rfl⟩) J jh)))))))
 clear b3 cb Y T b5;refine Ez (base:=w) J a0 λE N M a0=>?_
 apply mH
 .apply lR;apply Cp.new;apply Cp.dict (ds:=n.acc.map ck) (outs:=(n.acc.map λj=>[(j.1,gn [aK j.2.1,bq j.2.2])]))
  .simp
  .rw[Q0,aP];exact lim ‹_› rfl
  .exact qy (dU (ah J))
  .intro dA ei E c3 cx b1 dT z c0;rw[cC] at z c0;cases e:n.acc[cx]? with
   |none=>rw[e] at z;cases z
   |some j=>
    rw[e] at z c0;obtain rfl:ck j=b1:=by simpa using z
    obtain rfl:[(j.1,gn [aK j.2.1,bq j.2.2])]=dT:=by simpa using c0
    refine⟨_,af,j8 (.cons ⟨.inl J,rfl,rfl⟩ (.cons ⟨.inl J,rfl,rfl⟩ (.cons ⟨.inl J,rfl,rfl⟩ .nil))),?_,mF,λ_=>⟨j.1,_,ah J,?_,rfl⟩,λe=>by cases e⟩
    .exact b8 J (b8 J (b8 J cX))
    left
  .rfl
  left
 .intro eg ej dy u;let ⟨f,_,B,zy,zy⟩:=u;have b6:=a0.add (cn:=.i (bP (dJ [] ((n.acc.map λj=>[(j.1,gn [aK j.2.1,bq j.2.2])])).flatten))) B;have au:=b6.attr "acc" (.r f);refine⟨_,_,b6.tg (cM W) (EF W) J (bM J),?_⟩;clear a0 b6
  have dE:dJ [] ((n.acc.map λj=>[(j.1,gn [aK j.2.1,bq j.2.2])])).flatten=fP (dJ [] n.acc):=by
   rw[Q0];exact Jt (λb:aL×bz=>gn [aK b.1,bq b.2]) n.acc []
  refine Ez (base:=w) J au λE N M au=>?_
  rw[dE] at au;apply mH
  .apply lR;apply Pk (kvs:=jn n.aq)
   .exact ah J
   show n.aq.map eB=_;unfold jn;rw[bV];rfl;left
  .intro eQ eM eC u;let ⟨h,_,K,zy,zy⟩:=u;have ct:=au.add (cn:=.i (bP (dJ [] (jn n.aq)))) K;have av:=ct.attr "chosen" (.r h);refine⟨_,_,ct.tg (cM W) (EG W) J (bM J),?_⟩;clear au ct;have eb:dJ [] (jn n.aq)=jn (dJ [] n.aq):=Jt bq n.aq [];refine Ez (base:=w) J av λE N M av=>?_
   rw[eb] at av;apply yT (Q:=λI c2=>∃a5 a9,c2=[.r a5,.r a9]/\IS b a3 bj.σ I _ [(f,.i (bP (fP (dJ [] n.acc)))),(h,.i (bP (jn (dJ [] n.aq)))),(a5,.i []),(a9,.i [])])
   .refine nF (lR wV) (λd6 eD _ a8=>?_);let ⟨a5,_,B,zy,zy⟩:=a8;refine nF (lR wV) (λc5 dt _ d3=>?_);let ⟨a9,_,K,zy,zy⟩:=d3;intro d5 eu dz cp;refine aS (Be d5 eu dz cp) (λs eI er=>?_);rcases er with⟨I,c2,c3,S',L',r',hc,b2⟩
    refine⟨I,c2,c3,S',L',r',a5,a9,?_,?_⟩
    .rw[b2]
    rw[hc];exact(av.add B).add K
   intro d6 e0 ek u;let ⟨R,S,zy,a4⟩:=u;clear av;let ⟨E,N,M,zy⟩:=gv (c:=w) ek;have cm:=a4.attr "prom" (.r R);have y:=cm.attr "props" (.r S);refine⟨_,_,gq (a4.tg (cM W) (qQ W) J (bM J)) J (gq (cm.tg (cM W) (tV W) J (bM J)) J jh),?_⟩;have n0:=a4.nd;clear a4 cm;refine Ez (base:=w) J y λE N M y=>?_
   have cw:[f,h,R,S].Nodup:=(ff.mp (ff.mp n0).2).2;clear n0;apply b7
   .apply bS
    .exact Bf (cM W) (qO W) (ah J) y.hx y.hd J
    .left
    .exact gz minZ
    left
   .intro o;rw[tR] at o;have B:n.phase=1:=eZ o;have cz:jd n=n.hp.map ku:=by unfold jd;rw[az B]
    apply mH
    .apply lR;apply Pk (kvs:=gu n.hp)
     .exact ah J
     rw[cz];show n.hp.map ku=_;unfold gu;rw[bV];rfl;left
    .intro c5 dt d2 u;let ⟨O,_,de,zy,zy⟩:=u;have cf:dJ [] (gu n.hp)=gu (dJ [] n.hp):=Jt (λF:bU=>oU (F.map ck)) n.hp [];have Z:=y.add (cn:=.i (bP (dJ [] (gu n.hp)))) de;have a6:=Z.attr "prom" (.r O);have nw:=(y.new de).2.2.1;rw[cf] at Z a6⊢;refine⟨_,_,Z.tg (cM W) (qQ W) J (bM J),?_⟩;apply aG;exact a7 _ _ [] f h O S [] _ J ⟨_,_,_,rfl⟩ rfl a6 (mh _ (.head _)) (mh _ (.tail _ (.head _))) ((az B:(ig n).prom=_)▸AD _ (.head _)) (mh _ (.tail _ (.tail _ (.tail _ (.head _))))) (λq t=>gS t) (Q2 (by rw[B];decide)) (Jh (l₁:=[f,h]) (x:=R) cw nw)
    left
   intro o;rw[tR] at o;have B:¬n.phase=1:=of_decide_eq_false o;have dr:(ig n).prom=[]:=aB B;apply b7
   .apply bS
    .exact Bf (cM W) (qO W) (ah J) y.hx y.hd J
    .left
    .exact gz minZ
    left
   case h2=>
    intro o;rw[mK A.ph] at o;have K:¬n.phase=2:=of_decide_eq_false o;apply aG;apply aG;exact a7 _ _ [] f h R S [] _ J ⟨_,_,_,rfl⟩ rfl y (.head _) (.tail _ (.head _)) (dr▸.tail _ (.tail _ (.head _))) (.tail _ (.tail _ (.tail _ (.head _)))) (λq t=>gS t) (Q2 K) cw
   intro o;rw[mK A.ph] at o;have K:n.phase=2:=eZ o;have cz:jd n=n.hl.map jV:=by unfold jd;rw[aB B,az K]
   have cf:(ig n).props=n.hl.map λb=>(b.1,(b.2.1,fV b.2.2)):=by
    unfold ig;dsimp only;rw[az K];apply Bp;unfold Nk;rw[bV];exact A.QZ
   have ez:jo (ig n).props=n.hl.map λb=>(b.1,(bq b.2.1,u6 b.2.2)):=by
    rw[cf];unfold jo;rw[bV];rfl
   apply mH
   .apply r7.m;apply r7.XO (ds:=n.hl.map jV) (tot:=n.hl.map λb=>(b.1,(bq b.2.1,u6 b.2.2)))
    .simp
    .rw[bV];exact A.QZ
    .rw[aP];exact lim ‹_› rfl
    .rw[<-cz];exact qy (dU (ah J))
    .intro dA ei E c3 cx b1 F z X;rw[cC] at z X;cases e:n.hl[cx]? with
     |none=>rw[e] at z;cases z
     |some ax=>
      rw[e] at z X;obtain rfl:jV ax=b1:=by simpa using z
      obtain rfl:(ax.1,(bq ax.2.1,u6 ax.2.2))=F:=by simpa using X
      have dk:=A.Ey ax (iZ e);refine⟨_,j8 (.cons ⟨.inl J,rfl,rfl⟩ (.cons ⟨.inl J,rfl,rfl⟩ (.cons ⟨.inl J,rfl,rfl⟩ .nil))),?_,ah J,?_⟩
      .exact b8 J (b8 J (b8 J cX))
      apply BC.pair
      .exact ah J
      .apply gp.setOf
       .exact ah J
       .rfl
       .exact dk.2
       .exact eK (fG dk.1) ∅
       left
      left
    rfl;left
   .intro c5 dt d2 u;let ⟨O,dv,zy,zy,bk,dp⟩:=u;let ⟨s,d0,b4,dj⟩:=bk;have Z:=y.adds dj (by rw[dM,w5];exact b4) λw o=>(dp w o).2
    have a6:=Z.attr "props" (.r O);refine⟨_,_,Z.tg (cM W) (tV W) J (bM J),?_⟩
    have nw:∀F∈O::cK s,F∉[f,h,R]:=λF X=>by
     have eh:∃di,dv F=U di:=by
      rw[dj];rw[<-w5] at X;obtain⟨q,t,rfl⟩:∃q∈(O,mD (s.map λb=>(b.k,gF b.la)))::nU s,q.1=F:=by
       rcases bN.mp X with rfl|e
       .exact⟨_,sV,rfl⟩
       let ⟨q,t,e⟩:=aY.mp e;exact⟨q,vZ _ t,e⟩
      exact⟨_,IX (by rw[dM,w5];exact b4) t⟩
     let ⟨di,et⟩:=eh;exact λea=>(y.new (dp F (by rw[et];nofun)).2).2.2.1 (mh [S] ea)
    apply aG;apply aG;exact a7 _ _ [] f h R O s _ J ⟨_,_,_,rfl⟩ rfl a6 (mh _ (.head _)) (mh _ (.tail _ (.head _))) (dr▸mh _ (.tail _ (.tail _ (.head _)))) (AD _ (.head _)) (λq t=>AD _ (.tail _ t)) (d0.trans ez.symm) (Ql (l₁:=[f,h,R]) (l₂:=[S]) cw b4 nw)
   left;left
  left
 left;left
end
structure Q3(p:aU):Prop where
 k1:Nk p.acc
 k2:Nk p.aq
 k3:p.phase=1->Nk p.prom/\aa p.prom<64
 k4:p.phase=2->Nk p.props/\aa p.props<64/\∀x∈p.props,aa x.2.2<64
 l1:aa p.acc<64
 l2:aa p.aq<64
 ph:p.phase<=2
structure vA(n:aD)(e:jk):Prop where
 nf:JF n
 pf:mL (ig n)
 ef:Jr (ig n) e
 tf:Q3 ((ig n).event e)
section
variable {g:G0}{P:Params}(W:WW g P)
include W
def JG(v:vA n b):kg g 14 106 [.d (aX n),.d (vq b)] (λ_=>True) (.tup [aX (bK n b).1,.lst ((bK n b).2.map bI)]):=by
 intros g P n b _ W v;refine o6 (n:=13) (JB W) J λf w D m V=>?_;intros f w _ D m V
 subst D;unfold Qc bodyPick;apply Ex.OY
 .apply gB.make (n:=1) (fi:=26) (vs:=[.d (aX n)])
  .exact cM W
  .exact Z6 W v.nf
  .show f.mg "_Pax"=U (.ref f.cls);rw[W.hc];exact W.Zj
  .show findIn f.K (.ref f.cls) "__init__"=_;rw[W.hc,W.hK];rfl
  .show typeIn f.K (.ref 26)=_;rw[W.hK];rfl
  .exact cR (ah J) eX
  exact iQ m J;left
 .exact⟨.inl J,rfl,rfl⟩
 .intro A a5 Z x;obtain⟨I,z,r,a3,S,a8,rfl,⟨a9,H,y,a4,s,F⟩,a6,aw,C⟩:=x;have L:∀e∈y.bD,e≠z->f.σ e=ai:=λe i a0=>H e ((F e i).resolve_left a0)
  have ax:∀e∈y.bD,A.wr e:=λe i=>by
   by_cases p:e=z
   .rw[p];exact aw
   refine rR λm=>?_
   cases b:A.σ e with
   |none=>exact(s.fresh b).2 i
   |some u=>
    let ⟨x,_⟩:=r.nw e u b m;let ⟨G,k⟩:=x;rw[show(f.fn (w7 P) 106 w λ_=>False).σ e=f.σ e from rfl,L e i p] at k;cases k
  have O:∀e∈y.bD,¬(f.M e\/FX (w7 P) w 106 e):=λe i=>by
   by_cases p:e=z
   .rw[p];exact S
   cases b:A.σ e with
   |none=>exact aV i (s.fresh b).2
   |some u=>
    rcases C e u b with⟨G,k⟩|h
    .rw[show(f.fn (w7 P) 106 w λ_=>False).σ e=f.σ e from rfl,L e i p] at k;cases k
    exact h
  have av:=r.mm;clear r C F H;let ⟨R,Y,T,zy⟩:=gv Z;apply kY
  .apply Ij (vs:=[.d (vq b)])
   .exact Z4 W (a:=I) (q:=y) v.pf v.ef
   .exact Zs W
   .exact ah J
   .exact s.o
   .exact s.t
   .rfl
   .exact cR (ah J) eX
   .exact iQ m J
   .exact ax
   exact s;left
  .intro au a7 Q x;obtain⟨r,E,-,N,l,ae⟩:=x
   have X:∀e∈N.bD,¬f.M e:=λe i=>by
    rcases ae e i with h|h
    .exact λB=>O e h (.inl B)
    cases b:au.σ e with
    |none=>exact aV i (l.fresh b).2
    |some u=>
     rcases E e u b with⟨G,k⟩|h'
     .cases k.symm.trans h
     exact λB=>h' (av e (.inl B))
   clear r E;let ⟨R,Y,T,zy⟩:=gv (c:=f.fn (w7 P) 106 w λ_=>False) Q;have j:=v.tf;apply lQ (d:=.tup [aX (bK n b).1,.lst ((bK n b).2.map bI)])
   case hr=>rfl
   apply DP
   .apply r5
    .apply nE;apply Ev.DZ
     .exact ZP W (a:=I) (q:=N) j.k1 j.k2 j.k3 j.k4 j.l1 j.l2 j.ph
     .exact Zr W
     .exact ah J
     .exact l.o
     .exact l.t
     .rfl
     .exact eX
     .exact iQ m J
     .exact l
     left
    .apply r5
     .apply uY
      .exact Bf (cM W) (sG W) (ah J) l.o l.t J
      .exact l.out
      exact X _ vm
     .exact DQ
     rfl
    rfl
   left
  left
 left
end
noncomputable def EK(a:Int)(b:Nat):aD:=⟨a,b,(0,0),[],[],0,(0,0),[],[]⟩
def pB:jk->Str
 |.run=>"run"
 |.bW _=>"propose"
 |.again=>"again"
 |.e8=>"crash"
 |.msg _=>"message"
def vB:jk->aH
 |.bW a=>[bq a]
 |.msg b=>[bI b]
 |_=>[]
def Z7(a:jk):vq a=.tup (.str (pB a)::vB a):=by cases a<;>rfl
def bE:Mv->D
 |.at c b=>.tup (.str (pB b)::.int c::vB b)
 |.deliver a=>.tup [.str "deliver",.int a]
 |.drop a=>.tup [.str "drop",.int a]
 |.double a=>.tup [.str "double",.int a]
def qR:Mv->Str
 |.at _ a=>pB a
 |.deliver _=>"deliver"
 |.drop _=>"drop"
 |.double _=>"double"
noncomputable def jX:Mv->Int
 |.at b _=>b
 |.deliver a=>a
 |.drop a=>a
 |.double a=>a
def Q4:Mv->aH
 |.at _ a=>vB a
 |_=>[]
def Z8(a:Mv):bE a=.tup (.str (qR a)::.int (jX a)::Q4 a):=by cases a<;>rfl
abbrev PS:=aO×cT
def BR(c:PS):Mv->Prop
 |.at f d=>∃a,c.1[f]?=U a/\(d≠.e8->vA a d)/\(bK a d).2.length<=1000
 |.deliver e=>∀b,c.2[bT e (aa c.2)]?=U b->0<=b.to/\∃a,c.1[b.to.toNat]?=U a/\vA a (.msg b)/\(bK a (.msg b)).2.length<=1000
 |_=>True
def jG(a:PS)(b:fE):PS:=b.foldl fq a
def nZ(a:PS)(b:fE):Nat->aH
 |0=>[.lst (a.1.map aX)]
 |k+1=>nZ a b k++[.lst ((jG a (b.take (k+1))).1.map aX)]
def JH(a:PS)(b:fE)(k:Nat):nZ a b (k+1)=nZ a b k++[.lst ((jG a (b.take (k+1))).1.map aX)]:=rfl
def BS(a:PS)(b:fE)(k:Nat):(nZ a b k).length=k+1:=by
 induction k with
 |zero=>rfl
 |succ k c=>rw[JH,bO,c];rfl
def Z9(c:PS){a:fE}{k:Nat}{b:Mv}(h:a[k]?=U b):jG c (a.take (k+1))=fq (jG c (a.take k)) b:=by
 unfold jG;rw[rH,h];simp
def aaa(e:gr):∃c b d a,bI e=.tup (c::b::d::.int e.to::a):=by
 cases e<;>exact⟨_,_,_,_,rfl⟩
def EL(k:Int){n:Nat}(h:0<n):k.fmod (n:Int)=((bT k n:Nat):Int):=by
 unfold bT;exact(qf (CV k (dB.mpr h))).symm
def aab(c b:D)(a:aH):j7 (c::b::a) (U 2) ai=a:=by
 unfold j7;have d:clipAt (c::b::a).length 2=2:=(DA _ 2).trans (sQ (jK 2 (aa a)));simp only[Option.elim,d];show List.take _ a=a;exact Aq (by simp)
def EM{c:C}{a:ak}{b:aH}(h:c.σ a=U (.l b)):DG c (.r a)=U (aa b):=by unfold DG;simp only[h]
def aac{c:C}{a:ak}{b:aH}(h:c.σ a=U (.l b)):DB c (.r a)=U (!b.isEmpty):=by unfold DB;simp only[h]
structure PI(pn pw ph:ak)(c:C)(S:PS)(H:aH):Prop where
 n:c.σ pn=U (.l (S.1.map aX))
 w:c.σ pw=U (.l (S.2.map bI))
 h:c.σ ph=U (.l H)
 wn:c.wr pn
 ww:c.wr pw
 wh:c.wr ph
 e1:pn≠pw
 e2:pn≠ph
 e3:pw≠ph
section
variable {pn pw ph:ak}{c:C}{S:PS}{H:aH}
def PI.JI(a:PI pn pw ph c S H){ds:aH}{ns:aO}(b:ds=ns.map aX):PI pn pw ph (c.upd pn (.l ds)) (ns,S.2) H:=
 ⟨by rw[b];exact az J,(aB a.e1.symm).trans a.w,(aB a.e2.symm).trans a.h,a.wn,a.ww,a.wh,a.e1,a.e2,a.e3⟩
def PI.EN(a:PI pn pw ph c S H){ds:aH}{ms:cT}(b:ds=ms.map bI):PI pn pw ph (c.upd pw (.l ds)) (S.1,ms) H:=
 ⟨(aB a.e1).trans a.n,by rw[b];exact az J,(aB a.e3.symm).trans a.h,a.wn,a.ww,a.wh,a.e1,a.e2,a.e3⟩
def PI.aad(a:PI pn pw ph c S H){b:aH}:PI pn pw ph (c.upd ph (.l b)) S b:=
 ⟨(aB a.e2).trans a.n,(aB a.e3).trans a.w,az J,a.wn,a.ww,a.wh,a.e1,a.e2,a.e3⟩
def Ex.aae{base a:C}{c:Nm}{k:eV}{b:eH}{R:d9}(h:a={base with M:=a.M,σ:=a.σ,wr:=a.wr})(d:PI pn pw ph a S H)
 (e:∀M σ wr,PI pn pw ph (oZ (base) M σ wr) S H->Ex (oZ (base) M σ wr) c k b R):Ex a c k b R:=by
 obtain⟨M,σ,wr,rfl⟩:_:=gv h;exact e M σ wr d
end
section
variable {g:G0}{P:Params}(W:WW g P)
include W
def aaf(b:Int)(a:Nat):kg g 1 99 [.d (.int b),.d (.int a)] (λz=>True) (aX (EK b a)):=by
 refine o6 (n:=0) (QN W) J λi f c h z=>?_
 subst c;unfold Qa bodyPick;have e:aX (EK b a)=.tup [.int b,.int a,.tup [.int 0,.int 0],.lst [],.lst [],.str "idle",.tup [.int 0,.int 0],.lst []]:=rfl;rw[e];apply lQ
 case hr=>rfl
 apply nE;apply bQ
 case hz=>exact bM J
 refine aN (ah J) ?_ J;refine aN (ah J) ?_ J;refine aN (bQ (aN aQ (aN aQ aZ J) J) (bM J)) ?_ J;refine aN (bF (eL aZ (bM J))) ?_ J;refine aN (bF (eL aZ (bM J))) ?_ J;refine aN (dR (by decide+kernel)) ?_ J;refine aN (bQ (aN aQ (aN aQ aZ J) J) (bM J)) ?_ J;exact aN (bF (eL aZ (bM J))) aZ J
end
open Mine.Ex renaming aae->zF
noncomputable def EO:dH->dH
 |.For _ _ b _ _::_=>b
 |_=>[]
noncomputable def vC(a:Params):dH:=EO ((w9 a).drop 2)
def Q5(b e d:ak)(c:PS)(f:aH)(g:C)(a:Nm):Prop:=PI b e d g c (f++[.lst (c.1.map aX)])/\cU a "nodes" (.r b)/\cU a "history" (.r d)/\cU a "way" (.r e)
def EP(l:Params)(i:C)(c b a:ak)(k:PS)(j:aH)(f:Mv):Prop:=∀g e h (m:d9),PI c b a (oZ (i) g e h) k j->
 Ex (oZ (i) g e h) [("a",.d (bE f)),("nodes",.r c),("history",.r a),("way",.r b)] [vC l] (Q5 c b a (fq k f) j) m
def Ev.aag{c:C}{e:Nm}{a:aT}{b:gr}{k p1 p2}(h:Ev c e a (.d (bI b))):Ev c e (.Subscript a (.Constant (.int 3) k p1) p2) (.d (.int b.to)):=by
 let ⟨i,l,f,g,a⟩:=aaa b;rw[a] at h;exact br (j:=3) h aQ (g9 (j:=3) (by simp only[iz];exact bM J)) J
section
variable {P:Params}
def zG{j:C}{g:ak}{M σ wr}{R:d9}{b:Nm}{i:PS}{e:aH}{f d c:ak}(a:PI f d c (oZ (j.fn (jU P) 111 g (λz=>False)) M σ wr) i e)(s:aa e<=1000)(h1:cU b "nodes" (.r f))(h2:cU b "history" (.r c))(m:cU b "way" (.r d)):
 Ex (oZ (j.fn (jU P) 111 g (λz=>False)) M σ wr) b [(vC P).drop 1] (Q5 f d c i e) R:=by
 unfold vC w9 bodyPick;apply kY
 .apply qF
  .exact ah h2
  .exact a.h
  .exact a.wh
  .exact bF (IV (ah h1) a.n)
  .unfold bf;exact lA ‹_› rfl
  left
 .intro q p o l;let ⟨zy,k⟩:=l;subst k;exact aG (cP ⟨a.aad,h1,h2,m⟩)
 left
def aah{a:jk}:yI [.str "deliver",.str "drop",.str "double"] (.str (pB a))=aA:=by cases a<;>(dsimp only[pB];decide+kernel)
def aai{a:jk}:dS (.str (pB a)) (.str "crash")=af↔a=.e8:=by
 cases a<;>simp[pB,D.BJ]<;>decide+kernel
def aaj{e:C}{g:ak}(D:15<=e.n)(W:WW e.toG0 P){b:PS}{m:aH}{f p o:ak}{i:Nat}{n:aD}(hi:b.1[i]?=U n)(r:aa m<=1000)(F:aa b.1<=1000)(B:aa b.2<=100000):EP P (e.fn (jU P) 111 g λZ=>False) f p o b m (.at i .e8):=by
 intros P e g b m f p o i n _ D W hi r F B;intro w A y H c;have q:i<aa b.1:=(fH.mp hi).1;have z:fq b (.at i .e8)=(b.1.set i n.e8,b.2):=by unfold fq;dsimp only;rw[hi];dsimp only[nR];rw[c8]
 rw[z];have G:(b.1.map aX)[i]?=U (aX n):=by rw[cC,hi];rfl
 show Ex _ _ [vC P] _ _;unfold vC w9 bodyPick;apply b7
 .apply bS
  .exact br (ds:=[.str "crash",.int i]) (j:=0) (by left) aQ J J
  .left
  .left
  left
 .intro s;exact aV s (by decide+kernel)
 intro E;clear E;refine Eu (t:="crash") J (by decide+kernel) ?_;apply fN (x:="n") (v:=.d (aX n))
 .apply kT (ds:=b.1.map aX) (k:=(i:Int)) (j:=i)
  .left
  .exact c.n
  .exact br (ds:=[.str "crash",.int i]) (j:=1) (by left) aQ J J
  .exact g9 (by rw[aP];exact q)
  exact G;left
 .exact⟨.inl J,rfl,rfl⟩
 apply Ex.DV (a:=f) (ds:=b.1.map aX) (j:=i) (d:=aX n.e8)
 .apply dY
  .apply sD (out:=[.int n.me,.int n.size,aK n.promised,.lst (n.acc.map ck),.lst (n.aq.map eB)]) (l:=ai) (u:=U 5)
   .exact ah J
   .exact .none
   .exact .int aQ
   rfl
  .refine bQ (ds:=[.str "idle",aK n.aE,.lst []]) ?h (bM J);refine aN (dR (by decide+kernel)) ?_ J;refine aN (br (ds:=[.int n.me,.int n.size,aK n.promised,.lst (n.acc.map ck),.lst (n.aq.map eB),.str (jm n.phase),aK n.aE,.lst (jd n)]) (j:=6) (ah J) aQ J J) ?_ J;exact aN (bF (eL aZ (bM J))) aZ J;left
  exact oV (by show 8<=1000000;decide)
 .exact ah J
 .exact br (ds:=[.str "crash",.int i]) (j:=1) (by left) aQ J J
 .exact c.n
 .exact c.wn
 .rw[aP];exact q
 repeat apply aG
 refine zF (base:=e.fn (jU P) 111 g λZ=>False) J (c.JI (ns:=b.1.set i n.e8) (by rw[CL])) λw A y c=>?_
 apply zG c r<;>rfl;left;left
def aak{c:C}{m:ak}(t:15<=c.n)(W:WW c.toG0 P){b:PS}{o:aH}{x s p:ak}{i:Nat}{n:aD}{a:jk}(hi:b.1[i]?=U n)(g:a≠.e8)(v:vA n a)(hl:(bK n a).2.length<=1000)(B:aa o<=1000)(M:aa b.1<=1000)(K:aa b.2<=100000):EP P (c.fn (jU P) 111 m λZ=>False) x s p b o (.at i a):=by
 intros P c m b o x s p i n a _ t W hi g v hl B M K;intro D I E O e;have A:i<aa b.1:=(fH.mp hi).1
 have H:fq b (.at i a)=(b.1.set i (bK n a).1,b.2++(bK n a).2):=by
  have:nR n a=bK n a:=by cases a<;>first|rfl|exact aV J g
  unfold fq;dsimp only;rw[hi];dsimp only;rw[this]
 rw[H];have N:(b.1.map aX)[i]?=U (aX n):=by rw[cC,hi];rfl
 have u:=JG W v;rw[Z7] at u;show Ex _ _ [vC P] _ _;unfold vC w9 bodyPick;apply b7
 .apply bS
  .exact br (ds:=.str (pB a)::.int i::vB a) (j:=0) (by left) aQ (g9 (j:=0) (by simp only[iz];exact bM J)) J
  .left
  .exact Cmp.inT minZ
  left
 .intro f;exact aV (f.symm.trans aah) ∅
 intro l;clear l;apply b7
 .apply bS
  .exact br (ds:=.str (pB a)::.int i::vB a) (j:=0) (by left) aQ (g9 (j:=0) (by simp only[iz];exact bM J)) J
  .left
  .exact gz minZ
  left
 .intro f;exact aV (aai.mp f) g
 intro l;clear l;have r:∀{z:C} {q:Nm} {y:aT} {k L F},Ev z q y (.d (.tup (.str (pB a)::.int i::vB a)))->Ev z q (.Subscript y (.Constant (.int 1) k L) F) (.d (.int i)):=λG=>br (j:=1) G aQ (g9 (j:=1) (by simp only[iz];exact bM J)) J
 apply uZ
 .apply nJ
  .exact u
  .exact W.JA
  .exact(JB W).keep
  .apply cR
   .apply kT (ds:=b.1.map aX) (k:=(i:Int)) (j:=i)
    .left
    .exact e.n
    .exact r (ah J)
    .exact g9 (by rw[aP];exact A)
    exact N;left
   apply cR
   .apply dY
    .apply bQ
     .exact aN (br (ds:=.str (pB a)::.int i::vB a) (j:=0) (ah J) aQ (g9 (j:=0) (by simp only[iz];exact bM J)) J) aZ J
     left
    .exact sD (ds:=.str (pB a)::.int i::vB a) (ah J) (.int aQ) .none (aab _ _ _)
    exact oV (by cases a<;>exact bM J)
   exact eX
   all_goals rfl
  ·(first|(show 14<=c.n-1;exact iQ t J)|(show 14<=c.n-1;lia))
  .trivial
  left
 .apply gq
  .apply iW.Dz (ds:=b.1.map aX) (j:=i)
   case ho=>exact ah J
   case hi=>exact r (ah J)
   case hs=>exact e.n
   case hw=>exact e.wn
   case hj=>rw[aP];exact A
   left
  .rfl
  apply gq
  .exact mJ ⟨.inl J,rfl,rfl⟩
  .rfl
  exact jh
 .have h:=e.JI (ns:=b.1.set i (bK n a).1) (ds:=(b.1.map aX).set i (aX (bK n a).1)) (by rw[CL]);apply mG (ds:=b.2.map bI) (es:=(bK n a).2.map bI)
  .rfl
  .exact h.w
  .exact h.ww
  .exact⟨.inl J,rfl,rfl⟩
  .exact ah J
  .rfl
  .rw[aP,aP];unfold bf;exact aj (dQ ‹_› ‹_›) ∅
  repeat apply aG
  refine zF (base:=c.fn (jU P) 111 m λZ=>False) J (h.EN (ms:=b.2++(bK n a).2) (by rw[cy])) λD I E e=>?_
  apply zG e B<;>rfl
 left
end
section
variable {P:Params}
noncomputable def aal:Mv->Bool
 |.at _ _=>aA
 |_=>af
def JJ{l:C}{o:ak}(O:15<=l.n)(W:WW l.toG0 P){a:PS}{B:aH}{G z D:ak}{c:Mv}(m:aal c=af)(S:BR a c)(s:aa B<=1000)(a9:aa a.1<=1000)(a4:aa a.2<=100000):EP P (l.fn (jU P) 111 o λ_=>False) G z D a B c:=by
 intros P l o a B G z D c _ O W m S s a9 a4;intro t y u b2 g;have a0:bE c=.tup [.str (qR c),.int (jX c)]:=by cases c<;>first|rfl|(cases m;done)
 rw[a0];unfold vC w9 bodyPick;apply b7
 .apply bS
  .exact br (ds:=[.str (qR c),.int (jX c)]) (j:=0) (ah J) aQ J J
  .left
  .exact Cmp.inT minZ
  left
 case h2=>intro h;exact aV h (by cases c<;>first|(cases m;done)|(dsimp only[qR];decide+kernel))
 intro a6;clear a6;apply b7 (b:=!(a.2.map bI).isEmpty)
 .apply rU
  .exact ah J
  .exact aac g.w
  left
 case h2=>
  intro h;have q:a.2=[]:=by simpa using h
  have p:fq a c=a:=by
   obtain⟨bt,bp⟩:=a;have q:bp=[]:=q;subst q;cases c<;>first|rfl|(simp[fq];done)|(cases m;done)
  rw[p]
  repeat apply aG
  apply zG g s<;>rfl
 intro h;have q:a.2≠[]:=by simpa using h
 have Q:0<aa a.2:=LP.mpr q;have Y:=tP (jX c) Q;obtain⟨e,k⟩:∃e,a.2[bT (jX c) (aa a.2)]?=U e:=⟨_,dZ Y⟩;have ae:(a.2.map bI)[bT (jX c) (aa a.2)]?=U (bI e):=by rw[cC,k];rfl
 have R:bT (jX c) (aa a.2)<(a.2.map bI).length:=by rw[aP];exact Y
 apply fN (x:="at") (v:=.d (.int (bT (jX c) (aa a.2):Nat)))
 .rw[<-EL (jX c) Q];have a7:aa a.2=(a.2.map bI).length:=by rw[aP]
  apply dY (v₂:=.d (.int (aa a.2:Nat)))
  .exact br (ds:=[.str (qR c),.int (jX c)]) (j:=1) (ah J) aQ J J
  .rw[a7];apply lO (v:=.r z)
   .exact ah J
   exact EM g.w;left
  exact qw (nz ‹_›)
 .exact⟨.inl J,rfl,rfl⟩
 apply b7
 .apply bS
  .exact br (ds:=[.str (qR c),.int (jX c)]) (j:=0) (ah J) aQ J J
  .left
  .exact gz minZ
  left
 .intro h;obtain⟨f,rfl⟩:∃f,c=.double f:=by cases c<;>first|exact⟨_,rfl⟩|(cases m;done)|exact aV h (by dsimp only[qR];decide+kernel)
  have k:a.2[bT f (aa a.2)]?=U e:=k;have p:fq a (.double f)=(a.1,a.2++[e]):=by unfold fq;dsimp only;rw[k];rfl
  rw[p];apply kY
  .apply qF
   .exact ah J
   .exact g.w
   .exact g.ww
   .exact kT (ds:=a.2.map bI) (ah J) g.w (ah J) (g9 R) ae
   .rw[aP];exact uO ‹_› rfl
   left
  .intro A bo Z K;let ⟨zy,E⟩:=K;subst E
   repeat apply aG
   refine zF (base:=l.fn (jU P) 111 o λ_=>False) J (g.EN (ms:=a.2++[e]) (by rw[cy];rfl)) λt y u g=>?_
   apply zG g s<;>rfl
  left
 intro h;apply Ex.OY
 .apply gB.pop (ds:=a.2.map bI) (n:=(bT (jX c) (aa a.2):Nat))
  .exact ah J
  .exact g.w
  .exact g.ww
  .exact ah J
  .exact g9 R
  .exact ae
  left
 .exact⟨.inl J,rfl,rfl⟩
 .intro A bo Z K;let ⟨zy,E⟩:=K;subst E;have i:=g.EN (ds:=(a.2.map bI).take (bT (jX c) (aa a.2))++(a.2.map bI).drop (bT (jX c) (aa a.2)+1)) (ms:=a.2.take (bT (jX c) (aa a.2))++a.2.drop (bT (jX c) (aa a.2)+1)) (by rw[cy,AA,List.map_drop]);have X:=Xp a.2 (bT (jX c) (aa a.2));refine zF (base:=l.fn (jU P) 111 o λ_=>False) Z i λt y u i=>?_
  apply b7
  .apply bS
   .exact br (ds:=[.str (qR c),.int (jX c)]) (j:=0) (ah J) aQ J J
   .left
   .exact gz minZ
   left
  case h2=>
   intro H;obtain⟨f,rfl⟩:∃f,c=.drop f:=by cases c<;>first|exact⟨_,rfl⟩|(cases m;done)|exact aV h (by dsimp only[qR];decide+kernel)|exact aV H (by dsimp only[qR];decide+kernel)
   repeat apply aG
   apply zG i s<;>rfl
  intro H;obtain⟨f,rfl⟩:∃f,c=.deliver f:=by cases c<;>first|exact⟨_,rfl⟩|(cases m;done)|exact aV H (by dsimp only[qR];decide+kernel)
  have k:a.2[bT f (aa a.2)]?=U e:=k;obtain⟨bk,n,I,a5,b1⟩:=S e k
  have p:fq a (.deliver f)=(a.1.set e.to.toNat (bK n (.msg e)).1,a.2.take (bT f (aa a.2))++a.2.drop (bT f (aa a.2)+1)++(bK n (.msg e)).2):=by
   unfold fq;dsimp only;rw[k];dsimp only;rw[I]
  rw[p];have i:PI G z D (oZ (l.fn (jU P) 111 o (λ_=>False)) t y u) (a.1,a.2.take (bT f (aa a.2))++a.2.drop (bT f (aa a.2)+1)) B:=i;have X:(a.2.take (bT f (aa a.2))++a.2.drop (bT f (aa a.2)+1)).length<=aa a.2:=X;generalize a.2.take (bT f (aa a.2))++a.2.drop (bT f (aa a.2)+1)=F at*;have a3:(e.to.toNat:Int)=e.to:=qf bk;have V:∀{A:C} {M:Nm} {T:aT} {au a8 av},Ev A M T (.d (bI e))->Ev A M (.Subscript T (.Constant (.int 3) au a8) av) (.d (.int (e.to.toNat:Nat))):=λax=>by rw[a3];exact Ev.aag ax
  have aw:e.to.toNat<aa a.1:=(fH.mp I).1;have bj:(a.1.map aX)[e.to.toNat]?=U (aX n):=by rw[cC,I];rfl
  have N:e.to.toNat<(a.1.map aX).length:=by rw[aP];exact aw
  apply uZ
  .apply nJ
   .exact JG W a5
   .exact W.JA
   .exact(JB W).keep
   .refine cR ?_ (cR ?_ eX)
    .exact kT (ds:=a.1.map aX) (ah J) i.n (V (ah J)) (g9 N) bj
    exact bQ (ds:=[.str "message",bI e]) (aN (dR (by decide+kernel)) (aN (ah J) aZ J) J) (bM J)
   .exact iQ O J
   .trivial
   left
  .apply gq
   .exact iW.Dz (ds:=a.1.map aX) (j:=e.to.toNat) (ah J) (V (ah J)) i.n i.wn N
   .rfl
   apply gq
   .exact mJ ⟨.inl J,rfl,rfl⟩
   .rfl
   exact jh
  .have L:=i.JI (ns:=a.1.set e.to.toNat (bK n (.msg e)).1) (ds:=(a.1.map aX).set e.to.toNat (aX (bK n (.msg e)).1)) (by rw[CL]);apply mG (ds:=F.map bI) (es:=(bK n (.msg e)).2.map bI)
   .rfl
   .exact L.w
   .exact L.ww
   .exact⟨.inl J,rfl,rfl⟩
   .exact ah J
   .rfl
   .rw[aP,aP];exact lK (dQ (aj ‹F.length<=_› ‹_›) ‹_›) J
   repeat apply aG
   refine zF (base:=l.fn (jU P) 111 o λ_=>False) J (L.EN (ms:=F++(bK n (.msg e)).2) (by rw[cy])) λt y u g=>?_
   apply zG g s<;>rfl
  left
 left;left
end
def pS(a:Nat):PS:=((bu a).map λb=>EK b a,[])
def lP.one{a:C}{c:Nm}{e:aT}{b:Bool}(h:bX a c e b):lP a c [e] b:=by
 have:=lP.cons h λz=>mF
 rwa [yt] at this
def JK(n:Nat):gA 0 n=(bu n).map .int:=by
 unfold gA bu;rw[bV];exact j0 λa z=>by show iM _=iM _;rw[GI]
def Sub.nil{b:Nm}:Sub [] b:=λd c a=>by cases a
def Sub.cons{g c:Nm}{b:Str}{f:V}(h:c.lookup b=U f)(i:Sub g c):Sub ((b,f)::g) c:=λe j a=>by
 by_cases d:e=b
 .subst d;rw[rW] at a;rw[h,a]
 rw[gI d] at a;exact i e j a
def Sub.both{g c:Nm}{b:Str}{f:V}(h:Sub g c):Sub ((b,f)::g) ((b,f)::c):=λe i a=>by
 by_cases d:e=b
 .subst d;rw[rW] at a;rw[rW,a]
 rw[gI d] at a⊢;exact h e i a
section
variable {g:G0}{P:Params}(W:WW g P)
include W
def aam{c:C}{L:ak}(b:15<=c.n)(q:c.toG0=g){h:PS}{H:aH}{u r p:ak}{k:Mv}(j:BR h k)(f:aa H<=1000)(d:aa h.1<=1000)(a:aa h.2<=100000):EP P (c.fn (jU P) 111 L λz=>False) u r p h H k:=by
 subst q;cases k with
 |«at» i e=>
  let ⟨v,o,s,t⟩:=j
  by_cases l:e=.e8
  .subst l;exact aaj b W o f d a
  exact aak b W o l (s l) t f d a
 |deliver m=>exact JJ b W J j f d a
 |drop m=>exact JJ b W J j f d a
 |double m=>exact JJ b W J j f d a
def aan{b:Nat}{e:fE}(hs:b<=4)(a9:aa e<=500)(Y:∀k a,e[k]?=U a->BR (jG (pS b) (e.take k)) a/\(jG (pS b) (e.take k)).1.length<=1000/\(jG (pS b) (e.take k)).2.length<=100000):
 kg g 16 111 [.d (.int b),.d (.lst (e.map bE))] (λ_=>True) (.tup [.lst (nZ (pS b) e (aa e)),.lst ((jG (pS b) e).2.map bI)]):=by
 intros g P b e _ W hs a9 Y;refine o6 (n:=15) (ZD W) J λy C S V _=>?_
 have bj:=S;subst S;unfold w9 bodyPick;apply r6 (x:="nodes") (cn:=.l ((pS b).1.map aX))
 .have t:(pS b).1.map aX=((bu b).filter λ_=>af).map λo=>aX (EK o b):=by
   rw[rJ.mpr λ_ _=>rfl];unfold pS;rw[bV];rfl
  rw[t];apply yU
  .apply Bh (enc:=.int)
   .apply qy;rw[<-JK];exact A9 (n:=(b:Int)) (ah J) (by exact AV ‹_› ∅)
   .intro b5 cq B c3 a0 b6;refine⟨_,cW aJ,?_,mF,λ_=>?_⟩
    .exact b8 J cX
    apply nJ
    .exact aaf W a0 b
    .exact W.Zk
    .exact(QN W).keep
    .exact cR (ah J) (cR (ah J) eX)
    .exact iQ V J
    .trivial
    left
   .show _<=1000000;unfold bu;rw[aP,gx];exact lK ‹_› rfl
   rfl;left
  left;exact aJ
 intro q cx c0;apply Ig (names:=["history","way"]) (Q:=λs R=>∃f i,R=[.r f,.r i]/\PI q i f s (pS b) [.lst ((pS b).1.map aX)]/\¬y.M f/\¬y.M i)
 .apply nF
  .apply lR;apply qE;apply eL
   .exact aN (bF (IV (v:=.r q) (ds:=(pS b).1.map aX) (ah J) (az J))) aZ J
   left
  .intro a4 cf X m;let ⟨f,T,c2,zy,E⟩:=m;subst E;apply nF
   .exact lR (qE (eL aZ (bM J)))
   .intro cp ct b3 m;let ⟨i,O,cb,zy,E⟩:=m;subst E;intro a7 bt ax Lo;refine aS (Be a7 bt ax Lo) (λb2 cm j=>?_);obtain⟨s,R,bk,bo,a8,aw,rfl,rfl⟩:=j;have ae:q≠f:=λt=>T (.inr t.symm)
    have au:f≠i:=λt=>O (.inr t.symm)
    have Z:q≠i:=λt=>O (.inl (.inr t.symm))
    refine⟨_,_,bk,bo,a8,aw,f,i,rfl,⟨?_,az J,?_,.inl (.inl (.inr J)),.inr J,.inl (.inr J),Z,ae,au.symm⟩,λj=>T (.inl (.inl j)),λj=>O (.inl (.inl (.inl j)))⟩
    .exact(aB Z).trans ((aB ae).trans (az J))
    exact(aB au).trans (az J)
   rfl
  rfl
 .intro cz p;simp at p;rcases p with rfl|rfl<;>exact aJ
 intro a4 R X m;let ⟨f,i,zy,G,b1,a6⟩:=m;refine⟨rfl,?_⟩;refine zF (base:=y.fn (jU P) 111 C λ_=>False) X G λB I F G=>?_
 apply Ex.for (ds:=e.map bE) (Inv:=λo s u=>PI q i f s (jG (pS b) (e.take o)) (nZ (pS b) e o)/\cU u "nodes" (.r q)/\cU u "history" (.r f)/\cU u "way" (.r i))
 .exact dU (ah J)
 .exact⟨G,rfl,rfl,rfl⟩
 .intro o b4 s u N A m;let ⟨z,av,D,K⟩:=m;let ⟨B,I,F,zy⟩:=gv (c:=y.fn (jU P) 111 C λ_=>False) N;rw[cC] at A;cases p:e[o]? with
  |none=>rw[p] at A;cases A
  |some a=>
   rw[p] at A;cases A;let ⟨a3,a5,bp⟩:=Y o a p;have cw:=(fH.mp p).1;refine⟨_,cW aJ,?_⟩;refine fO (ρ':=[("a",.d (bE a)),("nodes",.r q),("history",.r f),("way",.r i)]) ?_ (Sub.both (.cons av (.cons D (.cons K .nil))));refine Bb (aam W (c:=y) (L:=C) V bj a3 (H:=nZ (pS b) e o) (by rw[BS];exact aj ‹_› (aj ‹_› ∅)) a5 bp B I F _ z) (λs u j=>?_) λ_ _ j=>j
   rw[JH];rw[Z9 _ p];exact j
 intro s u N m;let ⟨z,av,D,K⟩:=m;let ⟨B,I,F,zy⟩:=gv (c:=y.fn (jU P) 111 C λ_=>False) N;rw[aP,oF] at z;apply lQ
 case hr=>rfl
 apply DP
 .refine r5 ?_ (r5 ?_ DQ J) J
  .exact uY (ah D) z.h b1
  exact uY (ah K) z.w a6
 left;left;left
end
open Mine.lP renaming one->jt
open Mine.Sub renaming both->jY,cons->BU
def bB{a:Type}(c:List (Int×a))(b:Int×a):List (Int×a):=bH (c.filter (λd=>decide (d.1≠b.1))++[b])
noncomputable def tW(b:Int)(a:Nat):Int:=((b.fmod 625).fdiv (5^a)).fmod 5
def f6(c:Int)(n:Nat)(b:Int):aF:=(bu n).filter λa=>decide (a≠b)&&decide (1<tW c a.toNat)
def dI(a:Int)(n:Nat)(c:Int):aF:=(f6 a n c).filter λb=>decide (2<tW a b.toNat)
def qS:List aL->Option aL
 |[]=>ai
 |b::bs=>U (bs.foldl (λc a=>if blt c a then a else c) b)
def mO(c:bU):dG:=
 (slots (cJ (c.map (·.1)))).map λd=>
  let b:=c.filter λa=>decide (a.1=d)
  ((b.filter λa=>decide (U a.2.1=qS (b.map (·.2.1)))).map (·.2.2)).headD ai
noncomputable def nd(b:aO)(a:Int):aD:=b.getD a.toNat ⟨0,0,(0,0),[],[],0,(0,0),[],[]⟩
def bh{a:Type}(d:List a):List (Int×a):=d.mapIdx λc b=>((c:Int)+1,b)
def cY{b:Type}(a:List b)(k:Int):List b:=a++(a[bT k (aa a)]?).toList
structure ju where
 bG:fE
 after:aO
 b:aL
 log:dG
def fu(c:aO)(b:Nat)(p:Int)(q:Bool)(k:Int):ju:=
 let d:=aa c;let h:=nd c b;let e:aL:=(max h.promised.1 h.aE.1+1,b);let l:=f6 p d b;let n:=dI p d b;let zH:=cY (bx d b) k;let f:=if q then zH.reverse else zH
 let w:aF:=if q then(bu (aa f)).reverse else f.map λZ=>0
 let y:fE:=[.at b .run,.double k]++(w.zip f).map (λj=>if l.contains j.2 then .deliver j.1 else .drop j.1)++(f.filter λa=>l.contains a).map λa=>if n.contains a then .deliver 0 else .drop 0
 let no:=f.filter λa=>n.contains a&&blt e (nd c a).promised
 let A:=match no with
  |[]=>f
  |a::_=>f.takeWhile λv=>decide (v≠a)
 let o:=(fV A).filter λa=>n.contains a
 let i:=decide (d/2<=aa o);let m:=if i then mO (((b:Int)::o.take (d/2)).flatMap λa=>(nd c a).acc) else[]
 let r:=(bh m).foldl (λz g=>bB z (g.1,(e,g.2))) h.acc;let x:=bH (((b:Int)::o).map λa=>(a,(nd c a).acc));let s:jQ:=(bh m).map λg=>(g.1,(g.2,[(b:Int)]))
 let t:aD:=match no with
  |[]=>⟨b,d,e,r,h.aq,if i then 2 else 1,e,if i then[] else x,if i then s else[]⟩
  |a::_=>⟨b,d,e,r,h.aq,0,((nd c a).promised.1,b),[],[]⟩
 let u:=(eT d).map λa=>if a=b then t else if l.contains (a:Int)&&!blt e (nd c a).promised then⟨a,d,e,(nd c a).acc,(nd c a).aq,0,(nd c a).aE,[],[]⟩ else nd c a
 ⟨y,u,e,m⟩
def fQ(n:Nat)(b:Int)(c:bR):bZ:=c.flatMap λd=>(bx n b).map λa=>(d.1,a)
def ir(b:aL)(c:aO)(a:Int×Int):Bool:=blt b (nd c a.2).promised
def vt(n:Nat)(b:Int)(d:bZ)(c:Int):aF:=jb (b::(bu n).filter λa=>d.contains (c,a))
def nw(n:Nat)(c:Int)(d:bR)(e:aF)(b:bZ):bR:=d.filter λa=>decide (n/2<(vt n c b a.1).length)&&!e.contains a.1
def zI(e n:Nat)(b:aL)(i m:bR)(o:Bool)(f:bZ)(a:aD):aD:=
 let c:aD:=if f.isEmpty then a else⟨e,n,b,a.acc,a.aq,0,a.aE,[],[]⟩
 let k:=i.foldl (λh d=>if f.contains (d.1,(e:Int)) then bB h (d.1,(b,d.2)) else h) c.acc;let j:=m.foldl (λg l=>if o then bB g l else g) c.aq
 {c with acc:=k,aq:=j}
def mP(c:aO)(b:aL)(f:bR)(e:bZ)(h:bR)(g:aF)(a:Nat):aD:=
 zI a (aa c) b f h (g.contains (a:Int)) (e.filter λd=>decide (d.2=(a:Int))&&!blt b (nd c a).promised) (nd c a)
section
variable (N:aO)(me:Nat)(L:aD)(b:aL)(log ws:dG)(y cu k:Int)
def iC:bR:=bh (if decide (L.phase=2) then log++ws else log)
def vD(b:bR):bZ:=(cY (fQ (aa N) me b) k).filter λa=>(f6 y (aa N) me).contains a.2&&decide (a.1≠cu)
def zJ(b:bZ):bZ:=b.filter λa=>(dI y (aa N) me).contains a.2&&decide (L.phase=2)
def kC(a:bZ):bZ:=match a.filter (ir b N) with
 |[]=>a
 |p::_=>a.takeWhile λc=>decide (c≠p)
def iD(d g:bR)(e:bZ):aD:=
 let c:aD:={L with acc:=d.foldl (λf a=>bB f (a.1,(b,a.2))) L.acc,aq:=g.foldl bB L.aq}
 match e.filter (ir b N) with
 |p::_=>{c with phase:=0,aE:=((nd N p.2).promised.1,me),hp:=[],hl:=[]}
 |[]=>if decide (L.phase=2) then{c with phase:=2,aE:=b,hp:=[],hl:=d.map λa=>(a.1,(a.2,vt (aa N) me (kC N b e) a.1))} else c
end
def BV(n b:Nat)(e:dG)(k:Int)(f i:bR)(c:bZ)(d:aF):fE:=
 e.map (λh=>.at b (.bW h))++[.double k]++(cY (fQ n b f) k).map (λa=>if c.contains a then .deliver 0 else .drop 0)++c.map (λa=>if d.contains a.2 then .deliver 0 else .drop 0)++i.flatMap λz=>(bx n b).map λg=>if d.contains g then .deliver 0 else .drop 0
def gK(a:aO)(c:Nat)(b:aL)(n i:dG)(g o k:Int):fE×aO:=
 let e:=nd a c;let d:=iC e n i;let f:=vD a c g o k d;let m:=zJ a c e g f;let h:=nw (aa a) c d (e.aq.map (·.1)) (kC a b m);let j:=dI g (aa a) c
 (BV (aa a) c i k d h f j,(eT (aa a)).map λl=>if l=c then iD a c e b d h m else mP a b d f h j l)
def kD(a:aD):cT:=
 let d:=bx a.size a.me
 if a.phase=1 then(d.filter λb=>!(a.hp.map (·.1)).contains b).map λb=>.prepare a.aE a.me b
 else if a.phase=2 then a.hl.flatMap λc=>if(a.aq.map (·.1)).contains c.1 then d.map λb=>.aq a.aE a.me b c.1 c.2.1
  else(d.filter λb=>!c.2.2.contains b).map λb=>.accept a.aE a.me b c.1 c.2.1
 else[]
structure lY where
 who:Int
 x:Int
 y:Int
 word:Int
 cu:Int
 mode:Int
 k:Int
noncomputable def qT:List (dG):=[[],[U "a"],[U "b"],[U "a",U "b"],[U "",U "a"],[U "c",U "b"]]
structure R1 where
 bG:fE
 marks:List (Nat×aO)
 left:cT
 nodes:aO
noncomputable def n7(n:aD):aD:={n with phase:=0,hp:=[],hl:=[]}
def mQ(e:R1)(a:lY):R1:=
 let l:=aa e.nodes;let c:=bT a.who l;let j:=e.bG++e.left.map λz=>.drop a.k
 let f:=fu e.nodes c a.x (decide (a.mode.fmod 2=1)) a.k;let h:=j++f.bG;let m:=e.marks++[(aa h,f.after)];let d:=gK f.after c f.b f.log (qT.getD (bT a.word 6) []) a.y (a.cu.fmod 4) a.k;let left:=kD (nd d.2 c);let g:=h++d.1++[.at c .again];let i:=m++[(aa g,d.2)]
 if a.mode.fmod 4<2 then
  let ns:=d.2.set c (n7 (nd d.2 c))
  ⟨g++[.at c .e8],i++[(yi (g++[.at c .e8]),ns)],left,ns⟩
 else⟨g,i,left,d.2⟩
noncomputable def gM(n:Nat):R1:=let ns:=(eT n).map λ(a:Nat)=>(⟨a,n,(0,0),[],[],0,(0,0),[],[]⟩:aD);⟨[],[(0,ns)],[],ns⟩
def n8(n:Nat)(a:List lY):R1:=a.foldl mQ (gM n)
instance:Nonempty ju:=⟨⟨[],[],(0,0),[]⟩⟩
instance:Nonempty lY:=⟨⟨0,0,0,0,0,0,0⟩⟩
instance:Nonempty R1:=⟨⟨[],[],[],[]⟩⟩
section
variable {α:Type}
def Q6(h:Nk a)(b:Int×α->Bool):Nk (a.filter b):=List.Nodup.sublist (Ud _ CM) h
def aao{b:List (Int×α)}(h:Nk b)(d k:Int)(i:d≠k):look (b.filter λa=>decide (a.1≠d)) k=look b k:=by
 induction b with
 |nil=>rfl
 |cons f b e=>
  rw[jD,gk]
  by_cases c:f.1=d
  .rw[aB (by simpa using c),e h.tail,aB (λg=>i (c▸g))]
  rw[az (by simpa using c),jD,e h.tail]
def ER(h:Nk b)(d:Int×α):Nk (b.filter (λa=>decide (a.1≠d.1))++[d]):=by
 unfold Nk;rw[cy];refine jz.mpr ⟨Q6 h _,jZ _ _,λi g j e c=>?_⟩;let ⟨a,f,zy⟩:=aY.mp g;have:=(cH.mp f).2;rw[dh.mp e] at c;simp[c] at this
def qU(h:Nk a)(c:Int×α)(k:Int):look (bB a c) k=if c.1=k then U c.2 else look a k:=by
 unfold bB;rw[yX (ER h c),D9,jD,D8]
 by_cases b:c.1=k
 .rw[az b,az b]
  have:look (a.filter λd=>decide (d.1≠c.1)) k=ai:=nP.mpr λg=>by
   let ⟨d,e,f⟩:=aY.mp g;have:=(cH.mp e).2;rw[f.trans b.symm] at this;simp at this
  rw[this];rfl
 rw[aB b,aB b,aao h _ _ b];exact G5
def kE(h:Nk a)(b:Int×α):Sk (bB a b):=u9 (ER h b)
def xu(h:Nk a)(c:Int)(b:α):bH (put a c b)=bB a (c,b):=
 (u9 (qJ h c b)).ext (kE h (c,b)) λd=>by rw[yX (qJ h c b),qI,qU h]
def Q7(h:Nk a)(b:Int×α):bB (bH a) b=bB a b:=
 (kE (tN h) b).ext (kE h b) λc=>by rw[qU (tN h),qU h,yX h]
end
structure bA(n:aD):Prop where
 acc:Sk n.acc
 fF:Sk n.aq
 sH:n.phase=1->Sk n.hp
 pC:n.phase≠1->n.hp=[]
 pD:n.phase=2->Sk n.hl/\∀x∈n.hl,x.2.2.Pairwise (·<·)
 tX:n.phase≠2->n.hl=[]
def aap(ns:aF):∀(σ:aF),(σ++ns).Nodup->ns.foldl (λσ k=>if σ.any (·==k) then σ else σ++[k]) σ=σ++ns:=by
 induction ns with
 |nil=>intro σ _;exact(c8 σ).symm
 |cons k ns e=>
  intro σ a;have f:k∉σ:=λc=>(jz.mp a).2.2 k c k (.head _) J
  have:(σ.any (·==k))=aA:=by
   rw[Aw];intro g d b;exact f ((beq_iff_eq.mp b)▸d)
  rw[i6,this,aB ∅,e (σ++[k]) (by rw[e9];exact a),e9];rfl
def aaq{ns:aF}(h:ns.Nodup):fV ns=ns:=(aap ns [] h).trans J
def xw{ns:aF}(h:ns.Pairwise (·<·)):ns.Nodup:=Hv (S:=λb a=>b≠a) (λ{b a} (h:b<a) (c:b=a)=>mu a (c▸h)) h
def Q8{ns:aF}(h:ns.Pairwise (·<·)):jb ns=ns:=PD (Bq ns) (h.imp iJ) (w4 ns)
def aar{b:jQ}(h:∀a∈b,a.2.2.Pairwise (·<·)):(b.map λa=>(a.1,(a.2.1,fV a.2.2)))=b:=by
 conv=>rhs;rw[<-uz b]
 exact j0 λa c=>by rw[aaq (xw (h a c))];rfl
def Q9(h:Sk a)(h2:∀b∈a,b.2.2.Pairwise (·<·)):qK a=a:=by
 unfold qK;rw[lT h]
 conv=>rhs;rw[<-uz a]
 exact j0 λb c=>by rw[Q8 (h2 b c)];rfl
def ES{e:Type}{a:Prop}[Decidable a]{d b x:e}(h1:a->d=x)(h2:¬a->b=x):(if a then d else b)=x:=by
 split
 case isTrue c=>exact h1 c
 case isFalse c=>exact h2 c
noncomputable def aD.px(n:aD):aU:=⟨n.me,n.size,n.promised,n.acc,n.aq,n.phase,n.aE,n.hp,n.hl,[]⟩
theorem bA.of{n:aD}(C:bA n):ig n=n.px:=by
 unfold ig;rw[Bp C.acc.nk,Bp C.fF.nk,ES (λa=>Bp (C.sH a).nk) λa=>(C.pC a).symm,ES (x:=n.hl) (λa=>(aR (dJ []) (aar (C.pD a).2)).trans (Bp (C.pD a).1.nk)) λa=>(C.tX a).symm];rfl
theorem bA.tup{n:aD}(C:bA n)(b:cT):({n.px with out:=b}:aU).tup=n:=by
 unfold Ed aD.px;dsimp only;rw[lT C.acc,lT C.fF,ES (λa=>lT (C.sH a)) λa=>(C.pC a).symm,ES (λa=>Q9 (C.pD a).1 (C.pD a).2) λa=>(C.tX a).symm]
def tY(C:bA n){p:aU}(h:n.px.event e=p):bK n e=(p.tup,p.out):=by unfold bK;rw[C.of,h]
def xx(C:bA n)(c:bA m)(h:n.px.event b={m.px with out:=a}):bK n b=(m,a):=(tY C h).trans (fh (c.tup a) J)
noncomputable def jH(b:aL)(n:aD):aD:=⟨n.me,n.size,b,n.acc,n.aq,0,n.aE,[],[]⟩
def bA.Ra{a:aD}(C:bA n)(h1:autoParam (a.acc=n.acc) aI)(h2:autoParam (a.aq=n.aq) aI)(c:autoParam (a.phase=0) aI)(e:autoParam (a.hp=[]) aI)(d:autoParam (a.hl=[]) aI):bA a:=⟨h1▸C.acc,h2▸C.fF,λb=>qz (c.symm.trans b),λz=>e,λb=>qz (c.symm.trans b),λz=>d⟩
theorem bA.jH(C:bA n)(b:aL):bA (jH b n):=C.Ra
def Rb{b:aL}{n:aD}(a:b.2≠n.me):n.px.gV b=(Mine.jH b n).px:=az a
def aas(C:bA n)(h:blt b n.promised=af):bK n (.msg (.prepare b a c))=(n,[.refuse b n.me a n.promised]):=xx C C (az h)
def Rc(C:bA n)(d:b.2≠n.me)(h:blt b n.promised=aA):bK n (.msg (.prepare b a c))=(Mine.jH b n,[.promise b n.me a n.acc]):=xx C (C.jH b) ((aB (by exact λe=>yr (h.symm.trans e))).trans (by rw[Rb d];exact aR (λf=>({(Mine.jH b n).px with out:=[.promise b n.me a f]}:aU)) (lT C.acc)))
def aat(C:bA n)(h:blt b n.promised=af):bK n (.msg (.accept b a e d c))=(n,[.refuse b n.me a n.promised]):=xx C C (az h)
def Rd(C:bA n)(g:b.2≠n.me)(h:blt b n.promised=aA):bK n (.msg (.accept b d f a c))=({Mine.jH b n with acc:=bB n.acc (a,(b,c))},[.accepted b n.me d a]):=
 (tY C (e:=.msg (.accept b d f a c)) (p:={(Mine.jH b n).px with acc:=put n.acc a (b,c),out:=[.accepted b n.me d a]}) ((aB (by exact λi=>yr (h.symm.trans i))).trans (by rw[Rb g];rfl))).trans (fh ((aR (λk:aD=>({k with acc:=bH (put n.acc a (b,c))}:aD)) ((C.jH b).tup [])).trans (aR (λj=>({Mine.jH b n with acc:=j}:aD)) (xu C.acc.nk ..))) J)
def aau(C:bA n)(b:aL)(d e a:Int)(c:bz):bK n (.msg (.aq b d e a c))=({n with aq:=if(look n.aq a).isSome then n.aq else bB n.aq (a,c)},[]):=
 (tY C J).trans (fh ((aR (λg:aD=>({g with aq:=bH (if(look n.aq a).isSome then n.aq else put n.aq a c)}:aD)) (C.tup [])).trans (aR (λf=>({n with aq:=f}:aD)) (by
  split
  .exact lT C.fF
  exact xu C.fF.nk a c))) J)
def pl(b:aO×cT)(a:fE):aO×cT:=a.foldl fq b
def mR(c:aO×cT)(a b:fE):pl c (a++b)=pl (pl c a) b:=j3
def qV(a:aO×cT)(c:Mv)(b:fE):pl a (c::b)=pl (fq a c) b:=rfl
def Rf{a n:Nat}(h:a<n):bT (a:Int) n=a:=by
 unfold bT;rw[Int.fmod_eq_emod_of_nonneg _ (fJ n),Int.emod_eq_of_lt (fJ a) (dB.mpr h)];exact j5 a
def JL(ns:aO)(a:cT)(c:gr)(b:cT):fq (ns,a++c::b) (.drop (aa a))=(ns,a++b):=by
 have e:aa a<(a++c::b).length:=by rw[bO];exact Cs (pT _)
 have d:(a++c::b).drop (aa a+1)=b:=by simp
 unfold fq;dsimp only;rw[Rf e,CN,d]
def JM{ns:aO}(a:cT)(b:gr)(c:cT)(h:ns[b.to.toNat]?=U n):fq (ns,a++b::c) (.deliver (aa a))=(ns.set b.to.toNat (bK n (.msg b)).1,a++c++(bK n (.msg b)).2):=by
 intros ns n a b c _ h;have d:aa a<(a++b::c).length:=by rw[bO];exact Cs (pT _)
 have f:(a++b::c)[aa a]?=U b:=by simp
 have e:(a++b::c).drop (aa a+1)=c:=by simp
 unfold fq;dsimp only;rw[Rf d,f];dsimp only;rw[h];dsimp only;rw[CN,e]
def aav(ns:aO)(k:Int):∀(b:Nat) (a:cT),aa a=b->pl (ns,a) (List.replicate b (.drop k))=(ns,[]):=by
 intro e
 induction e with
 |zero=>
  intro a c;rw[Am.mp c];rfl
 |succ b d=>
  intro a c;rw[List.replicate_succ,qV];refine d _ ?_;have f:bT k (aa a)<aa a:=tP k (c▸pT b);show(a.take _++a.drop _).length=b;rw[<-CH,Lv f,c];rfl
def pg(b:aL)(e:aF)(d:aO):aO:=d.mapIdx λc a=>if e.contains (c:Int)&&!blt b a.promised then jH b a else a
def kF(b:aL)(d:Int)(c:aO)(a:Int):gr:=if blt b (nd c a).promised then .refuse b a d (nd c a).promised else .promise b a d (nd c a).acc
structure Good(N:aO):Prop where
 gE:∀(i:Nat) n,N[i]?=U n->bA n
 me:∀(i:Nat) n,N[i]?=U n->n.me=(i:Int)
def Rh(b:aL):blt b b=aA:=by
 unfold blt;simp
def Ri(b:aL)(a:aO):pg b [] a=a:=by
 intros b a;unfold pg;apply kO;intro c;intros c;rw[mX];cases a[c]?<;>rfl
def zK(b:aL)(a:aF)(c:aO)(i:Nat):(pg b a c)[i]?=(c[i]?).map λn=>if a.contains (i:Int)&&!blt b n.promised then jH b n else n:=by
 unfold pg;rw[mX]
def aaw{b:aL}{a:aF}{d:aO}{i:Nat}{n:aD}(h:d[i]?=U n):(pg b a d).set i (if !blt b n.promised then jH b n else n)=pg b (a++[(i:Int)]) d:=by
 intros b a d i n _ h;apply kO;intro c;intros c;have g:i<(pg b a d).length:=by unfold pg;rw[qb];exact(fH.mp h).1
 by_cases e:i=c
 .subst e;rw[mj g,zK,h];show U _=U _;have:(a++[(i:Int)]).contains (i:Int)=af:=by simp
  rw[this];dsimp only;rw[MA]
 rw[oG e,zK,zK]
 have:(a++[(i:Int)]).contains (c:Int)=a.contains (c:Int):=by
  have j:¬((c:Int)=(i:Int)):=λf=>e (oN f).symm
  simp[j]
 rw[this]
def fW{a:aO}{i:Nat}{n:aD}(h:a[i]?=U n):nd a (i:Int)=n:=by
 unfold nd;rw[j5,qc,h];rfl
def aax(C:bA n)(e:b.2≠n.me)(d:Bool):bK (if d&&!blt b n.promised then jH b n else n) (.msg (.prepare b a c))=(if !blt b n.promised then jH b n else n,[if blt b n.promised then .refuse b n.me a n.promised else .promise b n.me a n.acc]):=by
 cases h:blt b n.promised with
 |true=>cases d<;>exact aas C h
 |false=>
  cases d with
  |false=>exact Rc C e h
  |true=>exact Rc (C.jH b) e (Rh b)
def aay{c:aO}(f:Good c){b:aL}{d:aF}{i:Nat}{n:aD}(h:c[i]?=U n)(j:b.2≠(i:Int))(e g:Int):
 ∃a,(pg b d c)[i]?=U a/\(pg b d c).set i (bK a (.msg (.prepare b e g))).1=pg b (d++[(i:Int)]) c/\(bK a (.msg (.prepare b e g))).2=[kF b e c i]:=by
 intros c b d i n e g _ f h j;have k:=f.me i n h;refine⟨if d.contains (i:Int)&&!blt b n.promised then jH b n else n,by rw[zK,h];rfl,?_⟩;rw[aax (f.gE i n h) (k▸j)];refine⟨aaw h,?_⟩;unfold kF;rw[fW h,k]
def JN{g:Type}(f:g->gr)(e:List g->aO×cT)(ok:g->Bool):∀(c a:List g),(∀b∈c,∀a,∃d,(e a).1[(f b).to.toNat]?=U d/\e (a++[b])=((e a).1.set (f b).to.toNat (bK d (.msg (f b))).1,(e a).2++(bK d (.msg (f b))).2))->
 pl ((e a).1,c.map f++(e a).2) (c.map λb=>if ok b then .deliver 0 else .drop 0)=e (a++c.filter ok):=by
 intro p
 induction p with
 |nil=>
  intro a _;rw[CO,c8];rfl
 |cons b c l=>
  intro a j;have k:=λa=>l a λm n=>j m (.tail _ n)
  rw[dM,dM,qV,v8,gk];cases hu:ok b with
  |true=>
   let ⟨d,q,o⟩:=j b (.head _) a;rw[az J,az J];have i:=JM [] (f b) (c.map f++(e a).2) q;rw[jM,jM,e9] at i;have:=k (a++[b]);rw[o,e9] at this;exact(aR (λh=>pl h _) i).trans this
  |false=>
   rw[aB i7,aB i7];exact(aR (λh=>pl h _) (JL (e a).1 [] (f b) (c.map f++(e a).2))).trans (k a)
def Rj{d:aO}(j:Good d){b:aL}{e c:Int}(g:b.2=e)(h:0<=c/\c<aa d/\c≠e)(f:aF):∃a,(pg b f d)[c.toNat]?=U a/\(pg b f d).set c.toNat (bK a (.msg (.prepare b e c))).1=pg b (f++[c]) d/\(bK a (.msg (.prepare b e c))).2=[kF b e d c]:=by
 let ⟨k,zy⟩:=mZ h.1;exact aay j (dZ (dB.mp h.2.1)) (λi=>h.2.2 (i.symm.trans g)) e k
def aaz{c:aO}(l:Good c){b:aL}{e:Int}(i:b.2=e)(g d:aF)(h:∀a∈d,0<=a/\a<aa c/\a≠e):
 pl (c,d.map λa=>qL b e a) (d.map λa=>if g.contains a then .deliver 0 else .drop 0)=(pg b (d.filter λa=>g.contains a) c,(d.filter λa=>g.contains a).map λa=>kF b e c a):=by
 have:=JN (λa=>qL b e a) (λf=>(pg b f c,f.map λa=>kF b e c a)) (λa=>g.contains a) d [] λa o f=>by
  let ⟨m,j,n,k⟩:=Rj l i (h a o) f;exact⟨m,j,fh n.symm (cy.trans (aR (_++·) k.symm))⟩
 rw[Ri,yk,c8] at this;exact this
def aaA{h:aO}(n:Good h){b:aL}{g:Int}(m:b.2=g)(i:aF):∀(c:aF) (d:aF) (e:cT),(∀a∈c,0<=a/\a<aa h/\a≠g)->
 pl (pg b d h,c.reverse.map (λa=>qL b g a)++e) (((bu (aa c)).reverse.zip c).map λf=>if i.contains f.2 then .deliver f.1 else .drop f.1)
  =(pg b (d++c.filter λa=>i.contains a) h,e++(c.filter λa=>i.contains a).map λa=>kF b g h a):=by
 intros h b g i _ n m;exact λc=>by
  induction c with
  |nil=>intro d e _;rw[CO,c8,yk,c8];rfl
  |cons a c k=>
   intro d e p;have k:=λd e=>k d e λs u=>p s (.tail _ u)
   have t:(bu (a::c).length).reverse=(aa c:Int)::(bu (aa c)).reverse:=by
    unfold bu;rw[iz,v9,cy,List.reverse_append];rfl
   have o:(c.reverse.map (λa=>qL b g a)).length=aa c:=(aP _).trans yj;rw[t,v7,dM,qV,ux,cy,e9,gk];cases hu:i.contains a with
   |true=>
    let ⟨w,q,v,r⟩:=Rj n m (p a (.head _)) d;have j:=JM (c.reverse.map λa=>qL b g a) (qL b g a) e q;rw[o,show(qL b g a).to.toNat=a.toNat from rfl,v,r,e9] at j;have:=k (d++[a]) (e++[kF b g h a]);rw[e9,e9] at this;exact(aR (λl=>pl l _) j).trans this
   |false=>
    have j:=JL (pg b d h) (c.reverse.map λa=>qL b g a) (qL b g a) e;rw[o] at j;exact(aR (λl=>pl l _) j).trans (k d e)
def BW{n:aD}(C:bA n){a:jk}(h:n.px.event a=n.px):bK n a=(n,[]):=xx C C h
def JO{n:aD}(C:bA n)(b:aL)(a c:Int)(d:bU)(h:¬(b=n.aE/\n.phase=1/\look n.hp a=ai)):bK n (.msg (.promise b a c d))=(n,[]):=BW C (aB h)
def Rk{n:aD}(C:bA n)(b:aL)(d c:Int)(a:aL)(h:¬(b=n.aE/\n.phase≠0/\blt n.aE a=af)):bK n (.msg (.refuse b d c a))=(n,[]):=BW C (aB h)
def aaB{n:aD}(C:bA n)(b:aL)(d c a:Int)(h:¬(b=n.aE/\n.phase=2)):bK n (.msg (.accepted b d c a))=(n,[]):=BW C (aB h)
noncomputable def qW(n:aD)(a:Int):aD:={n with aE:=(a,n.me),phase:=0,hp:=[],hl:=[]}
def bA.down{n:aD}(C:bA n)(a:Int):bA (qW n a):=C.Ra
def JP{n:aD}(C:bA n){b:aL}(d c:Int){a:aL}(h:b=n.aE/\n.phase≠0/\blt n.aE a=af):bK n (.msg (.refuse b d c a))=(qW n a.1,[]):=xx C (C.down a.1) (az h)
def set_same{ns:aO}(h:ns[a]?=U b):ns.set a b=ns:=by
 apply kO;intro d
 by_cases c:a=d
 .subst c;rw[mj (fH.mp h).1,h]
 rw[oG c]
def qX:cT->aD->aD×cT
 |[],n=>(n,[])
 |m::ms,n=>let b:=bK n (.msg m);let a:=qX ms b.1;(a.1,b.2++a.2)
def Rl(a:gr)(b:cT)(n:aD):qX (a::b) n=((qX b (bK n (.msg a)).1).1,(bK n (.msg a)).2++(qX b (bK n (.msg a)).1).2):=rfl
def JQ{i:Type}{h:Nat}{e:i->gr}(ok:i->Bool)(l:∀c,(e c).to.toNat=h):∀(a:List i) (ns:aO) (d:aD) (b:cT),ns[h]?=U d->
 pl (ns,a.map e++b) (a.map λc=>if ok c then .deliver 0 else .drop 0)=(ns.set h (qX ((a.filter ok).map e) d).1,b++(qX ((a.filter ok).map e) d).2):=λa=>by
 induction a with
 |nil=>intro ns d b f;rw[CO,yk];exact fh (set_same f).symm (c8 b).symm
 |cons c a k=>
  intro ns d b f;rw[dM,dM,qV,v8,gk];cases hu:ok c with
  |true=>
   have j:=JM [] (e c) (a.map e++b) (by rw[l];exact f);rw[l,jM,jM,e9] at j;refine(aR (λg=>pl g _) j).trans ((k _ _ _ (mj (fH.mp f).1)).trans ?_);rw[LQ,e9];rfl
  |false=>exact(aR (λg=>pl g _) (JL ns [] (e c) (a.map e++b))).trans (k ns d b f)
abbrev xy(d:aO)(b:aL)(c:Int)(e:aF)(n:aD):aD×cT:=qX (e.map λa=>kF b c d a) n
def aaC(b:aL)(a:Nat)(d:aO)(c:Int):(kF b a d c).to.toNat=a:=by
 unfold kF;split<;>exact j5 a
def Rm{b:cT}{n:aD}(h:∀a∈b,bK n (.msg a)=(n,[])):qX b n=(n,[]):=by
 induction b with
 |nil=>rfl
 |cons a b e=>rw[Rl,h a (.head _),e λd c=>h d (.tail _ c)];rfl
def Rn{e:aO}{b:aL}{f:Int}(d:aF){n:aD}(C:bA n)(h:n.phase=0):xy e b f d n=(n,[]):=Rm λi c=>by
 let ⟨g,_,zy⟩:=aY.mp c;unfold kF;split
 .exact Rk C _ _ _ _ λa=>a.2.1 h
 exact JO C _ _ _ _ λa=>qz (h.symm.trans a.2.1)
def Ro{b:aU}{c:Int}{d:bz}(g:2<=b.size\/(look b.aq c).isSome=af)(f:look b.props c=ai):
 b.bW c d={b with props:=b.props++[(c,(d,[b.me]))],acc:=put b.acc c (b.aE,d),out:=b.out++(bx b.size b.me).map λa=>.accept b.aE b.me a c d}:=by
 intros b c d _ g f;unfold Ec aU.all sd;dsimp only;rw[qI,az J];dsimp only
 have:(decide (b.size<2*[b.me].length)&&(look b.aq c).isNone)=aA:=by
  rcases g with h|h
  .rw[decide_eq_false (show ¬b.size<2*[b.me].length from gO.mpr h)];rfl
  cases e:look b.aq c with
  |none=>rw[e] at h;cases h
  |some i=>exact wz _
 rw[this,aB ∅,wY f]
def aaD(g:Int->bz):∀(c:aF) (a:aU),(∀b∈c,2<=a.size\/(look a.aq b).isSome=af)->c.Nodup->(∀b∈c,look a.props b=ai)->
 c.foldl (λe b=>e.bW b (g b)) a={a with props:=a.props++c.map λb=>(b,(g b,[a.me])),acc:=c.foldl (λf b=>put f b (a.aE,g b)) a.acc,out:=a.out++c.flatMap λb=>(bx a.size a.me).map λd=>.accept a.aE a.me d b (g b)}:=by
 intro o
 induction o with
 |nil=>
  intro a _ _ _;simp
 |cons b c m=>
  intro a l k j
  have p:=m {a with props:=a.props++[(b,(g b,[a.me]))],acc:=put a.acc b (a.aE,g b),out:=a.out++(bx a.size a.me).map λd=>.accept a.aE a.me d b (g b)} (λh i=>l h (.tail _ i)) (ff.mp k).2 λh i=>by
   show look (a.props++[(b,(g b,[a.me]))]) h=ai;rw[D9,j h (.tail _ i),jD,aB (λn:b=h=>(ff.mp k).1 (n▸i))];rfl
  rw[i6,Ro (l b (.head _)) (j b (.head _)),p];simp[e9]
def aaE{g:Type}(f:Int->g):∀(c:aF) (b:List (Int×g)),Nk b->bH (c.foldl (λb a=>put b a (f a)) b)=c.foldl (λd a=>bB d (a,f a)) (bH b):=by
 intro i
 induction i with
 |nil=>
  intro b _;exact J
 |cons a c h=>
  intro b e;rw[i6,i6,h _ (qJ e a (f a)),xu e,Q7 e]
def ET(top:Int):(slots top).Pairwise (·<·):=by
 unfold slots;rw[jA];exact LH.imp λa=>Mi (dB.mpr a) 1
def n9(b:bU)(a:Int):bz:=(look (eO b) a).elim ai (·.2)
def mS(n:aD)(b:bU):aD:=
 let c:=slots (cJ ((eO b).map (·.1)))
 ⟨n.me,n.size,n.promised,c.foldl (λd a=>bB d (a,(n.aE,n9 b a))) n.acc,n.aq,2,n.aE,[],c.map λa=>(a,(n9 b a,[n.me]))⟩
def tZ(n:aD)(b:bU):cT:=(slots (cJ ((eO b).map (·.1)))).flatMap λa=>(bx n.size n.me).map λc=>.accept n.aE n.me c a (n9 b a)
def Rp{p:aU}{n:aD}(C:bA n)(b:p=⟨n.me,n.size,n.promised,n.acc,n.aq,1,n.aE,p.prom,[],p.out⟩)(f:p.size<2*aa p.prom)
 (h:∀a∈slots (cJ ((eO (p.prom.map (·.2)).flatten).map (·.1))),2<=n.size\/(look n.aq a).isSome=af):
 p.lead.tup=mS n (p.prom.map (·.2)).flatten/\p.lead.out=p.out++tZ n (p.prom.map (·.2)).flatten:=by
 intros p n _ C b f h;generalize r:(p.prom.map (·.2)).flatten=c at*
 have l:p.lead=(slots (cJ ((eO c).map (·.1)))).foldl (λj a=>j.bW a (n9 c a)) {p with phase:=2,prom:=[]}:=by
  unfold yY;rw[aB (vR.mpr f),r];rfl
 rw[l,aaD (n9 c) _ _ (λa k=>by rw[b];exact h a k) (xw (ET _)) (λa z=>by rw[b];rfl)];have i:=aaE (λa=>(n.aE,n9 c a)) (slots (cJ ((eO c).map (·.1)))) n.acc C.acc.nk;rw[lT C.acc] at i;have d:p.me=n.me:=aR aU.me b;have g:p.size=n.size:=aR aU.size b;have s:p.promised=n.promised:=aR aU.promised b;have o:p.acc=n.acc:=aR aU.acc b;have q:p.aq=n.aq:=aR aU.aq b;have e:p.aE=n.aE:=aR aU.aE b;have m:p.props=[]:=aR aU.props b;refine⟨?_,by dsimp only[tZ];rw[d,g,e]⟩;unfold Ed mS;dsimp only;rw[d,g,s,o,q,e,m,jM,i,lT C.fF,aB ∅,az J]
 congr 1
 refine Q9 ?_ λt d=>?_
 .unfold Sk;rw[jA];exact ET _
 let ⟨a,_,zy⟩:=aY.mp d;exact jZ _ _
noncomputable def aD.BX(n:aD)(b:Int)(a:bU):aU:=⟨n.me,n.size,n.promised,n.acc,n.aq,1,n.aE,n.hp++[(b,a)],[],[]⟩
def Rq(C:bA n)(d:Int)(c:bU)(h:b=n.aE/\n.phase=1/\look n.hp a=ai):n.px.event (.msg (.promise b a d c))=(n.BX a c).lead:=by
 refine(az h).trans (aR yY ?_);unfold aD.px aD.BX;dsimp only;rw[wY h.2.2,C.tX (by rw[h.2.1];decide),h.2.1]
def aaF(C:bA n)(d:Int)(c:bU)(h:b=n.aE/\n.phase=1/\look n.hp a=ai)(e:2*(aa n.hp+1)<=n.size):
 bK n (.msg (.promise b a d c))=({n with hp:=bB n.hp (a,c)},[]):=by
 intros n b a d c _ C h e;refine(tY C ((Rq C d c h).trans (az (by unfold aD.BX;rw[bO];exact e)))).trans (fh ?_ J);unfold Ed aD.BX;dsimp only;rw[lT C.acc,lT C.fF,az J,aB ∅,<-wY h.2.2,xu (C.sH h.2.1).nk,<-h.2.1,C.tX (by rw[h.2.1];decide)]
def aaG(C:bA n)(f:Int)(d:bU)(h:b=n.aE/\n.phase=1/\look n.hp a=ai)(g:n.size<2*(aa n.hp+1))
 (i:∀c∈slots (cJ ((eO ((n.hp++[(a,d)]).map (·.2)).flatten).map (·.1))),2<=n.size\/(look n.aq c).isSome=af):
 bK n (.msg (.promise b a f d))=(mS n ((n.hp++[(a,d)]).map (·.2)).flatten,tZ n ((n.hp++[(a,d)]).map (·.2)).flatten):=by
 have e:=Rp (p:=n.BX a d) C J (by show n.size<2*(n.hp++[(a,d)]).length;rw[bO];exact g) i;exact(tY C (Rq C f d h)).trans (fh e.1 (e.2.trans (jM _)))
noncomputable def cE(n:aD):aL:=(max n.promised.1 n.aE.1+1,n.me)
def cV(n:aD):aD:=⟨n.me,n.size,cE n,n.acc,n.aq,1,cE n,[(n.me,n.acc)],[]⟩
def aD.EU(n:aD):aU:=⟨n.me,n.size,cE n,n.acc,n.aq,1,cE n,[(n.me,n.acc)],[],(bx n.size n.me).map λa=>.prepare (cE n) n.me a⟩
def bA.run(C:bA n):bA (cV n):=⟨C.acc,C.fF,λz=>jZ _ _,λa=>aV J a,λa=>Dp a,λz=>rfl⟩
def Rr(C:bA n):n.px.event .run=n.EU.lead:=aR (λa=>({n.EU with prom:=[(n.me,a)]}:aU).lead) (lT C.acc)
def aaH(C:bA n)(h:2<=n.size):bK n .run=(cV n,(bx n.size n.me).map λa=>.prepare (cE n) n.me a):=xx C C.run ((Rr C).trans (az h))
def aaI(C:bA n)(h:n.size=1)(f:∀a∈slots (cJ ((eO n.acc).map (·.1))),(look n.aq a).isSome=af):bK n .run=(mS (cV n) n.acc,(bx n.size n.me).map (λb=>.prepare (cE n) n.me b)++tZ (cV n) n.acc):=by
 have d:(n.EU.prom.map (·.2)).flatten=n.acc:=c8 _;have c:=Rp (p:=n.EU) C.run J (by show n.size<2;rw[h];decide) (by rw[d];exact λa e=>.inr (f a e));rw[d] at c;exact(tY C (Rr C)).trans (fh c.1 c.2)
section
def f7(b:aL)(c:aO)(a:Int):Bool:=blt b (nd c a).promised
def Rt(d:Int)(e:aF)(n:aD):xy c b a (d::e) n=((xy c b a e (bK n (.msg (kF b a c d))).1).1,(bK n (.msg (kF b a c d))).2++(xy c b a e (bK n (.msg (kF b a c d))).1).2):=rfl
def Ru(h:f7 b c a=af):kF b d c a=.refuse b a d (nd c a).promised:=az h
def Rv(h:f7 b c a=aA):kF b d c a=.promise b a d (nd c a).acc:=aB (by rw[show blt b (nd c a).promised=aA from h];decide)
def aaJ:∀(a:aF) {n:aD},bA n->n.phase=2->n.aE=b->
 xy d b e a n=((match a.find? (f7 b d) with|some c=>qW n (nd d c).promised.1|none=>n),[]):=by
 intro j
 induction j with
 |nil=>
  intro n C g f;exact J
 |cons c a i=>
  intro n C g f;rw[Rt,jg];cases hr:f7 b d c with
  |true=>
   rw[Ru hr,JP C c e ⟨f.symm,by rw[g];decide,by rw[f];exact hr⟩,Rn a (C.down _) J];rfl
  |false=>
   rw[Rv hr,JO C _ _ _ _ (λh=>by rw[g] at h;exact yz h.2.1),i C g f];rfl
def jI(n:aD)(b:aO)(c:aF):aD:={n with hp:=bH ((n.me,n.acc)::c.map λa=>(a,(nd b a).acc))}
def EV{n:aD}{b:aF}(d:b.Nodup)(e:n.me∉b):Nk ((n.me,n.acc)::b.map λa=>(a,(nd N a).acc)):=by
 unfold Nk;rw[dM,bV,show(λc:Int×bU=>c.1)∘(λa=>(a,(nd N a).acc))=id from rfl,uz];exact ff.mpr ⟨e,d⟩
def aaK{n:aD}(C:bA n)(h1:n.phase=1){b:aF}(c:b.Nodup)(d:n.me∉b):bA (jI n N b):=
 ⟨C.acc,C.fF,λz=>u9 (EV c d),λa=>aV h1 a,λa=>aV (h1.symm.trans a) ∅,λz=>C.tX (by rw[h1];decide)⟩
def Rw(n:aD)(b:aF):(jI n a b).hp.length=aa b+1:=by
 show(bH _).length=_;rw[u7,iz,aP]
def Rx{n:aD}{b:aF}(e:b.Nodup)(f:n.me∉b){a:Int}(hj:a≠n.me):look (jI n N b).hp a=ai↔a∉b:=by
 show look (bH _) a=ai↔_;rw[yX (EV e f),nP,dM,bV,show(λd:Int×bU=>d.1)∘(λa=>(a,(nd N a).acc))=id from rfl,uz,bN,not_or];exact⟨λc=>c.2,λc=>⟨hj,c⟩⟩
def aaL{n:aD}{c:aF}(f:c.Nodup)(g:n.me∉c){b:Int}(hj:b≠n.me)(h:b∉c):{jI n a c with hp:=bB (jI n a c).hp (b,(nd a b).acc)}=jI n a (c++[b]):=by
 intros a n c b _ f g hj h;have i:=EV (N:=a) f g;have m:(c++[b]).Nodup:=jz.mpr ⟨f,jZ _ _,λt r s p d=>h (dh.mp p▸d▸r)⟩;have o:n.me∉c++[b]:=λe=>(eE.mp e).elim g λe=>hj (dh.mp e).symm
 have j:=EV (N:=a) m o
 have:bB (bH ((n.me,n.acc)::c.map λb=>(b,(nd a b).acc))) (b,(nd a b).acc)=bH ((n.me,n.acc)::(c++[b]).map λb=>(b,(nd a b).acc)):=by
  rw[Q7 i];refine(kE i _).ext (u9 j) λq=>?_
  rw[qU i,yX j,cy,<-v8,D9,show([b].map λb=>(b,(nd a b).acc))=[(b,(nd a b).acc)] from rfl,jD (b,(nd a b).acc)]
  by_cases d:b=q
  .subst d;rw[az J,az J,nP.mpr]
   .rfl
   rw[dM,bV,show(λk:Int×bU=>k.1)∘(λb=>(b,(nd a b).acc))=id from rfl,uz];exact λe=>(bN.mp e).elim hj h
  rw[aB d,aB d,D8,G5]
 exact aR (λl=>({n with hp:=l}:aD)) this
def qY(n:aD)(b:aO)(c:aF)(a:Int):bU:=(((jI n b c).hp++[(a,(nd b a).acc)]).map (·.2)).flatten
def zL(n:aD)(a:aO)(b:aL):aF->aF->aD×cT
 |E,[]=>(jI n a E,[])
 |E,j::js=>if f7 b a j then(qW (jI n a E) (nd a j).promised.1,[]) else if E.contains j then zL n a b E js
  else if 2*(aa E+2)<=n.size then zL n a b (E++[j]) js
  else((match js.find? (f7 b a) with|some c=>qW (mS n (qY n a E j)) (nd a c).promised.1|none=>mS n (qY n a E j)),tZ n (qY n a E j))
def aaM(C:bA n)(e:bU):bA (mS n e):=by
 intros n e _ C
 have h:∀(b:aF) (d:bU),Sk d->Sk (b.foldl (λi c=>bB i (c,(n.aE,n9 e c))) d):=λb=>by
  induction b with
  |nil=>exact λd a=>a
  |cons c b g=>exact λd a=>g _ (kE a.nk _)
 refine⟨h _ _ C.acc,C.fF,λa=>yz a,λz=>rfl,λz=>⟨?_,λj f=>?_⟩,λa=>aV J a⟩
 .show Sk (oB _ _);unfold Sk;rw[jA];exact ET _
 let ⟨c,_,zy⟩:=aY.mp f;exact jZ _ _
def aaN(C:bA n)(h1:n.phase=1)(i:n.aE=b)(B:n.me=e)(h2:2<=n.size):∀(d:aF) (a:aF),a.Nodup->n.me∉a->(∀c∈d,c≠n.me)->
 xy N b e d (jI n N a)=zL n N b a d:=by
 intro z
 induction z with
 |nil=>
  intro a _ _ _;exact J
 |cons c d s=>
  intro a f h p;have Cp:=aaK (N:=N) C h1 f h;have l:=p c (.head _);rw[Rt,zL];cases hr:f7 b N c with
  |true=>
   rw[Ru hr,JP Cp c e ⟨i.symm,by show n.phase≠0;rw[h1];decide,by show blt n.aE _=af;rw[i];exact hr⟩,Rn d (Cp.down _) J,az J];rfl
  |false=>
   rw[Rv hr,aB ∅]
   by_cases g:c∈a
   .rw[az (by simpa using g),JO Cp _ _ _ _ (λt=>(Rx f h l).mp t.2.2 g)];exact(aR (λj:aD×cT=>(j.1,[]++j.2)) (s a f h λq o=>p q (.tail _ o))).trans J
   rw[aB (by simpa using g)];have r:=(Rx (N:=N) f h l).mpr g
   by_cases k:2*(aa a+2)<=n.size
   .rw[az k,aaF Cp e (nd N c).acc ⟨i.symm,h1,r⟩ (by rw[Rw];exact k),aaL f h l g];have u:(a++[c]).Nodup:=jz.mpr ⟨f,jZ _ _,λA v D y w=>g (dh.mp y▸w▸v)⟩;have x:n.me∉a++[c]:=λm=>(eE.mp m).elim h λm=>l (dh.mp m).symm
    exact(aR (λj:aD×cT=>(j.1,[]++j.2)) (s (a++[c]) u x λq o=>p q (.tail _ o))).trans J
   rw[aB k,aaG Cp e (nd N c).acc ⟨i.symm,h1,r⟩ (by rw[Rw];exact vR.mp k) (λZ Z=>.inl h2)];rw[show mS (jI n N a) (((jI n N a).hp++[(c,(nd N c).acc)]).map (·.2)).flatten=mS n (qY n N a c) from rfl];rw[aaJ d (aaM C _) J i];exact fh J (c8 _)
end
noncomputable def uf(d c:aF):aF:=c.foldl (λa b=>if a.any (·==b) then a else a++[b]) d
def aaO(a:aF):uf [] a=fV a:=rfl
def EW(a:aF)(b:Int)(c:aF):uf a (b::c)=if a.contains b then uf a c else uf (a++[b]) c:=by
 unfold uf;rw[i6]
 have:a.any (·==b)=a.contains b:=by
  induction a with
  |nil=>rfl
  |cons f a e=>
   rw[Ay,e,CJ]
   congr 1
   exact oJ.mpr ⟨λd=>beq_iff_eq.mpr (beq_iff_eq.mp d).symm,λd=>beq_iff_eq.mpr (beq_iff_eq.mp d).symm⟩
 rw[this];split<;>rfl
def aaP:∀(c a:aF),∃b,uf a c=a++b:=by
 intro f
 induction f with
 |nil=>
  intro a;exact⟨[],(c8 a).symm⟩
 |cons e c d=>
  intro a;rw[EW];split
  .exact d a
  let ⟨b,g⟩:=d (a++[e]);exact⟨e::b,by rw[g,e9];rfl⟩
def qZ(n:aD)(b:aO)(a:aF):bU:=qY n b (a.take (n.size/2-1)) (a.getD (n.size/2-1) 0)
def pF(n:aD)(a:aO)(d:Option Int)(b:aF):aD×cT:=
 if n.size/2<=aa b then((match d with|some c=>qW (mS n (qZ n a b)) (nd a c).promised.1|none=>mS n (qZ n a b)),tZ n (qZ n a b))
 else((match d with|some c=>qW (jI n a b) (nd a c).promised.1|none=>jI n a b),[])
def aaQ:∀(e c:aF),aa c<n.size/2->
 zL n d b c e=pF n d (e.find? (f7 b d)) (uf c (e.takeWhile λa=>!f7 b d a)):=by
 intro o
 induction o with
 |nil=>
  intro c f;show(jI n d c,[])=pF n d ai c;unfold pF;rw[aB (vR.mpr f)]
 |cons a e i=>
  intro c f;rw[zL,jg,j4];cases hr:f7 b d a with
  |true=>
   rw[az J];show _=pF n d (U a) c;unfold pF;rw[aB (vR.mpr f)]
  |false=>
   rw[aB ∅];show _=pF n d (e.find? (f7 b d)) (uf c (a::e.takeWhile λa=>!f7 b d a));rw[EW]
   by_cases h:c.contains a=af
   .rw[az h,az h];exact i c f
   rw[aB h,aB h]
   by_cases g:2*(aa c+2)<=n.size
   .rw[az g];refine i (c++[a]) ?_;rw[bO];exact(KV ∅).mpr (by rw[F7];exact g)
   rw[aB g]
   have j:n.size/2=aa c+1:=by
    refine mW (lu ((K2 ∅).mpr ?_)) f;rw[F7];exact vR.mp g
   let ⟨p,k⟩:=aaP (e.takeWhile λa=>!f7 b d a) (c++[a]);have m:n.size/2<=(uf (c++[a]) (e.takeWhile λa=>!f7 b d a)).length:=by rw[k,j];simp
   have l:qZ n d (uf (c++[a]) (e.takeWhile λa=>!f7 b d a))=qY n d c a:=by
    unfold qZ;rw[k,j,K3,e9,CN]
    congr 1
    rw[qc,LR (cB _),K4];rfl
   unfold pF;rw[az m,l]
   all_goals (cases e.find? (f7 b d)<;>rfl)
def aaR(C:bA n)(h1:n.phase=1)(d:n.aE=b)(f:n.me=me)(h2:2<=n.size)(h:n.hp=[(n.me,n.acc)])(c:aF)(hj:∀a∈c,a≠n.me):
 xy N b me c n=pF n N (c.find? (f7 b N)) (fV (c.takeWhile λa=>!f7 b N a)):=by
 have e:jI n N []=n:=by
  unfold jI;rw[show bH ((n.me,n.acc)::([]:aF).map λa=>(a,(nd N a).acc))=n.hp by rw[h];rfl]
 have:=aaN (N:=N) C h1 d f h2 c [] uy (λg=>gS g) hj;rw[e] at this;rw[this,aaQ c [] (Ae h2 ∅),aaO]
def pG(c:bU)(b:Int):bz:=(((c.filter λa=>decide (a.1=b)).filter λa=>decide (U a.2.1=qS ((c.filter λa=>decide (a.1=b)).map (·.2.1)))).map (·.2.2)).headD ai
def xA(a:bU):mO a=(slots (cJ (a.map (·.1)))).map (pG a):=rfl
def Ry:∀(d:List aL) (b:aL),d.foldl (λc a=>if blt c a then a else c) b∈b::d/\∀a∈b::d,blt (d.foldl (λc a=>if blt c a then a else c) b) a=aA:=by
 intro k
 induction k with
 |nil=>
  intro b;exact⟨.head _,λa e=>by rw[dh.mp e];exact tO b⟩
 |cons g d j=>
  intro b;rw[i6];let ⟨i,f⟩:=j (if blt b g then g else b);generalize d.foldl (λc a=>if blt c a then a else c) (if blt b g then g else b)=c at*;cases hb:blt b g with
  |true=>
   rw[hb,az J] at i f;refine⟨.tail _ i,λa e=>?_⟩;rcases bN.mp e with rfl|e
   .exact vf (IJ hb) (f g (.head _))
   exact f a e
  |false=>
   rw[hb,aB ∅] at i f;refine⟨?_,λa e=>?_⟩
   .rcases bN.mp i with h|h
    .rw[h];exact .head _
    exact .tail _ (.tail _ h)
   rcases bN.mp e with rfl|e
   .exact f a (.head _)
   rcases bN.mp e with rfl|e
   .exact vf hb (f b (.head _))
   exact f a (.tail _ e)
def aaS(d:b∈a)(h:∀c∈a,blt b c=aA):qS a=U b:=by
 cases a with
 |nil=>cases d
 |cons f a=>
  let ⟨g,e⟩:=Ry a f;exact aR U (IK (e b d) (h _ g))
def JR(k:nQ b)(h:∀a,a∈c↔a∈b)(f:Int):n9 c f=pG b f:=by
 intros b c f _ k h;have i:=IM c f;unfold n9 pG;cases e:look (eO c) f with
 |none=>
  rw[e] at i;have:(b.filter λd=>decide (d.1=f))=[]:=mq.mpr λd g r=>i d ((h d).mpr g) (eZ r)
  rw[this];rfl
 |some a=>
  rw[e] at i;let ⟨o,t⟩:=i;have n:(f,a)∈b.filter λd=>decide (d.1=f):=cH.mpr ⟨(h _).mp o,decide_eq_true J⟩
  have u:qS ((b.filter λd=>decide (d.1=f)).map (·.2.1))=U a.1:=aaS (aY.mpr ⟨_,n,rfl⟩) λv p=>by
   let ⟨d,g,zy⟩:=aY.mp p;have g:=cH.mp g;exact t d ((h d).mpr g.1) (eZ g.2)
  rw[u];show a.2=_
  have q:∀d∈(b.filter λd=>decide (d.1=f)).filter λd=>decide (U d.2.1=U a.1),d.2.2=a.2:=λd g=>by
   have l:=cH.mp g;have j:=cH.mp l.1;exact k d j.1 (f,a) ((h _).mp o) (eZ j.2) (dF (eZ l.2))
  have s:(f,a)∈(b.filter λd=>decide (d.1=f)).filter λd=>decide (U d.2.1=U a.1):=cH.mpr ⟨n,decide_eq_true J⟩
  generalize(b.filter λd=>decide (d.1=f)).filter (λd=>decide (U d.2.1=U a.1))=m at*;cases m with
  |nil=>cases s
  |cons d m=>exact(q d (.head _)).symm
def Rz{g b:bU}(h:∀a,a∈b↔a∈g):cJ ((eO b).map (·.1))=cJ (g.map (·.1)):=by
 intros g b _ h;refine Xl λc=>?_;intros c
 rw[qM];have f:=IM b c;constructor
 .intro d;cases e:look (eO b) c with
  |none=>rw[e] at d;cases d
  |some a=>rw[e] at f;exact aY.mpr ⟨(c,a),(h _).mp f.1,rfl⟩
 intro d;let ⟨i,j,zy⟩:=aY.mp d;cases e:look (eO b) i.1 with
 |none=>rw[e] at f;exact aV J (f i ((h i).mpr j))
 |some a=>rfl
def JS{d:Type}(b:Int->d)(top:Int):bh ((slots top).map b)=(slots top).map λa=>(a,b a):=by
 unfold bh slots;apply kO;intro c;rw[mX,bV,bV,cC,cC];rcases uv c top.toNat with h|h
 .rw[dZ (by rw[gx];exact h),AE];rfl
 rw[l9 (by rw[gx];exact h)];rfl
def aaT(c:Int->Bool):∀(b a:aF),(uf a b).filter c=uf (a.filter c) (b.filter c):=by
 intro g
 induction g with
 |nil=>
  intro a;exact J
 |cons d b e=>
  intro a;rw[EW,gk];cases hp:c d with
  |true=>
   rw[az J,EW]
   have f:(a.filter c).contains d=a.contains d:=by
    rw[oJ];simp[hp]
   rw[f];split
   .exact e a
   rw[e (a++[d]),oE,gk,hp];rfl
  |false=>
   rw[show(if aA=af then d::b.filter c else b.filter c)=b.filter c from rfl];split
   .exact e a
   rw[e (a++[d]),oE,gk,hp,aB ∅];show uf (a.filter c++[]) _=_;rw[c8]
def RA(a:Int->Bool)(b:aF):(fV b).filter a=fV (b.filter a):=aaT a b []
def aaU{f:Type}(d c:f->Bool):∀(b:List f),(b.filter λa=>d a&&c a).head?=(b.filter d).find? c:=by
 intro g
 induction g with
 |nil=>
  exact J
 |cons a b e=>
  rw[gk,gk];cases hp:d a with
  |false=>exact e
  |true=>
   rw[az J,jg];cases hq:c a with
   |true=>rfl
   |false=>exact e
def aaV(f e:Int->Bool):∀(b:aF) {a:Int},(b.filter f).find? e=U a->(b.takeWhile λi=>decide (i≠a)).filter f=(b.filter f).takeWhile λi=>!e i:=by
 intro l
 induction l with
 |nil=>
  intro a c;cases c
 |cons d b j=>
  intro a c;have m:=Ax c;have k:f a=af:=(cH.mp (CI c)).2;rw[j4,gk];rw[gk] at c;cases hp:f d with
  |false=>
   rw[hp,aB ∅] at c;have h:d≠a:=λg=>by rw[g,k] at hp;cases hp
   rw[decide_eq_true h,az J,gk,hp,aB ∅,aB ∅];exact j c
  |true=>
   rw[hp,az J,jg] at c;cases hq:e d with
   |true=>
    rw[hq] at c;obtain rfl:d=a:=dF c;rw[decide_eq_false (λe=>e J),aB ∅,az J,j4,hq];rfl
   |false=>
    rw[hq] at c;have h:d≠a:=λg=>by rw[g,m] at hq;cases hq
    rw[decide_eq_true h,az J,gk,hp,az J,az J,j4,hq];exact aR (d::·) (j c)
def aaW(c:Int->Bool):∀(a:aF),a.find? c=ai->(a.takeWhile λi=>!c i)=a:=by
 intro f
 induction f with
 |nil=>
  intro _;exact J
 |cons d a e=>
  intro b;rw[jg] at b;rw[j4];cases hq:c d with
  |true=>rw[hq] at b;cases b
  |false=>rw[hq] at b;exact aR (d::·) (e b)
def JT{c d:Type}(b:c->d)(a:List c)(k:Int):(cY a k).map b=cY (a.map b) k:=by
 unfold cY;rw[cy,aP,cC];cases a[bT k (aa a)]?<;>rfl
def JU(ns:aO)(a:cT)(k:Int):fq (ns,a) (.double k)=(ns,cY a k):=rfl
def xB{ns:aO}(h:ns[i]?=U n)(b:cT)(a:jk):fq (ns,b) (.at i a)=(ns.set i (nR n a).1,b++(nR n a).2):=by
 unfold fq;dsimp only;rw[h]
def aaX(d:aF):∀(a:aF),((a.map λz=>(0:Int)).zip a).map (λb=>if d.contains b.2 then Bx b.1 else .drop b.1)=a.map λc=>if d.contains c then .deliver 0 else .drop 0:=by
 intro f
 induction f with
 |nil=>
  exact J
 |cons c a e=>
  rw[dM,v7,dM,e];rfl
def xC{c:Type}{a:List c}{k:Int}{b:c}(h:b∈cY a k):b∈a:=by
 unfold cY at h;rcases eE.mp h with h|h
 .exact h
 cases e:a[bT k (aa a)]? with
 |none=>rw[e] at h;cases h
 |some d=>rw[e] at h;rw[dh.mp h];exact iZ e
def zM(h:a.toNat≠b):nd (c.set b m) a=nd c a:=by
 unfold nd;rw[qc,qc,oG (cS h)]
theorem Good.set{e:aO}(i:Good e){b:Nat}{h:aD}(C:bA h)(j:h.me=(b:Int)):Good (e.set b h):=by
 refine⟨λd g a=>?_,λd g a=>?_⟩
 .by_cases c:b=d
  .subst c;have f:b<aa e:=by have:=(fH.mp a).1;rwa [mY] at this
   rw[mj f] at a;cases a;exact C
  rw[oG c] at a;exact i.gE d g a
 by_cases c:b=d
 .subst c;have f:b<aa e:=by have:=(fH.mp a).1;rwa [mY] at this
  rw[mj f] at a;cases a;exact j
 rw[oG c] at a;exact i.me d g a
def vE(h:a∈bx n b):0<=a/\a<n/\a≠b:=by
 unfold bx bu at h;let ⟨f,d⟩:=cH.mp h;let ⟨c,e,zy⟩:=aY.mp f;exact⟨fJ c,dB.mpr (uB.mp e),eZ d⟩
def b9(n a:Nat)(b:Bool)(k:Int):aF:=if b then(cY (bx n a) k).reverse else cY (bx n a) k
def pH(b:Bool)(a:aF):aF:=if b then(bu (aa a)).reverse else a.map λz=>0
def t8(h:a∈b9 n b turn k):0<=a/\a<n/\a≠b:=by
 unfold b9 at h;split at h
 .exact vE (xC (yg.mp h))
 exact vE (xC h)
def aaY(h:Good b)(ho:b[a]?=U c)(l:c.size=aa b)(h2:2<=c.size)(f:Bool)(k:Int)(g:aF):
 pl (b,[]) ([.at a .run,.double k]++((pH f (b9 (aa b) a f k)).zip (b9 (aa b) a f k)).map λe=>if g.contains e.2 then .deliver e.1 else .drop e.1)
  =(pg (cE c) ((b9 (aa b) a f k).filter λd=>g.contains d) (b.set a (cV c)),((b9 (aa b) a f k).filter λd=>g.contains d).map λd=>kF (cE c) a (b.set a (cV c)) d):=by
 intros b a c f k g _ h ho l h2;have C:=h.gE a c ho;have i:=h.me a c ho;have m:Good (b.set a (cV c)):=h.set C.run i
 have o:fq (b,[]) (.at a .run)=(b.set a (cV c),(bx (aa b) a).map λd=>.prepare (cE c) a d):=by
  rw[xB ho,show nR c .run=bK c .run from rfl,aaH C h2,l,i];rfl
 rw[v8,v8,jM,qV,qV,o,JU,<-JT];have j:(cE c).2=(a:Int):=i;have n:∀d∈b9 (aa b) a f k,0<=d/\d<(b.set a (cV c)).length/\d≠a:=λd p=>by rw[mY];exact t8 p
 cases f with
 |false=>
  rw[show pH aA (b9 (aa b) a aA k)=(b9 (aa b) a aA k).map λz=>0 from rfl,aaX];exact aaz m j g _ n
 |true=>
  have:=aaA m j g (b9 (aa b) a af k) [] [] n;rw[Ri,c8,jM,jM] at this;rw[show(b9 (aa b) a af k).reverse=cY (bx (aa b) a) k from Gw _] at this;exact this
section
variable {N:aO}{me:Nat}{old:aD}
def aaZ(ho:N[me]?=U old)(b:aL)(c:(me:Int)∉P)(a:aD):(pg b P (N.set me a))[me]?=U a:=by
 rw[zK,mj (fH.mp ho).1];have:P.contains (me:Int)=aA:=by simpa using c
 show U (if P.contains (me:Int)&&_ then _ else a)=U a;rw[this,CX,aB ∅]
def xD(n me:Nat)(c:Bool)(k:Int)(d b:aF):aF:=((b9 n me c k).filter λa=>d.contains a).filter λa=>b.contains a
def aa0(g:Good N)(ho:N[me]?=U old)(h:old.size=aa N)(h2:2<=old.size)(d:Bool)(k:Int)(e f:aF):
 pl (N,[]) ([.at me .run,.double k]++((pH d (b9 (aa N) me d k)).zip (b9 (aa N) me d k)).map (λc=>if e.contains c.2 then .deliver c.1 else .drop c.1)++((b9 (aa N) me d k).filter λa=>e.contains a).map λa=>if f.contains a then .deliver 0 else .drop 0)
  =((pg (cE old) ((b9 (aa N) me d k).filter λa=>e.contains a) (N.set me (cV old))).set me (pF (cV old) (N.set me (cV old)) ((xD (aa N) me d k e f).find? (f7 (cE old) (N.set me (cV old)))) (fV ((xD (aa N) me d k e f).takeWhile λa=>!f7 (cE old) (N.set me (cV old)) a))).1,
   (pF (cV old) (N.set me (cV old)) ((xD (aa N) me d k e f).find? (f7 (cE old) (N.set me (cV old)))) (fV ((xD (aa N) me d k e f).takeWhile λa=>!f7 (cE old) (N.set me (cV old)) a))).2):=by
 intros N me old d k e f _ g ho h h2;have C:=g.gE me old ho;have i:=g.me me old ho;rw[mR,aaY g ho h h2 d k e];have l:(me:Int)∉(b9 (aa N) me d k).filter λa=>e.contains a:=λo=>(t8 (cH.mp o).1).2.2 J
 have:=JQ (λa=>f.contains a) (aaC (cE old) me (N.set me (cV old))) ((b9 (aa N) me d k).filter λa=>e.contains a) _ (cV old) [] (aaZ ho (cE old) l (cV old));rw[c8,jM] at this
 have p:=aaR (N:=N.set me (cV old)) (b:=cE old) (me:=(me:Int)) (n:=cV old) C.run J J i h2 J (xD (aa N) me d k e f) λa q=>by
  have:=(t8 (cH.mp (cH.mp q).1).1).2.2;intro m;exact this (m.trans i)
 exact this.trans (aR (λj:aD×cT=>(CP _ me j.1,j.2)) p)
def JV{b:aL}{d:aD}{a:Int}(h0:0<=a)(hj:a≠me):f7 b (N.set me d) a=f7 b N a:=by
 unfold f7;rw[zM λc=>hj (by rw[<-c];exact(qf h0).symm)]
def aa1:∀{b:aF},(∀a∈b,c a=q a)->b.find? c=b.find? q:=by
 intro g
 induction g with
 |nil=>
  intro _;exact J
 |cons a b e=>
  intro d;rw[jg,jg,d a (.head _),e λh f=>d h (.tail _ f)]
def aa2:∀{b:aF},(∀a∈b,c a=q a)->b.takeWhile c=b.takeWhile q:=by
 intro g
 induction g with
 |nil=>
  intro _;exact J
 |cons a b e=>
  intro d;rw[j4,j4,d a (.head _),e λh f=>d h (.tail _ f)]
def RC(b:Int)(n:Nat)(me:Int)(a:Int)(h:(dI b n me).contains a=af):(f6 b n me).contains a=af:=by
 have h:a∈dI b n me:=by simpa using h
 have:=(cH.mp h).1
 simpa using this
def aa3(b:Int)(n me:Nat)(c:Bool)(k:Int):xD n me c k (f6 b n me) (dI b n me)=(b9 n me c k).filter λa=>(dI b n me).contains a:=by
 unfold xD;rw[CQ];exact qd λa z=>by
  cases h:(dI b n (me:Int)).contains a with
  |false=>rfl
  |true=>rw[RC b n me a h];rfl
end
def iE(d:aO)(b:aL)(e c:aF):aF:=e.filter λa=>c.contains a&&blt b (nd d a).promised
noncomputable def mT(no a:aF):aF:=match no with
 |[]=>a
 |j::_=>a.takeWhile λb=>decide (b≠j)
def kG(e:aO)(b:aL)(c a:aF):aF:=(fV (mT (iE e b c a) c)).filter λd=>a.contains d
def RD(e:aO)(b:aL)(c d:aF):(iE e b c d).head?=(c.filter λa=>d.contains a).find? (f7 b e):=aaU _ _ c
def EX(f:aO)(b:aL)(c d:aF):kG f b c d=fV ((c.filter λa=>d.contains a).takeWhile λa=>!f7 b f a):=by
 intros f b c d;unfold kG;rw[RA];have g:=RD f b c d;cases e:iE f b c d with
 |nil=>rw[e] at g;rw[aaW _ _ g.symm];rfl
 |cons a h=>rw[e] at g;exact aR fV (aaV (λa=>d.contains a) (f7 b f) c g.symm)
def aa4:c∈qY n b d a↔c∈n.acc\/∃i∈d++[a],c∈(nd b i).acc:=by
 intros n b d a c;unfold qY;rw[LS];constructor
 .intro k;let ⟨l,h,e⟩:=k;let ⟨j,f,zy⟩:=aY.mp h;rcases eE.mp f with f|f
  .have f:j∈bH ((n.me,n.acc)::d.map λa=>(a,(nd b a).acc)):=f;rcases bN.mp (kq.mp f) with rfl|f
   .exact .inl e
   let ⟨i,g,zy⟩:=aY.mp f;exact .inr ⟨i,mh _ g,e⟩
  rw[dh.mp f] at e;exact .inr ⟨a,AD _ (.head _),e⟩
 rintro(e|⟨i,g,e⟩)
 .exact⟨_,aY.mpr ⟨(n.me,n.acc),mh _ (kq.mpr (.head _)),rfl⟩,e⟩
 rcases eE.mp g with g|g
 .exact⟨_,aY.mpr ⟨(i,(nd b i).acc),mh _ (kq.mpr (.tail _ (aY.mpr ⟨i,g,rfl⟩))),rfl⟩,e⟩
 rw[dh.mp g] at e;exact⟨_,aY.mpr ⟨(a,(nd b a).acc),AD _ (.head _),rfl⟩,e⟩
def aa5{a:aF}(h1:1<=h)(hz:h<=aa a):a.take (h-1)++[a.getD (h-1) 0]=a.take h:=by
 let ⟨b,zy⟩:=Nat.exists_eq_add_of_le' h1;rw[K3,rH,dZ (K5 hz),qc,dZ (K5 hz)];rfl
noncomputable def xE(b:aO):bU:=b.flatMap λa=>a.acc
def aa6(h:b∈(nd a c).acc):b∈xE a:=by
 intros a c b _ h;unfold nd at h;rw[qc] at h;cases e:a[c.toNat]? with
 |none=>rw[e] at h;cases h
 |some d=>rw[e] at h;exact fB.mpr ⟨d,iZ e,h⟩
def nQ.sub(h:nQ m)(c:∀a∈b,a∈m):nQ b:=λa f d e=>h a (c a f) d (c d e)
def aa7{n:aD}{e g:aO}{d:Nat}{k:aD}(t:n=cV k)(ho:e[d]?=U k)(q:g=e.set d (cV k))(u:nQ (xE e)){b:aF}(v:∀a∈b,0<=a/\a≠(d:Int)){h:Nat}(h1:1<=h)(hz:h<=aa b)(l:Int):
 n9 (qY n g (b.take (h-1)) (b.getD (h-1) 0)) l=pG (((d:Int)::b.take h).flatMap λa=>(nd e a).acc) l
  /\cJ ((eO (qY n g (b.take (h-1)) (b.getD (h-1) 0))).map (·.1))=cJ ((((d:Int)::b.take h).flatMap λa=>(nd e a).acc).map (·.1)):=by
 have o:∀i,i∈qY n g (b.take (h-1)) (b.getD (h-1) 0)↔i∈((d:Int)::b.take h).flatMap λa=>(nd e a).acc:=λi=>by
  rw[aa4,aa5 h1 hz,sW,eE,fB,fW ho,t];refine or_congr wG ⟨λ⟨f,j,c⟩=>⟨f,j,?_⟩,λ⟨f,j,c⟩=>⟨f,j,?_⟩⟩
  all_goals
   have m:=v f (AF j);have p:f.toNat≠d:=λs=>m.2 (by rw[<-s];exact(qf m.1).symm)
  .rw[q,zM p] at c;exact c
  rw[q,zM p];exact c
 have r:nQ (((d:Int)::b.take h).flatMap λa=>(nd e a).acc):=u.sub λi c=>by
  let ⟨a,_,c⟩:=fB.mp c;exact aa6 c
 exact⟨JR r o l,Rz o⟩
def cZ(a:aO)(d:Nat)(b:aF):dG:=if decide (aa a/2<=aa b) then mO (((d:Int)::b.take (aa a/2)).flatMap λc=>(nd a c).acc) else[]
def fX(a:aO)(d:Nat)(g:aD)(b:aL)(no e:aF):aD:=
 match no with
 |[]=>⟨d,aa a,b,(bh (cZ a d e)).foldl (λh c=>bB h (c.1,(b,c.2))) g.acc,g.aq,if decide (aa a/2<=aa e) then 2 else 1,b,if decide (aa a/2<=aa e) then[] else bH (((d:Int)::e).map λf=>(f,(nd a f).acc)),if decide (aa a/2<=aa e) then(bh (cZ a d e)).map λc=>(c.1,(c.2,[(d:Int)])) else[]⟩
 |f::_=>⟨d,aa a,b,(bh (cZ a d e)).foldl (λh c=>bB h (c.1,(b,c.2))) g.acc,g.aq,0,((nd a f).promised.1,d),[],[]⟩
def oh(c:aO)(f:Nat)(b:aL)(e:aF)(d:aD):aO:=
 (eT (aa c)).map λa=>if a=f then d else if e.contains (a:Int)&&!blt b (nd c a).promised then⟨a,aa c,b,(nd c a).acc,(nd c a).aq,0,(nd c a).aE,[],[]⟩ else nd c a
def EY(h:Good a)(ho:a[b]?=U c)(f:Int)(g:Bool)(k:Int):
 fu a b f g k=⟨[.at b .run,.double k]++((pH g (b9 (aa a) b g k)).zip (b9 (aa a) b g k)).map (λd=>if(f6 f (aa a) b).contains d.2 then .deliver d.1 else .drop d.1)++((b9 (aa a) b g k).filter λe=>(f6 f (aa a) b).contains e).map (λe=>if(dI f (aa a) b).contains e then .deliver 0 else .drop 0),
  oh a b (cE c) (f6 f (aa a) b) (fX a b c (cE c) (iE a (cE c) (b9 (aa a) b g k) (dI f (aa a) b)) (kG a (cE c) (b9 (aa a) b g k) (dI f (aa a) b))),
  cE c,cZ a b (kG a (cE c) (b9 (aa a) b g k) (dI f (aa a) b))⟩:=by
 intros a b c f g k _ h ho;have j:=h.me b c ho;have i:((max c.promised.1 c.aE.1+1,(b:Int)):aL)=cE c:=by unfold cE;rw[j]
 unfold fu;simp only[fW ho,i];rfl
def oi(n:Nat)(a:Int)(b:aL)(e:dG):cT:=(bh e).flatMap λc=>(bx n a).map λd=>.accept b a d c.1 c.2
section
variable {N:aO}{me:Nat}{old:aD}
def aa8(k:Good N)(ho:N[me]?=U old)(l:old.size=aa N)(h2:2<=aa N)(o:nQ (xE N))(p:∀b∈a,0<=b/\b≠(me:Int))(hl:aa N/2<=aa a):
 mS (cV old) (qZ (cV old) (N.set me (cV old)) a)=⟨me,aa N,cE old,(bh (cZ N me a)).foldl (λd c=>bB d (c.1,(cE old,c.2))) old.acc,old.aq,2,cE old,[],(bh (cZ N me a)).map λc=>(c.1,(c.2,[(me:Int)]))⟩
 /\tZ (cV old) (qZ (cV old) (N.set me (cV old)) a)=oi (aa N) me (cE old) (cZ N me a):=by
 intros N me old a _ k ho l h2 o p hl;have m:=k.me me old ho;have f:(cV old).size=aa N:=l;have j:=aa7 (n:=cV old) J ho J o p (h:=aa N/2) (Ae h2 ∅) hl
 have q:n9 (qZ (cV old) (N.set me (cV old)) a)=pG (((me:Int)::a.take (aa N/2)).flatMap λb=>(nd N b).acc):=funext λe=>by
  unfold qZ;rw[f];exact(j e).1
 have g:cJ ((eO (qZ (cV old) (N.set me (cV old)) a)).map (·.1))=cJ ((((me:Int)::a.take (aa N/2)).flatMap λb=>(nd N b).acc).map (·.1)):=by
  unfold qZ;rw[f];exact(j 0).2
 have i:bh (cZ N me a)=(slots (cJ ((((me:Int)::a.take (aa N/2)).flatMap λb=>(nd N b).acc).map (·.1)))).map λe=>(e,pG (((me:Int)::a.take (aa N/2)).flatMap λb=>(nd N b).acc) e):=by
  unfold cZ;rw[decide_eq_true hl,az J,xA,JS]
 constructor
 .unfold mS;dsimp only
  rewrite [q,g,i,AG,bV,show(cV old).me=(me:Int) from m,f]
  rfl
 unfold tZ oi
 rewrite [q,g,i,List.flatMap_map,show(cV old).me=(me:Int) from m,f]
 rfl
def aa9(g:Good N)(ho:N[me]?=U old)(d:old.size=aa N)(h2:2<=aa N)(k:nQ (xE N)){b no:aF}(h:∀a∈b,0<=a/\a≠(me:Int))(f:∀a∈no,0<=a/\a≠(me:Int)):
 pF (cV old) (N.set me (cV old)) no.head? b=(fX N me old (cE old) no b,oi (aa N) me (cE old) (cZ N me b)):=by
 intros N me old b no _ g ho d h2 k h f;have j:=g.me me old ho;have r:(cV old).size=aa N:=d;have i:∀a,0<=a/\a≠(me:Int)->nd (N.set me (cV old)) a=nd N a:=λa e=>zM λm=>e.2 (by rw[<-m];exact(qf e.1).symm)
 unfold pF;rw[r]
 by_cases c:aa N/2<=aa b
 .rw[az c];let ⟨q,n⟩:=aa8 g ho d h2 k h c;rw[q,n];refine fh ?_ J;unfold fX;cases no with
  |nil=>rw[decide_eq_true c];rfl
  |cons a o=>
   show qW _ (nd (N.set me (cV old)) a).promised.1=_;rw[i a (f a (.head _))];rfl
 rw[aB c];have l:cZ N me b=[]:=by unfold cZ;rw[decide_eq_false c];rfl
 rw[l];refine fh ?_ J
 have p:jI (cV old) (N.set me (cV old)) b=⟨me,aa N,cE old,old.acc,old.aq,1,cE old,bH (((me:Int)::b).map λa=>(a,(nd N a).acc)),[]⟩:=by
  unfold jI;rw[dM,fW ho,show(cV old).me=(me:Int) from j];have:(b.map λa=>(a,(nd (N.set me (cV old)) a).acc))=b.map λa=>(a,(nd N a).acc):=j0 λa e=>by rw[i a (h a e)]
  rw[this];unfold cV;rw[j,d]
 rw[p];unfold fX;rw[l];cases no with
 |nil=>rw[decide_eq_false c];rfl
 |cons a o=>
  show qW _ (nd (N.set me (cV old)) a).promised.1=_;rw[i a (f a (.head _))];rfl
end
section
def aba(hi:i<n)(d:i≠a)(e:Bool)(k:Int):(i:Int)∈b9 n a e k:=by
 have b:(i:Int)∈cY (bx n a) k:=by
  unfold cY;refine mh _ ?_;unfold bx bu;exact cH.mpr ⟨aY.mpr ⟨i,uB.mpr hi,rfl⟩,decide_eq_true λc=>d (oN c)⟩
 unfold b9;split
 .exact yg.mpr b
 exact b
def abb(m:Good a)(p:∀(i:Nat) n,a[i]?=U n->n.size=aa a)(ho:a[c]?=U e)(b:aL)(g:Bool)(k:Int)(f:aF)(l j:aD):
 (pg b ((b9 (aa a) c g k).filter λd=>f.contains d) (a.set c l)).set c j=oh a c b f j:=by
 intros a c e b g k f l j _ m p ho;have q:=(fH.mp ho).1;have r:(pg b ((b9 (aa a) c g k).filter λd=>f.contains d) (a.set c l)).length=aa a:=by unfold pg;rw[qb,mY]
 apply kO;intro i;intros i;unfold oh;rw[cC]
 by_cases h:c=i
 .subst h;rw[mj (by rw[r];exact q),dZ (by rw[gx];exact q),AE];exact aR U (az J).symm
 rw[oG h,zK,oG h];cases hi:a[i]? with
 |none=>
  have:aa a<=i:=List.getElem?_eq_none_iff.mp hi;rw[l9 (by rw[gx];exact this)];rfl
 |some n=>
  have o:=(fH.mp hi).1;rw[dZ (by rw[gx];exact o),AE]
  have t:((b9 (aa a) c g k).filter λd=>f.contains d).contains (i:Int)=f.contains (i:Int):=by
   cases hu:f.contains (i:Int) with
   |true=>exact gy.mpr (cH.mpr ⟨aba o (cS h) g k,hu⟩)
   |false=>
    rw[rM];intro s;have:=(cH.mp (gy.mp s)).2;rw[hu] at this;cases this
  show U (if _&&_ then _ else n)=U (if i=c then j else _);rw[t,aB (cS h),fW hi];unfold jH;rw[m.me i n hi,p i n hi]
def abc(l:Good a)(o:∀(i:Nat) n,a[i]?=U n->n.size=aa a)(ho:a[c]?=U d)(h2:2<=aa a)(p:nQ (xE a))(g:Int)(h:Bool)(k:Int):
 pl (a,[]) (fu a c g h k).bG=((fu a c g h k).after,oi (aa a) c (fu a c g h k).b (fu a c g h k).log):=by
 intros a c d g h k _ l o ho h2 p;rw[EY l ho g h k];dsimp only;have m:=o c d ho;rw[aa0 l ho m (by rw[m];exact h2) h k (f6 g (aa a) c) (dI g (aa a) c),aa3];have j:∀e∈(b9 (aa a) c h k).filter (λe=>(dI g (aa a) c).contains e),0<=e/\e≠(c:Int):=λe f=>⟨(t8 (cH.mp f).1).1,(t8 (cH.mp f).1).2.2⟩
 rw[aa1 (q:=f7 (cE d) a) λe f=>JV (j e f).1 (j e f).2,aa2 (q:=λe=>!f7 (cE d) a e) λe f=>by rw[JV (j e f).1 (j e f).2]];rw[<-EX,<-RD]
 have s:∀e∈kG a (cE d) (b9 (aa a) c h k) (dI g (aa a) c),0<=e/\e≠(c:Int):=λe f=>by
  rw[EX] at f;exact j e (AH _|>.subset (y9.mp f))
 have r:∀e∈iE a (cE d) (b9 (aa a) c h k) (dI g (aa a) c),0<=e/\e≠(c:Int):=λe f=>⟨(t8 (cH.mp f).1).1,(t8 (cH.mp f).1).2.2⟩
 rw[aa9 l ho m h2 p s r];dsimp only;rw[abb l o ho]
end
def abd(C:bA n)(h:n.phase≠2)(a:bz):bK n (.bW a)=(n,[]):=BW C (aB h)
noncomputable def iw(b:Int)(c:bR):jQ:=c.map λa=>(a.1,(a.2,[b]))
def oj(n:aD)(b:Int)(a:bz):aD:={n with acc:=bB n.acc (b,(n.aE,a)),hl:=n.hl++[(b,(a,[n.me]))]}
def RE{c:jQ}(d:∀a∈c,a.1<b):look c b=ai:=nP.mpr λf=>by
 let ⟨a,g,e⟩:=aY.mp f;exact mu b (e▸d a g)
def JW(C:bA n)(h:n.phase=2)(f:∀a∈n.hl,a.1<b)(i:bz):bA (oj n b i):=
 ⟨kE C.acc.nk _,C.fF,C.sH,C.pC,λz=>⟨GD.mpr ⟨(C.pD h).1,jZ _ _,λj g k d=>by rw[dh.mp d];exact f j g⟩,λe c=>(eE.mp c).elim ((C.pD h).2 e) λc=>by rw[dh.mp c];exact jZ _ _⟩,λa=>aV h a⟩
def RH(C:bA n)(h:n.phase=2)(e:∀b∈n.hl,b.1<a)(c:bz)(d:cT):({n.px with acc:=put n.acc a (n.aE,c),props:=n.hl++[(a,(c,[n.me]))],out:=d}:aU).tup=oj n a c:=
 (aR (λg:aD=>({g with acc:=bH (put n.acc a (n.aE,c))}:aD)) ((JW C h e c).tup d)).trans (aR (λf=>({oj n a c with acc:=f}:aD)) (xu C.acc.nk ..))
def abe(C:bA n)(h:n.phase=2)(h2:2<=n.size)(hs:cJ (n.hl.map (·.1))+1=a)(f:∀b∈n.hl,b.1<a)(d:bz):
 bK n (.bW d)=(oj n a d,(bx n.size n.me).map λc=>.accept n.aE n.me c a d):=
 (tY C (e:=.bW d) ((az h).trans ((aR (λa=>n.px.bW a d) hs).trans (Ro (.inl h2) (RE f))))).trans (fh (RH C h f d _) J)
def zN{c:Type}(a:List c):(bh a).map (·.1)=slots (aa a:Int):=by
 unfold bh slots;apply kO;intro b;rw[cC,mX,cC,j5];rcases uv b (aa a) with h|h
 .rw[dZ h,dZ (by rw[gx];exact h),AE];rfl
 rw[l9 h,l9 (by rw[gx];exact h)];rfl
def JX(b:dG):(iw a (bh b)).map (·.1)=slots (aa b:Int):=bV.trans (zN b)
def JY{b:Type}(a:List b)(c:b):bh (a++[c])=bh a++[((aa a:Int)+1,c)]:=by
 unfold bh;rw[LU];simp
def jf(a:aD):dG->dG->aD
 |_,[]=>a
 |b,v::ws=>jf (oj a ((aa b:Int)+1) v) (b++[v]) ws
def sI(a:aD):dG->dG->cT
 |_,[]=>[]
 |b,v::ws=>((bx a.size a.me).map λc=>.accept a.aE a.me c ((aa b:Int)+1) v)++sI a (b++[v]) ws
def abf(c:aD)(g:Int)(f:bz):∀(b a:dG),sI (oj c g f) a b=sI c a b:=by
 intro e
 induction e with
 |nil=>
  intro a;exact J
 |cons h b d=>
  intro a;rw[sI,sI,d];rfl
def RJ{c:dG}:∀a∈iw b (bh c),a.1<(aa c:Int)+1:=λa d=>GS (se.mp (JX c▸uA d)).2
def RK:∀(e b:dG) (ns:aO) (a:aD) (d:cT),ns[f]?=U a->bA a->a.phase=2->2<=a.size->a.hl=iw a.me (bh b)->
 pl (ns,d) (e.map λc=>.at f (.bW c))=(ns.set f (jf a b e),d++sI a b e)/\bA (jf a b e):=λe=>by
 induction e with
 |nil=>exact λb ns a d g C z z z=>⟨fh (set_same g).symm (c8 d).symm,C⟩
 |cons c e h=>
  intro b ns a d g C k m i;have l:=i▸RJ
  have o:fq (ns,d) (.at f (.bW c))=(ns.set f (oj a ((aa b:Int)+1) c),d++(bx a.size a.me).map λj=>.accept a.aE a.me j ((aa b:Int)+1) c):=
   (xB g d _).trans (aR (λn:aD×cT=>(ns.set f n.1,d++n.2)) (abe C k m (by rw[i,JX,Ef]) l c))
  have h:=h (b++[c]) (ns.set f (oj a ((aa b:Int)+1) c)) (oj a ((aa b:Int)+1) c) (d++(bx a.size a.me).map λj=>.accept a.aE a.me j ((aa b:Int)+1) c) (mj (fH.mp g).1) (JW C k l c) k m (by
   show a.hl++_=_;rw[i,JY];unfold iw;rw[cy];rfl)
  rw[dM,qV,o,h.1,LQ,jf,sI,abf,e9];exact⟨rfl,h.2⟩
def abg{ns:aO}(h:ns[d]?=U b)(C:bA b)(i:b.phase≠2)(e:cT):∀(c:dG),pl (ns,e) (c.map λa=>.at d (.bW a))=(ns,e):=by
 intro g
 induction g with
 |nil=>
  exact J
 |cons a c f=>
  rw[dM,qV,xB h,show nR b (.bW a)=bK b (.bW a) from rfl,abd C i a,set_same h,c8];exact f
def pI(b:aL)(e:Int->bz)(n:aD)(c:aF):aD:=if c.isEmpty||blt b n.promised then n else{jH b n with acc:=c.foldl (λd a=>bB d (a,(b,e a))) n.acc}
noncomputable def kH(b:bZ)(i:Int):aF:=(b.filter λa=>decide (a.2=i)).map (·.1)
def ag(b:aL)(f:Int->bz)(e:bZ)(d:aO):aO:=d.mapIdx λc a=>pI b f a (kH e c)
def mU(b:aL)(c:Int)(d:aO)(a:Int×Int):gr:=if blt b (nd d a.2).promised then .refuse b a.2 c (nd d a.2).promised else .accepted b a.2 c a.1
def abh(b:aL)(d:Int->bz)(a:aO):ag b d [] a=a:=by
 unfold ag;apply kO;intro c;rw[mX];cases a[c]?<;>rfl
def zO(b:aL)(c:Int->bz)(a:bZ)(d:aO)(i:Nat):(ag b c a d)[i]?=(d[i]?).map λn=>pI b c n (kH a i):=by
 unfold ag;rw[mX]
def RL(b:bZ)(c i k:Int):kH (b++[(c,i)]) k=if i=k then kH b k++[c] else kH b k:=by
 unfold kH;rw[oE,cy]
 by_cases a:i=k
 .rw[az a,gk,decide_eq_true a];rfl
 rw[aB a,gk,decide_eq_false a];exact c8 _
def abi(h:d[i]?=U n)(g:Int):(ag b c a d).set i (pI b c n (kH a i++[g]))=ag b c (a++[(g,(i:Int))]) d:=by
 apply kO;intro f;have k:i<(ag b c a d).length:=by unfold ag;rw[qb];exact(fH.mp h).1
 by_cases e:i=f
 .subst e;rw[mj k,zO,h];show U _=U _;rw[RL,az J]
 rw[oG e,zO,zO];rw[RL,aB λj:(i:Int)=(f:Int)=>e (oN j)]
def RM(C:bA n)(a:aF):bA (pI b f n a):=by
 unfold pI;split
 .exact C
 have h:∀(a:aF) (d:bU),Sk d->Sk (a.foldl (λd e=>bB d (e,(b,f e))) d):=λa=>by
  induction a with
  |nil=>exact λd c=>c
  |cons e a g=>exact λd c=>g _ (kE c.nk _)
 exact⟨h a _ C.acc,C.fF,λc=>qz c,λz=>rfl,λc=>qz c,λz=>rfl⟩
def abj(C:bA n)(i:b.2≠n.me)(g:Int->bz)(e:aF):bK (pI b g n e) (.msg (.accept b c d a (g a)))=(pI b g n (e++[a]),[if blt b n.promised then .refuse b n.me c n.promised else .accepted b n.me c a]):=by
 intros n b c d a g e _ C i;have j:=RM (b:=b) (f:=g) C;unfold pI at j⊢;cases h:blt b n.promised with
 |true=>
  rw[AM,AM,az J,az J];exact aat C h
 |false=>
  have l:(e++[a]).isEmpty=aA:=by cases e<;>rfl
  rw[l,j3,wA,wA,aB i7,aB i7];rw[h] at j;cases e with
  |nil=>exact Rd C i h
  |cons k m=>exact Rd (j (k::m)) i (tO b)
def RN{c:aO}(o:Good c){b:aL}{me:Int}(q:b.2=me)(d:Int->bz)(k:Int×Int->Bool)(e:bZ)(h:∀a∈e,0<=a.2/\a.2<aa c/\a.2≠me):
 pl (c,e.map λa=>vd b me a.2 a.1 (d a.1)) (e.map λa=>if k a then .deliver 0 else .drop 0)=(ag b d (e.filter k) c,(e.filter k).map λa=>mU b me c a):=by
 have:=JN (λa=>vd b me a.2 a.1 (d a.1)) (λf=>(ag b d f c,f.map λa=>mU b me c a)) k e [] λa s f=>by
  have l:=h a s;let ⟨i,g⟩:=mZ l.1;obtain⟨m,j⟩:∃m,c[i]?=U m:=⟨_,dZ (dB.mp (g▸l.2.1))⟩;have p:=o.me i _ j;have n:(vd b me a.2 a.1 (d a.1)).to.toNat=i:=aR Int.toNat g;refine⟨pI b d m (kH f i),by rw[n,zO,j];rfl,?_⟩;rw[n,abj (o.gE i _ j) (λr=>l.2.2 (g.trans (p.symm.trans (r.symm.trans q)))),abi j,cy];refine fh (aR (λt=>ag b d (f++[t]) c) (fh J g)) (aR (_++[·]) ?_);show mU b me c a=_;unfold mU;rw[g,fW j,p]
 rw[abh,yk,c8] at this;exact this
noncomputable def gW(ns:aF)(a:Int):aF:=if ns.contains a then ns else ns++[a]
def BY(hl:jQ)(b c:Int):jQ:=hl.map λa=>if a.1=b then(a.1,(a.2.1,jb (gW a.2.2 c))) else a
def abk{e:Type}{c:List (Int×e)}(h:(look c b).isSome=af)(d:e):put c b d=c.map λa=>if a.1=b then(a.1,d) else a:=by
 unfold put;rw[az (by rw[Bo];exact h)]
def abl{hl:jQ}(g:Sk hl)(l:∀a∈hl,a.2.2.Pairwise (·<·)){c:Int}{e:bz}{ns:aF}(i:look hl c=U (e,ns))(d:Int):qK (put hl c (e,gW ns d))=BY hl c d:=by
 rw[abk (by rw[i];rfl)]
 have m:(hl.map λb=>if b.1=c then(b.1,(e,gW ns d)) else b).map (·.1)=hl.map (·.1):=by
  rw[bV];exact j0 λb z=>by show(if _ then _ else b).1=b.1;split<;>rfl
 have k:Sk (hl.map λb=>if b.1=c then(b.1,(e,gW ns d)) else b):=by
  have j:(hl.map (·.1)).Pairwise (·<·):=jA.mpr g;rw[<-m] at j;exact jA.mp j
 unfold qK BY;rw[lT k,bV];refine j0 λb h=>?_
 show((if b.1=c then(b.1,(e,gW ns d)) else b).1,((if b.1=c then(b.1,(e,gW ns d)) else b).2.1,jb (if b.1=c then(b.1,(e,gW ns d)) else b).2.2))=if b.1=c then(b.1,(b.2.1,jb (gW b.2.2 d))) else b
 by_cases f:b.1=c
 .rw[az f,az f];have:look hl b.1=U b.2:=g.nk.look h;rw[f,i] at this;rw[<-dF this]
 rw[aB f,aB f,Q8 (l b h)]
noncomputable def t9(a:Nat)(ns:aF):Bool:=decide (a<2*aa ns)
def JZ(n:aD)(a b:Int)(c:bz)(ns:aF):aD:={n with hl:=BY n.hl a b,aq:=if t9 n.size (gW ns b)&&(look n.aq a).isNone then bB n.aq (a,c) else n.aq}
def abm(C:bA n){ns:aF}(e f:Int)(h:b=n.aE/\n.phase=2)(g:look n.hl a=U (c,ns)):
 bK n (.msg (.accepted b e f a))=(JZ n a e c ns,if t9 n.size (gW ns e)&&(look n.aq a).isNone then(bx n.size n.me).map (λd=>.aq n.aE n.me d a c) else[]):=by
 intros n b a c ns e f _ C h g;have i:=C.pD h.2
 have j:n.px.event (.msg (.accepted b e f a))={n.px with aq:=if t9 n.size (gW ns e)&&(look n.aq a).isNone then put n.aq a c else n.aq,props:=put n.hl a (c,gW ns e),out:=if t9 n.size (gW ns e)&&(look n.aq a).isNone then(bx n.size n.me).map (λd=>.aq n.aE n.me d a c) else[]}:=by
  refine(az h).trans ?_;rw[show look n.px.props a=U (c,ns) from g];show sd {n.px with props:=put n.hl a (c,gW ns e)} a=_;unfold sd;rw[show look _ a=U (c,gW ns e) from(qI ..).trans (az J)];show(if(t9 n.size (gW ns e)&&(look n.aq a).isNone)=af then _ else _)=_;cases t9 n.size (gW ns e)&&(look n.aq a).isNone<;>rfl
 refine(tY C j).trans (fh ?_ J);unfold Ed JZ;show(⟨_,_,_,bH n.acc,bH _,_,_,if n.phase=1 then _ else _,if n.phase=2 then _ else _⟩:aD)=_;rw[lT C.acc,abl i.1 i.2 g,az h.2,aB (show ¬n.phase=1 by rw[h.2];decide),<-C.pC (by rw[h.2];decide)];exact aR (λk=>({n with hl:=BY n.hl a e,aq:=k}:aD)) (by
  split
  .exact xu C.fF.nk a c
  exact lT C.fF)
def RP(b:aL)(a:Nat)(d:aO)(c:Int×Int):(mU b a d c).to.toNat=a:=by
 unfold mU;split<;>exact j5 a
def RQ{b:aL}{f:Int}{e:aO}(g:bZ){n:aD}(C:bA n)(h:n.phase=0):qX (g.map λa=>mU b f e a) n=(n,[]):=Rm λi d=>by
 let ⟨a,_,zy⟩:=aY.mp d;unfold mU;split
 .exact Rk C _ _ _ _ λc=>c.2.1 h
 exact aaB C _ _ _ _ λc=>qz (h.symm.trans c.2)
def gG{a:Type}:Nat->List a->List (Int×a)
 |_,[]=>[]
 |b,v::ws=>((b:Int)+1,v)::gG (b+1) ws
def vF{e:Type}:∀(b a:List e),bh (a++b)=bh a++gG (aa a) b:=by
 intro d
 induction d with
 |nil=>
  intro a;rw[c8];exact(c8 _).symm
 |cons f b c=>
  intro a;have:=c (a++[f]);rw[e9,bO,JY,e9] at this;exact this
def RS:∀(c b:dG) (a:aD),jf a b c={a with acc:=(gG (aa b) c).foldl (λe d=>bB e (d.1,(a.aE,d.2))) a.acc,hl:=a.hl++iw a.me (gG (aa b) c)}:=by
 intro g
 induction g with
 |nil=>
  intro b a;rw[jf,gG];show a={a with acc:=a.acc,hl:=a.hl++[]};rw[c8]
 |cons h c f=>
  intro b a;rw[jf,f (b++[h]),bO,gG];unfold oj iw;dsimp only;rw[e9];rfl
def abn:∀(c b:dG) (a:aD),sI a b c=(gG (aa b) c).flatMap λd=>(bx a.size a.me).map λe=>.accept a.aE a.me e d.1 d.2:=by
 intro g
 induction g with
 |nil=>
  intro b a;exact J
 |cons h c f=>
  intro b a;rw[sI,f (b++[h]),bO,gG,sW];rfl
def abo(h1:a.size=n)(h2:a.me=c)(f:a.aE=b)(d e:dG):oi n c b d++sI a d e=oi n c b (d++e):=by
 rw[abn,h1,h2,f];unfold oi;rw[vF,AB]
def fY(b:bR)(a:Int):bz:=(look b a).elim ai id
def zP(h:Nk full)(b:a∈full):fY full a.1=a.2:=by
 unfold fY;rw[h.look b];rfl
def abp(a:dG):Nk (bh a):=by unfold Nk;rw[zN];exact xw (ET _)
def RT(n:Nat)(c:Int)(b:aL)(d:dG):oi n c b d=(fQ n c (bh d)).map λa=>vd b c a.2 a.1 (fY (bh d) a.1):=by
 unfold oi fQ;rw[yl];have h:=abp d
 have:∀e∈bh d,((bx n c).map λf=>vd b c f e.1 e.2)=((bx n c).map λf=>(e.1,f)).map λa=>vd b c a.2 a.1 (fY (bh d) a.1):=λe g=>by
  rw[bV];exact j0 λf z=>by show _=vd b c f e.1 (fY (bh d) e.1);rw[zP h g]
 rw[ym,ym,j0 this]
def abq{f:aO}{e:Nat}{d:aD}{g ws:dG}(j:Good f)(l:f[e]?=U d)(hs:d.size=aa f)(h2:2<=aa f)(h:d.phase=2)(hl:d.hl=iw d.me (bh g))(k:Int)(m:d.aE.2=(e:Int))(i:Int×Int->Bool):
 pl (f,oi (aa f) e d.aE g) (ws.map (λc=>.at e (.bW c))++[.double k]++(cY (fQ (aa f) e (bh (g++ws))) k).map λa=>if i a then .deliver 0 else .drop 0)
  =(ag d.aE (fY (bh (g++ws))) ((cY (fQ (aa f) e (bh (g++ws))) k).filter i) (f.set e (jf d g ws)),((cY (fQ (aa f) e (bh (g++ws))) k).filter i).map λa=>mU d.aE e (f.set e (jf d g ws)) a):=by
 intros f e d g ws k i _ j l hs h2 h hl m;have C:=j.gE e d l;have n:=j.me e d l;let ⟨q,o⟩:=RK ws g f d (oi (aa f) e d.aE g) l C h (by rw[hs];exact h2) hl;rw[mR,mR,q,abo hs n J,qV,JU,RT,<-JT];have p:Good (f.set e (jf d g ws)):=j.set o (by rw[RS];exact n)
 have:=RN p (b:=d.aE) (me:=(e:Int)) m (fY (bh (g++ws))) i (cY (fQ (aa f) e (bh (g++ws))) k) λa h=>by
  have h:=xC h;unfold fQ at h;let ⟨s,_,h⟩:=fB.mp h;let ⟨t,r,zy⟩:=aY.mp h;rw[mY];exact vE r
 exact this
def abr{e:aO}{d:Nat}{i:aD}(j:Good e)(l:e[d]?=U i)(f:i.phase≠2){b:aL}(m:b.2=(d:Int))(g n:dG)(k:Int)(h:Int×Int->Bool):
 pl (e,oi (aa e) d b g) (n.map (λc=>.at d (.bW c))++[.double k]++(cY (fQ (aa e) d (bh g)) k).map λa=>if h a then .deliver 0 else .drop 0)
  =(ag b (fY (bh g)) ((cY (fQ (aa e) d (bh g)) k).filter h) e,((cY (fQ (aa e) d (bh g)) k).filter h).map λa=>mU b d e a):=by
 rw[mR,mR,abg l (j.gE d i l) f,qV,JU,RT,<-JT]
 have:=RN j (b:=b) (me:=(d:Int)) m (fY (bh g)) h (cY (fQ (aa e) d (bh g)) k) λa f=>by
  have f:=xC f;unfold fQ at f;let ⟨p,_,f⟩:=fB.mp f;let ⟨q,o,zy⟩:=aY.mp f;exact vE o
 exact this
def RU{e:aO}{c:Nat}{d:aD}(h:e[c]?=U d)(b:aL)(g:Int->bz){T:bZ}(j:∀a∈T,a.2≠(c:Int)):(ag b g T e)[c]?=U d:=by
 rw[zO,h]
 have:kH T c=[]:=by
  unfold kH;rw[mq.mpr λa i f=>j a i (eZ f)];rfl
 rw[this];rfl
def oq(n:Nat)(b:Int)(c:bZ):Prop:=∀a∈c,0<=a.2/\a.2<n/\a.2≠b
def ua:a∈bu n↔0<=a/\a<n:=by
 unfold bu;refine⟨λb=>?_,λb=>?_⟩
 .let ⟨c,d,zy⟩:=aY.mp b;exact⟨fJ c,dB.mpr (uB.mp d)⟩
 let ⟨c,zy⟩:=mZ b.1;exact aY.mpr ⟨c,uB.mpr (dB.mp b.2),rfl⟩
def RV(n:Nat):(bu n).Nodup:=jA.mpr (List.nodup_range.imp λb a=>b (oN a))
def abt{a:aF}(h:a.Pairwise (·<=·))(c:a.Nodup):a.Pairwise (·<·):=(h.and c).imp λb=>Mg.mpr b
def RW{b c:aF}(h:b.Pairwise (·<·))(d:c.Pairwise (·<·))(e:∀a,a∈b↔a∈c):b=c:=PD (h.imp iJ) (d.imp iJ) (PF (xw h) (xw d) e)
def RX{a:aF}(h:a.Nodup):(jb a).Pairwise (·<·):=abt (Bq a) ((w4 a).nodup_iff.mpr h)
section
def J0(f:oq n c a):b∈vt n c a d↔b=c\/(d,b)∈a:=by
 unfold vt;rw[Br,bN,cH,ua,gy];exact or_congr wG ⟨λe=>e.2,λe=>⟨⟨(f _ e).1,(f _ e).2.1⟩,e⟩⟩
def abu(e:oq n b c):(b::(bu n).filter λa=>c.contains (d,a)).Nodup:=
 ff.mpr ⟨λf=>(e _ (gy.mp (cH.mp f).2)).2.2 J,(RV n).sublist CM⟩
def BZ(d:oq n a b):(vt n a b c).Pairwise (·<·):=RX (abu d)
def oq.snoc{c:Int×Int}(e:oq n a b)(d:0<=c.2/\c.2<n/\c.2≠a):oq n a (b++[c]):=Py e d
def abv{ns:aF}(h:ns.Nodup):(gW ns a).Nodup:=by
 unfold gW;split
 .exact h
 rename_i c;exact jz.mpr ⟨h,jZ _ _,λg e f d b=>c (gy.mpr (dh.mp d▸b▸e))⟩
def abw{ns:aF}:a∈gW ns b↔a∈ns\/a=b:=by
 unfold gW;split
 .rename_i c;exact⟨.inl,λe=>e.elim id λd=>d▸gy.mp c⟩
 rw[eE,dh]
def J1{f c:Int}(d:oq n a b)(hj:0<=c/\c<n/\c≠a):jb (gW (vt n a b f) c)=vt n a (b++[(f,c)]) f:=by
 refine RW (RX (abv (xw (BZ d)))) (BZ (d.snoc hj)) λg=>?_
 rw[Br,abw,J0 d,J0 (d.snoc hj),eE,dh,or_assoc];exact or_congr wG (or_congr wG ⟨λe=>e▸rfl,λe=>aR GV e⟩)
def RY(h:∀a,(b,a)∈d↔(b,a)∈e):vt n c d b=vt n c e b:=by
 unfold vt;rw[qd λa z=>oJ.mpr (gy.trans ((h a).trans gy.symm))]
def EZ(h:a≠c):vt n d (b++[(c,e)]) a=vt n d b a:=RY λi=>by
 rw[eE,dh];exact⟨λf=>f.elim id λg=>aV (aR GW g) h,.inl⟩
def abx(h:(c,b)∈a):vt n d (a++[(c,b)]) e=vt n d a e:=RY λi=>by
 rw[eE,dh];exact⟨λg=>g.elim id λf=>f▸h,.inl⟩
def B0(h:∀b∈T,b.1≠c):vt n a T c=[a]:=by
 unfold vt;rw[mq.mpr λe z d=>h _ (gy.mp d) J];rfl
end
def aby{j:Type}{p q:Int->Bool}{d:Int}{k:j}(h1:∀b,b≠d->q b=p b)(h2:p d=aA)(o:q d=af)(i:∀b,d<b->p b=aA):∀{c:List (Int×j)},Sk c->(d,k)∈c->
 (c.filter λa=>q a.1)=(c.filter λa=>p a.1)++[(d,k)]
 :=by
 intro r
 induction r with
 |nil=>exact λz s=>gS s
 |cons l c m=>
  intro n g;have f:=qa.mp n;rw[gk,gk];rcases bN.mp g with e|g
  .subst e;rw[az o,aB (by rw[h2];decide),mq.mpr λa h=>by rw[h1 a.1 (Mp (f.1 a h)),i a.1 (f.1 a h)];decide,mq.mpr λa h=>by rw[i a.1 (f.1 a h)];decide];rfl
  have t:l.1≠d:=Mn (f.1 _ g);rw[h1 l.1 t,m f.2 g];split<;>rfl
def xF{e:Type}:∀(b:List (Int×e)) {a:List (Int×e)},Sk a->Sk (b.foldl bB a)/\∀k,(look (b.foldl bB a) k).isSome=((look a k).isSome||(b.map (·.1)).contains k):=by
 intro i
 induction i with
 |nil=>
  intro a d;exact⟨d,λk=>(wA _).symm⟩
 |cons f b g=>
  intro a d;let ⟨j,h⟩:=g (kE d.nk f);refine⟨j,λk=>?_⟩;rw[i6,h k,qU d.nk,dM,CJ]
  by_cases c:f.1=k
  .rw[az c,c,beq_self_eq_true,Bool.true_or,AM];try rfl
  rw[aB c,beq_false_of_ne (cS c),Bool.false_or]
section
def LV(n:Nat)(c:Int)(d:bR)(a:aD)(e:bZ):aD:=
 {a with hl:=d.map (λb=>(b.1,(b.2,vt n c e b.1))),aq:=(nw n c d (a.aq.map (·.1)) e).foldl bB a.aq}
def OV(n:Nat)(a:Int)(b:aL)(f:bR)(g:aF)(e:bZ):cT:=
 (nw n a f g e).flatMap λc=>(bx n a).map λd=>.aq b a d c.1 c.2
structure zQ(n:Nat)(me:Int)(b:aL)(full:bR)(L:aD):Prop where
 gE:bA L
 ph:L.phase=2
 E0:L.aE=b
 size:L.size=n
 me:L.me=me
 sk:Sk full
 two:2<=n
def RZ(e:zQ n a b full d)(h:oq n a c):bA (LV n a full d c):=by
 refine⟨e.gE.acc,(xF _ e.gE.fF).1,e.gE.sH,e.gE.pC,λz=>⟨?_,λi f=>?_⟩,λg=>aV e.ph g⟩
 .exact jA.mpr e.sk
 let ⟨j,_,zy⟩:=aY.mp f;exact BZ h
def J2:n/2<a↔n<2*a:=by rw[K2 ∅,F7]
def J3{b:Type}(a:Option b):a.isNone=!a.isSome:=by cases a<;>rfl
def cv(n:Nat)(a:Int)(f:bR)(c:aD)(d:bZ)(b e:Int):Bool:=
 t9 c.size (gW (vt n a d b) e)&&(look (LV n a f c d).aq b).isNone
def abz(m:zQ n a b d c){g:bZ}(u:oq n a g){f h:Int}{w:bz}(hj:0<=h/\h<n/\h≠a)(t:(f,w)∈d)(ho:(f,h)∈g\/∀e∈g,e.1<=f):
 nw n a d (c.aq.map (·.1)) (g++[(f,h)])=nw n a d (c.aq.map (·.1)) g++if cv n a d c g f h then[(f,w)] else[]:=by
 intros n a b d c g f h w _ m u hj t ho
 have z:t9 c.size (gW (vt n a g f) h)=decide (n/2<(vt n a (g++[(f,h)]) f).length):=by
  unfold t9;rw[m.size,<-J1 u hj,IE];exact decide_eq_decide.mpr J2.symm
 have A:((nw n a d (c.aq.map (·.1)) g).map (·.1)).contains f=(decide (n/2<(vt n a g f).length)&&!(c.aq.map (·.1)).contains f):=by
  refine oJ.mpr (gy.trans ⟨λr=>?_,λr=>aY.mpr ⟨_,cH.mpr ⟨t,r⟩,rfl⟩⟩);let ⟨l,v,i⟩:=aY.mp r;have:=(cH.mp v).2;rw[show l.1=f from i] at this;exact this
 have D:(look (LV n a d c g).aq f).isNone=!((c.aq.map (·.1)).contains f||(decide (n/2<(vt n a g f).length)&&!(c.aq.map (·.1)).contains f)):=by
  rw[J3,show(LV n a d c g).aq=(nw n a d (c.aq.map (·.1)) g).foldl bB c.aq from rfl,(xF _ m.gE.fF).2,A,show(look c.aq f).isSome=(c.aq.map (·.1)).contains f from oJ.mpr (qM.symm.trans gy.symm)]
 unfold cv;rw[z,D]
 by_cases j:n/2<(vt n a g f).length
 .have x:n/2<(vt n a (g++[(f,h)]) f).length:=by
   refine jL j ?_;rw[<-J1 u hj,IE] at⊢;unfold gW;split
   .exact cB _
   rw[bO];exact fz _ _
  have:∀o:Bool,(decide (n/2<(vt n a (g++[(f,h)]) f).length)&&!(o||(decide (n/2<(vt n a g f).length)&&!o)))=aA:=λo=>by rw[decide_eq_true j,decide_eq_true x];cases o<;>rfl
  rw[this,aB ∅,c8];refine qd λl v=>?_
  by_cases i:l.1=f
  .rw[i,decide_eq_true j,decide_eq_true x]
  rw[EZ i]
 rw[decide_eq_false j,CX,wA];cases h1:decide (n/2<(vt n a (g++[(f,h)]) f).length)&&!(c.aq.map (·.1)).contains f with
 |true=>
  rw[az J];have C:∀e∈g,e.1<=f:=ho.resolve_left λy=>by rw[abx y,decide_eq_false j] at h1;cases h1
  refine aby (p:=λk=>decide (n/2<(vt n a g k).length)&&!(c.aq.map (·.1)).contains k) (q:=λk=>decide (n/2<(vt n a (g++[(f,h)]) k).length)&&!(c.aq.map (·.1)).contains k) (λk s=>by rw[EZ s]) (by rw[decide_eq_false j];rfl) h1 (λk s=>?_) m.sk t;rw[B0 λe B i=>iI.mpr (C e B) (i▸s),decide_eq_false (show ¬n/2<[a].length from gO.mpr (Ae m.two ∅))];rfl
 |false=>
  rw[aB ∅,c8];refine qd λl v=>?_
  by_cases i:l.1=f
  .rw[i,h1,decide_eq_false j];rfl
  rw[EZ i]
def abA(j:zQ n c b d a){g:bZ}(p:oq n c g){s h:Int}(hj:0<=h/\h<n/\h≠c)(hs:s∈d.map (·.1))(ho:(s,h)∈g\/∀f∈g,f.1<=s)(q:Int):
 ∃e,bK (LV n c d a g) (.msg (.accepted b h q s))=(LV n c d a (g++[(s,h)]),e)/\OV n c b d (a.aq.map (·.1)) g++e=OV n c b d (a.aq.map (·.1)) (g++[(s,h)]):=by
 intros n c b d a g s h q _ j p hj hs ho;obtain⟨⟨i,m⟩,r,rfl⟩:=aY.mp hs;intros i m _ r hs ho
 have v:look (LV n c d a g).hl i=U (m,vt n c g i):=by
  show look (d.map λl=>(l.1,(l.2,vt n c g l.1))) i=_;rw[Xg (λs m=>(m,vt n c g s)),j.sk.nk.look r];rfl
 have t:=abz j p hj r ho;refine⟨_,(abm (RZ j p) h q ⟨j.E0.symm,j.ph⟩ v).trans (fh ?_ J),?_⟩
 .have u:BY (LV n c d a g).hl i h=d.map λl=>(l.1,(l.2,vt n c (g++[(i,h)]) l.1)):=by
   refine bV.trans (j0 λk z=>?_);show(if k.1=i then(k.1,(k.2,jb (gW (vt n c g k.1) h))) else(k.1,(k.2,vt n c g k.1)))=_
   by_cases o:k.1=i
   .rw[az o,o,J1 p hj]
   rw[aB o,EZ o]
  unfold JZ;dsimp only;rw[u];show({a with hl:=_,aq:=if cv n c d a g i h then bB ((nw n c d (a.aq.map (·.1)) g).foldl bB a.aq) (i,m) else(nw n c d (a.aq.map (·.1)) g).foldl bB a.aq}:aD)={a with hl:=_,aq:=(nw n c d (a.aq.map (·.1)) (g++[(i,h)])).foldl bB a.aq};rw[t,j3];cases cv n c d a g i h<;>rfl
 show _++(if cv n c d a g i h then(bx a.size a.me).map (λh=>Bu a.aE a.me h i m) else[])=_;unfold OV;rw[t,AB]
 congr 1
 rw[j.size,j.me,j.E0];cases cv n c d a g i h with
 |false=>rfl
 |true=>exact(c8 _).symm
end
def uc:bZ->bZ->Prop
 |_,[]=>True
 |T,p::ps=>(p∈T\/∀a∈T,a.1<=p.1)/\uc (T++[p]) ps
def abB:∀(d b:bZ),(b++d).Pairwise (λa c=>a.1<=c.1)->uc b d:=by
 intro h
 induction h with
 |nil=>
  intro _ _;exact trivial
 |cons a d f=>
  intro b e;exact⟨.inr λc g=>(GD.mp e).2.2 c g a (.head _),f (b++[a]) (by rw[e9];exact e)⟩
def abC:∀(c a b:bZ),uc a c->uc (a++c) b->uc a (c++b):=by
 intro i
 induction i with
 |nil=>
  intro a b _ d;rw[c8] at d;exact d
 |cons g c f=>
  intro a b e h;exact⟨e.1,f (a++[g]) b e.2 (by rw[e9];exact h)⟩
def abD(h:a.Pairwise λc b=>c.1<=b.1)(k:Int)(d:Int×Int->Bool):uc [] ((cY a k).filter d):=by
 unfold cY;rw[oE];refine abC _ [] _ (abB _ [] (h.sublist CM)) ?_;cases e:a[bT k (aa a)]? with
 |none=>exact trivial
 |some f=>
  show uc _ ([f].filter d);cases hp:d f with
  |false=>rw[List.filter_cons_of_neg (by rw[hp];decide)];exact trivial
  |true=>rw[List.filter_cons_of_pos hp];exact⟨.inl (cH.mpr ⟨iZ e,hp⟩),trivial⟩
def abE:∀{a:bR},Sk a->(fQ n d a).Pairwise λc b=>c.1<=b.1:=by
 intro j
 induction j with
 |nil=>
  intro _;exact .nil
 |cons o a g=>
  intro k;have f:=qa.mp k;show List.Pairwise _ (_++fQ n d a);refine GD.mpr ⟨jA.mpr (List.pairwise_of_forall λz z=>lE _),g f.2,λr l q e=>?_⟩;let ⟨p,_,zy⟩:=aY.mp l;let ⟨h,i,e⟩:=fB.mp e;let ⟨m,_,zy⟩:=aY.mp e;exact iJ (f.1 h i)
def J4(h:a∈fQ n b full):a.1∈full.map (·.1)/\(0<=a.2/\a.2<n/\a.2≠b):=by
 let ⟨c,e,d⟩:=fB.mp h;let ⟨g,f,zy⟩:=aY.mp d;exact⟨aY.mpr ⟨c,e,rfl⟩,vE f⟩
def dn(a:Option Int)(n:aD):aD:=match a with
 |some b=>qW n b
 |none=>n
section
def abF(i:zQ n c b full f):∀(e d:bZ),oq n c d->(∀a∈e,a.1∈full.map (·.1)/\(0<=a.2/\a.2<n/\a.2≠c))->uc d e->
 ∃g,qX (e.map λa=>mU b c N a) (LV n c full f d)=(dn ((e.find? (ir b N)).map λa=>(nd N a.2).promised.1) (LV n c full f (d++e.takeWhile λa=>!ir b N a)),g)/\OV n c b full (f.aq.map (·.1)) d++g=OV n c b full (f.aq.map (·.1)) (d++e.takeWhile λa=>!ir b N a):=by
 intro v
 induction v with
 |nil=>
  intro d j _ _;exact⟨[],by rw[LW,c8];rfl,by rw[LW,c8,c8]⟩
 |cons a e p=>
  intro d j o m;let ⟨u,l⟩:=o a (.head _);rw[dM,Rl,jg,j4];cases h:ir b N a with
  |true=>
   have C:=RZ i j;rw[show mU b c N a=.refuse b a.2 c (nd N a.2).promised from az h,JP C a.2 c ⟨i.E0.symm,by show f.phase≠0;rw[i.ph];decide,by show blt f.aE _=af;rw[i.E0];exact h⟩];dsimp only;rw[RQ e (C.down _) J];exact⟨[],by rw[CY,aB ∅];dsimp only;rw[c8 d];rfl,by rw[CY,aB ∅,c8,c8]⟩
  |false=>
   let ⟨g,x,t⟩:=abA i j (s:=a.1) l u m.1 c;obtain⟨r,w,k⟩:=p (d++[a]) (j.snoc l) (λq h=>o q (.tail _ h)) m.2;rw[show mU b c N a=.accepted b a.2 c a.1 from aB (by rw[show blt b (nd N a.2).promised=aA from h];decide),x];dsimp only;rw[w,Bool.not_false,az J];rw[e9] at k;exact⟨g++r,by rw[e9];rfl,by rw[<-e9,t];exact k⟩
def abG(g:zQ n c b d a)(hl:a.hl=iw c d):LV n c d a []=a/\OV n c b d (a.aq.map (·.1)) []=[]:=by
 intros n c b d a _ g hl
 have i:nw n c d (a.aq.map (·.1)) []=[]:=mq.mpr λh z=>by
  rw[B0 (T:=[]) λz f=>aV f jy,decide_eq_false (show ¬n/2<[c].length from gO.mpr (Ae g.two ∅))];exact i7
 unfold LV OV;rw[i];refine⟨?_,rfl⟩
 have:(d.map λe=>(e.1,(e.2,vt n c [] e.1)))=a.hl:=by
  rw[hl];exact j0 λh z=>by rw[B0 (T:=[]) λz f=>aV f jy]
 rw[this];rfl
end
def xG(a:bR)(b:Int×bz):bR:=if(look a b.1).isSome then a else bB a b
def ud(n:aD)(a:bR):aD:={n with aq:=a.foldl xG n.aq}
noncomputable def pJ(b:List ((Int×bz)×Int))(i:Int):bR:=(b.filter λa=>decide (a.2=i)).map (·.1)
def cg(d:List ((Int×bz)×Int))(c:aO):aO:=c.mapIdx λb a=>ud a (pJ d b)
def abH(C:bA n)(a:bR):bA (ud n a):=by
 have e:∀(a:bR) (c:bR),Sk c->Sk (a.foldl xG c):=λa=>by
  induction a with
  |nil=>exact λc b=>b
  |cons f a d=>exact λc b=>d _ (by unfold xG;split;exact b;exact kE b.nk _)
 exact⟨C.acc,e a _ C.fF,C.sH,C.pC,C.pD,C.tX⟩
def zR(b:List ((Int×bz)×Int))(a:aO)(i:Nat):(cg b a)[i]?=(a[i]?).map λn=>ud n (pJ b i):=mX
def abI(a:aO):cg [] a=a:=by
 apply kO;intro b;rw[zR];cases a[b]?<;>rfl
def R0(b:List ((Int×bz)×Int))(c:Int×bz)(i k:Int):pJ (b++[(c,i)]) k=if i=k then pJ b k++[c] else pJ b k:=by
 unfold pJ;rw[oE,cy]
 by_cases a:i=k
 .rw[az a,gk,decide_eq_true a];rfl
 rw[aB a,gk,decide_eq_false a];exact c8 _
def abJ(p:∀(i:Nat) n,N[i]?=U n->bA n)(b:aL)(l:Int)(ok:(Int×bz)×Int->Bool)(d:List ((Int×bz)×Int))(h:∀a∈d,0<=a.2/\a.2<N.length):
 pl (N,d.map λa=>Bu b l a.2 a.1.1 a.1.2) (d.map λa=>if ok a then .deliver 0 else .drop 0)=(cg (d.filter ok) N,[]):=by
 have:=JN (λa=>Bu b l a.2 a.1.1 a.1.2) (λc=>(cg c N,[])) ok d [] λa r c=>by
  obtain⟨m,q⟩:=a;let ⟨s,k⟩:=h _ r;obtain⟨i,rfl⟩:∃i:Nat,q=(i:Int):=mZ s;have f:N[i]?=U N[i]:=dZ (dB.mp k);show ∃g,(cg c N)[(i:Int).toNat]?=U g/\(cg (c++[(m,(i:Int))]) N,[])=((cg c N).set (i:Int).toNat (bK g _).1,[]++(bK g _).2);rw[j5];refine⟨ud N[i] (pJ c i),by rw[zR,f];rfl,?_⟩;rw[aau (abH (p i _ f) _)];refine fh (kO λj=>?_) J;dsimp only
  by_cases e:i=j
  .subst e;rw[mj (by unfold cg;rw[qb];exact dB.mp k),zR,f,R0,az J];show U (ud N[i] (pJ c i++[m]))=_;unfold ud;rw[j3];rfl
  rw[oG e,zR,zR,R0,aB λo:(i:Int)=(j:Int)=>e (oN o)]
 rw[abI,c8] at this;exact this
def abK(h:Sk c)(hs:∀a,look c b.1=U a->a=b.2):xG c b=bB c b:=by
 unfold xG;split
 .refine h.ext (kE h.nk b) λg=>?_
  rw[qU h.nk];rename_i e;let ⟨a,d⟩:=AN.mp e;split
  .rename_i f;rw[<-f,d,hs a d]
  rfl
 rfl
def abL:∀{c a:bR},Sk a->Nk c->(∀b∈c,∀d,look a b.1=U d->d=b.2)->c.foldl xG a=c.foldl bB a:=by
 intro l
 induction l with
 |nil=>
  intro a _ _ _;exact J
 |cons b c k=>
  intro a g j i;rw[i6,i6,abK g (i b (.head _))];refine k (kE g.nk b) j.tail λf h d e=>i f (.tail _ h) d ?_
  rw[qU g.nk,aB λe:b.1=f.1=>(ff.mp j).1 (aY.mpr ⟨f,h,e.symm⟩)] at e;exact e
def abM{b:aF}{i:Int}(f:b.Nodup):(b.filter λa=>decide (a=i))=if i∈b then[i] else[]:=by
 induction b with
 |nil=>rfl
 |cons k b h=>
  let ⟨j,g⟩:=ff.mp f;rw[gk,h g]
  by_cases e:k=i
  .subst e;rw[decide_eq_true J,az J,aB j,az sV]
  rw[decide_eq_false e,aB i7]
  by_cases c:i∈b
  .rw[az c,az (.tail _ c)]
  rw[aB c,aB λd=>(bN.mp d).elim (λd=>e d.symm) c]
def abN{others:aF}(h:others.Nodup)(ok:Int->Bool){i:Int}(hi:i∈others):∀(d:bR),pJ ((d.flatMap λc=>others.map λa=>(c,a)).filter λb=>ok b.2) i=if ok i then d else[]:=by
 intro j
 induction j with
 |nil=>
  cases ok i<;>rfl
 |cons c d g=>
  have f:=g;unfold pJ at f⊢;rw[sW,oE,oE,cy,f]
  have:((others.map λa=>(c,a)).filter λb=>ok b.2).filter (λb=>decide (b.2=i))=if ok i then[(c,i)] else[]:=by
   rw[CQ,GF,show((λb:(Int×bz)×Int=>decide (b.2=i)&&ok b.2)∘λa=>(c,a))=λa=>decide (a=i)&&ok a from rfl];rw[qd (q:=λa=>decide (a=i)&&ok i) λa z=>by
    by_cases e:a=i
    .rw[e]
    rw[decide_eq_false e,CX,CX]]
   cases ok i with
   |true=>
    rw[qd (q:=λa=>decide (a=i)) λa z=>yt _,abM h,az hi];rfl
   |false=>rw[mq.mpr λa z=>by rw[wz];exact i7];rfl
  rw[this];cases ok i<;>rfl
def abO{c:Type}{a:List (Int×c)}(h:Sk a){b:Int×c}(e:look a b.1=U b.2):bB a b=a:=
 (kE h.nk b).ext h λf=>by
  rw[qU h.nk];split
  .rename_i d;rw[<-d,e]
  rfl
def R2{g h:Type}(d:h->Int×g):∀{c:List h} {a:List (Int×g)},Sk a->(∀b∈c,look a (d b).1=U (d b).2)->c.foldl (λa b=>bB a (d b)) a=a:=by
 intro k
 induction k with
 |nil=>
  intro a _ _;exact J
 |cons b c i=>
  intro a f e;rw[i6,abO f (e b (.head _)),i f λl j=>e l (.tail _ j)]
def vG{i:Type}(d:Int->i):∀(c:aF) {b:List (Int×i)},Sk b->Sk (c.foldl (λb a=>bB b (a,d a)) b)/\∀k,look (c.foldl (λb a=>bB b (a,d a)) b) k=if k∈c then U (d k) else look b k:=by
 intro m
 induction m with
 |nil=>
  intro b f;exact⟨f,λk=>(aB jy).symm⟩
 |cons a c j=>
  intro b f;let ⟨n,l⟩:=j (kE f.nk (a,d a));refine⟨n,λk=>?_⟩;rw[i6,l k,qU f.nk]
  by_cases e:a=k
  .rw[az (show(a,d a).1=k from e),az (show k∈a::c from e▸.head _)];split
   .rfl
   rw[<-e]
  rw[aB (show ¬(a,d a).1=k from e)]
  by_cases g:k∈c
  .rw[az g,az (.tail _ g)]
  rw[aB g,aB λh=>(bN.mp h).elim (λh=>e h.symm) g]
def R3{b:aL}{e:bR}(j:Nk e)(g:Int->Bool)(d:bU):(e.foldl (λd a=>if g a.1 then bB d (a.1,(b,a.2)) else d) d)=((e.filter λa=>g a.1).map (·.1)).foldl (λd c=>bB d (c,(b,fY e c))) d:=by
 intros b e g d _ j;rw[AG,List.foldl_filter]
 have:∀(f:bR) (d:bU),(∀i∈f,i∈e)->f.foldl (λd a=>if g a.1 then bB d (a.1,(b,a.2)) else d) d=f.foldl (λd a=>if g a.1=af then bB d (a.1,(b,fY e a.1)) else d) d:=λf=>by
  induction f with
  |nil=>exact λz z=>rfl
  |cons i f m=>
   intro d h;rw[i6,i6,zP j (h i (.head _)),m _ λl k=>h l (.tail _ k)] at⊢
 exact this e d λz h=>h
def R4{b:aL}{e:bR}(p:Nk e){ss:aF}{c:Int->Bool}{f:bU}(n:Sk f)(h:∀k,k∈ss↔k∈e.map (·.1)/\c k=af):
 ss.foldl (λf d=>bB f (d,(b,fY e d))) f=e.foldl (λf a=>if c a.1 then bB f (a.1,(b,a.2)) else f) f:=by
 intros b e ss c f _ p n h;rw[R3 p];let ⟨t,r⟩:=vG (λd=>(b,fY e d)) ss n;let ⟨s,q⟩:=vG (λd=>(b,fY e d)) ((e.filter λa=>c a.1).map (·.1)) n;refine t.ext s λk=>?_;intros k
 rw[r,q]
 have:k∈ss↔k∈(e.filter λa=>c a.1).map (·.1):=(h k).trans ⟨λ⟨j,o⟩=>by
  let ⟨l,m,zy⟩:=aY.mp j;exact aY.mpr ⟨l,cH.mpr ⟨m,o⟩,rfl⟩,λi=>by
  let ⟨l,m,zy⟩:=aY.mp i;let ⟨j,o⟩:=cH.mp m;exact⟨aY.mpr ⟨l,j,rfl⟩,o⟩⟩
 by_cases g:k∈ss
 .rw[az g,az (this.mp g)]
 rw[aB g,aB λi=>g (this.mpr i)]
def J5{e f:Type}(d:Bool)(g:e->f->e):∀(b:List f) (a:e),b.foldl (λa c=>if d then g a c else a) a=(if d then b else[]).foldl g a:=by
 intro i
 induction i with
 |nil=>
  intro a;cases d<;>rfl
 |cons c b h=>
  intro a;rw[i6,h];cases d<;>rfl
def abP{p:aO}{n:aD}{f:Nat}(h:p[f]?=U n)(C:bA n)(z:n.me=(f:Int))(hs:n.size=aa p){b:aL}{i:bR}(u:Nk i){g:bZ}(A:∀a∈g,a.1∈i.map (·.1)){k:bR}(y:Nk k)(l:aF)
 (x:l.contains (f:Int)=af->∀d∈k,∀e,look n.aq d.1=U e->e=d.2):
 ud (pI b (fY i) n (kH g f)) (if l.contains (f:Int) then k else[])=mP p b i g k l f:=by
 intros p n f b i g k l _ h C z hs u A y x;unfold mP;rw[fW h]
 have t:(if l.contains (f:Int) then k else[]).foldl xG n.aq=k.foldl (λB d=>if l.contains (f:Int) then bB B d else B) n.aq:=by
  rw[J5];cases hb:l.contains (f:Int) with
  |false=>rfl
  |true=>exact abL C.fF y (x hb)
 unfold ud pI;cases hq:blt b n.promised with
 |true=>
  have r:(g.filter λa=>decide (a.2=(f:Int))&&!af)=[]:=mq.mpr λa Z=>by rw[CY,wz];exact i7
  have:i.foldl (λm j=>if([]:bZ).contains (j.1,(f:Int)) then bB m (j.1,(b,j.2)) else m) n.acc=n.acc:=(R4 (b:=b) u (ss:=[]) (c:=λF=>([]:bZ).contains (F,(f:Int))) C.acc λo=>⟨λh=>aV h jy,λh=>aV h.2 i7⟩).symm;rw[AM,az J,r,t];show _=({n with acc:=i.foldl (λm j=>if([]:bZ).contains (j.1,(f:Int)) then bB m (j.1,(b,j.2)) else m) n.acc,aq:=_}:aD);rw[this];rfl
 |false=>
  have r:(g.filter λa=>decide (a.2=(f:Int))&&!aA)=g.filter λa=>decide (a.2=(f:Int)):=qd λa Z=>yt _
  rw[wA,r]
  have E:∀o,o∈kH g f↔o∈i.map (·.1)/\(g.filter λa=>decide (a.2=(f:Int))).contains (o,(f:Int))=af:=λo=>by
   rw[gy];unfold kH;refine⟨λq=>?_,λq=>aY.mpr ⟨_,q.2,rfl⟩⟩;let ⟨a,w,zy⟩:=aY.mp q;let ⟨G,D⟩:=cH.mp w;exact⟨A a G,(show(a.1,(f:Int))=a from fh J (eZ D).symm)▸w⟩
  have v:=R4 (b:=b) u C.acc E
  have s:(kH g f).isEmpty=(g.filter λa=>decide (a.2=(f:Int))).isEmpty:=by
   unfold kH;exact List.isEmpty_map
  rw[s];unfold zI;cases he:(g.filter λa=>decide (a.2=(f:Int))).isEmpty with
  |true=>
   have H:kH g f=[]:=by rw[he] at s;exact List.isEmpty_iff.mp s
   rw[H] at v;dsimp only;rw[az J,az J,<-v,t];rfl
  |false=>
   dsimp only;rw[aB i7,aB i7];dsimp only;rw[<-v,<-t,<-z,<-hs];rfl
def R5{c:Type}(b:c->Bool):∀(a:List c),(a.filter b).head?=a.find? b:=by
 intro f
 induction f with
 |nil=>
  exact J
 |cons e a d=>
  rw[gk,jg] at⊢;cases b e with
  |true=>rfl
  |false=>exact d
def abQ{f:Type}[DecidableEq f](d:f->Bool):∀(b:List f) {a:f},b.find? d=U a->(b.takeWhile λi=>decide (i≠a))=b.takeWhile λi=>!d i
 :=by
  intro j
  induction j with
  |nil=>exact λc=>(nsn c.symm).elim
  |cons e b g=>
   intro a c;have k:=Ax c;rw[j4,j4];rw[jg] at c;cases hq:d e with
   |true=>
    rw[hq] at c;obtain rfl:e=a:=dF c;rw[decide_eq_false λd=>d J];rfl
   |false=>
    rw[hq] at c;rw[decide_eq_true (show e≠a from λh=>by rw[h,k] at hq;cases hq)];exact aR (e::·) (g c)
def abR{e:Type}(c:e->Bool):∀(a:List e),a.find? c=ai->(a.takeWhile λi=>!c i)=a:=by
 intro g
 induction g with
 |nil=>
  intro _;exact J
 |cons d a f=>
  intro b;rw[jg] at b;rw[j4];cases hq:c d with
  |true=>rw[hq] at b;cases b
  |false=>rw[hq] at b;exact aR (d::·) (f b)
def E1(d:aO)(b:aL)(c:bZ):kC d b c=c.takeWhile λa=>!ir b d a:=by
 intros d b c;have f:=R5 (ir b d) c;unfold kC;cases e:c.filter (ir b d) with
 |nil=>rw[e] at f;exact(abR _ _ f.symm).symm
 |cons a g=>rw[e] at f;exact abQ _ _ f.symm
structure VP where
 N:aO
 me:Nat
 L:aD
 b:aL
 log:dG
 ws:dG
 y:Int
 cu:Int
 k:Int
instance:Nonempty VP:=⟨⟨[],0,⟨0,0,(0,0),[],[],0,(0,0),[],[]⟩,(0,0),[],[],0,0,0⟩⟩
def VP.full(a:VP):bR:=iC a.L a.log a.ws
def VP.hit(a:VP):bZ:=vD a.N a.me a.y a.cu a.k a.full
def VP.back(a:VP):aF:=dI a.y (aa a.N) a.me
def VP.g0(a:VP):bZ:=zJ a.N a.me a.L a.y a.hit
def VP.gd(a:VP):bZ:=kC a.N a.b a.g0
def VP.new(a:VP):bR:=nw (aa a.N) a.me a.full (a.L.aq.map (·.1)) a.gd
def VP.ld(a:VP):aD:=iD a.N a.me a.L a.b a.full a.new a.g0
def VP.vs(a:VP):fE×aO:=gK a.N a.me a.b a.log a.ws a.y a.cu a.k
def VP.out(a:VP):cT:=oi (aa a.N) a.me a.b a.log
def VP.bG(a:VP):fE:=a.ws.map (λc=>.at a.me (.bW c))++[.double a.k]++(cY (fQ (aa a.N) a.me a.full) a.k).map (λb=>if a.hit.contains b then .deliver 0 else .drop 0)++a.hit.map λb=>if a.back.contains b.2 then .deliver 0 else .drop 0
def VP.st(a:VP)(M:aO):aO×cT:=((ag a.b (fY a.full) a.hit M).set a.me a.ld,OV (aa a.N) a.me a.b a.full (a.L.aq.map (·.1)) a.gd)
structure q8(p:VP):Prop where
 G:Good p.N
 sz:∀(i:Nat) n,p.N[i]?=U n->n.size=aa p.N
 hL:p.N[p.me]?=U p.L
 two:2<=aa p.N
 bm:p.b.2=(p.me:Int)
 ld:p.L.phase=2->p.L.hl=iw p.me (bh p.log)/\p.L.aE=p.b
 nl:p.L.phase≠2->p.L.phase=0\/p.log=[]
 acc:∀sv∈bh p.log,look p.L.acc sv.1=U (p.b,sv.2)
def xH(a:dG):Sk (bh a):=Xi (zN a)
def abS(a:aD)(c b:dG):Sk (iC a c b):=xH _
section
variable {p:VP}
def VP.sk:Sk p.full:=abS ..
def R6(d:q8 p):(bh p.log).foldl (λc a=>bB c (a.1,(p.b,a.2))) p.L.acc=p.L.acc:=
 R2 (λa:Int×bz=>(a.1,(p.b,a.2))) (d.G.gE _ _ d.hL).acc d.acc
noncomputable def aD.led(n:aD)(a:bU)(b:bR)(h:jQ):aD:={n with acc:=a,aq:=b,hl:=h}
def abT(d:q8 p)(h:p.L.phase=2)(e:p.full=bh (p.log++p.ws)):jf p.L p.log p.ws=p.L.led (p.full.foldl (λa c=>bB a (c.1,(p.b,c.2))) p.L.acc) p.L.aq (iw p.me p.full):=by
 let ⟨i,f⟩:=d.ld h;refine(RS ..).trans (congr (aR (λa g=>p.L.led a p.L.aq g) ?_) ?_)
 .rw[e,vF,j3,R6 d,f]
 rw[e,vF,i,d.G.me _ _ d.hL];unfold iw;rw[cy]
def R7:(cY (fQ (aa p.N) p.me p.full) p.k).map (λa=>if p.hit.contains a then Bx 0 else .drop 0)=(cY (fQ (aa p.N) p.me p.full) p.k).map λa=>if(f6 p.y (aa p.N) p.me).contains a.2&&decide (a.1≠p.cu) then .deliver 0 else .drop 0:=
 j0 λa c=>by
  have:p.hit.contains a=((f6 p.y (aa p.N) p.me).contains a.2&&decide (a.1≠p.cu)):=oJ.mpr (gy.trans ⟨λb=>(cH.mp b).2,λb=>cH.mpr ⟨c,b⟩⟩);rw[this]
def xJ(h:a∈p.hit):a.1∈p.full.map (·.1)/\(0<=a.2/\a.2<aa p.N/\a.2≠(p.me:Int)):=J4 (xC (cH.mp h).1)
def J6{d:Type}{b:List d}{p c:d->Bool}(h:∀a∈b,p a=c a):b.find? p=b.find? c/\(b.takeWhile λa=>!p a)=b.takeWhile λa=>!c a:=by
 induction b with
 |nil=>exact⟨rfl,rfl⟩
 |cons a b g=>
  have:=g λf e=>h f (.tail _ e)
  rw[j4,j4,jg,jg,h a (.head _),this.1,this.2];exact⟨rfl,rfl⟩
def abU(c:q8 p)(d:p.L.phase=2):pl (p.N,p.out) p.bG=p.st (p.N.set p.me (jf p.L p.log p.ws)):=by
 intros p _ c d;let ⟨s,h⟩:=c.ld d;have j:=c.G.me _ _ c.hL;have m:=c.sz _ _ c.hL;have C:=c.G.gE _ _ c.hL;have v:p.full=bh (p.log++p.ws):=aR bh (az (decide_eq_true d));have z:p.g0=p.hit.filter λa=>p.back.contains a.2:=qd λa Z=>by rw[decide_eq_true d,yt];rfl
 have q:=abq (ws:=p.ws) (k:=p.k) c.G c.hL m c.two d (by rw[j];exact s) (h▸c.bm) (λa=>(f6 p.y (aa p.N) p.me).contains a.2&&decide (a.1≠p.cu));rw[h,<-v] at q;have D:=(RK p.ws p.log p.N p.L [] c.hL C d (by rw[m];exact c.two) (by rw[j];exact s)).2;have g:=abT c d v;have r:=JQ (λa=>p.back.contains a.2) (RP p.b p.me (p.N.set p.me (jf p.L p.log p.ws))) p.hit _ (jf p.L p.log p.ws) [] (RU (mj (fH.mp c.hL).1) p.b (fY p.full) λa e=>(xJ e).2.2.2);rw[c8,jM,<-z] at r;have i:∀a∈p.g0,_:=λa e=>xJ (p:=p) (cH.mp e).1
 have n:∀a∈p.g0,ir p.b (p.N.set p.me (jf p.L p.log p.ws)) a=ir p.b p.N a:=λa e=>JV (i a e).2.1 (i a e).2.2.2
 have H:uc [] p.g0:=by
  unfold VP.g0 VP.hit zJ vD;rw[CQ] at⊢;exact abD (abE VP.sk) p.k _
 have u:zQ (aa p.N) p.me p.b p.full (jf p.L p.log p.ws):=⟨D,by rw[g] at⊢;exact d,by rw[g] at⊢;exact h,by rw[g] at⊢;exact m,by rw[g] at⊢;exact j,VP.sk,c.two⟩;let ⟨P,t,o⟩:=abF u (N:=p.N.set p.me (jf p.L p.log p.ws)) p.g0 [] (λp B=>aV B jy) i H;let ⟨E,x⟩:=abG u (by rw[g] at⊢;rfl);rw[x,jM,jM] at o;rw[E,jM,(J6 n).1,(J6 n).2,<-E1] at t;rw[(J6 n).2,<-E1,show(jf p.L p.log p.ws).aq=p.L.aq by rw[g] at⊢;rfl] at o;unfold VP.bG;rw[R7,mR];refine(aR (λA=>pl A _) q).trans (r.trans ((aR (λw:aD×cT=>(CP _ p.me w.1,w.2)) t).trans (fh (aR (CP _ p.me) ?_) o)));have M:p.g0.find? (ir p.b p.N)=(p.g0.filter (ir p.b p.N)).head?:=(R5 _ _).symm;have I:LV (aa p.N) p.me p.full (jf p.L p.log p.ws) p.gd=p.L.led (p.full.foldl (λl f=>bB l (f.1,(p.b,f.2))) p.L.acc) (p.new.foldl bB p.L.aq) (p.full.map λf=>(f.1,(f.2,vt (aa p.N) p.me p.gd f.1))):=by rw[g];rfl
 unfold VP.ld iD;rw[show LV (aa p.N) p.me p.full (jf p.L p.log p.ws) (kC p.N p.b p.g0)=_ from I,M];cases he:p.g0.filter (ir p.b p.N) with
 |nil=>
  dsimp only;rw[decide_eq_true d,az J];unfold aD.led;rw[d,h,C.pC (by rw[d];decide)];rfl
 |cons a O=>
  have e:=i a (cH (p:=ir p.b p.N)|>.mp (by rw[he];exact .head _)).1;show qW _ (nd (p.N.set p.me (jf p.L p.log p.ws)) a.2).promised.1=_;rw[zM λF=>e.2.2.2 (by rw[<-F];exact(qf e.2.1).symm)];exact aR (λK:Int=>(⟨p.L.me,p.L.size,p.L.promised,p.full.foldl (λl f=>bB l (f.1,(p.b,f.2))) p.L.acc,p.new.foldl bB p.L.aq,0,((nd p.N a.2).promised.1,K),[],[]⟩:aD)) j
end
open Mine.VP renaming sk->xK
def R8(h2:2<=n)(b:bR)(d:aF):nw n a b d []=[]:=mq.mpr λe z=>by
 rw[B0 (T:=[]) λz c=>aV c jy,decide_eq_false (show ¬n/2<[a].length from gO.mpr (Ae h2 ∅))];exact i7
section
variable {N:aO}{me:Nat}{L:aD}{b:aL}
def R9(C:bA L){e j:bR}(k:Sk e){h:bZ}(m:oq (aa N) me h):bA (iD N me L b e j h):=by
 intros N me L b e j h _ C k m
 have i:∀(d:bR) (c:bU),Sk c->Sk (d.foldl (λc f=>bB c (f.1,(b,f.2))) c):=λd=>by
  induction d with
  |nil=>exact λc a=>a
  |cons r d p=>exact λc a=>p _ (kE a.nk _)
 have g:=(xF j C.fF).1;unfold iD;split
 .exact⟨i _ _ C.acc,g,λa=>qz a,λz=>rfl,λa=>qz a,λz=>rfl⟩
 split
 .refine⟨i _ _ C.acc,g,λa=>yz a,λz=>rfl,λz=>⟨jA.mpr k,λq o=>?_⟩,λa=>aV J a⟩;let ⟨f,_,zy⟩:=aY.mp o;refine BZ λn l=>?_
  rw[E1] at l;exact m n ((AH _).subset l)
 exact⟨i _ _ C.acc,g,C.sH,C.pC,C.pD,C.tX⟩
end
section
def abV(c:q8 a)(e:a.L.phase≠2):pl (a.N,a.out) a.bG=a.st a.N:=by
 intros a _ c e;have g:a.full=bh a.log:=aR bh (aB (by rw[decide_eq_false e];decide));have i:a.g0=[]:=mq.mpr λd z=>by rw[decide_eq_false e,wz];exact i7
 have l:=abr c.G c.hL e c.bm a.log a.ws a.k (λd=>(f6 a.y (aa a.N) a.me).contains d.2&&decide (d.1≠a.cu));rw[<-g] at l;have p:=RU c.hL a.b (fY a.full) (T:=a.hit) λd m=>(xJ m).2.2.2
 have f:=JQ (λd=>a.back.contains d.2) (RP a.b a.me a.N) a.hit _ a.L [] p;rw[c8,jM] at f
 have o:qX ((a.hit.filter λd=>a.back.contains d.2).map (mU a.b a.me a.N)) a.L=(a.L,[]):=by
  rcases c.nl e with h|h
  .exact RQ _ (c.G.gE _ _ c.hL) h
  have:a.hit=[]:=by unfold VP.hit;rw[g,h];rfl
  rw[this];rfl
 rw[o] at f;have j:a.gd=[]/\a.new=[]:=by unfold VP.new VP.gd;rw[i];exact⟨rfl,R8 c.two _ _⟩
 unfold VP.bG VP.st;rw[R7,mR];refine(aR (λn=>pl n _) l).trans (f.trans (fh (aR (CP _ a.me) ?_) ?_))
 .unfold VP.ld iD;rw[i,j.2,g,R6 c,decide_eq_false e];rfl
 unfold OV;rw[j.1,R8 c.two];rfl
def abW(j:q8 a)(r:∀(c:Nat) n,a.N[c]?=U n->∀d∈a.new,∀e,look n.aq d.1=U e->e=d.2):pl (a.N,a.out) a.vs.1=(a.vs.2,[]):=by
 intros a _ j r
 have D:∃k:aO,aa k=aa a.N/\(∀f,a.me≠f->k[f]?=a.N[f]?)/\pl (a.N,a.out) a.bG=a.st k:=by
  by_cases q:a.L.phase=2
  .exact⟨_,mY,λf h=>oG h,abU j q⟩
  exact⟨a.N,rfl,λZ Z=>rfl,abV j q⟩
 let ⟨k,v,B,F⟩:=D
 have y:a.vs=(a.bG++a.new.flatMap λZ=>(bx (aa a.N) a.me).map λc=>if a.back.contains c then .deliver 0 else .drop 0,(eT (aa a.N)).map λc=>if c=a.me then a.ld else mP a.N a.b a.full a.hit a.new a.back c):=by
  unfold VP.vs gK;rw[fW j.hL];rfl
 rw[y,mR,F];have C:bA a.ld:=R9 (j.G.gE _ _ j.hL) xK λg i=>(xJ (cH.mp i).1).2
 have x:Nk a.new:=Q6 xK.nk _
 have H:(a.new.flatMap λd=>(bx (aa a.N) a.me).map λc=>Bu a.b a.me c d.1 d.2)=(a.new.flatMap λd=>(bx (aa a.N) a.me).map λc=>(d,c)).map λg=>Bu a.b a.me g.2 g.1.1 g.1.2:=by
  rw[yl] at⊢;simp only[bV];rfl
 have w:(a.new.flatMap λZ=>(bx (aa a.N) a.me).map λc=>if a.back.contains c then Bx 0 else .drop 0)=(a.new.flatMap λd=>(bx (aa a.N) a.me).map λc=>(d,c)).map λg=>if a.back.contains g.2 then .deliver 0 else .drop 0:=by
  rw[yl] at⊢;simp only[bV];rfl
 have o:∀g∈a.new.flatMap λd=>(bx (aa a.N) a.me).map λc=>(d,c),g.2∈bx (aa a.N) a.me:=λg i=>by
  let ⟨d,_,i⟩:=fB.mp i;let ⟨c,E,zy⟩:=aY.mp i;exact E
 have t:=(fH.mp j.hL).1;have p:(ag a.b (fY a.full) a.hit k).length=aa a.N:=by unfold ag;rw[qb,v] at⊢
 have s:∀f:Nat,((ag a.b (fY a.full) a.hit k).set a.me a.ld)[f]?=if f=a.me then U a.ld else(a.N[f]?).map λn=>pI a.b (fY a.full) n (kH a.hit f):=λf=>by
  by_cases h:a.me=f
  .rw[<-h,mj (by rw[p] at⊢;exact t),az J] at⊢
  rw[oG h,zO,B f h,aB (cS h)]
 have u:=abJ (N:=(ag a.b (fY a.full) a.hit k).set a.me a.ld) (λf n l=>by
  rw[s] at l;split at l
  .cases l;exact C
  let ⟨z,A,zy⟩:=G4.mp l;exact RM (j.G.gE f z A) _) a.b a.me (λg=>a.back.contains g.2) _ λg i=>by rw[mY,p] at⊢;exact⟨(vE (o g i)).1,(vE (o g i)).2.1⟩
 rw[<-H] at u;unfold VP.st OV;rw[w];refine u.trans (fh (kO λf=>?_) J);rw[zR,s,cC];rcases uv f (aa a.N) with hi|hi
 .rw[pZ hi];show _=U (if f=a.me then a.ld else _)
  by_cases h:f=a.me
  .rw[az h,az h]
   have:pJ ((a.new.flatMap λd=>(bx (aa a.N) a.me).map λc=>(d,c)).filter λg=>a.back.contains g.2) f=[]:=by
    unfold pJ;rw[mq.mpr λg i l=>(vE (o g (cH.mp i).1)).2.2 ((eZ l).trans (aR _ h))];rfl
   rw[this];rfl
  have m:=dZ hi;have I:(f:Int)∈bx (aa a.N) a.me:=cH.mpr ⟨ua.mpr ⟨fJ f,dB.mpr hi⟩,decide_eq_true λg=>h (oN g)⟩;rw[aB h,aB h,m];show U (ud _ _)=_;rw[abN (others:=bx (aa a.N) a.me) ((RV (aa a.N)).sublist CM) (λc=>a.back.contains c) I,abP m (j.G.gE f _ m) (j.G.me f _ m) (j.sz f _ m) xK.nk (λg i=>(xJ i).1) x _ λZ=>r f _ m]
 rw[aB (show ¬f=a.me from λh=>aV t (gO.mpr (h▸hi))),l9 hi,l9 (by rw[gx];exact hi)];rfl
end
def eS(b:aO)(a:Int):Prop:=0<=a/\a<aa b
def q9(c:aO)(d:Int->Prop):Prop:=∃a:aF,a.Nodup/\(∀b∈a,eS c b/\d b)/\aa c<2*aa a
def q9.meet{b:aO}{f R:Int->Prop}(h:q9 b f)(t:q9 b R):∃a,eS b a/\f a/\R a:=by
 let ⟨g,n,e,v⟩:=h;let ⟨k,u,i,x⟩:=t;refine rR λm=>?_
 have p:(g++k).Nodup:=jz.mpr ⟨n,u,λd j w r q=>m ⟨d,(e d j).1,(e d j).2,(i d (q▸r)).2⟩⟩;have o:∀c∈g++k,c∈bu (aa b):=λc s=>(eE.mp s).elim (λh=>ua.mpr (e c h).1) λh=>ua.mpr (i c h).1
 have l:=IP p o;have:(bu (aa b)).length=aa b:=by unfold bu;rw[aP,gx]
 rw[bO,this] at l;omega
def q9.imp{b f:aO}{e R:Int->Prop}(h:q9 b e)(hl:aa f=aa b)(k:∀a,eS b a->e a->R a):q9 f R:=by
 let ⟨j,g,c,i⟩:=h;exact⟨j,g,λa d=>⟨by unfold eS;rw[hl];exact(c a d).1,k a (c a d).1 (c a d).2⟩,by rw[hl];exact i⟩
def pK(b:aO)(c:ji):Prop:=∃a,eS b a/\c∈(nd b a).acc
def xM(b:aO)(c:Int)(g:bz):Prop:=∃e,q9 b (λf=>∃d,look (nd b f).acc c=U d/\blt d.1 e=aA)/\∀a,pK b a->a.1=c->blt a.2.1 e=aA->a.2.2=g
def xM.agree{e:aO}{a:Int}{f i:bz}(h:xM e a f)(q:xM e a i):f=i:=by
 let ⟨t,p,n⟩:=h;let ⟨s,o,l⟩:=q;obtain⟨d,j,⟨c,b,m⟩,r,g,k⟩:=p.meet o;rw[b] at g;cases g;exact(n (a,c) ⟨d,j,qH b⟩ rfl m).symm.trans (l (a,c) ⟨d,j,qH b⟩ rfl k)
structure SI(N:aO):Prop where
 sk:∀j,eS N j->Sk (nd N j).acc
 J7:∀j,eS N j->∀it∈(nd N j).acc,blt (nd N j).promised it.2.1=aA
 zS:∀it,pK N it->q9 N λj=>blt (nd N j).promised it.2.1=aA
 own:∀it,pK N it->∃j,eS N j/\it.2.1.2=j/\it.2.1.1<=(nd N j).promised.1
 E2:∀x y,pK N x->pK N y->x.1=y.1->x.2.1=y.2.1->x.2.2=y.2.2
 fix:∀j,eS N j->∀s v,look (nd N j).aq s=U v->xM N s v
 J8:∀it,pK N it->1<=it.1
def NS(b:aL)(d:bR)(n c:aD):Prop:=(c.promised=n.promised/\c.acc=n.acc)\/(c.promised=b/\blt b n.promised=aA/\∃e:aF,(∀a∈e,a∈d.map (·.1))/\c.acc=e.foldl (λf a=>bB f (a,(b,fY d a))) n.acc)
def NS.comp{b:aL}{a:bR}{n c k:aD}(h:NS b a n c)(e:NS b a c k):NS b a n k:=by
 intros b a n c k _ h e;rcases e with⟨h1,h2⟩|⟨h1,h2,ss,h3,h4⟩
 .rcases h with⟨g1,g2⟩|⟨g1,g2,g3⟩
  .exact .inl ⟨h1.trans g1,h2.trans g2⟩
  exact .inr ⟨h1.trans g1,g2,by rw[h2];exact g3⟩
 rcases h with⟨g1,g2⟩|⟨g1,g2,ts,g3,g4⟩
 .exact .inr ⟨h1,g1▸h2,ss,h3,by rw[<-g2];exact h4⟩
 exact .inr ⟨h1,g2,ts++ss,λd f=>(eE.mp f).elim (g3 d) (h3 d),by rw[j3,<-g4];exact h4⟩
structure ow(N N':aO)(b:aL)(me:Nat)(full new:bR):Prop where
 len:aa N'=aa N
 lt:me<aa N
 bm:b.2=(me:Int)
 bn:(nd N me).promised.1<b.1
 pm:(nd N' me).promised=b
 ns:∀j,eS N j->NS b full (nd N j) (nd N' j)
 sk:Sk full
 led:full≠[]->∃E:aF,E.Nodup/\aa N<2*aa E/\(∀j∈E,eS N j/\blt b (nd N j).promised=aA/\(nd N' j).promised=b)
  /\∀sv∈full,(∃it,(∃j∈E,it∈(nd N j).acc)/\it.1=sv.1)->∃it,(∃j∈E,it∈(nd N j).acc)/\it.1=sv.1/\it.2.2=sv.2/\∀i2,(∃j∈E,i2∈(nd N j).acc)->i2.1=sv.1->blt it.2.1 i2.2.1=aA
 new:∀r∈new,r∈full/\q9 N' λj=>look (nd N' j).acc r.1=U (b,r.2)
section
variable {N N':aO}{b:aL}{me:Nat}{full new:bR}(S:ow N N' b me full new)(H:SI N)
include S H
theorem ow.look{d:Int}(hj:eS N d)(c:Int):Mine.look (nd N' d).acc c=Mine.look (nd N d).acc c\/((nd N' d).promised=b/\∃a,(c,a)∈full/\Mine.look (nd N' d).acc c=U (b,a)):=by
 intros N N' b me full new d c _ S H hj;rcases S.ns d hj with⟨_,e⟩|⟨e1,_,ss,hs,e⟩
 .rw[e];exact .inl J
 rw[e,(vG (λc=>(b,fY full c)) ss (H.sk d hj)).2]
 by_cases f:c∈ss
 .rw[az f];let ⟨h,g,zy⟩:=aY.mp (hs c f);exact .inr ⟨e1,_,g,by rw[zP S.sk.nk g]⟩
 rw[aB f];exact .inl J
theorem ow.Sa{a:Int}(hj:eS N a):Sk (nd N' a).acc:=by
 intros N N' b me full new a _ S H hj;rcases S.ns a hj with⟨_,e⟩|⟨e1,_,ss,hs,e⟩
 .rw[e];exact H.sk a hj
 rw[e];exact(vG (λc=>(b,fY full c)) ss (H.sk a hj)).1
theorem ow.pL{a:Int}:eS N' a↔eS N a:=by unfold eS;rw[S.len]
theorem ow.item{c:Int}(hj:eS N c){a:ji}(h:a∈(nd N' c).acc):a∈(nd N c).acc\/((nd N' c).promised=b/\a.2.1=b/\(a.1,a.2.2)∈full):=by
 intros N N' b me full new c a _ S H hj h;have d:=(S.Sa H hj).nk.look h;rcases S.look H hj a.1 with e|⟨e1,v,hv,e⟩
 .rw[e] at d;exact .inl (qH d)
 rw[d] at e;have:=dF e;exact .inr ⟨e1,aR GW this,by rw[aR GV this];exact hv⟩
theorem ow.up{a:Int}(hj:eS N a):blt (nd N' a).promised (nd N a).promised=aA:=by
 intros N N' b me full new a _ S H hj;rcases S.ns a hj with⟨e,_⟩|⟨e,h,_⟩
 .rw[e];exact tO _
 rw[e];exact h
theorem ow.zS(h:full≠[]):q9 N λa=>blt b (nd N a).promised=aA/\(nd N' a).promised=b:=by
 let ⟨e,f,c,d,_⟩:=S.led h;exact⟨e,f,d,c⟩
theorem ow.old(h:full≠[]){a:ji}(hi:pK N a):blt b a.2.1=aA/\a.2.1≠b:=by
 let ⟨j,k,g,f,_⟩:=(H.zS a hi).meet (S.zS H h);refine⟨vf g f,λe=>?_⟩;let ⟨i,hi,d,c⟩:=H.own a hi;rw[e] at d c;rw[<-d,S.bm] at c;exact qe.mpr S.bn c
theorem ow.fixed{d:Int}{n:bz}(h:xM N d n):xM N' d n:=by
 intros N N' b me full new d n _ S H h;let ⟨x,t,y⟩:=h
 have w:full≠[]->blt b x=aA/\∀l,(d,l)∈full->l=n:=λE=>by
  let ⟨v,G,u,f,C⟩:=S.led E;let ⟨a,c,i,o⟩:=t.meet (R:=λa=>a∈v) ⟨v,G,λa c=>⟨(f a c).1,c⟩,u⟩;let ⟨e,k,m⟩:=i;refine⟨vf (vf m (H.J7 a c (d,e) (qH k))) (f a o).2.1,λl p=>?_⟩;let ⟨q,i,B,J,D⟩:=C (d,l) p ⟨(d,e),⟨a,o,qH k⟩,rfl⟩;let ⟨s,j,I⟩:=i;exact J.symm.trans (y q ⟨s,(f s j).1,I⟩ B (vf m (D (d,e) ⟨a,o,qH k⟩ rfl)))
 have z:∀{e},e∈full->full≠[]:=λh g=>by rw[g] at h;cases h
 refine⟨x,t.imp S.len λa c F=>?_,λq j r A=>?_⟩
 .let ⟨e,k,m⟩:=F;rcases S.look H c d with g|⟨_,l,p,g⟩
  .exact⟨e,g.trans k,m⟩
  exact⟨_,g,(w (z p)).1⟩
 let ⟨a,c,i⟩:=j;revert i;intro j;have c:=(S.pL H).mp c;rcases S.item H c j with h|⟨_,u,f⟩
 .exact y q ⟨a,c,h⟩ r A
 rw[r] at f;exact(w (z f)).2 _ f
theorem ow.aq{a:Int×bz}(h:a∈new):xM N' a.1 a.2:=by
 intros N N' b me full new a _ S H h;let ⟨g,n⟩:=S.new a h;have r:full≠[]:=λf=>by rw[f] at g;cases g
 refine⟨b,n.imp J λl z f=>⟨_,f,tO b⟩,λe d j i=>?_⟩;intros e _ d j i;let ⟨l,c,o⟩:=d;revert o;intro d;have c:=(S.pL H).mp c;rcases S.item H c d with h|⟨_,h2,h3⟩
 .let ⟨m,q⟩:=S.old H r ⟨l,c,h⟩;exact aV (IK i m) q
 have p:=S.sk.nk.look g;have k:=S.sk.nk.look h3;rw[show(e.1,e.2.2).1=a.1 from j,p] at k;exact(dF k).symm
theorem ow.safe{b:Int×bz}(h:b∈new){a:Int}(hj:eS N a){c:bz}(d:Mine.look (nd N a).aq b.1=U c):c=b.2:=
 (S.fixed H (H.fix a hj _ _ d)).agree (S.aq H h)
theorem ow.si(t:∀a,eS N a->∀d c,Mine.look (nd N' a).aq d=U c->Mine.look (nd N a).aq d=U c\/(d,c)∈new)(hs:∀e∈full,1<=e.1):SI N':=by
 intros N N' b me full new _ S H t hs;have s:∀{m},m∈full->full≠[]:=λi o=>by rw[o] at i;cases i
 refine⟨λa f=>S.Sa H ((S.pL H).mp f),λa f k h=>?_,λk ⟨a,f,h⟩=>?_,λk ⟨a,f,h⟩=>?_,λm q ⟨a,f,w⟩ ⟨l,h,u⟩ v p=>?_,λa f d c o=>?_,λk ⟨a,f,h⟩=>?_⟩
 .have f:=(S.pL H).mp f;rcases S.item H f h with i|⟨h1,h2,_⟩
  .exact vf (H.J7 a f k i) (S.up H f)
  rw[h1,h2] at⊢;exact tO b
 .have f:=(S.pL H).mp f;rcases S.item H f h with i|⟨h1,h2,h3⟩
  .exact(H.zS k ⟨a,f,i⟩).imp S.len λl h j=>vf j (S.up H h)
  refine(S.zS H (s h3)).imp S.len λl h j=>?_
  rw[h2,j.2] at⊢;exact tO b
 .have f:=(S.pL H).mp f;rcases S.item H f h with i|⟨h1,h2,h3⟩
  .let ⟨l,h,n,r⟩:=H.own k ⟨a,f,i⟩;refine⟨l,(S.pL H).mpr h,n,dN r ?_⟩;rcases sf.mp (S.up H h) with j|⟨j,_⟩
   .exact iJ j
   exact uD j
  refine⟨me,(S.pL H).mpr ⟨fJ me,dB.mpr S.lt⟩,by rw[h2];exact S.bm,?_⟩;rw[S.pm,h2];exact lE _
 .have f:=(S.pL H).mp f;have h:=(S.pL H).mp h;rcases S.item H f w with i|⟨_,h2,h3⟩
  .rcases S.item H h u with g|⟨_,g2,g3⟩
   .exact H.E2 m q ⟨a,f,i⟩ ⟨l,h,g⟩ v p
   exact aV (p.trans g2) (S.old H (s g3) ⟨a,f,i⟩).2
  rcases S.item H h u with g|⟨_,g2,g3⟩
  .exact aV (p.symm.trans h2) (S.old H (s h3) ⟨l,h,g⟩).2
  have n:=S.sk.nk.look h3;have r:=S.sk.nk.look g3;rw[show(m.1,m.2.2).1=q.1 from v,show Mine.look full q.1=_ from r] at n;exact(dF n).symm
 .have f:=(S.pL H).mp f;rcases t a f d c o with i|i
  .exact S.fixed H (H.fix a f d c i)
  exact S.aq H i
 have f:=(S.pL H).mp f;rcases S.item H f h with i|⟨_,_,h3⟩
 .exact H.J8 k ⟨a,f,i⟩
 exact hs _ h3
end
section
variable {N:aO}{me:Nat}{old:aD}{b:aL}{up:aF}{leader:aD}
def zT:(oh N me b up leader).length=aa N:=by unfold oh;rw[aP,gx]
def J9(hi:i<aa N):(oh N me b up leader)[i]?=U (if i=me then leader else if up.contains (i:Int)&&!blt b (nd N i).promised then⟨i,aa N,b,(nd N i).acc,(nd N i).aq,0,(nd N i).aE,[],[]⟩ else nd N i):=by
 unfold oh;rw[cC,pZ hi];rfl
def B4(i:Nk full):∀(c:bR) (a:bU),(∀d∈c,d∈full)->c.foldl (λa e=>bB a (e.1,(b,e.2))) a=(c.map (·.1)).foldl (λa f=>bB a (f,(b,fY full f))) a:=by
 intro k
 induction k with
 |nil=>
  intro _ _;exact J
 |cons d c h=>
  intro a g;rw[i6,dM,i6,zP i (g d (.head _)),h _ λl j=>g l (.tail _ j)] at⊢
def Ka{b:aL}{c:bR}(e:Sk c){d:bU}(f:Sk d){a:Int×bz}(h:a∈c):look (c.foldl (λd a=>bB d (a.1,(b,a.2))) d) a.1=U (b,a.2):=by
 rw[B4 e.nk c d λz h=>h,(vG (λg=>(b,fY c g)) _ f).2,az (aY.mpr ⟨a,h,rfl⟩),zP e.nk h]
def abX(n:aD):n.promised.1<(cE n).1/\blt (cE n) n.promised=aA:=by
 have a:n.promised.1<max n.promised.1 n.aE.1+1:=GS (CU ..);exact⟨a,sf.mpr (.inl a)⟩
def Sb(h:¬(aa N)/2<=aa a):cZ N me a=[]:=by unfold cZ;rw[decide_eq_false h];rfl
def Kc{no a:aF}:((fX N me old b no a).phase=2->no=[]/\aa N/2<=aa a)/\((fX N me old b no a).phase≠2->(fX N me old b no a).phase=0\/cZ N me a=[]):=by
 intros N me old b no a;unfold fX;cases no with
 |nil=>
  by_cases d:aa N/2<=aa a
  .exact⟨λz=>⟨rfl,d⟩,λc=>aV (by rw[decide_eq_true d];rfl) c⟩
  refine⟨λc=>?_,λz=>.inr (Sb d)⟩;dsimp only at c;rw[decide_eq_false d] at c;exact Dp c
 |cons f e=>exact⟨λc=>qz c,λz=>.inl J⟩
def Kd{no Z:aF}:(fX N me old b no Z).me=(me:Int)/\(fX N me old b no Z).size=aa N/\(fX N me old b no Z).promised=b/\(fX N me old b no Z).aq=old.aq/\(fX N me old b no Z).acc=(bh (cZ N me Z)).foldl (λc a=>bB c (a.1,(b,a.2))) old.acc:=by
 intros N me old b no Z;unfold fX;cases no<;>exact⟨rfl,rfl,rfl,rfl,rfl⟩
def Sd(C:bA old){no c:aF}(h:c.Nodup)(g:(me:Int)∉c):bA (fX N me old b no c):=by
 intros N me old b no c _ C h g
 have f:Sk ((bh (cZ N me c)).foldl (λl d=>bB l (d.1,(b,d.2))) old.acc):=by
  rw[B4 (xH _).nk _ _ λz a=>a];exact(vG (λk=>(b,fY (bh (cZ N me c)) k)) _ C.acc).1
 unfold fX;cases no with
 |cons e n=>exact⟨f,C.fF,λa=>qz a,λz=>rfl,λa=>qz a,λz=>rfl⟩
 |nil=>
  by_cases a:aa N/2<=aa c
  .rw[decide_eq_true a];refine⟨f,C.fF,λa=>yz a,λz=>rfl,λz=>⟨jA.mpr (xH _),λm j=>?_⟩,λa=>aV J a⟩;let ⟨d,_,zy⟩:=aY.mp j;exact jZ _ _
  rw[decide_eq_false a];refine⟨f,C.fF,λz=>u9 ?_,λa=>aV J a,λa=>Dp a,λz=>rfl⟩;unfold Nk;rw[bV,show(λi:Int×bU=>i.1)∘(λe=>(e,(nd N e).acc))=id from rfl,uz];exact ff.mpr ⟨g,h⟩
def vin{no f:aF}(g:Good N)(p:∀(i:Nat) n,N[i]?=U n->n.size=aa N)(ho:N[me]?=U old)(h2:2<=aa N)(o:b.2=(me:Int))(t:f.Nodup)(r:(me:Int)∉f):
 q8 ⟨oh N me b up (fX N me old b no f),me,fX N me old b no f,b,cZ N me f,a,d,c,k⟩:=by
 intros N me old b up a d c k no f _ g p ho h2 o t r;have w:=(fH.mp ho).1;have C:=g.gE me old ho;have l:=Kd (N:=N) (me:=me) (old:=old) (b:=b) (no:=no) (Z:=f);have y:=Sd (N:=N) (b:=b) (no:=no) C t r
 have m:∀(i:Nat) n,(oh N me b up (fX N me old b no f))[i]?=U n->bA n/\n.me=(i:Int)/\n.size=aa N:=λi n e=>by
  have s:i<aa N:=by have:=(fH.mp e).1;rwa [zT] at this
  rw[J9 s] at e;cases e;have h:N[i]?=U N[i]:=dZ s
  by_cases q:i=me
  .subst q;rw[az J];exact⟨y,l.1,l.2.1⟩
  rw[aB q,fW h];have j:=g.gE i _ h;split
  .exact⟨⟨j.acc,j.fF,λe=>qz e,λY=>rfl,λe=>qz e,λY=>rfl⟩,rfl,rfl⟩
  exact⟨j,g.me i _ h,p i _ h⟩
 refine⟨⟨λi n e=>(m i n e).1,λi n e=>(m i n e).2.1⟩,λi n e=>by rw[zT];exact(m i n e).2.2,by rw[J9 w,az J],by rw[zT];exact h2,o,λu=>?_,Kc.2,λA v=>?_⟩
 .let ⟨x,z⟩:=Kc.1 u;subst x;unfold fX;dsimp only;rw[decide_eq_true z];exact⟨rfl,rfl⟩
 rw[l.2.2.2.2];exact Ka (xH _) C.acc v
end
def Se{e:Type}:∀(c:List (Int×e)) {b:List (Int×e)} {k:Int} {a:e},Sk b->look (c.foldl bB b) k=U a->look b k=U a\/(k,a)∈c:=by
 intro i
 induction i with
 |nil=>
  intro b k a _ d;exact .inl d
 |cons g c h=>
  intro b k a f d;rcases h (kE f.nk g) d with q|q
  .rw[qU f.nk] at q;split at q
   .rename_i j;exact .inr ((show(k,a)=g from fh j.symm (dF q).symm)▸.head _)
   exact .inl q
  exact .inr (.tail _ q)
section
def Sf(d f:bR)(e:bZ):(iD N me L b d f e).me=L.me/\(iD N me L b d f e).size=L.size/\(iD N me L b d f e).promised=L.promised/\(iD N me L b d f e).acc=d.foldl (λc a=>bB c (a.1,(b,a.2))) L.acc/\(iD N me L b d f e).aq=f.foldl bB L.aq:=by
 intros N me L b d f e;unfold iD;cases e.filter (ir b N) with
 |nil=>
  dsimp only;split<;>exact⟨rfl,rfl,rfl,rfl,rfl⟩
 |cons g h=>exact⟨rfl,rfl,rfl,rfl,rfl⟩
def abY(d:aD)(b e:dG):∀a∈bh b,a∈iC d b e:=λa c=>by
 unfold iC;split
 .rw[vF];exact mh _ c
 exact c
def Sh{g new:bR}(s:Sk g){hit:bZ}{back:aF}{f:Nat}{n:aD}(h:e[f]?=U n)(C:bA n):
 NS b g n (mP e b g hit new back f)/\(∀c d,look (mP e b g hit new back f).aq c=U d->look n.aq c=U d\/(c,d)∈new)/\(∀a∈g,(a.1,(f:Int))∈hit->blt b n.promised=aA->look (mP e b g hit new back f).acc a.1=U (b,a.2)):=by
 intros e b g new hit back f n _ s h C;unfold mP zI;rw[fW h]
 have u:∀{w:bR},w=n.aq->∀c d,look (new.foldl (λx G=>if back.contains (f:Int) then bB x G else x) w) c=U d->look n.aq c=U d\/(c,d)∈new:=λr c d j=>by
  rw[r,J5] at j;rcases Se _ C.fF j with j|j
  .exact .inl j
  split at j
  .exact .inr j
  cases j
 generalize t:(hit.filter λl=>decide (l.2=(f:Int))&&!blt b n.promised)=k;dsimp only;have q:∀{i:bU},i=n.acc->g.foldl (λi a=>if k.contains (a.1,(f:Int)) then bB i (a.1,(b,a.2)) else i) i=((g.filter λa=>k.contains (a.1,(f:Int))).map (·.1)).foldl (λi c=>bB i (c,(b,fY g c))) n.acc:=λr=>by rw[r];exact R3 s.nk (λc=>k.contains (c,(f:Int))) _
 have v:∀a∈g,(a.1,(f:Int))∈hit->blt b n.promised=aA->look (((g.filter λa=>k.contains (a.1,(f:Int))).map (·.1)).foldl (λi c=>bB i (c,(b,fY g c))) n.acc) a.1=U (b,a.2):=λa m o p=>by
  have z:(a.1,(f:Int))∈k:=by rw[<-t];exact cH.mpr ⟨o,by rw[p,decide_eq_true J];rfl⟩
  rw[(vG (λc=>(b,fY g c)) _ C.acc).2,az (show a.1∈(g.filter λa=>k.contains (a.1,(f:Int))).map (·.1) from aY.mpr ⟨a,cH.mpr ⟨m,gy.mpr z⟩,rfl⟩),zP s.nk m]
 cases k with
 |nil=>
  have D:(g.filter λa=>([]:bZ).contains (a.1,(f:Int)))=[]:=mq.mpr λl Z h=>gS (gy.mp h)
  refine⟨.inl ⟨rfl,(q J).trans (by rw[D];rfl)⟩,u J,λa m o p=>?_⟩;exact(aR (λi=>look i a.1) (q J)).trans (v a m o p)
 |cons l H=>
  have A:l∈hit.filter λl=>decide (l.2=(f:Int))&&!blt b n.promised:=by rw[t];exact .head _
  have y:blt b n.promised=aA:=by
   have:=(cH.mp A).2;rw[gQ] at this
   simpa using this.2
  refine⟨.inr ⟨rfl,y,_,λc B=>?_,q J⟩,u J,λa m o p=>?_⟩
  .let ⟨E,F,zy⟩:=aY.mp B;exact aY.mpr ⟨E,(cH.mp F).1,rfl⟩
  exact(aR (λi=>look i a.1) (q J)).trans (v a m o p)
def Si{e:Type}{d:e->Bool}:∀{b:List e} {a:e},a∈b.takeWhile d->a∈b/\d a=af
 :=by
  intro g
  induction g with
  |nil=>exact λc=>gS c
  |cons h b f=>
   intro a c;rw[j4] at c;cases hp:d h with
   |false=>rw[hp] at c;cases c
   |true=>
    rw[hp] at c;rcases bN.mp c with rfl|c
    .exact⟨.head _,hp⟩
    exact⟨.tail _ (f c).1,(f c).2⟩
structure VO(N N':aO)(b:aL)(me:Nat)(full new:bR):Prop where
 len:aa N'=aa N
 pm:(nd N' me).promised=(nd N me).promised
 ns:∀j,eS N j->NS b full (nd N j) (nd N' j)
 fF:∀j,eS N j->∀s v,look (nd N' j).aq s=U v->look (nd N j).aq s=U v\/(s,v)∈new
 new:∀r∈new,r∈full/\q9 N' λj=>look (nd N' j).acc r.1=U (b,r.2)
end
section
variable {p:VP}
def B5:aa p.vs.2=aa p.N:=(aP _).trans gx
def E3(a:p.N[p.me]?=U p.L){i:Nat}(hi:i<aa p.N):p.vs.2[i]?=U (if i=p.me then p.ld else mP p.N p.b p.full p.hit p.new p.back i):=by
 unfold VP.vs gK;dsimp only;rw[fW a,cC,pZ hi];rfl
def Sj(h:a∈p.gd):a∈p.hit/\ir p.b p.N a=aA:=by
 unfold VP.gd at h;rw[E1] at h;let ⟨c,d⟩:=Si h;exact⟨(cH.mp c).1,by simpa using d⟩
def vo(e:q8 p)(o:p.L.promised=p.b):VO p.N p.vs.2 p.b p.me p.full p.new:=by
 intros p _ e o;have m:=xK (p:=p);have u:=(fH.mp e.hL).1;have C:=e.G.gE _ _ e.hL;have s:nd p.vs.2 p.me=p.ld:=by rw[fW (E3 e.hL u),az J]
 have j:=Sf (N:=p.N) (me:=p.me) (L:=p.L) (b:=p.b) p.full p.new p.g0
 have x:∀{c:Nat} (f:c<aa p.N),c≠p.me->nd p.vs.2 c=mP p.N p.b p.full p.hit p.new p.back c:=λf h=>by
  rw[fW (E3 e.hL f),aB h]
 have w:∀a,eS p.N a->NS p.b p.full (nd p.N a) (nd p.vs.2 a)/\∀k n,look (nd p.vs.2 a).aq k=U n->look (nd p.N a).aq k=U n\/(k,n)∈p.new:=λa d=>by
  let ⟨c,zy⟩:=mZ d.1;have f:=dB.mp d.2
  by_cases h:c=p.me
  .rw[h,s,fW e.hL];refine⟨.inr ⟨j.2.2.1.trans o,by rw[o];exact tO p.b,_,λk E=>E,j.2.2.2.1.trans (B4 m.nk _ _ λZ B=>B)⟩,λk n i=>Se _ C.fF (j.2.2.2.2▸i)⟩
  have g:=dZ f;have i:=Sh (b:=p.b) (new:=p.new) (hit:=p.hit) (back:=p.back) m g (e.G.gE c _ g);rw[x f h,fW g];exact⟨i.1,i.2.1⟩
 refine⟨B5,by rw[s,fW e.hL];exact j.2.2.1,λa d=>(w a d).1,λa d=>(w a d).2,λl H=>?_⟩;let ⟨q,A⟩:=cH.mp H;have r:oq (aa p.N) p.me p.gd:=λi z=>(xJ (Sj z).1).2
 refine⟨q,vt (aa p.N) p.me p.gd l.1,xw (BZ r),λa d=>?_,by rw[B5];exact J2.mp (eZ ((gQ _ _).mp A).1)⟩;unfold eS;rw[B5];rcases(J0 r).mp d with rfl|d
 .exact⟨⟨fJ p.me,dB.mpr u⟩,by show look (nd p.vs.2 p.me).acc l.1=_;rw[s];exact(aR (λD=>look D l.1) j.2.2.2.1).trans (Ka m C.acc q)⟩
 let ⟨y,I⟩:=Sj d;let ⟨v,t,F⟩:=r _ d;refine⟨⟨v,t⟩,?_⟩;obtain⟨c,rfl⟩:∃c:Nat,a=(c:Int):=mZ v;have f:=dB.mp t;have g:=dZ f;show look (nd p.vs.2 c).acc l.1=_;rw[x f λh=>F (aR _ h)];exact(Sh m g (e.G.gE c _ g)).2.2 l q y (fW g▸I)
end
section
def rm(a:aO)(c:Nat)(b:aL)(e:Int)(d:Bool)(k:Int):aF:=kG a b (b9 (aa a) c d k) (dI e (aa a) c)
def Ke:(rm c a b d turn k).Nodup:=by unfold rm;rw[EX];exact IG _
def Kf{e:Int}(h:e∈rm a c b d turn k):eS a e/\e≠(c:Int)/\blt b (nd a e).promised=aA/\(f6 d (aa a) c).contains e=af:=by
 unfold rm at h;rw[EX] at h;let ⟨n,i⟩:=Si (y9.mp h);let ⟨l,f⟩:=cH.mp n;let ⟨m,j,g⟩:=t8 l;exact⟨⟨m,j⟩,g,by simpa [f7] using i,RC d (aa a) c e f⟩
def Sm{e:Type}:∀(b:List e) (a:Nat) (c:Int×e),c∈gG a b->(a:Int)<c.1:=λb=>by
 induction b with
 |nil=>exact λz z d=>gS d
 |cons h b g=>exact λa c d=>(bN.mp d).elim (λf=>f▸sZ (a:Int)) λd=>oH (sZ (a:Int)) (g (a+1) c d)
def abZ{d:aD}{a c:dG}{b:Int×bz}(h:b∈iC d a c)(hs:b.1<=(aa a:Int)):b∈bh a:=by
 unfold iC at h;split at h
 .rw[vF] at h;rcases eE.mp h with h|h
  .exact h
  exact aV (Sm _ _ _ h) (iI.mpr hs)
 exact h
def ab0{b:aD}{d c:dG}{a:Int×bz}(h:a∈iC b d c):1<=a.1:=(se.mp (zN _▸aY.mpr ⟨a,h,rfl⟩)).1
def ab1{c:bU}(p:nQ c)(hs:∀a∈c,1<=a.1){n:aD}{l:dG}{f:Int×bz}(h:f∈iC n (mO c) l){d:ji}(h0:d∈c)(k:d.1=f.1):
 ∃a∈c,a.1=f.1/\a.2.2=f.2/\∀b∈c,b.1=f.1->blt a.2.1 b.2.1=aA:=by
 intros c n l f d _ p hs h h0 k;have o:d.1∈c.map (·.1):=aY.mpr ⟨d,h0,rfl⟩;have m:=(Bv (LN o)).2 _ o
 have r:((mO c).length:Int)=cJ (c.map (·.1)):=by
  rw[xA,aP];unfold slots;rw[aP,gx];exact qf (dN (dN ∅ (hs d h0)) m)
 have q:=abZ h (by rw[r,<-k];exact m);rw[xA,JS] at q;let ⟨i,_,zy⟩:=aY.mp q;have j:=JR p (λv=>wG) i;have g:=IM c i;unfold n9 at j;cases e:look (eO c) i with
 |none=>rw[e] at g;exact aV k (g d h0)
 |some u=>
  rw[e] at g j;exact⟨(i,u),g.1,rfl,j,λb t s=>g.2 b t s⟩
def iO(a:aO)(b:Nat)(c:aD)(e:Int)(d:Bool)(k:Int):aD:=fX a b c (cE c) (iE a (cE c) (b9 (aa a) b d k) (dI e (aa a) b)) (rm a b (cE c) e d k)
def E4(b:aO)(a:Nat)(c:aD)(d:Int)(e:Bool)(k:Int):aO:=oh b a (cE c) (f6 d (aa b) a) (iO b a c d e k)
def pM(b:aO)(a:Nat)(c:aD)(e:Int)(d:Bool)(k:Int):dG:=cZ b a (rm b a (cE c) e d k)
def Sn:(iO N me old x turn k).me=(me:Int)/\(iO N me old x turn k).size=aa N/\(iO N me old x turn k).promised=cE old/\(iO N me old x turn k).aq=old.aq/\(iO N me old x turn k).acc=(bh (pM N me old x turn k)).foldl (λb a=>bB b (a.1,(cE old,a.2))) old.acc:=Kd
def ab2(g:Good a)(h:∀(i:Nat) n,a[i]?=U n->n.size=aa a)(ho:a[b]?=U old)(h2:2<=aa a):q8 ⟨E4 a b old c turn k,b,iO a b old c turn k,cE old,pM a b old c turn k,ws,f,d,e⟩:=
 vin g h ho h2 (g.me b old ho) Ke λj=>(Kf j).2.1 J
end
structure OD(N:aO)(old:aD)(Z up:aF)(p:VP):Prop where
 len:aa p.N=aa N
 ho:N[p.me]?=U old
 rb:old.promised.1<p.b.1/\blt p.b old.promised=aA
 pr:p.L.promised=p.b
 ch:p.L.aq=old.aq
 ac:p.L.acc=(bh p.log).foldl (λm sv=>bB m (sv.1,(p.b,sv.2))) old.acc
 ot:∀i:Nat,i<aa N->i≠p.me->nd p.N i=if up.contains (i:Int)&&!blt p.b (nd N i).promised then⟨i,aa N,p.b,(nd N i).acc,(nd N i).aq,0,(nd N i).aE,[],[]⟩ else nd N i
 ph:p.L.phase=2->aa N/2<=aa Z
 lg:p.log=cZ N p.me Z
 zn:Z.Nodup
 zm:∀j∈Z,eS N j/\j≠(p.me:Int)/\blt p.b (nd N j).promised=aA/\up.contains j=af
section
def OD.ns(h:OD d g f e a)(V:q8 a)(hj:eS d c):NS a.b a.full (nd d c) (nd a.N c)/\(nd a.N c).aq=(nd d c).aq:=by
 intros d g f e a c _ h V hj;let ⟨i,zy⟩:=mZ hj.1;have k:=abY a.L a.log a.ws
 by_cases l:i=a.me
 .rw[l,fW V.hL,fW h.ho];exact⟨.inr ⟨h.pr,h.rb.2,_,λo n=>by let ⟨m,j,zy⟩:=aY.mp n;exact aY.mpr ⟨m,k m j,rfl⟩,h.ac.trans (B4 xK.nk _ _ k)⟩,h.ch⟩
 rw[h.ot i (dB.mp hj.2) l];cases hc:e.contains (i:Int)&&!blt a.b (nd d i).promised with
 |true=>exact⟨.inr ⟨rfl,by simpa using((gQ _ _).mp hc).2,[],λo j=>aV j jy,rfl⟩,rfl⟩
 |false=>exact⟨.inl ⟨rfl,rfl⟩,rfl⟩
def DM(j:OD d i e h c)(V:q8 c)(r:SI d):ow d c.vs.2 c.b c.me c.full c.new/\∀a,eS d a->∀f g,look (nd c.vs.2 a).aq f=U g->look (nd d a).aq f=U g\/(f,g)∈c.new:=by
 intros d i e h c _ j V r;have D:=(fH.mp j.ho).1;have p:=vo V j.pr;have s:∀{a},eS d a->eS c.N a:=λl=>by unfold eS;rw[j.len];exact l
 have A:(nd c.vs.2 c.me).promised=c.b:=p.pm.trans ((aR aD.promised (fW V.hL)).trans j.pr);refine⟨⟨p.len.trans j.len,D,V.bm,by rw[fW j.ho];exact j.rb.1,A,λa k=>(j.ns V k).1.comp (p.ns a (s k)),xK,λQ=>?_,p.new⟩,λa k f g n=>(j.ns V k).2▸p.fF a (s k) f g n⟩
 have F:aa d/2<=aa e:=by
  by_cases B:c.L.phase=2
  .exact j.ph B
  refine rR λH=>Q ?_
  unfold VP.full iC;rw[decide_eq_false B,j.lg,Sb H];rfl
 have K:c.log=mO (((c.me:Int)::e.take (aa d/2)).flatMap λa=>(nd d a).acc):=j.lg.trans (az (decide_eq_true F));have G:∀a∈e.take (aa d/2),_:=λa k=>j.zm a (AF k)
 have z:∀a∈(c.me:Int)::e.take (aa d/2),eS d a/\blt c.b (nd d a).promised=aA/\(nd c.vs.2 a).promised=c.b:=λa k=>by
  rcases bN.mp k with rfl|k
  .exact⟨⟨fJ c.me,dB.mpr D⟩,by rw[fW j.ho];exact j.rb.2,A⟩
  let ⟨o,y,q,u⟩:=G a k;refine⟨o,q,?_⟩;rcases p.ns a (s o) with⟨n,_⟩|⟨n,_⟩
  .obtain⟨x,rfl⟩:∃x:Nat,a=(x:Int):=mZ o.1;rw[n,j.ot x (dB.mp o.2) λn=>y (aR _ n),q,u];rfl
  exact n
 refine⟨(c.me:Int)::e.take (aa d/2),ff.mpr ⟨λl=>(G _ l).2.1 J,j.zn.sublist (Ly _ _)⟩,?_,z,λR w ⟨S,⟨a,k,v⟩,O⟩=>?_⟩
 .rw[iz,uC,sQ F];exact J2.mp (l7 _)
 unfold VP.full at w;rw[K] at w
 have t:∀m∈((c.me:Int)::e.take (aa d/2)).flatMap λa=>(nd d a).acc,pK d m:=λm l=>by
  let ⟨a,k,v⟩:=fB.mp l;exact⟨a,(z a k).1,v⟩
 let ⟨m,o,y,q,u⟩:=ab1 (λE P C M=>r.E2 E C (t E P) (t C M)) (λm l=>r.J8 m (t m l)) w (fB.mpr ⟨a,k,v⟩) O;exact⟨m,fB.mp o,y,q,λI l=>u I (fB.mpr l)⟩
end
section
def od(ho:b[c]?=U a):OD b a (rm b c (cE a) x turn k) (f6 x (aa b) c) ⟨E4 b c a x turn k,c,iO b c a x turn k,cE a,pM b c a x turn k,ws,y,cu,l⟩:=
 have d:=Sn (N:=b) (me:=c) (old:=a) (x:=x) (turn:=turn) (k:=k)
 ⟨zT,ho,abX a,d.2.2.1,d.2.2.2.1,d.2.2.2.2,λi h f=>(fW (J9 h)).trans (aB f),λg=>(Kc.1 g).2,rfl,Ke,λj e=>Kf e⟩
end
def So{b:aD}(C:bA b)(h1:b.phase=1->(look b.hp b.me).isSome=af)(h2:b.phase=2->∀a∈b.hl,b.me∈a.2.2):bK b .again=(b,kD b):=by
 intros b _ C h1 h2;refine xx C C (aR (λk=>({b.px with out:=k}:aU)) ((jM _).trans ?_));unfold yZ kD aD.px;dsimp only
 have h:∀(e:Int->Bool),e b.me=aA->(bu b.size).filter e=(bx b.size b.me).filter e:=λe j=>by
  unfold bx;rw[CQ];refine qd λf z=>?_
  by_cases g:f=b.me
  .rw[g,j];rfl
  rw[decide_eq_true (show f≠b.me from g),yt]
 by_cases d:b.phase=1
 .rw[az d,az d,h _ (by rw[J3,h1 d];rfl)]
  congr 1
  refine qd λf z=>?_
  rw[J3];exact aR _ (oJ.mpr (qM.symm.trans gy.symm))
 rw[aB d,aB d]
 by_cases c:b.phase=2
 .rw[az c,az c,lT (C.pD c).1,ym,ym]
  congr 1
  refine j0 λa i=>?_
  have:(look b.aq a.1).isSome=(b.aq.map (·.1)).contains a.1:=oJ.mpr (qM.symm.trans gy.symm);rw[this,h _ (by rw[gy.mpr (h2 c a i)];rfl)]
 rw[aB c,aB c]
section
variable {N:aO}{me:Nat}{L:aD}{b:aL}
def ab3{full new:bR}{good0:bZ}(e:L.me=(me:Int))(h1:L.phase=1->(look L.hp L.me).isSome=af):
 ((iD N me L b full new good0).phase=1->(look (iD N me L b full new good0).hp (iD N me L b full new good0).me).isSome=af)/\((iD N me L b full new good0).phase=2->∀a∈(iD N me L b full new good0).hl,(iD N me L b full new good0).me∈a.2.2):=by
 intros N me L b full new good0 _ e h1;unfold iD;cases good0.filter (ir b N) with
 |cons g j=>exact⟨λc=>qz c,λc=>qz c⟩
 |nil=>
  dsimp only
  by_cases d:L.phase=2
  .rw[decide_eq_true d,az J];refine⟨λc=>yz c,λz a f=>?_⟩;let ⟨i,h,zy⟩:=aY.mp f;exact Br.mpr (e▸.head _)
  rw[decide_eq_false d,aB i7];exact⟨h1,λc=>aV c d⟩
def ab4{g f:bR}{d:bZ}{e:aF}{a:Nat}{n:aD}(h:N[a]?=U n)(C:bA n)(k:n.me=(a:Int))(hs:n.size=aa N):
 bA (mP N b g d f e a)/\(mP N b g d f e a).me=(a:Int)/\(mP N b g d f e a).size=aa N:=by
 intros N b g f d e a n _ h C k hs;unfold mP zI;rw[fW h];generalize(d.filter λq=>decide (q.2=(a:Int))&&!blt b n.promised)=m
 have p:∀(i:bR) (c:bU),Sk c->Sk (i.foldl (λc j=>if m.contains (j.1,(a:Int)) then bB c (j.1,(b,j.2)) else c) c):=λi=>by
  induction i with
  |nil=>exact λc h=>h
  |cons t i r=>exact λc h=>r _ (by dsimp only;split;exact kE h.nk _;exact h)
 have l:Sk (f.foldl (λo s=>if e.contains (a:Int) then bB o s else o) n.aq):=by rw[J5];exact(xF _ C.fF).1
 cases m.isEmpty with
 |true=>exact⟨⟨p _ _ C.acc,l,C.sH,C.pC,C.pD,C.tX⟩,k,hs⟩
 |false=>exact⟨⟨p _ _ C.acc,l,λh=>qz h,λz=>rfl,λh=>qz h,λz=>rfl⟩,rfl,rfl⟩
end
structure RI(N:aO):Prop where
 G:Good N
 sz:∀(i:Nat) n,N[i]?=U n->n.size=aa N
def B6(e:aO)(c:Nat)(b:ju)(a:fE×aO):Prop:=∃d,pl (e,[]) b.bG=(b.after,d)/\pl (b.after,d) a.1=(a.2,[])/\fq (a.2,[]) (.at c .again)=(a.2,kD (nd a.2 c))
section
variable {N:aO}{me:Nat}{old:aD}{x k:Int}{turn:Bool}{ws:dG}{y cu:Int}
def ab5(l:Good N)(f:SI N):nQ (xE N):=by
 have:∀c∈xE N,pK N c:=λc i=>by
  let ⟨k,e,j⟩:=fB.mp i;obtain⟨a,b,d⟩:=List.mem_iff_getElem.mp e;exact⟨a,⟨fJ a,dB.mpr b⟩,by rw[fW (dZ b),d];exact j⟩
 exact λx h y g=>f.E2 x y (this x h) (this y g)
def ab6:(iO N me old x turn k).phase=1->(look (iO N me old x turn k).hp (iO N me old x turn k).me).isSome=af:=by
 unfold iO fX;cases iE N (cE old) (b9 (aa N) me turn k) (dI x (aa N) me) with
 |cons c b=>exact λa=>qz a
 |nil=>
  dsimp only
  by_cases a:aa N/2<=(rm N me (cE old) x turn k).length
  .rw[decide_eq_true a];exact λa=>yz a
  rw[decide_eq_false a];intro _;refine qM.mp ?_;rw[aB i7];exact aY.mpr ⟨((me:Int),(nd N me).acc),kq.mpr (.head _),rfl⟩
def ab7{q s:aF}{a:VP}(h:OD N old q s a)(V:q8 a)(g:SI N)(n:a.L.phase=1->(look a.L.hp a.L.me).isSome=af):
 pl (a.N,a.out) a.vs.1=(a.vs.2,[])/\fq (a.vs.2,[]) (.at a.me .again)=(a.vs.2,kD (nd a.vs.2 a.me))/\RI a.vs.2/\SI a.vs.2:=by
 intros N old q s a _ h V g n;let ⟨o,y⟩:=DM h V g;have z:=(fH.mp V.hL).1;have u:bA a.ld:=R9 (V.G.gE _ _ V.hL) xK λB x=>(xJ (cH.mp x).1).2
 have m:=ab3 (N:=a.N) (b:=a.b) (full:=a.full) (new:=a.new) (good0:=a.g0) (V.G.me _ _ V.hL) n;have k:=(E3 V.hL z).trans (aR U (az J))
 have l:∀(e:Nat) c,a.vs.2[e]?=U c->bA c/\c.me=(e:Int)/\c.size=aa a.N:=λe c d=>by
  have v:e<aa a.N:=by have:=(fH.mp d).1;rwa [B5] at this
  have i:=dZ v;rw[E3 V.hL v] at d;cases d;split
  case isTrue j=>
   have p:=Sf (N:=a.N) (me:=a.me) (L:=a.L) (b:=a.b) a.full a.new a.g0;exact⟨u,p.1.trans (j▸V.G.me _ _ V.hL),p.2.1.trans (V.sz _ _ V.hL)⟩
  exact ab4 i (V.G.gE e _ i) (V.G.me e _ i) (V.sz e _ i)
 have r:∀(f:Nat) c,a.N[f]?=U c->eS N f/\c.aq=(nd N f).aq:=λf c d=>by
  have w:eS N f:=⟨fJ f,dB.mpr (h.len▸(fH.mp d).1)⟩;exact⟨w,(aR aD.aq (fW d)).symm.trans (h.ns V w).2⟩
 refine⟨abW V λf c d E A D j=>o.safe g A (r f c d).1 ((r f c d).2▸j),?_,⟨⟨λe c d=>(l e c d).1,λe c d=>(l e c d).2.1⟩,λe c d=>(l e c d).2.2.trans B5.symm⟩,o.si g y λC d=>ab0 d⟩;rw[fW k,xB k,show ∀t:aD,nR t .again=bK t .again from λZ=>rfl,So u m.1 m.2,set_same k];rfl
def ab8{c:ju}{d:fE×aO}(i:fu N me x turn k=c)(h:gK c.after me c.b c.log ws y cu k=d)(R:RI N)(f:SI N)(ho:N[me]?=U old)(h2:2<=aa N):B6 N me c d/\RI d.2/\SI d.2:=by
 subst h;subst i;intros N me old x k turn ws y cu _ R f ho h2;unfold B6;have e:=EY R.G ho x turn k;have g:=abc R.G R.sz ho h2 (ab5 R.G f) x turn k;rw[show(fu N me x turn k).after=E4 N me old x turn k from aR ju.after e,show(fu N me x turn k).b=cE old from aR ju.b e,show(fu N me x turn k).log=pM N me old x turn k from aR ju.log e] at g⊢;have a:=ab7 (od (ws:=ws) (y:=y) (cu:=cu) (l:=k) (x:=x) (turn:=turn) (k:=k) ho) (ab2 R.G R.sz ho h2) f ab6;unfold VP.out at a;rw[show(E4 N me old x turn k).length=aa N from zT] at a;exact⟨⟨_,g,a.1,a.2.1⟩,a.2.2⟩
end
def E5(n:aD)(b:Int)(a:bz):aD:={oj n b a with aq:=bB n.aq (b,a)}
def ab9(C:bA n)(h:n.phase=2)(e:∀b∈n.hl,b.1<a)(d:bz):bA (E5 n a d):=
 have c:=JW C h e d
 ⟨c.acc,kE C.fF.nk _,c.sH,c.pC,c.pD,c.tX⟩
def acd(C:bA n)(h:n.phase=2)(h1:n.size=1)(f:n.me=0)(hs:cJ (n.hl.map (·.1))+1=a)(d:∀b∈n.hl,b.1<a)(g:look n.aq a=ai)(c:bz):bK n (.bW c)=(E5 n a c,[]):=by
 intros n a c _ C h h1 f hs d g
 have i:n.px.bW a c={n.px with acc:=put n.acc a (n.aE,c),props:=n.hl++[(a,(c,[n.me]))],aq:=put n.aq a c}:=by
  unfold Ec aU.all sd aD.px;dsimp only;rw[qI,az J,wY (RE d),h1,f,g];rfl
 exact(tY C (e:=.bW c) ((az h).trans ((aR (λa=>n.px.bW a c) hs).trans i))).trans (fh ((aR (λk:aD=>({k with aq:=bH (put n.aq a c)}:aD)) (RH C h d c [])).trans (aR (λj=>({oj n a c with aq:=j}:aD)) (xu C.fF.nk ..))) J)
def ue(a:aD)(b:bR):aD:={a with acc:=b.foldl (λd c=>bB d (c.1,(a.aE,c.2))) a.acc,hl:=a.hl++iw a.me b,aq:=b.foldl bB a.aq}
def ace:∀(d b:dG) (a:aD),bA a->a.phase=2->a.size=1->a.me=0->a.hl=iw a.me (bh b)->(∀e∈a.aq.map (·.1),e<=(aa b:Int))->
 pl ([a],[]) (d.map λc=>.at 0 (.bW c))=([ue a (gG (aa b) d)],[]):=λd=>by
 induction d with
 |nil=>exact λb a z z z z z z=>aR (λi=>([({a with hl:=i}:aD)],[])) (c8 a.hl).symm
 |cons c d g=>
  intro b a C j n l h m;have k:=h▸RJ;have q:=acd C j n l (by rw[h,JX,Ef]) k (nP.mpr λi=>qe.mpr (sZ _) (m _ i)) c
  have g:=g (b++[c]) _ (ab9 C j k c) j n l (by
   show a.hl++_=_;rw[h,JY];unfold iw;rw[cy];rfl) λe f=>by
   rw[bO];show e<=(aa b:Int)+1;have f:=qM.mp f;rw[show(E5 a ((aa b:Int)+1) c).aq=bB a.aq ((aa b:Int)+1,c) from rfl,qU C.fF.nk] at f;split at f
   .rename_i p;exact uD p.symm
   exact dN (m e (qM.mpr f)) (iJ (sZ _))
  rw[bO] at g;refine(aR (λo:aD×cT=>pl ([o.1],o.2) (d.map λc=>.at 0 (.bW c))) q).trans (g.trans ?_);unfold ue E5 oj iw;dsimp only;rw[e9];rfl
structure A1(n:aD):Prop where
 m:∃m:Nat,n.acc.map (·.1)=slots (m:Int)/\n.aq.map (·.1)=slots (m:Int)
section
variable {old:aD}{x k:Int}{turn:Bool}{ws:dG}{y cu:Int}
def zH(turn:Bool)(k:Int):b9 1 0 turn k=[]:=by
 unfold b9;have:cY (bx 1 (0:Nat)) k=[]:=by rw[show bx 1 ((0:Nat):Int)=[] from rfl];rfl
 rw[this];cases turn<;>rfl
def Kg:rm [old] 0 (cE old) x turn k=[]:=by
 unfold rm;rw[show[old].length=1 from rfl,zH];rfl
def Sp:iE [old] (cE old) (b9 1 0 turn k) (dI x 1 0)=[]:=by rw[zH];rfl
def Kh:decide ([old].length/2<=([]:aF).length)=af:=decide_eq_true (by rw[show[old].length=1 from rfl];decide)
def Sq{b:Nat}(c:old.acc.map (·.1)=slots (b:Int)):pM [old] 0 old x turn k=mO old.acc/\(pM [old] 0 old x turn k).length=b:=by
 have a:pM [old] 0 old x turn k=mO old.acc:=by
  unfold pM cZ;rw[Kg,Kh,az J,LX];show mO (old.acc++[])=_;rw[c8]
 refine⟨a,?_⟩;rw[a,xA,aP,c,Ef,II]
def acf(C:bA old)(b:old.me=0)(hs:old.size=1){d:Nat}(c:old.acc.map (·.1)=slots (d:Int))(f:old.aq.map (·.1)=slots (d:Int)):
 bK old .run=(iO [old] 0 old x turn k,[]):=by
 intros old x k turn d _ C b hs c f;have i:nQ old.acc:=Xm C.acc.nk;have g:n9 old.acc=pG old.acc:=funext λa=>JR i (λz=>wG) a
 have e:cJ ((eO old.acc).map (·.1))=cJ (old.acc.map (·.1)):=Rz λz=>wG
 rw[aaI C hs λa hs=>by
  rw[e,c,Ef,<-f] at hs;exact qM.mp hs]
 have h:bh (mO old.acc)=(slots (cJ (old.acc.map (·.1)))).map λa=>(a,pG old.acc a):=by rw[xA,JS]
 refine fh ?_ ?_
 .unfold iO fX;rw[show iE [old] (cE old) (b9 [old].length 0 turn k) (dI x [old].length (0:Nat))=[] from Sp];dsimp only;rw[show cZ [old] 0 (rm [old] 0 (cE old) x turn k)=mO old.acc from(Sq c).1,h,Kg,Kh];unfold mS;rw[g,e,AG,bV,show(cV old).me=0 from b,show(cV old).size=1 from hs];rfl
 unfold tZ;rw[show(cV old).me=0 from b,show(cV old).size=1 from hs,hs,b,show bx 1 0=[] from rfl];exact(jM _).trans (GG.mpr λz z=>rfl)
end
def Ss{e:Type}{b:List (Int×e)}{c:Nat}(h:Sk b)(d:∀a,(look b a).isSome=af↔1<=a/\a<=(c:Int)):b.map (·.1)=slots (c:Int):=
 RW (jA.mpr h) (PJ _) λa=>qM.trans ((d a).trans se.symm)
def Su{d:Type}{b:List (Int×d)}{c:Nat}(h:b.map (·.1)=slots (c:Int))(a:Int):(look b a).isSome=af↔1<=a/\a<=(c:Int):=by rw[<-qM,h,se]
def Sv{i:Type}{l d:List (Int×i)}{c n:Nat}(j:Sk d)(h:d.map (·.1)=slots (c:Int))(hl:∀a,a∈l.map (·.1)↔(c:Int)<a/\a<=(n:Int))(f:c<=n):(l.foldl bB d).map (·.1)=slots (n:Int):=by
 let ⟨k,g⟩:=xF l j;refine Ss k λa=>?_
 rw[g,CW,Su h,gy,hl];refine⟨λb=>b.elim (λb=>⟨b.1,dN b.2 (iK.mpr f)⟩) λb=>⟨dN (GQ (fJ c)) (show(c:Int)+1<=a from b.1),b.2⟩,λb=>?_⟩;rcases Int.lt_or_le (c:Int) a with e|e
 .exact .inr ⟨e,b.2⟩
 exact .inl ⟨b.1,e⟩
def Sw{h:Type}:∀(c:List h) (a:Nat) (b:Int),b∈(gG a c).map (·.1)↔(a:Int)<b/\b<=((a+aa c:Nat):Int):=λc=>by
 induction c with
 |nil=>exact λa b=>⟨λd=>gS d,λd=>aV (rL d.1 d.2) (mu _)⟩
 |cons i c g=>
  intro a b;have f:=g (a+1) b;rw[Aa] at f;refine bN.trans ⟨λd=>?_,λd=>?_⟩
  .rcases d with e|d
   .exact e▸⟨sZ (a:Int),iK.mpr (gg (fz _ _) 1)⟩
   exact⟨oH (sZ (a:Int)) (f.mp d).1,(f.mp d).2⟩
  rcases Int.lt_or_eq_of_le (show(a:Int)+1<=b from d.1) with e|e
  .exact .inr (f.mpr ⟨e,d.2⟩)
  exact .inl e.symm
section
variable {L:aD}{b:aL}{log ws:dG}{k y cu:Int}
def Sy(a:bR):cY (fQ 1 (0:Nat) a) k=[]:=by
 have:fQ 1 (0:Nat) a=[]:=GG.mpr λz z=>rfl
 rw[this];rfl
def acg(C:bA L)(d:L.phase=2)(hl:L.hl=iw L.me (bh log)):bA (ue L (gG (aa log) ws)):=by
 intros L log ws _ C d hl
 have b:(ue L (gG (aa log) ws)).hl=iw L.me (bh (log++ws)):=by
  show L.hl++_=_;rw[hl,vF];unfold iw;rw[cy]
 refine⟨?_,(xF _ C.fF).1,C.sH,C.pC,λz=>⟨?_,λf c=>?_⟩,λe=>aV d e⟩
 .have:=(xF ((gG (aa log) ws).map λa=>(a.1,(L.aE,a.2))) C.acc).1;rw[AG] at this;exact this
 .rw[b];exact jA.mpr (xH _)
 rw[b] at c;let ⟨a,_,zy⟩:=aY.mp c;exact jZ _ _
def ach(C:bA L)(d:L.phase=2)(g:L.me=0)(hs:L.size=1)(h:L.aE=b)(hl:L.hl=iw L.me (bh log))(i:∀a∈bh log,look L.acc a.1=U (b,a.2))(e:L.aq.map (·.1)=slots (aa log:Int)):
 (gK [L] 0 b log ws y cu k).2=[ue L (gG (aa log) ws)]/\pl ([L],[]) (gK [L] 0 b log ws y cu k).1=([ue L (gG (aa log) ws)],[]):=by
 intros L b log ws k y cu _ C d g hs h hl i e;have s:iC L log ws=bh (log++ws):=by unfold iC;rw[decide_eq_true d];rfl
 have m:vD [L] 0 y cu k (bh (log++ws))=[]:=by unfold vD;rw[show[L].length=1 from rfl,Sy];rfl
 have j:∀f,vt 1 (0:Nat) [] f=[((0:Nat):Int)]:=λf=>B0 λz c=>aV c jy
 have n:nw 1 (0:Nat) (bh (log++ws)) (L.aq.map (·.1)) []=gG (aa log) ws:=by
  unfold nw;rw[e,vF,oE,mq.mpr,jM,rJ.mpr]
  .intro a c;have r:=Sm _ _ _ c;rw[j,show decide (1/2<[((0:Nat):Int)].length)=af from rfl,MA,uE];exact rM.mpr λl=>qe.mpr r (se.mp (gy.mp l)).2
  intro a c;have:a.1∈(bh log).map (·.1):=aY.mpr ⟨a,c,rfl⟩;rw[zN] at this;rw[gy.mpr this,CY,wz];exact i7
 have p:gK [L] 0 b log ws y cu k=(BV 1 0 ws k (bh (log++ws)) (gG (aa log) ws) [] (dI y 1 (0:Nat)),[iD [L] 0 L b (bh (log++ws)) (gG (aa log) ws) []]):=by
  unfold gK;rw[show nd [L] (0:Nat)=L from rfl];dsimp only;rw[s,m,show zJ [L] 0 L y []=[] from rfl,show kC [L] b []=[] from rfl,show[L].length=1 from rfl,n];rfl
 rw[p];have o:=ace ws log L C d hs g hl λf c=>by rw[e] at c;exact(se.mp c).2
 constructor
 .show[iD [L] 0 L b (bh (log++ws)) (gG (aa log) ws) []]=_
  congr 1
  unfold iD;dsimp only[CO];rw[decide_eq_true d,az J,vF,j3,R2 (λa:Int×bz=>(a.1,(b,a.2))) C.acc i];unfold ue;rw[h,hl,g,<-d]
  have:((bh log++gG (aa log) ws).map λa=>(a.1,(a.2,vt [L].length (0:Nat) (kC [L] b []) a.1)))=iw 0 (bh log)++iw 0 (gG (aa log) ws):=by
   rw[show kC [L] b []=[] from rfl,show[L].length=1 from rfl];simp only[j];unfold iw;rw[<-cy];rfl
  rw[this,<-C.pC (by rw[d];decide)]
 show pl _ (BV 1 0 ws k (bh (log++ws)) (gG (aa log) ws) [] (dI y 1 (0:Nat)))=_;unfold BV;rw[Sy,show(gG (aa log) ws).flatMap (λz=>(bx 1 (0:Nat)).map λq=>if(dI y 1 (0:Nat)).contains q then Bx 0 else .drop 0)=[] from GG.mpr λz z=>rfl,c8,yk,yk,c8,c8,mR,o];rfl
end
section
variable {old:aD}{x k:Int}{turn:Bool}{ws:dG}{y cu:Int}
def Sz(C:bA old)(d:old.me=0):Good [old]:=by
 refine⟨λa c b=>?_,λa c b=>?_⟩
 .cases a with
  |zero=>cases b;exact C
  |succ a=>cases b
 cases a with
 |zero=>cases b;exact d
 |succ a=>cases b
def aci(b:old.acc.map (·.1)=slots (a:Nat)):(iO [old] 0 old x turn k).phase=2/\(iO [old] 0 old x turn k).hl=iw (iO [old] 0 old x turn k).me (bh (pM [old] 0 old x turn k))/\(iO [old] 0 old x turn k).aE=cE old:=by
 intros old x k turn a _ b;rw[show(iO [old] 0 old x turn k).me=((0:Nat):Int) from Kd.1];unfold iO fX pM;rw[show iE [old] (cE old) (b9 [old].length 0 turn k) (dI x [old].length (0:Nat))=[] from Sp];dsimp only;rw[Kg,Kh];exact⟨rfl,rfl,rfl⟩
def acj{g:ju}{t:fE×aO}(G:fu [old] 0 x turn k=g)(K:gK g.after 0 g.b g.log ws y cu k=t)(C:bA old)(s:old.me=0)(hs:old.size=1)(v:A1 old):B6 [old] 0 g t/\∃a:aD,t.2=[a]/\bA a/\a.me=0/\a.size=1/\A1 a:=by
 subst K;subst G;intros old x k turn ws y cu _ C s hs v;let ⟨L,p,z⟩:=v.m;have B:[old][0]?=U old:=rfl;have n:=EY (Sz C s) B x turn k
 have E:(fu [old] 0 x turn k).bG=[.at 0 .run,.double k]:=by
  rw[aR ju.bG n];dsimp only;rw[show b9 [old].length 0 turn k=[] from zH turn k];cases turn<;>rfl
 have F:=acf (x:=x) (turn:=turn) (k:=k) C s hs p z;have i:bA (iO [old] 0 old x turn k):=Sd C Ke λd=>(Kf d).2.1 J
 let ⟨r,q,D⟩:=aci (x:=x) (turn:=turn) (k:=k) p;have u:=(Sq (x:=x) (turn:=turn) (k:=k) p).2;have f:=Sn (N:=[old]) (me:=0) (old:=old) (x:=x) (turn:=turn) (k:=k);unfold B6;rw[E,show(fu [old] 0 x turn k).after=[iO [old] 0 old x turn k] from aR ju.after n,show(fu [old] 0 x turn k).b=cE old from aR ju.b n,show(fu [old] 0 x turn k).log=pM [old] 0 old x turn k from aR ju.log n];generalize iO [old] 0 old x turn k=c at*;generalize pM [old] 0 old x turn k=e at*;have A:c.aq.map (·.1)=slots (aa e:Int):=((aR (oB (·.1)) f.2.2.2.1).trans z).trans (aR (λH:Nat=>slots H) u.symm)
 have I:c.acc.map (·.1)=slots (aa e:Int):=by
  refine Ss i.acc λh=>?_
  rw[f.2.2.2.2,B4 (xH _).nk _ _ λZ d=>d,(vG (λh=>(cE old,fY (bh e) h)) _ C.acc).2,zN,u];split
  .rename_i d;exact⟨λZ=>se.mp d,λZ=>rfl⟩
  exact Su p h
 have V:=ach (ws:=ws) (y:=y) (cu:=cu) (k:=k) i r f.1 f.2.1 D q (λo d=>by rw[f.2.2.2.2];exact Ka (xH _) C.acc d) A;rw[V.1];have w:=acg (ws:=ws) i r q;refine⟨⟨[],?_,V.2,?_⟩,_,rfl,w,f.1,f.2.1,⟨_,?_,Sv i.fF A (Sw ws _) (fz _ _)⟩⟩
 .rw[qV,xB B,show nR old .run=bK old .run from rfl,F];rfl
 .rw[xB (show[ue c (gG (aa e) ws)][0]?=U _ from rfl),show ∀c:aD,nR c .again=bK c .again from λZ=>rfl,So w (λd=>aV (r.symm.trans d) ∅) λZ M j=>by
   rw[show(ue c (gG (aa e) ws)).hl=iw c.me (bh e)++iw c.me (gG (aa e) ws) from aR (·++_) q] at j;rcases eE.mp j with j|j
   all_goals
    let ⟨o,_,zy⟩:=aY.mp j;exact .head _]
  rfl
 have:=Sv (l:=(gG (aa e) ws).map λo=>(o.1,(c.aE,o.2))) i.acc I (λh=>by rw[bV];exact Sw ws _ h) (fz _ _);rw[AG] at this;exact this
end
def SI.congr{e g:aO}(f:SI e)(hl:aa g=aa e)(h:∀a,eS e a->(nd g a).promised=(nd e a).promised/\(nd g a).acc=(nd e a).acc/\(nd g a).aq=(nd e a).aq):SI g:=by
 intros e g _ f hl h;have i:∀{a},eS g a↔eS e a:=λ{a}=>by unfold eS;rw[hl]
 have j:∀{d},pK g d->pK e d:=λ⟨a,b,c⟩=>⟨a,i.mp b,(h a (i.mp b)).2.1▸c⟩
 refine⟨λa b=>?_,λa b d c=>?_,λd c=>?_,λd c=>?_,λo s r q=>f.E2 o s (j r) (j q),λa b u t n=>?_,λd c=>f.J8 d (j c)⟩
 .rw[(h a (i.mp b)).2.1];exact f.sk a (i.mp b)
 .have b:=i.mp b;rw[(h a b).2.1] at c;rw[(h a b).1];exact f.J7 a b d c
 .exact(f.zS d (j c)).imp hl λa b k=>by rw[(h a b).1];exact k
 .let ⟨a,b,l,m⟩:=f.own d (j c);exact⟨a,i.mpr b,l,by rw[(h a b).1];exact m⟩
 have b:=i.mp b;rw[(h a b).2.2] at n;let ⟨v,l,m⟩:=f.fix a b u t n;exact⟨v,l.imp hl λp c k=>by rw[(h p c).2.1];exact k,λd c=>m d (j c)⟩
structure Iv(n:Nat)(N:aO):Prop where
 len:aa N=n
 ri:RI N
 si:2<=n->SI N
 a1:∀old,N=[old]->A1 old
def SA{b:aO}(h:¬2<=aa b){e:Nat}(d:e<aa b):∃a,b=[a]/\e=0:=by
 have c:aa b=1:=mW (lu (vR.mp h)) (eK (cL _) d);let ⟨a,f⟩:=List.length_eq_one_iff.mp c;exact⟨a,f,Nat.lt_one_iff.mp (c▸d)⟩
section
def ack{i:ju}{o:fE×aO}(s:fu a c d turn k=i)(q:gK i.after c i.b i.log ws f e k=o)(g:Iv n a)(m:c<n):B6 a c i o/\Iv n o.2:=by
 rw[<-g.len] at m
 by_cases l:2<=aa a
 .let ⟨p,F,y⟩:=ab8 s q g.ri (g.si (g.len▸l)) (dZ m) l
  have t:aa o.2=n:=by
   rw[<-q,<-g.len];refine((aP _).trans gx).trans ?_;rw[<-s,aR ju.after (EY g.ri.G (dZ m) d turn k)];exact zT
  exact⟨p,t,F,λZ=>y,λh j=>aV (aj l (cj (g.len.trans (t.symm.trans (aR yi j))))) (show ¬2<=1 by decide)⟩
 let ⟨h,x,C⟩:=SA l m;subst x;subst C;have r:[h][0]?=U h:=rfl;let ⟨p,z⟩:=acj s q (g.ri.G.gE 0 h r) (g.ri.G.me 0 h r) (g.ri.sz 0 h r) (g.a1 h J);let ⟨H,j,A,D,E,B⟩:=z;refine⟨p,?_⟩;rw[j];refine⟨g.len,⟨Sz A D,λu n v=>?_⟩,λw=>aV (g.len▸w) l,λi j=>?_⟩
 .cases u with
  |zero=>cases v;exact E
  |succ u=>cases v
 cases j;exact B
def acm(d:Iv n c)(h:b<n):fq (c,w) (.at b .e8)=(c.set b (n7 (nd c b)),w)/\Iv n (c.set b (n7 (nd c b))):=by
 intros n c b w _ d h;rw[<-d.len] at h;have g:c[b]?=U c[b]:=dZ h;have C:=d.ri.G.gE b _ g;have t:bA (n7 c[b]):=⟨C.acc,C.fF,λf=>qz f,λz=>rfl,λf=>qz f,λz=>rfl⟩;rw[fW g];refine⟨by rw[xB g];exact fh J (c8 w),by rw[mY];exact d.len,⟨d.ri.G.set t (d.ri.G.me b c[b] g),λi s f=>?_⟩,λq=>(d.si q).congr mY λu l=>?_,λv e=>?_⟩
 .rw[mY]
  by_cases e:b=i
  .subst e;rw[mj h] at f;cases f;exact d.ri.sz b c[b] g
  rw[oG e] at f;exact d.ri.sz i s f
 .let ⟨i,zy⟩:=mZ l.1
  by_cases e:b=i
  .subst e;show(nd _ b).promised=(nd c b).promised/\_/\(nd _ b).aq=(nd c b).aq;rw[fW (mj h),fW g];exact⟨rfl,rfl,rfl⟩
  rw[zM λj=>e j.symm];exact⟨rfl,rfl,rfl⟩
 have k:aa c=1:=by rw[<-mY (as:=c) (i:=b) (a:=n7 c[b]),e];rfl
 let ⟨r,o,p⟩:=SA (by rw[k];decide) h;subst o;subst p;cases e;exact⟨(d.a1 r J).m⟩
end
structure RG(n:Nat)(S:R1):Prop where
 st:pl ((gM n).nodes,[]) S.bG=(S.nodes,S.left)
 E6:∀m∈S.marks,m.1<=aa S.bG/\(pl ((gM n).nodes,[]) (S.bG.take m.1)).1=m.2
 inv:Iv n S.nodes
def B7{n:Nat}{b c:fE}{d:List (Nat×aO)}(h:∀a∈d,a.1<=aa b/\(pl ((gM n).nodes,[]) (b.take a.1)).1=a.2):∀a∈d,a.1<=(b++c).length/\(pl ((gM n).nodes,[]) ((b++c).take a.1)).1=a.2:=λa f=>by
 let ⟨e,g⟩:=h a f;exact⟨by rw[bO];exact aj e (fz _ _),by rw[LY e];exact g⟩
def Kl{n:Nat}{b:fE}{c:List (Nat×aO)}{ns:aO}{e:cT}(h:∀a∈c,a.1<=aa b/\(pl ((gM n).nodes,[]) (b.take a.1)).1=a.2)(d:pl ((gM n).nodes,[]) b=(ns,e)):∀a∈c++[(aa b,ns)],a.1<=aa b/\(pl ((gM n).nodes,[]) (b.take a.1)).1=a.2:=
 Py h ⟨cB _,by rw[oF,d]⟩
def acn(a:Nat):(qT.getD a []).length<=2:=by
 match a with
 |0|1|2|3|4|5=>decide
 |a+6=>exact cL _
def RG.round{n:Nat}{d:R1}(R:RG n d)(q:0<n)(e:lY){g:ju}{f:fE×aO}(l:fu d.nodes (bT e.who n) e.x (decide (e.mode.fmod 2=1)) e.k=g)(i:gK g.after (bT e.who n) g.b g.log (qT.getD (bT e.word 6) []) e.y (e.cu.fmod 4) e.k=f):
 (∃a,pl ((gM n).nodes,[]) (d.bG++d.left.map λZ=>.drop e.k)=(d.nodes,[])/\pl ((gM n).nodes,[]) (d.bG++(d.left.map λZ=>.drop e.k)++g.bG)=(g.after,a)/\pl ((gM n).nodes,[]) (d.bG++(d.left.map λZ=>.drop e.k)++g.bG++f.1)=(f.2,[]))/\RG n (mQ d e):=by
 intros n d e g f _ R q l i;have s:bT e.who n<n:=tP e.who q;let ⟨z,o⟩:=ack l i R.inv s;let ⟨a,C,A,B⟩:=z
 have p:pl ((gM n).nodes,[]) (d.bG++d.left.map λZ=>.drop e.k)=(d.nodes,[]):=by
  rw[mR,R.st,List.map_const'];exact aav _ _ _ _ J
 have j:pl ((gM n).nodes,[]) (d.bG++(d.left.map λZ=>.drop e.k)++g.bG)=(g.after,a):=by rw[mR,p,C]
 have u:pl ((gM n).nodes,[]) (d.bG++(d.left.map λZ=>.drop e.k)++g.bG++f.1)=(f.2,[]):=by rw[mR,j,A]
 refine⟨⟨a,p,j,u⟩,?_⟩;unfold mQ;dsimp only;rw[R.inv.len,l,i];generalize bT e.who n=h at*
 have m:pl ((gM n).nodes,[]) (d.bG++(d.left.map λZ=>.drop e.k)++g.bG++f.1++[.at h .again])=(f.2,kD (nd f.2 h)):=by
  rw[mR,u];exact B
 have E:=Kl (B7 (c:=g.bG) (B7 (c:=d.left.map λZ=>.drop e.k) R.E6)) j;have t:=Kl (B7 (c:=[.at h .again]) (B7 (c:=f.1) E)) m;split
 .let ⟨v,D⟩:=acm (w:=kD (nd f.2 h)) o s
  have r:pl ((gM n).nodes,[]) (d.bG++(d.left.map λZ=>.drop e.k)++g.bG++f.1++[.at h .again]++[.at h .e8])=(f.2.set h (n7 (nd f.2 h)),kD (nd f.2 h)):=by
   rw[mR,m];exact v
  exact⟨r,Kl (B7 (c:=[.at h .e8]) t) r,D⟩
 exact⟨m,t,o⟩
def EvAll.n{e:C}{a:Nm}{b:Str}{g:Pos}{d:D}{f:cN}{c:aH}(h:a.lookup b=U (.d d))(i:EvAll e a f c):EvAll e a (.Name b g::f) (d::c):=aN (ah h) i
def EvVs.n{d:C}{a:Nm}{b:Str}{g:Pos}{f:V}{e:cN}{c:gm}(h:a.lookup b=U f)(i:EvVs d a e c):EvVs d a (.Name b g::e) (f::c):=cR (ah h) i
def kZ.n{b:C}{i:Nm}{a:Str}{j:Pos}{e:V}{g:cN}{d:gm}{f:C}{c:Nm}(h:gH b a)(k:kZ b ((a,e)::i) g d f c):kZ b i (.Name a j::g) (e::d) f c:=gq (mJ h) J k
mutual
theorem D.beq_refl:∀d:D,dS d d=af
 |.int c=>by rw[kB];simp
 |.str e=>by rw[D.BJ];simp
 |.none=>rfl
 |.bool b=>by cases b<;>rfl
 |.tup a=>by show jP (.tuple (D.fS a)) (.tuple (D.fS a))=af;simp only[jP];exact D.Km a
 |.lst a=>by show jP (.list (D.fS a)) (.list (D.fS a))=af;simp only[jP];exact D.Km a
theorem D.Km:∀a:aH,C2 (D.fS a) (D.fS a)=af
 |[]=>rfl
 |d::a=>by
  show C2 (d.py::D.fS a) (d.py::D.fS a)=af;have b:=D.beq_refl d;have c:=D.Km a;unfold dS at b;simp only[C2,b,c,Bool.and_self]
end
def aco(a:aH):D.ord op (.tup a) (.tup a)=U (oW op (aa a) (aa a)):=by
 rw[HK];generalize oW op (aa a) (aa a)=d
 induction a with
 |nil=>rfl
 |cons b a c=>rw[yL,az (D.beq_refl b)];exact c
def rq:D->Int
 |.tup (.int k::_)=>k
 |_=>0
def acp(c:∀d∈ds,Bl d)(j:∀a∈ds,∀b∈ds,rq a=rq b->a=b):D7 rq ds:=λa e b g=>by
 by_cases h:rq a=rq b
 .have:=j a e b g h;subst this;let ⟨f,k,zy⟩:=c _ e;rw[aco];simp[oW]
 let ⟨f,k,zy⟩:=c _ e;let ⟨i,m,zy⟩:=c _ g;have l:¬f=i:=h;rw[HK,yL,kB,decide_eq_false l];rfl
def rk(a:aH)(d:D):Int:=((a.filter λb=>decide (D.ord .Lt b d=U af)).length:Nat)
def SD{i:Type}{c f:i->Bool}:∀{a:List i},(∀b∈a,c b=af->f b=af)->(a.filter c).length<=(a.filter f).length:=by
 intro l
 induction l with
 |nil=>
  intro _;exact cB _
 |cons g a j=>
  intro h;have d:=j λb k=>h b (.tail _ k)
  rw[gk,gk]
  by_cases e:c g=af
  .rw[az e,az (h g (.head _) e)];exact fG d
  rw[aB e];split
  .exact xV d
  exact d
def acq{k:Type}{d f:k->Bool}{x:k}(n:f x=af)(p:d x=aA):∀{b:List k},x∈b->(∀a∈b,d a=af->f a=af)->(b.filter d).length<(b.filter f).length:=by
 intro o
 induction o with
 |nil=>exact λc z=>gS c
 |cons l b m=>
  intro i c;rw[gk,gk];rcases bN.mp i with e|i
  .subst e;rw[aB (by rw[p];decide),az n];exact F4 (SD λa g=>c a (.tail _ g))
  have j:=m i λa g=>c a (.tail _ g)
  by_cases h:d l=af
  .rw[az h,az (c l (.head _) h)];exact F3 j
  rw[aB h];split
  .exact vQ j
  exact j
def acr{j:Type}{enc:j->D}{lt:j->j->Bool}{l:List j}(ho:∀a∈l,∀b∈l,D.ord .Lt (enc a) (enc b)=U (lt a b))(p:∀a b,lt a b=af->lt b a=aA)(n:∀a b c,lt a c=af->lt a b=af\/lt b c=af):D7 (rk (l.map enc)) (l.map enc):=λs q t r=>by
 let ⟨a,d,zy⟩:=aY.mp q;let ⟨b,i,zy⟩:=aY.mp r;have f:∀a∈l,∀c∈l,decide (D.ord .Lt (enc c) (enc a)=U af)=lt c a:=λa d c e=>by rw[ho c e a d];cases lt c a<;>rfl
 rw[ho a d b i]
 congr 1
 unfold rk;rw[GF,GF,aP,aP];cases h:lt a b with
 |true=>
  symm;rw[decide_eq_true_eq];refine dB.mpr (acq (x:=a) ?_ ?_ d λc e m=>?_)
  .exact(f b i a d).trans h
  .exact(f a d a d).trans (by cases o:lt a a with
    |false=>rfl
    |true=>exact o.symm.trans (p a a o))
  have m:=(f a d c e).symm.trans m;refine(f b i c e).trans ((n c b a m).resolve_right λg=>?_);rw[p a b h] at g;cases g
 |false=>
  symm;rw[decide_eq_false_iff_not,iI];refine iK.mpr (SD λc e k=>?_);have k:=(f b i c e).symm.trans k;refine(f a d c e).trans ((n c a b k).resolve_right λg=>?_);rw[h] at g;cases g
def oz(h:∀d∈a,d.dep<=k):D.dO a<=k:=by
 induction a with
 |nil=>exact cL _
 |cons d a e=>
  unfold D.dO;exact Nat.max_le.mpr ⟨h d sV,e λc b=>h c (vZ _ b)⟩
def zU(a:bz):(bq a).dep=0:=by cases a<;>rfl
def Kn(a:ji):(ck a).dep<=2:=by unfold ck aK;simp[D.dep,D.dO,zU]
section
variable {c:C}{ρ:Nm}{e:aT}{p pos:Pos}
def cF.SE{ds f:aH}(h:o7 c ρ e ds)(i:∀d∈ds,Bl d)(g:∀a∈ds,∀b∈ds,rq a=rq b->a=b)(k:aa ds<64)(l:∀d∈ds,d.dep<=400)(ho:f.Perm ds)(hs:f.Pairwise λa b=>rq a<=rq b)(j:autoParam (c.env.kindOf "sorted"=U .globalImplicit) aI)(m:autoParam (cD e=aA) aI):cF c ρ (.Call (.Name "sorted" p) [e] [] pos) f:=
 cF.W5 (kf:=rq) h i (acp i g) g k (oz l) ho hs j m
end
open Mine.EvAll renaming n->bl
open Mine.kZ renaming n->iy
open Mine.EvVs renaming n->jv
structure ug{α:Type}(enc:Int×α->D)(f:Int×α->aH):Prop where
 e:∀r,enc r=.tup (.int r.1::f r)
 d:∀r,(enc r).dep<=400
def ug.ky{a:Type}{b:Int×a->D}{f:Int×a->aH}(d:ug b f)(c:Int×a):rq (b c)=c.1:=by rw[d.e];rfl
section
variable {g:G0}{P:Params}(W:WW g P)
include W
def SG{l:Type}{f:Int×l->D}{m:Int×l->aH}(h:ug f m){c:List (Int×l)}{a:Int×l}(A:Nk c)(hl:aa c<63):kg g 1 123 [.d (.lst (c.map f)),.d (f a)] (λZ=>True) (.lst ((bB c a).map f)):=by
 refine o6 (n:=0) (ZE W) J λN L u K H=>?_
 subst u;unfold Qd bodyPick;apply lQ (d:=.lst ((bB c a).map f))
 case hr=>rfl
 apply nE;apply bF;have q:(c.filter λb=>decide (b.1≠a.1)).length<=aa c:=fZ _ _;have s:(c.filter λb=>decide (b.1≠a.1)).map f++[f a]=(c.filter (λb=>decide (b.1≠a.1))++[a]).map f:=by rw[cy];rfl
 have p:=ER A a;refine cF.SE (ds:=(c.filter (λb=>decide (b.1≠a.1))++[a]).map f) (IA (bF ?p1) J) ?_ ?_ ?_ ?_ ((wZ _).map _) ?_
 case p1=>
  rw[<-s];refine mE (bF ?p2) (bF (eL (bl J aZ))) J J ?_
  case p2=>
   apply rZ (ts:=c) (enc:=f)
   .exact(dU (ah J)).it
   .intro G M F O i I;refine⟨_,cW ⟨.inl J,rfl,rfl⟩,b8 J cX,jt ?_,λZ=>ah J⟩;have y:(!D.beq (.int i.1) (.int a.1))=decide (i.1≠a.1):=by rw[kB];simp
    rw[<-y];apply bS
    .exact br (ds:=.int i.1::m i) (j:=0) (h.e i▸ah J) aQ (g9 (j:=0) (pT _)) J
    .exact br (ds:=.int a.1::m a) (j:=0) (h.e a▸ah J) aQ (g9 (j:=0) (pT _)) J
    .exact uQ minZ
    left
   .exact aj (gf hl) ∅
   rfl;left
  rw[bO,aP];exact aj (gg (aj q (gf hl)) 1) ∅
 .intro w o;let ⟨b,_,zy⟩:=aY.mp o;exact⟨_,_,h.e b⟩
 .intro B C x z k;let ⟨b,hr,zy⟩:=aY.mp C;let ⟨E,t,zy⟩:=aY.mp z;rw[h.ky,h.ky] at k;have r:=p.look hr;have v:=p.look t;rw[k,v] at r;rw[fh k (dF r).symm]
 .rw[aP,bO];exact eK (gg q 1) (F3 hl)
 .intro w o;let ⟨b,_,zy⟩:=aY.mp o;exact h.d b
 rw[jA];exact(u9 p).imp λ{B x} k=>by rw[h.ky,h.ky];exact iJ k
end
def SH{d:Type}[BEq d][LawfulBEq d]{b:d->D}(h:∀c a,dS (b c) (b a)=(c==a))(e:List d)(c:d):yI (e.map b) (b c)=e.contains c:=by
 induction e with
 |nil=>rfl
 |cons g e f=>
  show(dS (b g) (b c)||yI (e.map b) (b c))=_;rw[h,f,CJ,BEq.comm]
def acs(a b:Int):dS (.int a) (.int b)=(a==b):=kB a b
def SJ(a:aF)(b:Int):yI (a.map .int) (.int b)=a.contains b:=SH acs a b
def acu(a b:Int×Int):dS (aK a) (aK b)=(a==b):=(tS a b).trans (oJ.mpr (decide_eq_true_iff.trans beq_iff_eq.symm))
def acv(a:bZ)(b:Int×Int):yI (a.map aK) (aK b)=a.contains b:=SH acu a b
section
variable {c:C}{ρ:Nm}{e e₁ e₂:aT}{v:V}{pos p:Pos}{k:eV}{rest:dH}{P:eH}{R:d9}{x:Str}{i j:Int}
def iT.last(h:bX c ρ e b):iT c ρ .And [e] b:=by
 have:=ia h λz=>wL
 rwa [yt] at this
def bX.SK(b:Ev c ρ e₁ (.d (.int i)))(f:Ev c ρ e₂ (.d (.int j)))(a:behindInMarks .NotEq e₂=aA:=by with_unfolding_all rfl):bX c ρ (.Compare e₁ [.NotEq] [e₂] pos) (decide (i≠j)):=by
 have e:(!D.beq (.int i) (.int j))=decide (i≠j):=by rw[kB];simp
 rw[<-e];exact bS b f (uQ minZ) a
def bX.Iq{a:aF}(f:Ev c ρ e₁ (.d (.int i)))(g:Ev c ρ e₂ v)(e:iA c v (a.map .int))(b:behindInMarks .In e₂=aA:=by with_unfolding_all rfl):bX c ρ (.Compare e₁ [.In] [e₂] pos) (a.contains i):=by
 rw[<-SJ];exact bS f g (Cmp.Qz e minZ) b
def bX.Ir{a:aF}(f:Ev c ρ e₁ (.d (.int i)))(g:Ev c ρ e₂ v)(e:iA c v (a.map .int))(b:behindInMarks .NotIn e₂=aA:=by with_unfolding_all rfl):bX c ρ (.Compare e₁ [.NotIn] [e₂] pos) (!a.contains i):=by
 rw[<-SJ];exact bS f g (Cmp.U8 e minZ) b
def eG.ints{n:Nat}{p1 p2:Pos}(a:n<=1000000)(h:Ev c ρ e (.d (.int n)))(b:autoParam (c.env.kindOf "range"=U .globalImplicit) aI)(hs:autoParam (cD e=aA) aI):eG c ρ (.Call (.Name "range" p1) [e] [] p2) ((bu n).map .int):=by
 rw[<-JK];exact A9 (n:=(n:Int)) h (AV a J) b hs
def Ex.Ko{i:Type}{ts:List i}{enc g:i->D}{q:i->Bool}{e j iter:aT}{ifs:cN}{scope:gh}{s:Pos}{b:Bool}(o:It c ρ iter (ts.map enc))
 (n:∀l h M m a,a∈ts->∃f,iV (c.into scope l h M m) j (enc a) f/\(∀p∈f,(fj scope ρ).lookup p.1=ai)/\lP (c.into scope l h M m) (f++fj scope ρ) ifs (q a)/\(q a=af->Ev (c.into scope l h M m) (f++fj scope ρ) e (.d (g a))))
 (hz:aa ts<=bf) (r:gH c x) (t:Ex c ((x,.d (.lst ((ts.filter q).map g)))::ρ) (rest::k) P R) (u:autoParam (kX c.env.kindOf (λx=>(ρ.lookup x).isSome) scope=af) aI)
 (hsw:autoParam (swapsWith (.ListComp e [⟨j,iter,ifs,0⟩] scope s) (U (.Name x p)) pos.line c.env=pure b) aI) (hs:autoParam (∀x,foldedSetIterable iter c.env x=pure x) lH):Ex c ρ ((.Assign [.Name x p] (.ListComp e [⟨j,iter,ifs,0⟩] scope s) pos::rest)::k) P R:=
 b.rec (λhsw=>fN (bF (rZ o n hz u hs)) r t hsw) (λhsw=>Ex.H8 (Ik (yU (Bh o n hz u hs) r hsw)) t) hsw
end
def k7(n:Nat):(bu n).length=n:=by unfold bu;rw[aP,gx]
def SM(h:i<n):(bu n)[i]?=U (i:Int):=by unfold bu;rw[cC,pZ h];rfl
def SN{b:Int}(h0:0<=b)(d:b<4):(5:Int)^b.toNat≠0/\((5:Int)^b.toNat).natAbs<1073741824:=by
 refine(mZ h0).elim λa c=>?_
 subst c;exact(show ∀a:Nat,a<4->(5:Int)^a≠0/\((5:Int)^a).natAbs<1073741824 by decide) a (dB.mp d)
section
variable {g:G0}{P:Params}(W:WW g P)
include W
def SO{e f:Int}{n:Nat}(k:n<=4):kg g 1 128 [.d (.int e),.d (.int n),.d (.int f)] (λz=>True) (.tup [.lst ((f6 e n f).map .int),.lst ((dI e n f).map .int)]):=by
 intros g P e f n _ W k;refine o6 (n:=0) (ZF W) J λB A u y x=>?_
 subst u;unfold Qe bodyPick;have l:(bu n).length<=bf:=by rw[k7];exact aj k ∅
 have p:n<=1000000:=aj k ∅;have h:∀{b:Int},b∈bu n->0<=b/\b<4:=λi=>⟨(ua.mp i).1,rL (ua.mp i).2 (iK.mpr k)⟩
 refine Ex.Ko (ts:=bu n) (enc:=.int) (g:=λc=>.int (tW e c.toNat)) (q:=λz=>af) (eG.ints p (ah J)).it (λo s m t b a=>⟨_,cW aJ,b8 J cX,mF,λz=>?_⟩) l aJ ?_
 .exact dY (dY (dY (ah J) aQ (qw ∅)) (dY aQ (ah J) (Bin.pow (h a).1 (dN (iJ (h a).2) ∅) ∅)) (Du (SN (h a).1 (h a).2).1 (SN (h a).1 (h a).2).2)) aQ (qw ∅)
 rw[rJ.mpr λz z=>rfl]
 have j:∀{b:Int},b∈bu n->seqIndex? b ((bu n).map λc=>iM (tW e c.toNat)).length=U b.toNat/\((bu n).map λc=>iM (tW e c.toNat))[b.toNat]?=U (.int (tW e b.toNat)):=λ{b} i=>by
  refine(mZ (h i).1).elim λz w=>?_
  subst w;have r:=dB.mp (ua.mp i).2;exact⟨g9 (by rw[aP,k7];exact r),by rw[cC,j5,SM r];rfl⟩
 refine Ex.Ko (ts:=bu n) (enc:=.int) (g:=.int) (q:=λc=>decide (c≠f)&&decide (1<tW e c.toNat)) (eG.ints p (ah J)).it (λo s m t b a=>⟨_,cW aJ,b8 J cX,jt (iU ?_),λz=>ah J⟩) l aJ ?_
 .refine ia (bX.SK (ah J) (ah J)) λz=>iT.last (bS (kT (ah J) J (ah J) (j a).1 (j a).2) aQ Dt)
 have v:(((bu n).filter λc=>decide (c≠f)&&decide (1<tW e c.toNat)).map iM)=(f6 e n f).map .int:=rfl;rw[v];refine lQ (nE (bQ (bl J (aN (bF ?_) aZ)))) J;refine rZ (ts:=f6 e n f) (enc:=.int) (g:=.int) (q:=λc=>decide (2<tW e c.toNat)) (dU (ah J)).it (λo s m t b a=>⟨_,cW aJ,b8 J cX,jt ?_,λz=>ah J⟩) (aj (fZ _ _) l) J;have a:=(cH.mp a).1;exact bS (kT (ah J) J (ah J) (j a).1 (j a).2) aQ Dt
end
open Mine.Ex renaming Ko->pN
open Mine.bX renaming Iq->pO,SK->B8,Ir->E7
open Mine.iT renaming last->xN
def Kq:Option aL->D
 |none=>.none
 |some a=>aK a
def acw(a:aL)(b:Option aL):dS (aK a) (Kq b)=decide (U a=b):=by
 cases b with
 |none=>rfl
 |some c=>exact(tS a c).trans (decide_eq_decide.mpr ⟨aR U,dF⟩)
def acy(h:qS a=U b):b∈a/\∀c∈a,blt b c=aA:=by
 cases a with
 |nil=>cases h
 |cons d a=>
  have:=Ry a d;cases h;exact this
section
variable {c:C}{ρ:Nm}{e e₂:aT}{v:V}{p pos kp:Pos}
def Ev.acz{a:List aL}(h:Ev c ρ e (.d (.lst (a.map aK))))(u:Ev c ρ e₂ (.d .none))(q:autoParam (c.env.kindOf "max"=U .globalImplicit) aI)(t:autoParam (cD e=aA) aI):Ev c ρ (.Call (.Name "max" p) [e] [⟨U "default",e₂,kp⟩] pos) (.d (Kq (qS a))):=by
 intros c ρ e e₂ p pos kp a _ h u q t;have n:=acr (enc:=aK) (lt:=blt) (l:=a) (λb Z k Z=>xo b k) (λb k=>IJ) λb k E h=>dite (blt b k=af) .inl λy=>.inr (PM (rM.mpr y) h)
 refine Ev.QF (kf:=rk (a.map aK)) h J u (λj g w r=>?_) ⟨λh=>by rw[GA.mp h];rfl,λB=>?_⟩ (oz λC A=>?_) q t
 .have i:=n w r j g;let ⟨b,o,zy⟩:=aY.mp g;let ⟨k,F,zy⟩:=aY.mp r;rw[xo] at i;rw[BI];exact i
 .cases hm:qS a with
  |none=>
   cases a with
   |nil=>exact aV J B
   |cons D a=>cases hm
  |some v=>
   let ⟨x,z⟩:=acy hm;have m:=uA (f:=aK) x;refine⟨m,λj g=>?_,λj g h=>?_⟩
   .have i:=n _ m j g;let ⟨b,o,zy⟩:=aY.mp g;rw[xo,z b o] at i;exact iI.mp (of_decide_eq_false (dF i).symm)
   have i:=n _ m j g;have s:=n j g _ m;let ⟨b,o,zy⟩:=aY.mp g;rw[xo,show rk (a.map aK) (aK b)=rk (a.map aK) (aK v) from h,decide_eq_false (mu _)] at i;rw[xo,show rk (a.map aK) (aK b)=rk (a.map aK) (aK v) from h,decide_eq_false (mu _)] at s;exact aR aK (IK (dF s) (dF i))
 let ⟨b,_,zy⟩:=aY.mp A;exact lX b
def Ev.acA{g:aF}(h:Ev c ρ e (.d (.lst (g.map .int))))(t:Ev c ρ e₂ (.d (.int 0)))(m:autoParam (c.env.kindOf "max"=U .globalImplicit) aI)(r:autoParam (cD e=aA) aI):Ev c ρ (.Call (.Name "max" p) [e] [⟨U "default",e₂,kp⟩] pos) (.d (.int (cJ g))):=by
 refine Ev.QF (kf:=λj=>match j with|.int o=>o|_=>0) h J t (λk a w s=>?_) ⟨λh=>by rw[GA.mp h];rfl,λq=>?_⟩ (oz λj n=>?_) m r
 .let ⟨b,f,zy⟩:=aY.mp a;let ⟨v,u,zy⟩:=aY.mp s;rfl
 .have i:=Bv (l:=g) λh=>q (by rw[h];rfl)
  refine⟨uA i.1,λk a=>?_,λk a h=>?_⟩
  .let ⟨b,f,zy⟩:=aY.mp a;exact i.2 b f
  let ⟨b,f,zy⟩:=aY.mp a;exact aR iM h
 let ⟨b,_,zy⟩:=aY.mp n;exact cL _
end
section
variable {c:C}{ρ:Nm}{pos:Pos}
def cF.all{l:Type}{ts:List l}{enc g:l->D}{k m iter:aT}{scope:gh}(o:It c ρ iter (ts.map enc))
 (n:∀h e M i a,a∈ts->∃f,iV (c.into scope h e M i) m (enc a) f/\(∀p∈f,(fj scope ρ).lookup p.1=ai)/\Ev (c.into scope h e M i) (f++fj scope ρ) k (.d (g a)))
 (hz:aa ts<=bf) (s:autoParam (kX c.env.kindOf (λb=>(ρ.lookup b).isSome) scope=af) aI) (hs:autoParam (∀b,foldedSetIterable iter c.env b=pure b) lH):cF c ρ (.ListComp k [⟨m,iter,[],0⟩] scope pos) (ts.map g):=by
 have:=rZ (q:=λz=>af) (ifs:=[]) (g:=g) (pos:=pos) o (λh e M i a r=>(n h e M i a r).imp λf j=>⟨j.1,j.2.1,mF,λz=>j.2.2⟩) hz s hs
 rwa [rJ.mpr λz z=>rfl] at this
end
def acB(c:bU)(b:Int):((((c.filter λa=>decide (a.1=b)).filter λa=>decide (U a.2.1=qS ((c.filter λa=>decide (a.1=b)).map (·.2.1)))).map λa=>bq a.2.2)++[kQ])[0]?=U (bq (pG c b)):=by
 unfold pG;cases(c.filter λa=>decide (a.1=b)).filter λa=>decide (U a.2.1=qS ((c.filter λa=>decide (a.1=b)).map (·.2.1)))<;>rfl
section
variable {g:G0}{P:Params}(W:WW g P)
include W
def acC{e:bU}(hl:aa e<=1000)(N:0<=cJ (e.map (·.1)))(h:cJ (e.map (·.1))<=1000):kg g 1 133 [.d (.lst (e.map ck))] (λy=>True) (.lst ((mO e).map bq)):=by
 intros g P e _ W hl N h;refine o6 (n:=0) (ZG W) J λG A K Y V=>?_;intros G A _ K Y V
 subst K;unfold Qf bodyPick;have E:aa e<=bf:=aj hl ∅;refine fN (v:=.d (.int (cJ (e.map (·.1))))) (Ev.acA (bF ?_) aQ) aJ ?_
 .rw[bV];exact cF.all (ts:=e) (enc:=ck) (dU (ah J)).it (λy B p H w h=>⟨_,cW aJ,b8 J cX,br (j:=0) (ah J) aQ J J⟩) E
 refine r6 (x:="log") (wR (qE (eL aZ)) aJ) λs L Z=>?_;intros s _ L Z
 refine Ex.for (Inv:=λf o m=>o.σ s=U (.l (((slots (f:Nat)).map (pG e)).map bq))/\o.wr s/\cU m "known" (.d (.lst (e.map ck)))/\cU m "log" (.r s)) (OC (a:=1) (b:=cJ (e.map (·.1))+1) aQ (dY (ah J) aQ qt) ∅ ⟨dN ∅ (CT N 1),dN (CT h 1) ∅⟩ (by rw[GL];exact wo.mpr (dN h ∅))) ⟨az J,.inr J,rfl,rfl⟩ ?_ ?_
 .intro f S o m u O i;intros f S o m _ u O i;let ⟨C,F,I,z⟩:=i;let ⟨aw,av⟩:=Oz O;subst aw;let ⟨p,X,R,zy⟩:=gv (c:=G.fn (BE P) 133 A λy=>False) u;refine⟨_,cW aJ,?_⟩;refine fO (ρ':=[("s",.d (.int ((f:Int)+1))),("known",.d (.lst (e.map ck))),("log",.r s)]) ?_ (jY (.cons I (.cons z .nil)));refine pN (ts:=e) (enc:=ck) (g:=ck) (q:=λk=>decide (k.1=(f:Int)+1)) (dU (ah J)).it (λy B p H w h=>⟨_,cW aJ,b8 J cX,jt ?_,λy=>ah J⟩) E aJ ?_
  .rw[<-kB];exact bS (br (j:=0) (ah J) aQ J J) (ah J) (gz minZ)
  generalize D:(e.filter λk=>decide (k.1=(f:Int)+1))=t;have M:aa t<=bf:=by rw[<-D];exact aj (fZ _ _) E
  refine fN (v:=.d (Kq (qS (t.map (·.2.1))))) (Ev.acz (bF ?_) HG) aJ ?_
  .rw[bV];exact cF.all (ts:=t) (enc:=ck) (dU (ah J)).it (λy B p H w h=>⟨_,cW aJ,b8 J cX,br (j:=1) (ah J) aQ J J⟩) M
  refine kY (qF (x:=bq (pG e ((f:Int)+1))) (ah J) C F ?_ ?_) ?_
  .refine kT (bF (mE (bF (rZ (ts:=t) (enc:=ck) (g:=λk=>bq k.2.2) (q:=λk=>decide (U k.2.1=qS (t.map (·.2.1)))) (dU (ah J)).it (λy B p H w h=>⟨_,cW aJ,b8 J cX,jt ?_,λy=>br (j:=2) (ah J) aQ J J⟩) M J)) (bF (eL (aN HG aZ))) J J ?_)) J aQ (j:=0) (g9 (j:=0) (by rw[bO];exact pT _)) ?_
   .rw[<-acw];exact bS (br (j:=1) (ah J) aQ J J) (ah J) (gz (aj (oA _ _) (lX _)))
   .rw[bO,aP];exact aj (gg (aj (fZ _ _) (by rw[<-D];exact aj (fZ _ _) hl)) 1) ∅
   rw[<-D];exact acB e _
  .rw[aP,aP,II];exact aj (Nat.succ_le_of_lt av) (wo.mpr (dN h ∅))
  intro ae au Q i;intros ae au _ Q i;let ⟨ax,_⟩:=i;subst ax;refine aG (cP ⟨?_,F,rfl,rfl⟩);refine(az J).trans ?_;rw[show(((f+1:Nat):Int))=(f:Int)+1 from rfl,Xh,cy,cy];rfl
 intro o m u i;intros o m _ u i;let ⟨C,F,I,z⟩:=i;let ⟨p,X,R,zy⟩:=gv (c:=G.fn (BE P) 133 A λy=>False) u;refine lQ (uY (ah z) (C.trans ?_) ?_) J
 .rw[xA];unfold gA;rw[aP,gx,GL,<-PN]
 exact λT=>L (.inl T)
end
open Mine.cF renaming all->uh
section
variable {c:C}{ρ:Nm}{k:eV}{rest:dH}{P:eH}{R:d9}{pos tp vp:Pos}{o5 es:cN}{vs:gm}{n m:Nat}{names:List Str}{c':C}{ρ':Nm}
def Ex.Kr(h:EvVs c ρ es vs)(e:∀a∈names,gH c a)(hl:aa names=aa vs)(f:Ex c (names.zip vs++ρ) (rest::k) P R)(hz:aa names<=100:=by decide)(hw:autoParam (swappedStores [.Tuple o5 n tp] (.Tuple es m vp) c.env=pure (U names)) aI):Ex c ρ ((.Assign [.Tuple o5 n tp] (.Tuple es m vp) pos::rest)::k) P R:=
 Ig h.ms e (λc' i z b=>by let ⟨g,d⟩:=b;subst g d;exact⟨hl,f⟩) hz hw
def Ex.SP(h:EvVs c ρ es vs)(d:kZ c ρ o5 vs c' ρ')(e:Ex c' ρ' (rest::k) P R)(hz:aa o5<=100:=by decide)(hw:autoParam (swappedStores [.Tuple o5 n tp] (.Tuple es m vp) c.env=pure ai) aI):Ex c ρ ((.Assign [.Tuple o5 n tp] (.Tuple es m vp) pos::rest)::k) P R:=
 yT h.ms (λc' g z a=>by let ⟨f,b⟩:=a;subst f b;exact⟨_,_,d,e⟩) hz hw
end
section
variable {c:C}{ρ:Nm}{k:eV}{rest:dH}{P:eH}{R:d9}{pos p:Pos}{x:Str}
def Ex.SQ{n:Type}{ts:List n}{enc g:n->D}{j l iter:aT}{scope:gh}{o:Pos}{b:Bool}(s:It c ρ iter (ts.map enc))
 (r:∀h e M i a,a∈ts->∃f,iV (c.into scope h e M i) l (enc a) f/\(∀p∈f,(fj scope ρ).lookup p.1=ai)/\Ev (c.into scope h e M i) (f++fj scope ρ) j (.d (g a)))
 (hz:aa ts<=bf) (u:gH c x) (w:Ex c ((x,.d (.lst (ts.map g)))::ρ) (rest::k) P R) (v:autoParam (kX c.env.kindOf (λx=>(ρ.lookup x).isSome) scope=af) aI)
 (hsw:autoParam (swapsWith (.ListComp j [⟨l,iter,[],0⟩] scope o) (U (.Name x p)) pos.line c.env=pure b) aI) (hs:autoParam (∀x,foldedSetIterable iter c.env x=pure x) lH):Ex c ρ ((.Assign [.Name x p] (.ListComp j [⟨l,iter,[],0⟩] scope o) pos::rest)::k) P R:=by
 refine pN (q:=λz=>af) (ifs:=[]) (g:=g) s (λh e M i a t=>(r h e M i a t).imp λf m=>⟨m.1,m.2.1,mF,λz=>m.2.2⟩) hz u ?_ v hsw hs
 rwa [rJ.mpr λz z=>rfl]
end
noncomputable def rt(n:aD):aF:=n.aq.map λa=>a.1
def kI(n:aD)(a:Int×(bz×aF)):cT:=if(rt n).contains a.1 then(bx n.size n.me).map λb=>.aq n.aE n.me b a.1 a.2.1 else((bx n.size n.me).filter λb=>!a.2.2.contains b).map λb=>.accept n.aE n.me b a.1 a.2.1
def SR(n:aD)(b:Int×(bz×aF)):(kI n b).length<=n.size:=by
 have a:(bx n.size n.me).length<=n.size:=aj (fZ _ _) (cj (k7 _));unfold kI;split
 .rw[aP];exact a
 rw[aP];exact aj (fZ _ _) a
def acD(n:aD):∀a:jQ,(a.flatMap (kI n)).length<=aa a*n.size:=by
 intro c
 induction c with
 |nil=>
  exact cL _
 |cons d a b=>
  rw[sW,bO,iz,Ct,kK];exact dQ (b) (SR n d)
section
variable {g:G0}{P:Params}(W:WW g P)
include W
def acE{n:aD}(F:n.size<=4)(L:n.phase<=2)(Z:aa n.aq<=1000)(au:aa n.hp<=1000)(a0:aa n.hl<=1000)(bj:∀a∈n.hl,aa a.2.2<=1000):kg g 1 148 [.d (aX n)] (λw=>True) (.lst ((kD n).map bI)):=by
 intros g P n _ W F L Z au a0 bj;refine o6 (n:=0) (ZJ W) J λI G X bo a9=>?_;intros I G _ X bo a9
 subst X;unfold Qg bodyPick;refine Ex.SP (vs:=[.d (.int n.me),.d (aK n.aE)]) (cR (br (j:=0) (ah J) aQ J J) (cR (br (j:=6) (ah J) aQ J J) eX)) (iy aJ (iy aJ jh)) ?_;have aw:n.size<=1000000:=aj F ∅;have a3:(bu n.size).length<=bf:=by rw[k7];exact aw
 refine pN (ts:=bu n.size) (enc:=.int) (g:=.int) (q:=λh=>decide (h≠n.me)) (eG.ints aw (br (j:=1) (ah J) aQ J J)).it (λw z m E v y=>⟨_,cW aJ,b8 J cX,jt (B8 (ah J) (ah J)),λw=>ah J⟩) a3 aJ ?_;have b2:(((bu n.size).filter λh=>decide (h≠n.me)).map iM)=(bx n.size n.me).map .int:=rfl;rw[b2];have N:(bx n.size n.me).length<=bf:=aj (fZ _ _) a3;refine r6 (x:="left") (wR (qE (eL aZ)) aJ) λs Y bt=>?_;intros s _ Y bt
 have av:¬(I.fn (ze P) 148 G λw=>False).B s:=λK=>Y (.inl K)
 refine b7 (b:=decide (n.phase=1)) ?_ (λi=>?_) λi=>aG ?_
 .rw[<-tR];exact bS (br (j:=5) (ah J) aQ J J) (dR (by decide+kernel)) (gz minZ)
 .have i:=eZ i;have S:jd n=n.hp.map ku:=az i;refine pN (ts:=bx n.size n.me) (enc:=.int) (g:=λh=>bI (.prepare n.aE n.me h)) (q:=λh=>!(n.hp.map (·.1)).contains h) (dU (ah J)).it (λw z m E v y=>⟨_,cW aJ,b8 J cX,jt (E7 (ah J) (bF ?_) J),λw=>?_⟩) N aJ ?_
  .rw[bV];exact uh (ts:=n.hp) (enc:=ku) (dU (S▸br (j:=7) (ah J) aQ J J)).it (λw z m E v y=>⟨_,cW aJ,b8 J cX,br (j:=0) (ah J) aQ J J⟩) (aj au ∅)
  .exact bQ (aN (dR (by decide+kernel)) (bl J (bl J (bl J aZ))))
  refine aG (b7 (b:=aA) ?_ (λK=>oO K) λw=>aG (lQ (nE (ah J)) ?_))
  .have a4:=mK L;rw[decide_eq_false (by rw[i];decide)] at a4;rw[<-a4];exact bS (br (j:=5) (ah J) aQ J J) (dR (by decide+kernel)) (gz minZ)
  unfold kD;rw[az i,bV];rfl
 have i:=of_decide_eq_false i;refine b7 (b:=decide (n.phase=2)) ?_ (λp=>?_) λp=>aG (lQ (uY (ah J) (az J) av) ?_)
 .rw[<-mK L];exact bS (br (j:=5) (ah J) aQ J J) (dR (by decide+kernel)) (gz minZ)
 .have p:=eZ p;have S:jd n=n.hl.map jV:=(aB i).trans (az p);refine Ex.SQ (ts:=n.aq) (enc:=eB) (g:=λe=>.int e.1) (dU (br (j:=4) (ah J) aQ J J)).it (λw z m E v y=>⟨_,cW aJ,b8 J cX,br (j:=0) (ah J) aQ J J⟩) (aj Z ∅) aJ ?_;have b1:(n.aq.map λe=>iM e.1)=(rt n).map .int:=(bV (f:=λe:Int×bz=>e.1) (g:=iM)).symm;rw[b1];have bp:kD n=n.hl.flatMap (kI n):=by unfold kD;rw[aB i,az p];rfl
  refine Ex.for (Inv:=λo t k=>t.σ s=U (.l (((n.hl.take o).flatMap (kI n)).map bI))/\t.wr s/\cU k "others" (.d (.lst ((bx n.size n.me).map .int)))/\cU k "done" (.d (.lst ((rt n).map .int)))/\cU k "me" (.d (.int n.me))/\cU k "b" (.d (aK n.aE))/\cU k "left" (.r s)) (dU (ds:=n.hl.map jV) (S▸br (j:=7) (ah J) aQ J J)) ⟨az J,.inr J,rfl,rfl,rfl,rfl,rfl⟩ ?_ ?_
  .intro o a8 t k C u A;intros o a8 t k _ C u A;let ⟨H,D,T,ae,a6,a5,O⟩:=A;rw[cC] at u;cases hx:n.hl[o]? with
   |none=>rw[hx] at u;cases u
   |some e=>
    rw[hx] at u;cases u;let ⟨m,bk,a7,zy⟩:=gv (c:=I.fn (ze P) 148 G λw=>False) C;refine⟨_,j8 (.cons aJ (.cons aJ (.cons aJ .nil))),?_⟩;refine fO (ρ':=[("ns",.d (.lst (eY e.2.2))),("v",.d (bq e.2.1)),("s",.d (.int e.1)),("others",.d (.lst ((bx n.size n.me).map .int))),("done",.d (.lst ((rt n).map .int))),("me",.d (.int n.me)),("b",.d (aK n.aE)),("left",.r s)]) ?_ (jY (jY (jY (.cons T (.cons ae (.cons a6 (.cons a5 (.cons O .nil))))))))
    have V:(((n.hl.take o).flatMap (kI n)).map bI).length+((kI n e).map bI).length<=bf:=by
     rw[aP,aP];exact aj (dQ (acD n _) (SR n e)) (aj (dQ (Nat.mul_le_mul (aj (wg _ _) a0) F) F) ∅)
    have ax:((n.hl.take o).flatMap (kI n)).map bI++(kI n e).map bI=((n.hl.take (o+1)).flatMap (kI n)).map bI:=by
     rw[rH,hx,AB,cy];show _=_++oB bI (kI n e++[]);rw[c8]
    refine b7 (b:=(rt n).contains e.1) (pO (ah J) (ah J) J) (λM=>?_) λM=>?_
    .have Q:kI n e=(bx n.size n.me).map λh=>.aq n.aE n.me h e.1 e.2.1:=az M
     refine mG (es:=(kI n e).map bI) (x:="left") J H D aJ (bF ?_) J V ?_
     .rw[show(kI n e).map bI=(bx n.size n.me).map λh=>bI (.aq n.aE n.me h e.1 e.2.1) by rw[Q,bV];rfl];exact uh (ts:=bx n.size n.me) (enc:=.int) (g:=λh=>bI (.aq n.aE n.me h e.1 e.2.1)) (dU (ah J)).it (λw z m E v y=>⟨_,cW aJ,b8 J cX,bQ (aN (dR (by decide+kernel)) (bl J (bl J (bl J (bl J (bl J aZ))))))⟩) N
     exact aG (aG (cP ⟨(az J).trans (aR (λR=>U (Cn.l R)) ax),D,rfl,rfl,rfl,rfl,rfl⟩))
    have Q:kI n e=((bx n.size n.me).filter λh=>!e.2.2.contains h).map λh=>.accept n.aE n.me h e.1 e.2.1:=aB (by rw[M];exact i7)
    refine mG (es:=(kI n e).map bI) (x:="left") J H D aJ (bF ?_) J V ?_
    .rw[show(kI n e).map bI=((bx n.size n.me).filter λh=>!e.2.2.contains h).map λh=>bI (.accept n.aE n.me h e.1 e.2.1) by rw[Q,bV];rfl];exact rZ (ts:=bx n.size n.me) (enc:=.int) (g:=λh=>bI (.accept n.aE n.me h e.1 e.2.1)) (dU (ah J)).it (λw z m E v y=>⟨_,cW aJ,b8 J cX,jt (E7 (ah J) (ah J) J),λw=>bQ (aN (dR (by decide+kernel)) (bl J (bl J (bl J (bl J (bl J aZ))))))⟩) N J
    exact aG (aG (cP ⟨(az J).trans (aR (λR=>U (Cn.l R)) ax),D,rfl,rfl,rfl,rfl,rfl⟩))
  intro t k C A;intros t k _ C A;let ⟨H,D,T,ae,a6,a5,O⟩:=A;let ⟨m,bk,a7,zy⟩:=gv (c:=I.fn (ze P) 148 G λw=>False) C;refine aG (lQ (uY (ah O) (H.trans ?_) av) J);rw[aP,oF,bp]
 unfold kD;rw[aB i,aB (of_decide_eq_false p)];rfl
end
open Mine.Ex renaming SQ->B9,SP->E8
def acF{b:Type}{a:List b}{k:Int}{c:b}(h:a[bT k (aa a)]?=U c):cY a k=a++[c]:=by unfold cY;rw[h];rfl
section
variable {c:C}{ρ:Nm}{k:eV}{rest:dH}{P:eH}{R:d9}{x y z:Str}{a:ak}{ds:aH}{kk:Int}{p1 p2 p3 p4 p5 p6 p7 p8 p9 Ca Ks SS p13:Pos}
def Ex.SV(g:ρ.lookup x=U (.r a))(hs:c.σ a=U (.l ds))(hw:c.wr a)(p:¬c.B a)(E:ρ.lookup z=U (.d (.int kk)))(hz:aa ds+1<=bf)
 (t:∀M σ wr,(∀b e,b≠a->c.σ b=U e->σ b=U e)->(∀b,b≠a->c.wr b->wr b)->Ex (c.set M σ wr) ((x,.d (.lst (cY ds kk)))::ρ) (rest::k) P R)
 (hl:autoParam (c.env.kindOf "len"=U .globalImplicit) aI) (hi:autoParam (interactive c.env=aA) aI) (hsw:autoParam (swapsWith (.Call (.Attribute (.Name x p2) "append" p3) [.Subscript (.Name x p4) (.BinOp (.Name z p5) .Mod (.Call (.Name "len" p6) [.Name x p7] [] p8) p9) Ca] [] Ks) ai SS.line c.env=pure aA) aI) (y:autoParam (attributeBase (.Name x p2) "append" c.env (eval (.Name x p2) c.env)=eval (.Name x p2) c.env) aI) (A:autoParam ((p3.endLine==Ks.line)=af) aI):
 Ex c ρ ((.If (.Name x p1) [.Expr (.Call (.Attribute (.Name x p2) "append" p3) [.Subscript (.Name x p4) (.BinOp (.Name z p5) .Mod (.Call (.Name "len" p6) [.Name x p7] [] p8) p9) Ca] [] Ks) SS] [] p13::rest)::k) P R:=by
 refine b7 (b:=!ds.isEmpty) (rU (ah g) (by show(match c.σ a with|some (.l ds)=>U (!ds.isEmpty)|_=>ai)=_;rw[hs])) (λf=>?_) λf=>aG ?_
 .have F:ds≠[]:=λh=>by rw[h] at f;cases f
  have n:=LP.mpr F;have q:=tP kk n;have o:=dZ q;have w:((bT kk (aa ds):Nat):Int)=kk.fmod (aa ds):=qf (CV kk (dB.mpr n));refine kY (qF (x:=ds[bT kk (aa ds)]) (ah g) hs hw (kT (ah g) hs (dY (ah E) (lO (ah g) (by show(match c.σ a with|some (.l ds)=>U (aa ds)|some (.i kvs)=>U (aa kvs)|some (.s ks)=>U (aa ks)|_=>ai)=_;rw[hs]) hl) (qw λv=>pR n (oN v))) (j:=bT kk (aa ds)) (by rw[<-w];exact g9 q) o) hz y A) (λH K I C=>?_) hi hsw;let ⟨D,_⟩:=C;subst D;refine aG (BL (a:=a) (x:=x) (ds:=ds++[ds[bT kk (aa ds)]]) g (az J) p ?_);rw[<-acF o];exact t _ _ _ (λb e f h=>(aB f).trans ((aB f).trans h)) λb f m=>⟨m,f⟩
 have u:ds=[]:=by cases ds with
  |nil=>rfl
  |cons G ds=>cases f
 subst u;exact BL (a:=a) (x:=x) (ds:=[]) g hs p (t _ _ _ (λb e f h=>(aB f).trans h) λb f m=>⟨m,f⟩)
end
noncomputable def vH{a:Type}[DecidableEq a](c b:List a):List a:=match c with
 |[]=>b
 |p::_=>b.takeWhile λd=>decide (d≠p)
def zV(b:aH)(h:a<=aa b):j7 b ai (U (a:Int))=b.take a:=by
 unfold j7;show(b.drop 0).take (clipAt (aa b) a-0)=_;rw[DA,sQ h];rfl
def Ku(b:aH)(h:a<=aa b):j7 b (U (a:Int)) ai=b.drop a:=by
 unfold j7;show(b.drop (clipAt (aa b) a)).take (aa b-clipAt (aa b) a)=_;rw[DA,sQ h];exact Aq (by rw[GH];exact cB _)
def acG{c:Type}(b:c->Bool):∀a:List c,a.take (a.takeWhile b).length=a.takeWhile b:=by
 intro e
 induction e with
 |nil=>
  exact J
 |cons f a d=>
  rw[j4];split
  .exact aR (f::·) (d)
  rfl
def acH{e:Type}[DecidableEq e]{c:e}:∀{b:List e},c∈b->b[(b.takeWhile λa=>decide (a≠c)).length]?=U c:=by
 intro h
 induction h with
 |nil=>exact λf=>gS f
 |cons i b g=>
  intro f;rw[j4]
  by_cases d:i=c
  .rw[decide_eq_false (λa=>a d),aB i7,d];rfl
  rw[decide_eq_true d,az J];exact g ((bN.mp f).resolve_left λa=>d a.symm)
def acI{e:Type}(c:e->Bool):∀{a:List e} {i:Nat} {d:e},i<(a.takeWhile c).length->a[i]?=U d->c d=af:=by
 intro h
 induction h with
 |nil=>
  intro i d b _;exact aV b (FQ _)
 |cons j a g=>
  intro i d b f;rw[j4] at b;cases hp:c j with
  |false=>rw[hp] at b;exact aV b (FQ _)
  |true=>
   rw[hp] at b;cases i with
   |zero=>cases f;exact hp
   |succ i=>exact g (Nat.lt_of_succ_lt_succ b) f
section
variable {c:C}{ρ:Nm}{k:eV}{rest:dH}{P:eH}{R:d9}{x y z:Str}{T:Type}[DecidableEq T]{enc:T->D}{ts bs:List T}{p1 p2 p3 p4 p5 p6 p7 p8 p9 Ca:Pos}{n0:Nat}
def Ex.SW(n:∀a b,dS (enc a) (enc b)=decide (a=b))(E:∀a,(enc a).dep<=400)(o:ρ.lookup x=U (.d (.lst (ts.map enc))))(hz:ρ.lookup z=U (.d (.lst (bs.map enc))))(A:ρ.lookup y=U (.d (.lst (ts.map enc))))(w:∀b∈bs,b∈ts)(B:gH c y)
 (p:Ex c ((y,.d (.lst ((vH bs ts).map enc)))::ρ) (rest::k) P R)
 (t:autoParam (attributeBase (.Name x p3) "index" c.env (eval (.Name x p3) c.env)=eval (.Name x p3) c.env) aI) (u:autoParam ((p4.endLine==p7.line)=af) aI)
 (hsw:autoParam (swapsWith (.Subscript (.Name x p2) (.Slice ai (U (.Call (.Attribute (.Name x p3) "index" p4) [.Subscript (.Name z p5) (.Constant (.int 0) n0 p6) e] [] p7)) ai p8) p9) (U (.Name y p1)) Ca.line c.env=pure aA) aI):
 Ex c ρ ((.If (.Name z f) [.Assign [.Name y p1] (.Subscript (.Name x p2) (.Slice ai (U (.Call (.Attribute (.Name x p3) "index" p4) [.Subscript (.Name z p5) (.Constant (.int 0) n0 p6) e] [] p7)) ai p8) p9) Ca] [] g::rest)::k) P R:=by
 cases bs with
 |nil=>
  refine b7 (b:=aA) (rU (ah hz) J) (λm=>oO m) λZ=>aG (fO p λs H i=>?_)
  rw[iF] at i;cases hw:s==y with
  |true=>rw[hw] at i;cases i;rw[beq_iff_eq.mp hw];exact A
  |false=>rw[hw] at i;exact i
 |cons b bs=>
  have q:=w b (.head _);have r:(ts.takeWhile λh=>decide (h≠b)).length<=(ts.map enc).length:=by rw[aP];exact(AH _).length_le
  refine b7 (b:=af) (rU (ah hz) J) (λZ=>?_) λm=>s9 m
  refine fN (v:=.d (.lst ((vH (b::bs) ts).map enc))) (bF ?_) B (aG p) hsw
  have D:j7 (ts.map enc) ai (U ((ts.takeWhile λh=>decide (h≠b)).length:Int))=(vH (b::bs) ts).map enc:=by
   rw[zV _ r,<-AA,acG];rfl
  rw[<-D];refine tE (ah o) J .none (.int (Ev.index (x:=enc b) (ah o) J (kT (ah hz) J aQ (j:=0) (g9 (j:=0) (pT _)) J) ⟨enc b,?_,?_⟩ (λF G C l=>?_) ?_ t u))
  .rw[cC,acH q];rfl
  .rw[n];exact decide_eq_true J
  .rw[cC] at l;cases hq:ts[F]? with
   |none=>rw[hq] at l;cases l
   |some h=>
    rw[hq] at l;cases l;rw[n];have:=eZ (acI (λh=>decide (h≠b)) C hq);exact decide_eq_false this
  exact aj (vU _ _) (E b)
end
def acJ(n:Nat)(c:Int)(b:Int->D):((bu n).map λa=>if decide (a≠c) then[b a] else[]).flatten=(bx n c).map b:=by
 unfold bx
 induction bu n with
 |nil=>rfl
 |cons f e d=>rw[dM,yf,d,gk];split<;>rfl
section
variable {c:C}{ρ:Nm}{pos:Pos}
def Cp.oth2{s:Type}{ts:List s}{enc:s->D}{g:s->Int->D}{y B iter:aT}{scope:gh}{n:Nat}{m:Int}{x v o:Str}{F ax G X I V Y:Pos}(z:n<=4)(R:aa ts<=10000)(P:It c ρ iter (ts.map enc))
 (E:∀b e M f a,a∈ts->∃h,iV (c.into scope b e M f) B (enc a) h/\(∀k∈h,(fj scope ρ).lookup k.1=ai)/\(h++fj scope ρ).lookup x=U (.d (.int n))/\(h++fj scope ρ).lookup v=U (.d (.int m))/\(h++fj scope ρ).lookup o=ai/\∀i,Ev (c.into scope b e M f) ((o,.d (.int i))::(h++fj scope ρ)) y (.d (g a i)))
 (J:v≠o) (Z:∀b e M f,gH (c.into scope b e M f) o:=by intros;exact aJ) (aw:autoParam (kX c.env.kindOf (λj=>(ρ.lookup j).isSome) scope=af) aI) (hs:autoParam (∀j,foldedSetIterable iter c.env j=pure j) lH) (av:∀b e M f,(c.into scope b e M f).env.kindOf "range"=U .globalImplicit:=by intros;rfl):
 Cp c ρ (.ListComp y [⟨B,iter,[],0⟩,⟨.Name o Y,.Call (.Name "range" F) [.Name x ax] [] G,[.Compare (.Name o X) [.NotEq] [.Name v I] V],0⟩] scope pos) (.l (ts.flatMap λa=>(bx n m).map (g a))):=by
 have C:(ts.map λa=>(bx n m).map (g a)).flatten=ts.flatMap λa=>(bx n m).map (g a):=(ym ..).symm
 have S:∀a,((bx n m).map (g a)).length<=4:=λa=>by rw[aP];exact aj (fZ _ _) (aj (cj (k7 n)) z)
 have H:∀q:List s,(q.flatMap λa=>(bx n m).map (g a)).length<=aa q*4:=λq=>by
  induction q with
  |nil=>exact cL _
  |cons a q O=>rw[sW,bO,iz,Ct,kK];exact dQ O (S a)
 rw[<-C];refine Cp.Pc (ds:=ts.map enc) (by rw[aP,aP]) ?_ P (λb e M f au a0 a4 r w=>?_) aw hs (λ_ _=>rfl)
 .rw[C];exact aj (H ts) (aj (Ad 4 R) ∅)
 rw[cC] at r w;cases ht:ts[au]? with
 |none=>rw[ht] at r;cases r
 |some a=>
  rw[ht] at r w;cases r;cases w;let ⟨h,ae,K,T,W,Q,L⟩:=E b e M f a (iZ ht);refine⟨h,af,ae,K,mF,λ_=>⟨(bu n).map .int,(bu n).map λi=>if decide (i≠m) then[g a i] else[],(eG.ints (aj z ∅) (ah T) (av b e M f)).it,(aP _).trans (aP _).symm,(acJ n m (g a)).symm,λi a3 a5 p u=>?_⟩,λN=>s9 N⟩;rw[cC] at p u;cases hj:(bu n)[i]? with
  |none=>rw[hj] at p;cases p
  |some A=>
   rw[hj] at p u;cases p;cases u;refine⟨_,decide (A≠m),cW (Z b e M f),b8 Q cX,jt (B8 (ah rW) (ah ((gI J).trans W))),λt=>⟨_,L A,az t⟩,λt=>aB (rM.mp t)⟩
end
def E9(b:dG):jE 1 (b.map bq)=(bh b).map eB:=by
 intros b;unfold jE bh;apply kO;intro a;intros a;rw[mX,cC,cC,mX];cases b[a]? with
 |none=>rfl
 |some c=>show U (gn [.int (1+(a:Int)),bq c])=U (gn [.int ((a:Int)+1),bq c]);rw[GN]
def ndD{b:aO}{a:Nat}(h:a<aa b):(b.map aX)[a]?=U (aX (nd b (a:Int))):=by rw[cC,dZ h,fW (dZ h)];rfl
def Fb{n:Nat}{a:Int}(h:a∈bu n):dP n a:=ua.mp h
section
variable {c:C}{ρ:Nm}{e₁ e₂:aT}{v:V}{N:aO}{j:Int}{pos:Pos}
def Ev.acK(hj:dP (aa N) j)(h:Ev c ρ e₁ v)(e:iA c v (N.map aX))(f:Ev c ρ e₂ (.d (.int j)))(hs:autoParam (uS e₂=aA) aI):Ev c ρ (.Subscript e₁ e₂ pos) (.d (aX (nd N j))):=by
 have b:j=(j.toNat:Int):=(qf hj.1).symm;have a:j.toNat<aa N:=(AI hj.1).mpr hj.2;exact kT h e f (by rw[b];exact g9 (by rw[aP];exact a)) (by have:=ndD a;rwa [<-b] at this) hs
end
def um(d:aO)(f:Nat)(a:aD)(b:aL)(e:aH)(c:bZ):aH:=match c with
 |p::_=>[.str "idle",aK ((nd d p.2).promised.1,(f:Int)),.lst []]
 |[]=>if decide (a.phase=2) then[.str "leading",aK b,.lst e] else[.str (jm a.phase),aK a.aE,.lst (jd a)]
def five(n:aD):aH:=[.int n.me,.int n.size,aK n.promised,.lst (n.acc.map ck),.lst (n.aq.map eB)]
section
variable {P:Params}{c:C}{Lx:ak}{M:bC}{σ:Sg}{wr:bC}
def acL{me:Nat}{a j tl:aH}{b:aD}{g i:ak}{ρ:Nm}{Pp:eH}(m:a[me]?=U (aX b))(hz:aa a<=1000)(n:aa tl=3)(o:σ g=U (.l j))(f:σ i=U (.l a))(p:¬c.M g)(s:¬c.M i)
 (h1:cU ρ "acts" (.r g)) (h2:cU ρ "after" (.r i)) (h:cU ρ "me" (.d (.int me))) (q:cU ρ "tail" (.d (.tup tl))):
 Ex ((c.fn (lV P) 143 Lx λz=>False).set M σ wr) ρ [(jc P).drop 22] Pp (λz d=>d=.tup [.lst j,.lst (a.take me++[.tup (five b++tl)]++a.drop (me+1))]):=by
 unfold jc bodyPick;have e:me<aa a:=(fH.mp m).1;refine lQ (DP (r5 (uY (ah h1) o p) (r5 (nE (bF ?_)) DQ))) J;have k:(a.take me++[gn (five b++tl)]).length<=1000:=by rw[bO,uC];exact aj (gg (oA _ _) 1) (aj e hz)
 refine mE (bF (mE (ds:=a.take me) (es:=[.tup (five b++tl)]) (bF ?_) (bF (eL (aN (dY (sD (ds:=five b++[.str (jm b.phase),aK b.aE,.lst (jd b)]) (out:=five b) (l:=ai) (u:=U 5) (kT (ah h2) f (ah h) (g9 e) m) .none (.int aQ) J) (ah q) (oV ?_)) aZ) (bM J))) J J (aj k (bM J)))) (bF ?_) J J ?_
 .rw[<-zV a (gf e)];exact tE (ah h2) f .none (.int (ah h))
 .rw[bO,n];exact bM J
 .rw[<-Ku a e];exact tE (ah h2) f (.int (dY (ah h) aQ qt)) .none
 rw[bO];exact aj (dQ k (aj (cj GH) (aj (vP _ _) hz))) ∅
end
open Mine.Ev renaming acK->k8
section
variable {P:Params}{c:C}{Lx:ak}{M:bC}{σ:Sg}{wr:bC}
def SX(h:aO)(e:Nat)(f:aD)(b:aL)(i:aH)(a:bZ)(g c:ak):Nm:=[("nodes",.d (.lst (h.map aX))),("me",.d (.int e)),("old",.d (aX f)),("b",.d (aK b)),("props",.d (.lst i)),("bad",.d (.lst (a.map aK))),("acts",.r g),("after",.r c)]
def acM{h:aO}{me:Nat}{g nm:aD}{b:aL}{Ns As props:aH}{i:bZ}{a e:ak}{Pp:eH}(p:g.phase<=2)(t:∀f∈i,dP (aa h) f.2)(y:Ns[me]?=U (aX nm))(hz:aa Ns<=1000)(q:σ a=U (.l As))(o:σ e=U (.l Ns))(s:¬c.M a)(z:¬c.M e):
 Ex ((c.fn (lV P) 143 Lx λZ=>False).set M σ wr) (SX h me g b props i a e) [(jc P).drop 19] Pp (λZ d=>d=.tup [.lst As,.lst (Ns.take me++[.tup (five nm++um h me g b props i)]++Ns.drop (me+1))]):=by
 intros P c Lx M σ wr h me g _ nm b Ns As props i a e Pp p t y hz q o s z;intros nm b Ns As props i a e Pp _ p t y hz q o s z;have r:=λ{tl:aH} {E:Nm} (C:aa tl=3)=>acL (P:=P) (c:=c) (Lx:=Lx) (M:=M) (σ:=σ) (wr:=wr) (me:=me) (ρ:=E) (Pp:=Pp) y hz C q o s z
 unfold jc bodyPick at r⊢;refine fN (v:=.d (.tup [.str (jm g.phase),aK g.aE,.lst (jd g)])) (sD (l:=U 5) (u:=ai) (ah J) (.int aQ) .none J) aJ ?_
 have w:∀m:aH,(m=if decide (g.phase=2) then[.str "leading",aK b,.lst props] else[.str (jm g.phase),aK g.aE,.lst (jd g)])->Ex ((c.fn (lV P) 143 Lx λZ=>False).set M σ wr) (("tail",.d (.tup m))::SX h me g b props i a e) [(jc P).drop 21] Pp (λZ d=>d=.tup [.lst As,.lst (Ns.take me++[.tup (five nm++um h me g b props i)]++Ns.drop (me+1))]):=λm A=>by
  have B:aa m=3:=by rw[A];split<;>rfl
  unfold jc bodyPick;cases i with
  |nil=>
   refine b7 (b:=aA) (rU (ah J) J) (λk=>oO k) λZ=>aG ?_
   have:um h me g b props []=m:=A.symm;rw[this];exact r B J J J J
  |cons f i=>
   refine b7 (b:=af) (rU (ah J) J) (λZ=>?_) λk=>s9 k
   refine fN (v:=.d (.tup [.str "idle",aK ((nd h f.2).promised.1,(me:Int)),.lst []])) (bQ (aN (dR (by decide+kernel)) (aN (bQ (aN (br (ds:=[.int (nd h f.2).promised.1,.int (nd h f.2).promised.2]) (j:=0) (br (j:=2) (x:=aK (nd h f.2).promised) (k8 (t f (.head _)) (ah J) J (br (ds:=[.int f.1,.int f.2]) (j:=1) (kT (j:=0) (ah J) J aQ (g9 (j:=0) (pT _)) J) aQ J J)) aQ J J) aQ J J) (bl J aZ))) (aN (bF (eL aZ)) aZ)))) aJ (aG ?_);exact r (tl:=um h me g b props (f::i)) J J J J J
 unfold jc bodyPick at w;refine b7 (b:=decide (g.phase=2)) ?_ (λn=>?_) λn=>aG (w _ (aB (rM.mp n)).symm)
 .rw[<-mK p];exact bS (br (j:=5) (ah J) aQ J J) (dR (by decide+kernel)) (gz minZ)
 refine fN (v:=.d (.tup [.str "leading",aK b,.lst props])) (bQ (aN (dR (by decide+kernel)) (bl J (bl J aZ)))) aJ (aG (fO (w _ (az n).symm) (jY λD F k=>?_)));rw[iF];cases hx:D==("tail":Str) with
 |true=>rw[beq_iff_eq.mp hx] at k;cases k
 |false=>exact k
end
def SY(a b:aL):D.ord .LtE (aK a) (aK b)=U (!blt b a):=by
 intros a b;show(if dS (.int a.1) (.int b.1) then if dS (.int a.2) (.int b.2) then U (decide (2<=2)) else U (decide (a.2<=b.2)) else U (decide (a.1<=b.1)))=_;simp only[kB,blt]
 by_cases c:a.1=b.1
 .by_cases d:a.2=b.2
  .simp[c,d]
  simp[c,d,<-iI]
 have:¬b.1=a.1:=λe=>c e.symm
 simp[c,this,<-iI]
def Sub.acN:∀{b:Nm},(∀a∈b,c.lookup a.1=ai)->Sub c d->Sub c (b++d):=by
 intro j
 induction j with
 |nil=>
  intro _ e;exact e
 |cons a b g=>
  intro f e;exact gw (g (λh i=>f h (.tail _ i)) e) (f a (.head _))
def Sub.all{a b:Nm}(h:(a.map λp=>b.lookup p.1)=a.map λp=>U p.2):Sub a b:=by
 induction a with
 |nil=>exact Sub.nil
 |cons p a c=>exact BU (Dg h).1 (c (Dg h).2)
def Sub.refl:Sub a a:=λz z b=>b
def acO{a:Type}(b:List (Int×a))(c:Int×a):(bB b c).length<=aa b+1:=by
 unfold bB;rw[(wZ _).length_eq,bO];exact gg (fZ _ _) 1
def acP{a:Type}{b:List (Int×a)}{c:Int×a}(h:Nk b):Nk (bB b c):=tN (ER h c)
def iP{a b:Type}(e:b->Bool)(f:b->Int×a)(c:List (Int×a))(d:b):List (Int×a):=if e d then bB c (f d) else c
def S0{i e:Type}(c:e->Bool)(d:e->Int×i){b:List (Int×i)}(h:Nk b):∀a:List e,Nk (a.foldl (iP c d) b)/\(a.foldl (iP c d) b).length<=aa b+aa a:=λa=>by
 induction a generalizing b with
 |nil=>exact⟨h,cB _⟩
 |cons f a g=>
  have j:Nk (iP c d b f):=by unfold iP;split;exact acP h;exact h
  have k:(iP c d b f).length<=aa b+1:=by unfold iP;split;exact acO _ _;exact jw _
  refine⟨(g j).1,aj (g j).2 ?_⟩;rw[iz,kK (aa a) 1,<-rC];exact gg k _
section
variable {c:C}{ρ f9:Nm}{k:eV}{rest:dH}{P:eH}{R:d9}{x:Str}{pos:Pos}
def Ex.S1{n:Type}{ts:List n}{enc:n->D}{v:Nat->V}{o iter:aT}{body:dH}(r:eG c ρ iter (ts.map enc))(h0:cU ρ x (v 0))(t:Sub f9 ρ)
 (q:∀i e,ts[i]?=U e->∃b,iV c o (enc e) b/\Ex c (b++(x,v i)::f9) [body] (λd a=>d=c/\cU a x (v (i+1))/\Sub f9 a) R)
 (u:∀ρ a:Nm,Sub ρ a->∀b,Sub (b++ρ) (b++a))
 (m:Ex c ((x,v (aa ts))::f9) (rest::k) P R) (hs:autoParam (∀x,foldedSetIterable iter c.env x=pure x) lH):Ex c ρ ((.For o iter body [] pos::rest)::k) P R:=by
 have p:∀{i a},cU a x (v i)->Sub f9 a->Sub ((x,v i)::f9) a:=λw m=>BU w m
 refine Ex.for (Inv:=λi d a=>d=c/\cU a x (v i)/\Sub f9 a) r ⟨rfl,h0,t⟩ (λi z d a Z f h=>?_) (λd a Z h=>?_) hs
 .let ⟨j,g,l⟩:=h;rw[cC] at f;cases ht:ts[i]? with
  |none=>rw[ht] at f;cases f
  |some e=>
   rw[ht] at f;cases f;subst j;let ⟨b,s,y⟩:=q i e ht;exact⟨b,s,fO y (u _ _ (p g l) b)⟩
 let ⟨j,g,l⟩:=h;subst j;rw[aP] at g;exact fO m (p g l)
end
def Sub.app(h:Sub c b):∀a:Nm,Sub (a++c) (a++b):=by
 intro e
 induction e with
 |nil=>
  exact h
 |cons _ a d=>
  exact jY (d)
section
variable {g:G0}{Pr:Params}(W:WW g Pr){c:C}{ρ f9:Nm}{k:eV}{rest:dH}{P:eH}{R:d9}{x:Str}{pos p1 p2 p3 p4 p5 p6:Pos}
include W
def Ex.S2{o m:Type}{j:Int×o->D}{M:Int×o->aH}{ts:List m}{enc:m->D}{q:m->Bool}{row:m->Int×o}{h:List (Int×o)}{B iter y l:aT}(G:c.toG0=g)(I:ug j M)(T:1<=c.n)(Q:Nk h)(hl:aa h+aa ts<63)(K:eG c ρ iter (ts.map enc))(h0:cU ρ x (.d (.lst (h.map j))))(L:Sub f9 ρ)
 (C:∀e a,a∈ts->∃b,iV c B (enc a) b/\(∀f∈b,f9.lookup f.1=ai)/\(b++(x,e)::f9).lookup x=U e/\bX c (b++(x,e)::f9) y (q a)/\Ev c (b++(x,e)::f9) l (.d (j (row a))))
 (X:gH c x) (z:f9.lookup x=ai) (Z:Ex c ((x,.d (.lst ((ts.foldl (iP q row) h).map j)))::f9) (rest::k) P R) (hs:autoParam (∀x,foldedSetIterable iter c.env x=pure x) lH) (F:autoParam (c.env.kindOf "_law_put"=U .globalImplicit) aI) (N:autoParam (ee [.Name x p2,l]=af) aI) (Y:autoParam (cD l=aA) aI) (hsw:autoParam (swapsWith (.Call (.Name "_law_put" p1) [.Name x p2,l] [] p3) (U (.Name x p4)) p5.line c.env=pure aA) aI):
 Ex c ρ ((.For B iter [.If y [.Assign [.Name x p4] (.Call (.Name "_law_put" p1) [.Name x p2,l] [] p3) p5] [] p6] [] pos::rest)::k) P R:=by
 refine Ex.S1 (v:=λi=>.d (.lst (((ts.take i).foldl (iP q row) h).map j))) K h0 L (λi a s=>?_) (λ_ _ H=>Sub.app H) (by rwa [oF]) hs;let ⟨b,O,S,u,E,V⟩:=C (.d (.lst (((ts.take i).foldl (iP q row) h).map j))) a (iZ s);refine⟨b,O,?_⟩;have A:(ts.take (i+1)).foldl (iP q row) h=iP q row ((ts.take i).foldl (iP q row) h) a:=by rw[rH,s,j3];rfl
 have w:Sub f9 (b++(x,.d (.lst (((ts.take i).foldl (iP q row) h).map j)))::f9):=Sub.acN S (gw Sub.refl z);have t:=S0 q row Q (ts.take i);refine b7 E (λp=>?_) λp=>aG (aG (cP ⟨rfl,?_,w⟩))
 .have r:iP q row ((ts.take i).foldl (iP q row) h) a=bB ((ts.take i).foldl (iP q row) h) (row a):=az p;rw[<-G] at W;refine fN (nJ (SG W I t.1 ?_) W.QH (by rw[W.hK];rfl) (cR (ah u) (cR V eX Y)) T trivial F J N) X (aG (aG (cP ⟨rfl,?_,gw w z⟩))) hsw
  .exact eK t.2 (eK (gc (wg _ _) _) hl)
  rw[A,r];exact rW
 have r:iP q row ((ts.take i).foldl (iP q row) h) a=(ts.take i).foldl (iP q row) h:=aB (rM.mp p);rw[A,r];exact u
end
open Mine.Sub renaming all->k9,refl->lZ
section
variable {c:C}{ρ:Nm}{e e₁ e₂:aT}{v:V}{pos:Pos}{i j:Int}
def bX.Fc(b:Ev c ρ e₁ (.d (.int i)))(e:Ev c ρ e₂ (.d (.int j)))(a:behindInMarks .Eq e₂=aA:=by with_unfolding_all rfl):bX c ρ (.Compare e₁ [.Eq] [e₂] pos) (decide (i=j)):=by
 rw[<-kB];exact bS b e (gz minZ) a
def iT.Kv(h:bX c ρ e b):iT c ρ .Or [e] b:=by
 have:=tD h λz=>Ox
 rwa [wA] at this
def bX.Kw{a:bZ}{x:Int×Int}(f:Ev c ρ e₁ (.d (aK x)))(g:Ev c ρ e₂ v)(e:iA c v (a.map aK))(b:behindInMarks .In e₂=aA:=by with_unfolding_all rfl):bX c ρ (.Compare e₁ [.In] [e₂] pos) (a.contains x):=by
 rw[<-acv];exact bS f g (Cmp.Qz e (aj (vU _ _) (lX x))) b
def bX.lead(k:n.phase<=2)(i:ρ.lookup f=U (.d (aX n)))(e:behindInMarks .Eq (.Constant (.str "leading") a b)=aA:=by with_unfolding_all rfl):bX c ρ (.Compare (.Subscript (.Name f p1) (.Constant (.int 5) h p2) g) [.Eq] [.Constant (.str "leading") a b] pos) (decide (n.phase=2)):=by
 rw[<-mK k];exact bS (br (j:=5) (ah i) aQ J J) (dR (by decide+kernel)) (gz minZ) e
end
def S3:ug ck (λa=>[aK a.2.1,bq a.2.2]):=⟨λz=>rfl,λa=>aj (Kn a) ∅⟩
def acQ:ug eB (λa=>[bq a.2]):=⟨λz=>rfl,λa=>by unfold eB;simp[D.dep,D.dO,zU]⟩
def Cb(e:bZ)(b:aL)(c:aD)(a:Int):bZ:=e.filter λd=>decide (d.2=a)&&!blt b c.promised
def xO(c n:Nat)(b:aL)(d:bZ)(a:aD):aD:=if d.isEmpty then a else⟨c,n,b,a.acc,a.aq,0,a.aE,[],[]⟩
def Fd(d:Nat)(b:aL)(g:bR)(c:Bool)(f:bZ)(e:bU):bU:=g.foldl (iP (λa=>c||f.contains (a.1,(d:Int))) λa=>(a.1,(b,a.2))) e
def Fe(b:bR)(c:Bool)(a:bR):bR:=b.foldl (iP (λz=>c) id) a
def vI(d n:Nat)(b:aL)(f h:bR)(c g:Bool)(e:bZ)(a:aD):aD:=
 {xO d n b e a with acc:=Fd d b f c e a.acc,aq:=Fe h (c||g) a.aq}
def acR(c n:Nat)(b:aL)(d:bZ)(a:aD):(xO c n b d a).acc=a.acc:=by unfold xO;split<;>rfl
def acS(c n:Nat)(b:aL)(d:bZ)(a:aD):(xO c n b d a).aq=a.aq:=by unfold xO;split<;>rfl
noncomputable def zW(a:Params):dH:=EO ((jc a).drop 18)
def S4(a:aO)(j:Nat)(f:aD)(b:aL)(i:aH)(g c:bZ)(e l:bR)(h:aF)(k:ak):Nm:=[("nodes",.d (.lst (a.map aX))),("me",.d (.int j)),("old",.d (aX f)),("b",.d (aK b)),("props",.d (.lst i)),("bad",.d (.lst (g.map aK))),("acts",.r k),("n",.d (.int (aa a))),("hit",.d (.lst (c.map aK))),("full",.d (.lst (e.map eB))),("new",.d (.lst (l.map eB))),("back",.d (.lst (h.map .int)))]
def xQ(h:aO)(j:Nat)(e:aD)(b:aL)(i:aH)(f a:bZ)(c l:bR)(g:aF)(k d:ak):Nm:=("after",.r d)::S4 h j e b i f a c l g k
section
variable {g:G0}{P:Params}(W:WW g P){c:C}{Lx:ak}{M:bC}{σ:Sg}{wr:bC}
include W
def acT(r:c.toG0=g)(t:2<=c.n){k:aO}{me i:Nat}{L:aD}{b:aL}{props Ns:aH}{bad hit:bZ}{full new:bR}{back:aF}{a e:ak}{R:d9}(hj:i<aa k)(C:Nk (nd k i).acc)(E:Nk (nd k i).aq)(G:(nd k i).acc.length+aa full<63)(y:(nd k i).aq.length+aa new<63)(D:aa hit<=bf)(w:σ e=U (.l Ns))(hw:wr e)(hz:aa Ns+1<=bf):
 Ex ((c.fn (lV P) 143 Lx λX=>False).set M σ wr) (("j",.d (.int i))::xQ k me L b props bad hit full new back a e) [zW P] (λf h=>f=((c.fn (lV P) 143 Lx λX=>False).set M σ wr).upd e (.l (Ns++[aX (vI i (aa k) b full new (decide ((i:Int)=me)) (back.contains (i:Int)) (Cb hit b (nd k i) i) (nd k i))]))/\Sub (xQ k me L b props bad hit full new back a e) h) R:=by
 intros g P c Lx M σ wr k me i L _ W r t b props Ns bad hit full new back a e R hj C E G y D w hw hz;intros b props Ns bad hit full new back a e R _ W r t hj C E G y D w hw hz;have Q:dP (aa k) (i:Int):=⟨fJ _,dB.mpr hj⟩;unfold zW jc bodyPick;refine fN (k8 Q (ah J) J (ah J)) aJ ?_;refine pN (ts:=hit) (enc:=aK) (g:=aK) (q:=λK=>decide (K.2=(i:Int))&&!blt b (nd k i).promised) (dU (ah J)).it (λX Z M au z H=>⟨_,cW aJ,b8 J cX,jt (iU (ia (bX.Fc (br (j:=1) (ah J) aQ J J) (ah J)) λX=>xN (bS (br (j:=2) (ah J) aQ J J) (ah J) (uR (op:=.LtE) (SY _ _) (lX _) J)))),λX=>ah J⟩) D aJ ?_;change Ex _ (("took",.d (.lst ((Cb hit b (nd k i) i).map aK)))::_) _ _ _;generalize Cb hit b (nd k i) i=o
 have F:∀m:aD,m=xO i (aa k) b o (nd k i)->Ex ((c.fn (lV P) 143 Lx λX=>False).set M σ wr) (("node",.d (aX m))::("took",.d (.lst (o.map aK)))::("j",.d (.int i))::xQ k me L b props bad hit full new back a e) [(zW P).drop 3] (λf h=>f=((c.fn (lV P) 143 Lx λX=>False).set M σ wr).upd e (.l (Ns++[aX (vI i (aa k) b full new (decide ((i:Int)=me)) (back.contains (i:Int)) o (nd k i))]))/\Sub (xQ k me L b props bad hit full new back a e) h) R:=λm A=>by
  have N:m.acc=(nd k i).acc:=A▸acR ..;have T:m.aq=(nd k i).aq:=A▸acS ..;have S:vI i (aa k) b full new (decide ((i:Int)=me)) (back.contains (i:Int)) o (nd k i)={m with acc:=Fd i b full (decide ((i:Int)=me)) o (nd k i).acc,aq:=Fe new (decide ((i:Int)=me)||back.contains (i:Int)) (nd k i).aq}:=by rw[A];rfl
  rw[S];unfold zW jc bodyPick;refine Ex.Kr (names:=["acc","cho"]) (vs:=[.d (.lst (m.acc.map ck)),.d (.lst (m.aq.map eB))]) (cR (br (j:=3) (ah J) aQ J J) (cR (br (j:=4) (ah J) aQ J J) eX)) (eU.mpr ⟨aJ,eU.mpr ⟨aJ,λX p=>gS p⟩⟩) J ?_;rw[N,T];refine Ex.S2 W r S3 (kJ t) C G (ts:=full) (enc:=eB) (q:=λs=>decide ((i:Int)=me)||o.contains (s.1,(i:Int))) (row:=λs=>(s.1,(b,s.2))) (f9:=("cho",.d (.lst ((nd k i).aq.map eB)))::("node",.d (aX m))::("took",.d (.lst (o.map aK)))::("j",.d (.int i))::xQ k me L b props bad hit full new back a e) (dU (ah J)) J (gw lZ J) (λO z H=>⟨_,j8 (.cons aJ (.cons aJ .nil)),b8 J (b8 J cX),rfl,iU (tD (bX.Fc (ah J) (ah J)) λX=>iT.Kv (bX.Kw (x:=(z.1,(i:Int))) (bQ (bl J (bl J aZ))) (ah J) J)),bQ (bl J (bl J (bl J aZ)))⟩) aJ J ?_;change Ex _ (("acc",.d (.lst ((Fd i b full (decide ((i:Int)=me)) o (nd k i).acc).map ck)))::_) _ _ _;generalize Fd i b full (decide ((i:Int)=me)) o (nd k i).acc=B;refine Ex.S2 W r acQ (kJ t) E y (ts:=new) (enc:=eB) (q:=λX=>decide ((i:Int)=me)||back.contains (i:Int)) (row:=id) (f9:=("acc",.d (.lst (B.map ck)))::("node",.d (aX m))::("took",.d (.lst (o.map aK)))::("j",.d (.int i))::xQ k me L b props bad hit full new back a e) (dU (ah J)) J (jY (gw lZ J)) (λO z H=>⟨_,cW aJ,b8 J cX,rfl,iU (tD (bX.Fc (ah J) (ah J)) λX=>iT.Kv (pO (ah J) (ah J) J)),ah J⟩) aJ J ?_;change Ex _ (("cho",.d (.lst ((Fe new (decide ((i:Int)=me)||back.contains (i:Int)) (nd k i).aq).map eB)))::_) _ _ _;generalize Fe new (decide ((i:Int)=me)||back.contains (i:Int)) (nd k i).aq=I;refine kY (qF (a:=e) (x:=aX {m with acc:=B,aq:=I}) (ah J) w hw (dY (dY (sD (l:=ai) (u:=U 3) (out:=[.int m.me,.int m.size,aK m.promised]) (ah J) .none (.int aQ) J) (bQ (ds:=[.lst (B.map ck),.lst (I.map eB)]) (bl J (bl J aZ)) (bM J)) (oV (bM J))) (sD (l:=U 5) (u:=ai) (out:=[.str (jm m.phase),aK m.aE,.lst (jd m)]) (ah J) (.int aQ) .none J) (oV (bM J))) hz) λf Y ae V=>?_
  exact aG (cP ⟨V.1,gw (gw (gw (gw (gw lZ J) J) J) J) J⟩)
 unfold zW jc bodyPick at F;cases o with
 |nil=>exact b7 (b:=aA) (rU (ah J) J) (λp=>oO p) λX=>aG (fO (F _ J) (BU J (jY (gw lZ J))))
 |cons K o=>
  refine b7 (b:=af) (rU (ah J) J) (λX=>?_) λp=>s9 p
  refine fN (v:=.d (aX ⟨i,aa k,b,(nd k i).acc,(nd k i).aq,0,(nd k i).aE,[],[]⟩)) (dY (dY (bQ (ds:=[.int i,.int (aa k),aK b]) (bl J (bl J (bl J aZ))) (bM J)) (sD (l:=U 3) (u:=U 5) (out:=[.lst ((nd k i).acc.map ck),.lst ((nd k i).aq.map eB)]) (ah J) (.int aQ) (.int aQ) J) (oV (bM J))) (bQ (ds:=[.str "idle",aK (nd k i).aE,.lst []]) (aN (dR (by decide+kernel)) (aN (br (j:=6) (ah J) aQ J J) (aN (bF (eL aZ (bM J))) aZ))) (bM J)) (oV (bM J))) aJ ?_;exact aG (fO (F _ J) (jY (jY (gw lZ J))))
end
open Mine.iT renaming Kv->S5
theorem Ex.bm(h:(∀b,a.B b->a.M b)->Ex a c k P R):Ex a c k P R:=by
 unfold Ex at h⊢;exact λe d f=>h d.bs.bm e d f
def pP(c:aO)(g:Nat)(b:aL)(d:bZ)(e h:bR)(f:aF)(a:Nat):aD:=vI a (aa c) b e h (decide ((a:Int)=g)) (f.contains (a:Int)) (Cb d b (nd c a) a) (nd c a)
structure sJ(N:aO):Prop where
 ph:∀j:Nat,(nd N j).phase<=2
 na:∀j:Nat,Nk (nd N j).acc
 nc:∀j:Nat,Nk (nd N j).aq
 la:∀j:Nat,(nd N j).acc.length<=20
 lc:∀j:Nat,(nd N j).aq.length<=20
 n4:aa N<=4
section
variable {g:G0}{P:Params}(W:WW g P){c:C}{Lx:ak}{M:bC}{σ:Sg}{wr:bC}
include W
def acU(A:c.toG0=g)(D:2<=c.n){i:aO}(q:sJ i){j:Nat}{b:aL}{props As:aH}{r o:bZ}{p m:bR}{back:aF}{a:ak}{Pp:eH}(S:j<aa i)(F:∀h∈r,dP (aa i) h.2)(H:aa p<=20)(C:aa m<=20)(O:aa o<=bf)(t:σ a=U (.l As))(E:¬c.M a):
 Ex ((c.fn (lV P) 143 Lx λ_=>False).set M σ wr) (S4 i j (nd i j) b props r o p m back a) [(jc P).drop 17] Pp (λ_ d=>d=.tup [.lst As,.lst (((eT (aa i)).map λf=>aX (pP i j b o p m back f)).take j++[.tup (five (pP i j b o p m back j)++um i j (nd i j) b props r)]++((eT (aa i)).map λf=>aX (pP i j b o p m back f)).drop (j+1))]):=by
 intros g P c Lx M σ wr i j b _ W A D q props As r o p m back a Pp S F H C O t E;intros props As r o p m back a Pp _ W A D q S F H C O t E;refine Ex.bm λa0=>?_
 have Y:=λ{M:bC} {σ:Sg} {wr:bC} {K:aH} {a8:aD} {k:ak}=>acM (me:=j) (P:=P) (c:=c) (Lx:=Lx) (M:=M) (σ:=σ) (wr:=wr) (a:=a) (e:=k) (b:=b) (Ns:=K) (nm:=a8) (As:=As) (props:=props) (Pp:=Pp) (q.ph j) F
 have body:=λ{M:bC} {σ:Sg} {wr:bC} {K:aH} {k:ak} {R:d9} {f:Nat} (a4:f<aa i)=>acT W A D (Lx:=Lx) (M:=M) (σ:=σ) (wr:=wr) (a:=a) (e:=k) (me:=j) (L:=nd i j) (b:=b) (props:=props) (Ns:=K) (R:=R) (bad:=r) (hit:=o) (full:=p) (new:=m) (back:=back) a4 (q.na f) (q.nc f) (eK (dQ (q.la f) H) ∅) (eK (dQ (q.lc f) C) ∅) O
 unfold jc bodyPick at Y⊢;unfold zW jc bodyPick at body;refine r6 (x:="after") (wR (qE (eL aZ)) aJ) λk V Z=>?_;intros k _ V Z
 have X:a≠k:=λs=>by rw[s] at t;exact nomatch t.symm.trans Z
 have a7:¬c.M k:=λs=>V (a0 k s)
 refine Ex.for (Inv:=λy u B=>u.σ k=U (.l ((eT y).map λf=>aX (pP i j b o p m back f)))/\u.wr k/\u.σ a=U (.l As)/\Sub (xQ i j (nd i j) b props r o p m back a k) B) (eG.ints (aj q.n4 ∅) (ah J)) ⟨az J,.inr J,(aB X).trans t,lZ⟩ (λy d u B Q v I=>?_) λu B Q I=>?_
 .let ⟨w,T,z,G⟩:=I;rw[cC] at v;cases hx:(bu (aa i))[y]? with
  |none=>rw[hx] at v;cases v
  |some f=>
   have N:y<aa i:=k7 (aa i)▸(fH.mp hx).1;rw[SM N] at v;cases v;let ⟨aw,ax,a6,zy⟩:=gv (c:=c.fn (lV P) 143 Lx λ_=>False) Q;refine⟨_,cW aJ,fO (Bb (body N w T ?_) (λa9 bj av=>?_) λ_ _ s=>s) (jY G)⟩
   .rw[aP,gx];exact aj N (aj q.n4 ∅)
   let ⟨a3,a5⟩:=av;subst a3;refine⟨(az J).trans ?_,T,(aB X).trans z,a5⟩;rw[v9,cy];rfl
 let ⟨w,T,z,G⟩:=I;let ⟨aw,ax,a6,zy⟩:=gv (c:=c.fn (lV P) 143 Lx λ_=>False) Q;rw[aP,k7] at w;refine fO (Y ?_ ?_ z w E a7) λae au s=>G ae au ?_
 .rw[cC,pZ S];rfl
 .rw[aP,gx];exact aj q.n4 ∅
 revert ae au;exact BU J (k9 J)
end
noncomputable def dd(k:Int)(b:Bool):Mv:=if b then .deliver k else .drop k
theorem Ev.dd{a:C}{c:Nm}{e f:aT}{b:Bool}{k:Int}{j g o:Nat}{p1 p2 i n:Pos}(h:bX a c f b)(m:Ev a c e (.d (.int k)))(hs:autoParam (cD e=aA) aI):Ev a c (.Tuple [.IfExp f (.Constant (.str "deliver") j p1) (.Constant (.str "drop") g p2) i,e] o n) (.d (bE (Mine.dd k b))):=by
 have l:Ev a c (.IfExp f (.Constant (.str "deliver") j p1) (.Constant (.str "drop") g p2) i) (if b then .d (.str "deliver") else .d (.str "drop")):=DC h (λz=>dR (by decide+kernel)) λz=>dR (by decide+kernel)
 cases b with
 |true=>exact bQ (ds:=[.str "deliver",.int k]) (aN l (aN m aZ hs) J)
 |false=>exact bQ (ds:=[.str "drop",.int k]) (aN l (aN m aZ hs) J)
def acV(a:aO)(i:Nat)(f:aD)(b:aL)(h:Int)(e g:aF)(c:bR)(k:bZ)(j:ak):Nm:=[("sent",.d (.lst (k.map aK))),("acts",.r j),("full",.d (.lst (c.map eB))),("up",.d (.lst (e.map .int))),("back",.d (.lst (g.map .int))),("n",.d (.int (aa a))),("old",.d (aX f)),("nodes",.d (.lst (a.map aX))),("me",.d (.int i)),("b",.d (aK b)),("lost",.d (.int h))]
def xR(n:Nat)(b:Int)(c:bZ)(a:Int×bz):D:=jV (a.1,(a.2,vt n b c a.1))
def acW(n a:Nat):decide ((a:Int)>(n:Int).fdiv 2)=decide (n/2<a):=by
 have:(n:Int).fdiv 2=((n/2:Nat):Int):=by rw[GU _ ∅];rfl
 rw[this];exact decide_eq_decide.mpr dB
def S6{c g:Type}{f:c->List g}(h:∀a,(f a).length<=4):∀b:List c,(b.flatMap f).length<=aa b*4:=by
 intro e
 induction e with
 |nil=>
  exact cL _
 |cons a b d=>
  rw[sW,bO,iz,Ct,kK];exact dQ (d) (h a)
section
variable {g:G0}{P:Params}(W:WW g P){c:C}{Lx:ak}{M:bC}{σ:Sg}{wr:bC}
include W
def acX(Y:c.toG0=g)(au:2<=c.n){i:aO}(A:sJ i){k:Nat}{b:aL}{cu:Int}{E:aH}{s o w G p:bZ}{full r:bR}{up back:aF}{D:ak}{Pp:eH}(aw:k<aa i)(hs:∀e∈s,dP (aa i) e.2)(z:aa s<=1000)(H:aa full<=20)(K:aa E<=1000)(Z:σ D=U (.l E))(Q:wr D)(av:¬c.M D)
 (L:(s.filter λe=>up.contains e.2&&decide (e.1≠cu))=o) (N:(o.filter λe=>back.contains e.2&&decide ((nd i k).phase=2))=w) (R:w.filter (ir b i)=G) (X:vH G w=p) (S:nw (aa i) k full (rt (nd i k)) p=r):
 Ex ((c.fn (lV P) 143 Lx λt=>False).set M σ wr) (acV i k (nd i k) b cu up back full s D) [(jc P).drop 7] Pp (λt d=>d=.tup [.lst (E++(s.map λe=>bE (dd 0 (o.contains e)))++(o.map λe=>bE (dd 0 (back.contains e.2)))++(r.flatMap λt=>(bx (aa i) k).map λh=>bE (dd 0 (back.contains h)))),.lst (((eT (aa i)).map λh=>aX (pP i k b o full r back h)).take k++[.tup (five (pP i k b o full r back k)++um i k (nd i k) b (full.map (xR (aa i) k p)) G)]++((eT (aa i)).map λh=>aX (pP i k b o full r back h)).drop (k+1))]):=by
 intros g P c Lx M σ wr i k b cu E _ W Y au A s o w G p full r up back D Pp aw hs z H K Z Q av L N R X S;intros s o w G p full r up back D Pp _ W Y au A aw hs z H K Z Q av L N R X S;have B:∀{a3:Nat},a3<=1000->a3<=bf:=λa5=>aj a5 ∅
 have F:aa o<=1000:=L▸aj (fZ _ _) z;have a9:aa w<=1000:=N▸aj (fZ _ _) F;have ae:aa r<=20:=S▸aj (fZ _ _) H;have a6:∀e∈o,dP (aa i) e.2:=λe C=>hs e (cH.mp (L▸C)).1
 have a4:∀e∈w,dP (aa i) e.2:=λe C=>a6 e (cH.mp (N▸C)).1
 have ax:∀e∈G,e∈w:=λe C=>(cH.mp (R▸C)).1
 have a0:=λ{M:bC} {σ:Sg} {wr:bC} {E:aH}=>acU W Y au (Lx:=Lx) (M:=M) (σ:=σ) (wr:=wr) A (b:=b) (props:=full.map (xR (aa i) k p)) (As:=E) (back:=back) (a:=D) (Pp:=Pp) aw (λe C=>a4 e (ax e C)) H ae (B F)
 have V:(bu (aa i)).length<=4:=by rw[k7];exact A.n4
 have bk:(bu (aa i)).length<=bf:=aj V ∅;unfold jc bodyPick at a0⊢;refine pN (ts:=s) (enc:=aK) (g:=aK) (q:=λe=>up.contains e.2&&decide (e.1≠cu)) (dU (ah J)).it (λt v M y m u=>⟨_,j8 (.cons aJ (.cons aJ .nil)),b8 J (b8 J cX),jt (iU (ia (pO (ah J) (ah J) J) λt=>xN (B8 (ah J) (ah J)))),λt=>bQ (bl J (bl J aZ))⟩) (B z) aJ ?_;rw[L];refine mG (x:="acts") (es:=s.map λe=>bE (dd 0 (o.contains e))) J Z Q aJ (bF (uh (ts:=s) (enc:=aK) (dU (ah J)).it (λt v M y m u=>⟨_,cW aJ,b8 J cX,Ev.dd (bX.Kw (ah J) (ah J) J) aQ⟩) (B z))) J ?_ ?_
 .rw[aP];exact aj (dQ K z) ∅
 refine mG (x:="acts") (es:=o.map λe:Int×Int=>bE (dd 0 (back.contains e.2))) J (az J) Q aJ (bF (uh (ts:=o) (enc:=aK) (dU (ah J)).it (λt v M y m u=>⟨_,j8 (.cons aJ (.cons aJ .nil)),b8 J (b8 J cX),Ev.dd (pO (ah J) (ah J) J) aQ⟩) (B F))) J ?_ ?_
 .rw[bO,aP,aP];exact aj (dQ (dQ K z) F) ∅
 refine pN (ts:=o) (enc:=aK) (g:=aK) (q:=λe=>back.contains e.2&&decide ((nd i k).phase=2)) (dU (ah J)).it (λt v M y m u=>⟨_,cW aJ,b8 J cX,jt (iU (ia (pO (br (j:=1) (ah J) aQ J J) (ah J) J) λt=>xN (bX.lead (A.ph k) J))),λt=>ah J⟩) (B F) aJ ?_;rw[N];refine pN (ts:=w) (enc:=aK) (g:=aK) (q:=ir b i) (dU (ah J)).it (λt v M y m u=>⟨_,cW aJ,b8 J cX,jt (bS (br (j:=2) (k8 (a4 m u) (ah J) J (br (ds:=[.int m.1,.int m.2]) (j:=1) (ah J) aQ J J)) aQ J J) (ah J) (uR (op:=.Gt) (BI _ _) (lX _) J)),λt=>ah J⟩) (B a9) aJ ?_;rw[R];refine Ex.SW (T:=Int×Int) (enc:=aK) tS lX J J J ax aJ ?_;rw[X];refine B9 (ts:=full) (enc:=eB) (g:=xR (aa i) k p) (dU (ah J)).it (λt v M y m u=>⟨_,j8 (.cons aJ (.cons aJ .nil)),b8 J (b8 J cX),bQ (bl J (bl J (aN (bF (Iz (ns:=k::(bu (aa i)).filter λh=>p.contains (m.1,h)) (IA (bF ?_) J) ?_ (w4 _) (Bq _))) aZ)))⟩) (B (aj H ∅)) aJ ?_
 .have bj:eY ((k:Int)::(bu (aa i)).filter λh=>p.contains (m.1,h))=[.int k]++((bu (aa i)).filter λh=>p.contains (m.1,h)).map .int:=rfl;rw[bj];refine mE (bF (eL (bl J aZ))) (bF ?_) J J ?_
  .exact rZ (ts:=bu (aa i)) (enc:=.int) (g:=.int) (q:=λh=>p.contains (m.1,h)) (eG.ints (aj A.n4 ∅) (ah J)).it (λt v M y h bo=>⟨_,cW aJ,b8 J cX,jt (bX.Kw (x:=(m.1,h)) (bQ (bl J (bl J aZ))) (ah J) J),λt=>ah J⟩) bk J
  rw[bO,aP];exact aj (gc (aj (fZ _ _) V) 1) ∅
 .rw[iz];exact eK (fG (aj (fZ _ _) V)) ∅
 refine B9 (ts:=(nd i k).aq) (enc:=eB) (g:=λO=>.int O.1) (dU (br (j:=4) (ah J) aQ J J)).it (λt v M y m u=>⟨_,cW aJ,b8 J cX,br (j:=0) (ah J) aQ J J⟩) (aj (A.lc k) ∅) aJ ?_;rw[show((nd i k).aq.map λO=>iM O.1)=(rt (nd i k)).map .int from(bV (f:=λO:Int×bz=>O.1) (g:=iM)).symm];refine pN (ts:=full) (enc:=xR (aa i) k p) (g:=eB) (q:=λI=>decide (aa i/2<(vt (aa i) k p I.1).length)&&!(rt (nd i k)).contains I.1) (dU (ah J)).it (λt v M y m u=>⟨_,j8 (.cons aJ (.cons aJ (.cons aJ .nil))),b8 J (b8 J (b8 J cX)),jt (iU (ia (acW _ _▸bS (lO (ah J) (aR U (aP _))) (dY (ah J) aQ (Du ∅ ∅)) Dt) λt=>xN (E7 (ah J) (ah J) J))),λt=>bQ (bl J (bl J aZ))⟩) (B (aj H ∅)) aJ ?_;have a7:(full.filter λI=>decide (aa i/2<(vt (aa i) k p I.1).length)&&!(rt (nd i k)).contains I.1)=r:=S;rw[a7];refine mG (x:="acts") (es:=r.flatMap λt=>(bx (aa i) k).map λh=>bE (dd 0 (back.contains h))) J (az J) Q aJ (bF (gp.f (Cp.new (Cp.oth2 (ts:=r) (enc:=eB) (g:=λt h=>bE (dd 0 (back.contains h))) A.n4 (aj ae ∅) (dU (ah J)).it (λt v M y m u=>⟨_,cW aJ,b8 J cX,rfl,rfl,rfl,λh=>Ev.dd (pO (ah J) (ah J) J) aQ⟩) ∅)))) J ?_ ?_
 .have a8:(r.flatMap λt=>(bx (aa i) k).map λh=>bE (dd 0 (back.contains h))).length<=20*4:=aj (S6 (λt=>by rw[aP];exact aj (fZ _ _) V) r) (Ad 4 ae);rw[bO,bO,aP,aP];exact aj (dQ (dQ (dQ K z) F) a8) ∅
 refine fO (a0 (az J) av) ?_;exact BU J (k9 J)
end
def acY(c:aO)(b:aL)(a:bZ):vH (a.filter (ir b c)) a=kC c b a:=by
 unfold vH kC;cases a.filter (ir b c)<;>rfl
def acZ(d n:Nat)(b:aL)(c f:bR)(g:Bool)(a:bZ)(e:aD):vI d n b c f aA g a e=zI d n b c f g a e:=by
 intros d n b c f g a e;unfold vI zI xO;cases a<;>rfl
def ac0(a:aO)(d:Nat)(f:aD)(b:aL)(e h:bR)(c:bZ)(i:Bool)(n:Nat):gn (five (vI d n b e h af i [] f)++um a d f b (e.map (xR (aa a) d (kC a b c))) (c.filter (ir b a)))=aX (iD a d f b e h c):=by
 intros a d f b e h c i n;unfold iD um;cases c.filter (ir b a) with
 |cons j k=>rfl
 |nil=>
  dsimp only;cases decide (f.phase=2) with
  |true=>
   rw[az J,az J];have:(e.map (xR (aa a) d (kC a b c)))=(e.map λg=>(g.1,(g.2,vt (aa a) d (kC a b c) g.1))).map jV:=(bV ..).symm;rw[this];rfl
  |false=>rfl
def S7{j:Type}{n b:Nat}{c g:Nat->j}{d:j}(h:b<n)(l:d=g b)(k:∀a,a≠b->c a=g a):((eT n).map c).take b++[d]++((eT n).map c).drop (b+1)=(eT n).map g:=by
 have e:((eT n).map c).take b++[d]++((eT n).map c).drop (b+1)=((eT n).map c).set b d:=by
  rw[LZ,az (by rw[aP,gx];exact h),e9];rfl
 rw[e];apply kO;intro i;rw[List.getElem?_set,cC,cC];split
 case isTrue f=>
  subst f;rw[aP,gx,az h,pZ h,l];rfl
 case isFalse f=>
  cases hr:(eT n)[i]? with
  |none=>rfl
  |some a=>
   have:a=i:=by rw[pZ (by have:=(fH.mp hr).1;rwa [gx] at this)] at hr;exact(dF hr).symm
   subst this;exact aR U (k a λe=>f e.symm)
def ac1{f:aO}{e:Nat}{b:aL}{h g:dG}{y cu k:Int}{i:bR}{j m:bZ}{l:bR}(s:e<aa f)(p:i=iC (nd f e) h g)(o:((cY (fQ (aa f) e i) k).filter λc=>(f6 y (aa f) e).contains c.2&&decide (c.1≠cu))=j)(r:(j.filter λc=>(dI y (aa f) e).contains c.2&&decide ((nd f e).phase=2))=m)(n:nw (aa f) e i (rt (nd f e)) (kC f b m)=l):
 (g.map (λd=>bE (.at e (.bW d)))++[bE (.double k)]++((cY (fQ (aa f) e i) k).map λc=>bE (dd 0 (j.contains c)))++(j.map λc=>bE (dd 0 ((dI y (aa f) e).contains c.2)))++(l.flatMap λZ=>(bx (aa f) e).map λa=>bE (dd 0 ((dI y (aa f) e).contains a)))=(gK f e b h g y cu k).1.map bE)/\
 ((((eT (aa f)).map λa=>aX (pP f e b j i l (dI y (aa f) e) a)).take e++[.tup (five (pP f e b j i l (dI y (aa f) e) e)++um f e (nd f e) b (i.map (xR (aa f) e (kC f b m))) (m.filter (ir b f)))]++((eT (aa f)).map λa=>aX (pP f e b j i l (dI y (aa f) e) a)).drop (e+1))=(gK f e b h g y cu k).2.map aX):=by
 intros f e b h g y cu k i j m l _ s p o r n;subst p o r n;constructor
 .unfold gK BV;dsimp only;rw[cy,cy,cy,cy,bV,bV,bV,yl];have z:((bx (aa f) e).map λa=>bE (dd 0 ((dI y (aa f) e).contains a)))=((bx (aa f) e).map λa=>dd 0 ((dI y (aa f) e).contains a)).map bE:=by rw[bV];rfl
  rw[z];rfl
 unfold gK;dsimp only;rw[bV];refine S7 s ?_ λa q=>?_
 .rw[AR,az J];have w:Cb (vD f e y cu k (iC (nd f e) h g)) b (nd f e) e=[]:=mq.mpr λc v u=>(J4 (xC (cH.mp v).1)).2.2.2 (eZ ((gQ _ _).mp u).1)
  have:=ac0 f e (nd f e) b (iC (nd f e) h g) (nw (aa f) e (iC (nd f e) h g) (rt (nd f e)) (kC f b (zJ f e (nd f e) y (vD f e y cu k (iC (nd f e) h g))))) (zJ f e (nd f e) y (vD f e y cu k (iC (nd f e) h g))) ((dI y (aa f) e).contains (e:Int)) (aa f);refine Eq.trans ?_ this;unfold pP;rw[decide_eq_true (rfl:(e:Int)=e)];exact aR (λt=>gn (five (vI e (aa f) b (iC (nd f e) h g) _ af _ t (nd f e))++_)) w
 rw[AR,aB q];unfold pP;rw[decide_eq_false (show ¬(a:Int)=(e:Int) from λx=>q (oN x)),acZ];rfl
def Ky{b:Type}(a:List b):(bh a).length=aa a:=qb
def S8{b:Type}:∀a:Option b,aa a.toList<=1
 |none=>cL _
 |some _=>cB _
def S9{c d:Type}(b:c->d)(a:List c)(k:Int):cY (a.map b) k=(cY a k).map b:=by
 unfold cY;rw[cy,aP,cC];cases a[bT k (aa a)]?<;>rfl
section
variable {g:G0}{P:Params}(W:WW g P)
include W
def ac2{c:aO}(s:sJ c){e:Nat}{b:aL}{j h:dG}{y cu k:Int}(C:e<aa c)(B:aa j<=10)(u:aa h<=10):kg g 3 143 [.d (.lst (c.map aX)),.d (.int e),.d (aK b),.d (.lst (j.map bq)),.d (.tup (h.map bq)),.d (.int y),.d (.int cu),.d (.int k)] (λ_=>True) (.tup [.lst ((gK c e b j h y cu k).1.map bE),.lst ((gK c e b j h y cu k).2.map aX)]):=by
 intros g P c e b j h y cu k _ W s C B u;refine o6 (n:=2) (ZI W) J λL R E S Q=>?_
 have T:=λ{M:bC} {σ:Sg} {wr:bC} {i:bR} {o:ak} (w:aa i<=20) (G:∀A∈cY (fQ (aa c) e i) k,dP (aa c) A.2) (r:(cY (fQ (aa c) e i) k).length<=1000) (z:(h.map (λq=>bE (.at e (.bW q)))++[bE (.double k)]).length<=1000) (F:σ o=U (.l (h.map (λq=>bE (.at e (.bW q)))++[bE (.double k)]))) (a8:wr o) (H:¬L.M o)=>acX W E S (Lx:=R) (M:=M) (σ:=σ) (wr:=wr) s (b:=b) (cu:=cu) (full:=i) (up:=f6 y (aa c) e) (back:=dI y (aa c) e) (Pp:=λ_ _=>gn [.lst ((gK c e b j h y cu k).1.map bE),.lst ((gK c e b j h y cu k).2.map aX)]=.none) C G r w z F a8 H J J J (acY c b _) J
 have a9:=E;rw[<-E] at W;unfold jc bodyPick at T⊢;refine E8 (vs:=[.d (.int (aa c)),.d (aX (nd c e))]) (cR (lO (ah J) (aR U (aP _))) (cR (k8 ⟨fJ _,dB.mpr C⟩ (ah J) J (ah J)) eX)) (iy aJ (iy aJ jh)) ?_;refine uZ (nJ (SO W s.n4) W.QI (by rw[W.hK];rfl) (jv J (jv J (jv J eX))) (kJ S) trivial) (iy aJ (iy aJ jh)) ?_;refine fN (v:=.d (.lst ((bh j).map eB))) (bF (E9 j▸QE (ah J))) aJ ?_
 have K:∀i:bR,i=iC (nd c e) j h->Ex (L.fn (lV P) 143 R λ_=>False) [("full",.d (.lst (i.map eB))),("up",.d (.lst ((f6 y (aa c) e).map .int))),("back",.d (.lst ((dI y (aa c) e).map .int))),("n",.d (.int (aa c))),("old",.d (aX (nd c e))),("nodes",.d (.lst (c.map aX))),("me",.d (.int e)),("b",.d (aK b)),("lost",.d (.int cu)),("k",.d (.int k)),("words",.d (.tup (h.map bq)))] [(jc P).drop 4] (λ_ _=>gn [.lst ((gK c e b j h y cu k).1.map bE),.lst ((gK c e b j h y cu k).2.map aX)]=.none) (λ_ O=>O=gn [.lst ((gK c e b j h y cu k).1.map bE),.lst ((gK c e b j h y cu k).2.map aX)]):=λi X=>by
  have w:aa i<=20:=by
   rw[X];unfold iC;rw[Ky];split
   .rw[bO];exact dQ B u
   exact aj B ∅
  have r:=S6 (f:=λZ:Int×bz=>(bx (aa c) e).map λt=>(Z.1,t)) (λp=>by rw[aP];exact aj (fZ _ _) (by rw[k7];exact s.n4)) i;have r:(fQ (aa c) e i).length<=80:=aj r (Ad 4 w)
  have a0:(cY (fQ (aa c) e i) k).length<=1000:=by
   unfold cY;rw[bO];exact aj (dQ r (S8 _)) ∅
  have z:(h.map (λq=>bE (.at e (.bW q)))++[bE (.double k)]).length<=1000:=by rw[bO,aP];exact aj (gg u 1) ∅
  have av:∀A∈cY (fQ (aa c) e i) k,dP (aa c) A.2:=λA Q=>have m:=(J4 (xC Q)).2;⟨m.1,m.2.1⟩
  have N:=ac1 (b:=b) (k:=k) (y:=y) (cu:=cu) C X J J J;unfold jc bodyPick;refine r6 (x:="acts") (wR (qE (mE (bF (uh (ts:=h) (enc:=bq) (g:=λq=>bE (.at e (.bW q))) (eG.tup (ah J)).it (λau ax M a6 p aw=>⟨_,cW aJ,b8 J cX,bQ (aN (dR (by decide+kernel)) (bl J (bl J aZ)))⟩) (aj u ∅))) (bF (eL (aN (bQ (aN (dR (by decide+kernel)) (bl J aZ))) aZ))) J J (aj z ∅))) aJ) λo F bj=>?_
  have H:¬L.M o:=λm=>F (.inl m)
  have a7:(i.flatMap λp=>(bx (aa c) e).map λt=>aK (p.1,t))=(fQ (aa c) e i).map aK:=by
   unfold fQ;rw[yl];exact aR (λa3=>i.flatMap a3) (funext λp=>by rw[bV];rfl)
  refine r6 (x:="sent") (yU (Cp.oth2 (ts:=i) (enc:=eB) (g:=λp t=>aK (p.1,t)) s.n4 (aj w ∅) (dU (ah J)).it (λau ax M a6 p aw=>⟨_,j8 (.cons aJ (.cons aJ .nil)),b8 J (b8 J cX),rfl,rfl,rfl,λt=>bQ (bl J (bl J aZ))⟩) ∅) aJ J) λV G Y=>?_
  have I:o≠V:=λm=>by rw[<-m] at Y;exact nomatch (az J).symm.trans Y
  refine Ex.SV (x:="sent") (a:=V) (ds:=(fQ (aa c) e i).map aK) J ((az J).trans (aR (λa4=>U (Cn.l a4)) a7)) (.inr J) (λm=>G (.inl (.inl m))) J (by rw[aP];exact aj (fG r) ∅) λM σ wr a5 ae=>?_
  rw[S9];refine Bb (fO (T w av a0 z (a5 o _ I ((aB I).trans (az J))) (ae o I (.inl (.inr J))) H) (k9 J)) (λ_ _ m=>m) λ_ O m=>m.trans ?_
  rw[N.1,N.2]
 unfold jc bodyPick at K;refine b7 (b:=decide ((nd c e).phase=2)) (bX.lead (s.ph e) J) (λD=>?_) λD=>aG (fO (K (bh j) (aR bh (aB (rM.mp D)).symm)) (k9 J))
 refine fN (v:=.d (.lst ((bh (j++h)).map eB))) (bF (E9 (j++h)▸QE (cy▸bF (mE (ah J) (bF (cF.Zd (ah J))) J J ?_)))) aJ (aG (fO (K (bh (j++h)) (aR bh (az D).symm)) (k9 J)));rw[bO,aP,aP];exact aj (dQ B u) ∅
end
section
variable {c:C}{ρ:Nm}{e e₁ e₂:aT}{pos:Pos}
def Ev.ac3(a:bX c ρ e b)(f:Ev c ρ e₁ (.d x))(g:Ev c ρ e₂ (.d y)):Ev c ρ (.IfExp e e₁ e₂ pos) (.d (if b then x else y)):=by
 have:=DC (pos:=pos) a (λz=>f) λz=>g
 cases b<;>exact this
end
def Tc(c:aO)(b:aL)(a:Int):aD:=⟨a,aa c,b,(nd c a).acc,(nd c a).aq,0,(nd c a).aE,[],[]⟩
def lq(c:aO)(b:aL)(d:aF)(a:Int):D:=if(d.filter λa=>!blt b (nd c a).promised).contains a then aX (Tc c b a) else aX (nd c a)
def ac4(a:aO)(c:Nat)(b:aL)(f:aF)(j:bU)(i:Str)(h:aL)(e:aH)(g:dG)(k:ak):Nm:=[("nodes",.d (.lst (a.map aX))),("me",.d (.int c)),("n",.d (.int (aa a))),("b",.d (aK b)),("old",.d (aX (nd a c))),("up",.d (.lst (f.map .int))),("acts",.r k),("mine",.d (.lst (j.map ck))),("state",.d (.str i)),("ballot",.d (aK h)),("heard",.d (.lst e)),("log",.d (.lst (g.map bq)))]
section
variable {g:G0}{P:Params}(W:WW g P){c:C}{Lx:ak}{M:bC}{σ:Sg}{wr:bC}
include W
theorem ac5(p:aa a<=4)(C:e<aa a)(w:∀h∈f,dP (aa a) h)(z:aa f<=1000)(t:σ i=U (.l As))(A:¬c.M i):
 Ex ((c.fn (xd P) 138 Lx λs=>False).set M σ wr) (ac4 a e b f mine state aE Ff log i) [(sr P).drop 19] Pp (λs d=>d=.tup [.lst As,.lst (((bu (aa a)).map (lq a b f)).take e++[.tup [.int e,.int (aa a),aK b,.lst (mine.map ck),.lst ((nd a e).aq.map eB),.str state,aK aE,.lst Ff]]++((bu (aa a)).map (lq a b f)).drop (e+1)),aK b,.lst (log.map bq)]):=by
 unfold sr bodyPick;have o:((bu (aa a)).map (lq a b f)).length=aa a:=by rw[aP,k7]
 refine pN (ts:=f) (enc:=.int) (g:=.int) (q:=λh=>!blt b (nd a h).promised) (dU (ah J)).it (λs B M D k n=>⟨_,cW aJ,b8 J cX,jt (bS (br (j:=2) (k8 (w k n) (ah J) J (ah J)) aQ J J) (ah J) (uR (op:=.LtE) (SY _ _) (lX _) J)),λs=>ah J⟩) (aj z ∅) aJ ?_;refine B9 (ts:=bu (aa a)) (enc:=.int) (g:=lq a b f) (eG.ints (aj p ∅) (ah J)).it (λs B M D k n=>⟨_,cW aJ,b8 J cX,?_⟩) (by rw[k7];exact aj p ∅) aJ ?_
 .refine Ev.ac3 (x:=aX (Tc a b k)) (y:=aX (nd a k)) (pO (ah J) (ah J) J) ?_ (k8 (Fb n) (ah J) J (ah J));exact dY (dY (bQ (ds:=[.int k,.int (aa a),aK b]) (bl J (bl J (bl J aZ))) (bM J)) (sD (l:=U 3) (u:=U 5) (out:=[.lst ((nd a k).acc.map ck),.lst ((nd a k).aq.map eB)]) (k8 (Fb n) (ah J) J (ah J)) (.int aQ) (.int aQ) J) (oV (bM J))) (bQ (ds:=[.str "idle",aK (nd a k).aE,.lst []]) (aN (dR (by decide+kernel)) (aN (br (j:=6) (k8 (Fb n) (ah J) J (ah J)) aQ J J) (aN (bF (eL aZ (bM J))) aZ))) (bM J)) (oV (bM J))
 generalize(bu (aa a)).map (lq a b f)=m at o;have r:e<aa m:=o▸C;refine fN (v:=.d (.lst (m.take e++[gn [.int e,.int (aa a),aK b,.lst (mine.map ck),.lst ((nd a e).aq.map eB),.str state,aK aE,.lst Ff]]++m.drop (e+1)))) (bF (mE (bF (mE (ds:=m.take e) (es:=[gn [.int e,.int (aa a),aK b,.lst (mine.map ck),.lst ((nd a e).aq.map eB),.str state,aK aE,.lst Ff]]) (bF ?_) (bF (eL (aN (bQ (bl J (bl J (bl J (bl J (aN (br (j:=4) (ah J) aQ J J) (bl J (bl J (bl J aZ))))))))) aZ))) J J ?_)) (bF ?_) J J ?_)) aJ ?_
 .rw[<-zV m (gf r)];exact tE (ah J) J .none (.int (ah J))
 .rw[bO,uC];exact aj (gg (aj (vU _ _) (o▸p)) 1) ∅
 .rw[<-Ku m r];exact tE (ah J) J (.int (dY (ah J) aQ qt)) .none
 .rw[bO,bO,uC,GH];exact aj (dQ (gg (aj (vU _ _) (o▸p)) 1) (aj (vP _ _) (o▸p))) ∅
 exact lQ (DP (r5 (uY (ah J) t A) (r5 (nE (ah J)) (r5 (nE (ah J)) (r5 (nE (ah J)) DQ))))) J
end
section
variable {c:C}{ρ:Nm}{e:aT}{p pos:Pos}
def cF.Jm{k:Type}{j:Int×k->D}{r:Int×k->aH}(a:ug j r){b:List (Int×k)}(l:Nk b)(hl:aa b<64)(h:Ev c ρ e (.d (.lst (b.map j))))(q:autoParam (c.env.kindOf "sorted"=U .globalImplicit) aI)(w:autoParam (cD e=aA) aI):cF c ρ (.Call (.Name "sorted" p) [e] [] pos) ((bH b).map j):=by
 refine cF.SE (IA h J) (λv g=>?_) (λn u x t i=>?_) (by rw[aP];exact hl) (λv g=>?_) ((wZ _).map _) ?_ q w
 .let ⟨f,_,zy⟩:=aY.mp g;exact⟨_,_,a.e f⟩
 .let ⟨f,y,zy⟩:=aY.mp u;let ⟨z,o,zy⟩:=aY.mp t;rw[a.ky,a.ky] at i;have m:=l.look y;have s:=l.look o;rw[i,s] at m;rw[fh i (dF m).symm]
 .let ⟨f,_,zy⟩:=aY.mp g;exact a.d f
 rw[jA];exact(u9 l).imp λ{n x} h=>by rw[a.ky,a.ky];exact iJ h
def Cp.flat{s q:Type}{ts:List s}{enc:s->D}{us:s->List q}{rz:q->D}{w y iter x r:aT}{scope:gh}(hz:(ts.flatMap us).length<=bf)(F:It c ρ iter (ts.map enc))
 (A:∀g h M i a,a∈ts->∃b,iV (c.into scope g h M i) y (enc a) b/\(∀p∈b,(fj scope ρ).lookup p.1=ai)/\It (c.into scope g h M i) (b++fj scope ρ) r ((us a).map rz)/\∀u,∃j,iV (c.into scope g h M i) x (rz u) j/\(∀p∈j,(b++fj scope ρ).lookup p.1=ai)/\Ev (c.into scope g h M i) (j++(b++fj scope ρ)) w (.d (rz u)))
 (Q:autoParam (kX c.env.kindOf (λf=>(ρ.lookup f).isSome) scope=af) aI) (hs:autoParam (∀f,foldedSetIterable iter c.env f=pure f) lH) (H:∀k f,foldedSetIterable r k f=pure f:=by intro _ _;rfl):
 Cp c ρ (.ListComp w [⟨y,iter,[],0⟩,⟨x,r,[],0⟩] scope pos) (.l ((ts.flatMap us).map rz)):=by
 have z:(ts.map λa=>(us a).map rz).flatten=(ts.flatMap us).map rz:=by rw[yl];exact(ym ..).symm
 rw[<-z];refine Cp.Pc (ds:=ts.map enc) ((aP _).trans (aP _).symm) (by rw[z,aP];exact hz) F (λg h M i O R T n v=>?_) Q hs H;rw[cC] at n v;cases ht:ts[O]? with
 |none=>rw[ht] at n;cases n
 |some a=>
  rw[ht] at n v;cases n;cases v;let ⟨b,N,C,G,I⟩:=A g h M i a (iZ ht)
  have J:∀m:List q,(m.map λu=>[rz u]).flatten=m.map rz:=λm=>by
   induction m with
   |nil=>rfl
   |cons u m E=>rw[dM,yf,E];rfl
  refine⟨b,af,N,C,mF,λZ=>⟨(us a).map rz,(us a).map λu=>[rz u],G,(aP _).trans (aP _).symm,(J _).symm,λK S V e t=>?_⟩,λo=>s9 o⟩;rw[cC] at e t;cases hj:(us a)[K]? with
  |none=>rw[hj] at e;cases e
  |some u=>
   rw[hj] at e t;cases e;cases t;let ⟨j,L,P,B⟩:=I u;exact⟨j,af,L,P,mF,λZ=>⟨_,B,rfl⟩,λo=>s9 o⟩
end
def ac6(n a:Nat):decide ((a:Int)>=(n:Int).fdiv 2)=decide (n/2<=a):=by
 have:(n:Int).fdiv 2=((n/2:Nat):Int):=by rw[GU _ ∅];rfl
 rw[this];exact decide_eq_decide.mpr iK
def ac7:ug ku (λa=>[.lst (a.2.map ck)]):=⟨λz=>rfl,λa=>by
 have:D.dO (a.2.map ck)<=2:=oz λd c=>by
  let ⟨b,_,zy⟩:=aY.mp c;exact Kn b
 unfold ku;simp only[D.dep,D.dO];lia⟩
def Kz(h0:0<=k)(h:∀a∈l,0<=a/\a<=k):0<=cJ l/\cJ l<=k:=by
 have e:∀(l:aF) (b:Int),0<=b->b<=k->(∀a∈l,0<=a/\a<=k)->0<=l.foldl max b/\l.foldl max b<=k:=λl=>by
  induction l with
  |nil=>exact λb d c z=>⟨d,c⟩
  |cons a l j=>exact λb d c h=>j _ (dN d (CU ..)) (Mj.mpr ⟨c,(h a (.head _)).2⟩) λi f=>h i (.tail _ f)
 cases l with
 |nil=>exact⟨lE _,h0⟩
 |cons b l=>exact e l b (h b (.head _)).1 (h b (.head _)).2 λa g=>h a (.tail _ g)
section
variable {g:G0}{Pr:Params}(W:WW g Pr){c:C}{ρ f9:Nm}{k:eV}{rest:dH}{P:eH}{R:d9}{x:Str}{pos p1 p2 p3 p4 p5:Pos}
include W
def Ex.ac8{f:Type}{e:Int×f->D}{m:Int×f->aH}{b:List (Int×f)}{row:Int×f}{a:aT}(l:c.toG0=g)(p:ug e m)(i:1<=c.n)(t:Nk b)(hl:aa b<63)(h0:ρ.lookup x=U (.d (.lst (b.map e))))(h:Ev c ρ a (.d (e row)))(o:gH c x)
 (r:Ex c ((x,.d (.lst ((bB b row).map e)))::ρ) (rest::k) P R) (j:autoParam (c.env.kindOf "_law_put"=U .globalImplicit) aI) (q:autoParam (ee [.Name x p2,a]=af) aI) (s:autoParam (cD a=aA) aI) (hsw:autoParam (swapsWith (.Call (.Name "_law_put" p1) [.Name x p2,a] [] p3) (U (.Name x p4)) p5.line c.env=pure aA) aI):
 Ex c ρ ((.Assign [.Name x p4] (.Call (.Name "_law_put" p1) [.Name x p2,a] [] p3) p5::rest)::k) P R:=by
 rw[<-l] at W;exact fN (nJ (SG W p t hl) W.QH (by rw[W.hK];rfl) (cR (ah h0) (cR h eX s)) i trivial j J q) o r hsw
end
def ac9{c g:Type}{d:c->List g}{k:Nat}(h:∀a,(d a).length<=k):∀b:List c,(b.flatMap d).length<=aa b*k:=by
 intro f
 induction f with
 |nil=>
  exact cj (Nat.zero_mul k).symm
 |cons a b e=>
  rw[sW,bO,iz,Ct,kK];exact dQ (e) (h a)
def Td{c:aO}{e:Nat}{d:aF}{k:Nat}(f:∀a,∀b∈(nd c a).acc,0<=b.1/\b.1<=(k:Int)):(cZ c e d).length<=k:=by
 intros c e d k _ f;unfold cZ;split
 .have i:=(Kz (l:=(((e:Int)::d.take (aa c/2)).flatMap λa=>(nd c a).acc).map (·.1)) (k:=(k:Int)) (fJ k) λb h=>by
   let ⟨j,g,zy⟩:=aY.mp h;let ⟨a,_,m⟩:=fB.mp g;exact f a j m)
  rw[xA,aP];unfold slots;rw[aP,gx];exact wo.mpr i.2
 exact cL _
def Te(a:aO)(c:Nat)(b:aL)(g no e:aF)(f:ak):Nm:=[("early",.d (.lst (e.map .int))),("no",.d (.lst (no.map .int))),("acts",.r f),("up",.d (.lst (g.map .int))),("b",.d (aK b)),("n",.d (.int (aa a))),("old",.d (aX (nd a c))),("nodes",.d (.lst (a.map aX))),("me",.d (.int c))]
def Fg(a:Bool):Str:=if a then "leading" else "preparing"
def Cc(b:aO)(c:Nat)(a:aF):aH:=if decide (aa b/2<=aa a) then(bh (cZ b c a)).map λd=>jV (d.1,(d.2,[(c:Int)])) else(bH (((c:Int)::a).map λe=>(e,(nd b e).acc))).map ku
def Fi(c:aO)(e:Nat)(b:aL)(f no a:aF)(g:ak):Nm:=("heard",.d (.lst (Cc c e a)))::("state",.d (.str (Fg (decide (aa c/2<=aa a)))))::("log",.d (.lst ((cZ c e a).map bq)))::("ballot",.d (aK b))::Te c e b f no a g
def ada(d:aO)(e:Nat)(b:aL)(f:aF):gn [.int e,.int (aa d),aK b,.lst (((bh (cZ d e f)).foldl (λc a=>bB c (a.1,(b,a.2))) (nd d e).acc).map ck),.lst ((nd d e).aq.map eB),.str (Fg (decide (aa d/2<=aa f))),aK b,.lst (Cc d e f)]=aX (fX d e (nd d e) b [] f):=by
 intros d e b f;unfold fX Cc;cases decide (aa d/2<=aa f) with
 |true=>
  have:((bh (cZ d e f)).map λa=>jV (a.1,(a.2,[(e:Int)])))=((bh (cZ d e f)).map λa=>(a.1,(a.2,[(e:Int)]))).map jV:=by rw[bV];rfl
  rw[az J,this];rfl
 |false=>rfl
section
variable {g:G0}{P:Params}(W:WW g P){c:C}{Lx:ak}{M:bC}{σ:Sg}{wr:bC}
include W
def adb(t:c.toG0=g)(y:2<=c.n){f:aO}(q:sJ f)(E:∀a,∀e∈(nd f a).acc,0<=e.1/\e.1<=((40:Nat):Int)){h:Nat}{b:aL}{k no Z:aF}{p:aH}{o:ak}{Pp:eH}(D:h<aa f)(w:∀a∈k,dP (aa f) a)(A:aa k<=1000)(s:∀a∈no,dP (aa f) a)(u:σ o=U (.l p))(B:¬c.M o):
 Ex ((c.fn (xd P) 138 Lx λY=>False).set M σ wr) (("mine",.d (.lst ((nd f h).acc.map ck)))::Fi f h b k no Z o) [(sr P).drop 17] Pp (λY d=>d=.tup [.lst p,.lst (((bu (aa f)).map (lq f b k)).take h++[aX (fX f h (nd f h) b no Z)]++((bu (aa f)).map (lq f b k)).drop (h+1)),aK b,.lst ((cZ f h Z).map bq)]):=by
 intros g P c Lx M σ wr f _ W t y q E h b k no Z p o Pp D w A s u B;intros h b k no Z p o Pp _ W t y q E D w A s u B;have z:=λ{G:bU} {R:Str} {T:aL} {V:aH}=>ac5 W (c:=c) (Lx:=Lx) (M:=M) (σ:=σ) (wr:=wr) (b:=b) (aE:=T) (mine:=G) (state:=R) (Ff:=V) (As:=p) (log:=cZ f h Z) (Pp:=Pp) q.n4 D w A u B
 unfold sr bodyPick at z⊢;have O:(cZ f h Z).length<=40:=Td E;refine Ex.S1 (x:="mine") (ts:=bh (cZ f h Z)) (enc:=eB) (f9:=Fi f h b k no Z o) (v:=λC=>.d (.lst ((((bh (cZ f h Z)).take C).foldl (iP (λY=>af) λi=>(i.1,(b,i.2))) (nd f h).acc).map ck))) (E9 (cZ f h Z)▸eG.bh (ah J)) J (gw lZ J) (λC F Q=>?_) (λY Y m=>Sub.app m) ?_
 .refine⟨_,j8 (.cons aJ (.cons aJ .nil)),?_⟩;have I:=S0 (λY=>af) (λi:Int×bz=>(i.1,(b,i.2))) (q.na h) ((bh (cZ f h Z)).take C);refine Ex.ac8 W t S3 (kJ y) (row:=(F.1,(b,F.2))) I.1 ?_ J (bQ (bl J (bl J (bl J aZ)))) aJ ?_
  .exact eK I.2 (eK (dQ (q.la h) (aj (wg _ _) (aj (cj (Ky _)) O))) ∅)
  refine aG (cP ⟨rfl,?_,gw (gw (gw (gw lZ J) J) J) J⟩);rw[rH,Q,j3];rfl
 rw[oF];have K:(bh (cZ f h Z)).foldl (iP (λY=>af) λi=>(i.1,(b,i.2))) (nd f h).acc=(bh (cZ f h Z)).foldl (λr i=>bB r (i.1,(b,i.2))) (nd f h).acc:=rfl;rw[K];have H:=ada f h b Z;have N:∀a L,no=a::L->aX (fX f h (nd f h) b no Z)=gn [.int h,.int (aa f),aK b,.lst (((bh (cZ f h Z)).foldl (λr i=>bB r (i.1,(b,i.2))) (nd f h).acc).map ck),.lst ((nd f h).aq.map eB),.str "idle",aK ((nd f a).promised.1,(h:Int)),.lst []]:=λa L S=>by rw[S];rfl
 generalize(bh (cZ f h Z)).foldl (λr i=>bB r (i.1,(b,i.2))) (nd f h).acc=G at H K N;cases no with
 |nil=>
  refine b7 (b:=aA) (rU (ah J) J) (λm=>oO m) λY=>aG ?_
  rw[<-H];exact fO z (k9 J)
 |cons a no=>
  refine b7 (b:=af) (rU (ah J) J) (λY=>?_) λm=>s9 m
  refine Ex.Kr (names:=["state","ballot","heard"]) (vs:=[.d (.str "idle"),.d (aK ((nd f a).promised.1,(h:Int))),.d (.lst [])]) (cR (dR (by decide+kernel)) (cR (bQ (aN (br (ds:=[.int (nd f a).promised.1,.int (nd f a).promised.2]) (j:=0) (br (j:=2) (x:=aK (nd f a).promised) (k8 (s a (.head _)) (ah J) J (kT (j:=0) (ah J) J aQ (g9 (j:=0) (pT _)) J)) aQ J J) aQ J J) (bl J aZ))) (cR (bF (eL aZ)) eX))) (eU.mpr ⟨aJ,eU.mpr ⟨aJ,eU.mpr ⟨aJ,λY m=>gS m⟩⟩⟩) J (aG ?_);rw[N a no J];exact fO z (k9 J)
def ade(u:c.toG0=g)(y:2<=c.n){i:aO}(L:sJ i)(s:∀e,∀h∈(nd i e).acc,0<=h.1/\h.1<=((40:Nat):Int))(Q:∀e,(nd i e).acc.length<=20){m:Nat}{b:aL}{q no Z:aF}{As:aH}{a:ak}{Pp:eH}(C:m<aa i)(K:∀e∈q,dP (aa i) e)(N:aa q<=1000)(D:∀e∈no,dP (aa i) e)(E:∀e∈Z,dP (aa i) e)(T:Z.Nodup)(F:(m:Int)∉Z)(r:aa Z<=20)(H:σ a=U (.l As))(O:¬c.M a):
 Ex ((c.fn (xd P) 138 Lx λY=>False).set M σ wr) (Te i m b q no Z a) [(sr P).drop 14] Pp (λY d=>d=.tup [.lst As,.lst (((bu (aa i)).map (lq i b q)).take m++[aX (fX i m (nd i m) b no Z)]++((bu (aa i)).map (lq i b q)).drop (m+1)),aK b,.lst ((cZ i m Z).map bq)]):=by
 intros g P c Lx M σ wr i _ W u y L s Q m b q no Z As a Pp C K N D E T F r H O;intros m b q no Z As a Pp _ W u y L s Q C K N D E T F r H O;have p:=adb W u y (Lx:=Lx) (M:=M) (σ:=σ) (wr:=wr) (Z:=Z) L s (b:=b) (Pp:=Pp) C K N D H O;have a0:dP (aa i) (m:Int):=⟨fJ _,dB.mpr C⟩;have V:∀e∈(m:Int)::Z,dP (aa i) e:=λe B=>(bN.mp B).elim (λR=>R▸a0) (E e)
 unfold sr bodyPick at p⊢;refine E8 (vs:=[.d (.str "preparing"),.d (aK b),.d (.lst []),.d (.lst ((nd i m).acc.map ck))]) (cR (dR (by decide+kernel)) (jv J (cR (bF (eL aZ)) (cR (br (j:=3) (ah J) aQ J J) eX)))) (iy aJ (iy aJ (iy aJ (iy aJ jh)))) ?_;have a3:(((m:Int)::Z).map λe=>ku (e,(nd i e).acc))=(((m:Int)::Z).map λe=>(e,(nd i e).acc)).map ku:=by rw[bV];rfl
 have au:((m:Int)::Z).length<=21:=fG r
 have a9:Nk (((m:Int)::Z).map λe=>(e,(nd i e).acc)):=by
  unfold Nk;rw[bV];exact(List.map_id' ((m:Int)::Z)).symm▸ff.mpr ⟨F,T⟩
 refine fN (v:=.d (.lst ((bH (((m:Int)::Z).map λe=>(e,(nd i e).acc))).map ku))) (bF (cF.Jm ac7 a9 (by rw[aP];exact eK au ∅) ?_)) aJ ?_
 .rw[<-a3];refine bF (uh (ts:=(m:Int)::Z) (enc:=.int) (dU (ds:=[.int m]++Z.map .int) (bF ?_)).it (λY av M ax w x=>⟨_,cW aJ,b8 J cX,bQ (bl J (aN (br (j:=3) (k8 (V w x) (ah J) J (ah J)) aQ J J) aZ))⟩) (aj au ∅));refine mE (bF (eL (bl J aZ))) (ah J) J J ?_;rw[bO,aP];exact aj (gc r 1) ∅
 refine b7 (b:=decide (aa i/2<=aa Z)) ?_ (λo=>?_) λo=>aG ?_
 .rw[<-ac6];exact bS (lO (ah J) (aR U (aP _))) (dY (ah J) aQ (Du ∅ ∅)) Cmp.ge
 .have A:cZ i m Z=mO (((m:Int)::Z.take (aa i/2)).flatMap λe=>(nd i e).acc):=az o;have S:Cc i m Z=(bh (cZ i m Z)).map λt=>jV (t.1,(t.2,[(m:Int)])):=az o
  have I:Fg (decide (aa i/2<=aa Z))="leading":=az o;have a7:=eZ o;have a4:((m:Int)::Z.take (aa i/2)).length<=21:=fG (aj (wg _ _) r);have X:(((m:Int)::Z.take (aa i/2)).flatMap λe=>(nd i e).acc).length<=1000:=aj (ac9 (k:=20) (λe=>Q e) _) (aj (Ad 20 a4) ∅)
  have aw:=Kz (l:=(((m:Int)::Z.take (aa i/2)).flatMap λe=>(nd i e).acc).map (·.1)) (k:=1000) ∅ λh a8=>by
   let ⟨ae,a6,zy⟩:=aY.mp a8;let ⟨e,_,B⟩:=fB.mp a6;exact⟨(s e ae B).1,dN (s e ae B).2 ∅⟩
  have a5:j7 (Z.map .int) ai (U ((aa i:Int).fdiv 2))=(Z.take (aa i/2)).map .int:=by
   have:(aa i:Int).fdiv 2=((aa i/2:Nat):Int):=by rw[GU _ ∅];rfl
   rw[this,zV _ (by rw[aP];exact a7),AA]
  have z:=W;rw[<-u] at z;refine fN (v:=.d (.lst ((cZ i m Z).map bq))) (A▸nJ (acC z X aw.1 aw.2) z.Zm (by rw[z.hK];rfl) (cR (bF (gp.f (Cp.new ?_))) eX) (kJ y) trivial) aJ ?_
  .refine Cp.flat (ts:=(m:Int)::Z.take (aa i/2)) (enc:=.int) (us:=λe=>(nd i e).acc) (rz:=ck) (aj X ∅) (dU (ds:=[.int m]++(Z.take (aa i/2)).map .int) (bF ?_)).it (λY av M ax w x=>⟨_,cW aJ,b8 J cX,qy (dU (br (j:=3) (k8 (V w ((bN.mp x).elim (λR=>R▸.head _) λG=>.tail _ (AF G))) (ah J) J (ah J)) aQ J J)),λbj=>⟨_,cW aJ,b8 J cX,ah J⟩⟩);refine mE (bF (eL (bl J aZ))) (bF ?_) J J ?_
   .rw[<-a5];exact tE (ah J) J .none (.int (dY (ah J) aQ (Du ∅ ∅)))
   rw[bO,aP];exact aj (gc (aj (wg _ _) r) 1) ∅
  refine Ex.Kr (names:=["state","heard"]) (vs:=[.d (.str "leading"),.d (.lst ((bh (cZ i m Z)).map λt=>jV (t.1,(t.2,[(m:Int)]))))]) (cR (dR (by decide+kernel)) (cR (bF (uh (ts:=bh (cZ i m Z)) (enc:=eB) (E9 (cZ i m Z)▸eG.bh (ah J)).it (λY av M ax w x=>⟨_,j8 (.cons aJ (.cons aJ .nil)),b8 J (b8 J cX),bQ (bl J (bl J (aN (bF (eL (bl J aZ))) aZ)))⟩) (by rw[Ky];exact aj (Td s) ∅))) eX)) (eU.mpr ⟨aJ,eU.mpr ⟨aJ,λY G=>gS G⟩⟩) J (aG ?_);unfold Fi at p;rw[S,I] at p;exact fO p (k9 J)
 have A:cZ i m Z=[]:=aB (rM.mp o);have S:Cc i m Z=(bH (((m:Int)::Z).map λe=>(e,(nd i e).acc))).map ku:=aB (rM.mp o);have I:Fg (decide (aa i/2<=aa Z))="preparing":=aB (rM.mp o);unfold Fi at p;rw[S,I,A] at p;rw[A];exact fO p (k9 J)
end
def adf(e:Int->Bool)(f:aF):(((f.mapIdx λi b=>(i,b)).filter λa=>e a.2&&!(f.take a.1).contains a.2).map (·.2))=(fV f).filter e:=by
 intros e f;rw[RA]
 have s:∀c:aF,((((c.reverse).mapIdx λi b=>(i,b)).filter λa=>e a.2&&!((c.reverse).take a.1).contains a.2).map (·.2))=fV (c.reverse.filter e):=λc=>by
  induction c with
  |nil=>rfl
  |cons d c k=>
   rw[ux,LU,oE,cy,oE]
   have p:(((c.reverse).mapIdx λi b=>(i,b)).filter λa=>e a.2&&!((c.reverse++[d]).take a.1).contains a.2)=(((c.reverse).mapIdx λi b=>(i,b)).filter λa=>e a.2&&!((c.reverse).take a.1).contains a.2):=by
    refine qd λa l=>?_
    let ⟨i,n,zy⟩:=L1.mp l;rw[<-zy,LY (gf n)]
   have r:([d].mapIdx λi b=>(i+aa c.reverse,b))=[(aa c.reverse,d)]:=aR (λi=>[(i,d)]) (rB _);rw[p,k,r];unfold fV;rw[j3];show Gz _ [] _++_=Gz _ (fV (c.reverse.filter e)) (List.filter e [d]);rw[gk,gk];have m:((c.reverse++[d]).take (aa c.reverse)).contains d=c.contains d:=by rw[CN,L2,L2];exact decide_eq_decide.mpr yg
   dsimp only;rw[m];cases hB:e d with
   |false=>exact c8 _
   |true=>
    have h:(fV (c.reverse.filter e)).any (·==d)=c.contains d:=by
     rw[oJ,yh,gy];exact⟨λq=>by let ⟨t,o,g⟩:=q;rw[beq_iff_eq] at g;subst g;exact yg.mp (cH.mp (y9.mp o)).1,λj=>⟨d,y9.mpr (cH.mpr ⟨yg.mpr j,hB⟩),beq_self_eq_true d⟩⟩
    cases hr:c.contains d with
    |true=>
     show fV _++[]=(if(fV (c.reverse.filter e)).any (·==d) then _ else _);rw[h,hr,az J,c8]
    |false=>
     show fV _++[d]=(if(fV (c.reverse.filter e)).any (·==d) then _ else _);rw[h,hr,aB i7]
 have:=s f.reverse
 rwa [Gw] at this
def adg(b c:aF):tT (b.map .int) (c.map .int)=(b.zip c).map λa=>.tup [.int a.1,.int a.2]:=by
 unfold tT;rw[List.zip_map,bV];rfl
def adh(no a:aF):vH no a=mT no a:=by
 unfold vH mT;cases no<;>rfl
def adi{no b:aF}(h:a∈mT no b):a∈b:=by
 unfold mT at h;cases no with
 |nil=>exact h
 |cons c no=>exact(AH _).subset h
def adj(a:aF):(fV a).length<=aa a:=by
 have d:∀(a b:aF),(a.foldl (λb c=>if b.any (·==c) then b else b++[c]) b).length<=aa b+aa a:=λa=>by
  induction a with
  |nil=>exact λb=>cB _
  |cons f a e=>
   intro b;rw[i6];refine aj (e _) ?_;rw[iz,kK (aa a) 1,<-rC];refine gg ?_ _;split
   .exact jw _
   .rw[bO];exact cB _
 exact aj (d a []) (cj (rB _))
def adk(a:aO)(c:Nat)(b:aL)(h e f g:aF)(k:Int):Nm:=[("places",.d (.lst (f.map .int))),("order",.d (.lst (g.map .int))),("up",.d (.lst (h.map .int))),("back",.d (.lst (e.map .int))),("b",.d (aK b)),("n",.d (.int (aa a))),("old",.d (aX (nd a c))),("nodes",.d (.lst (a.map aX))),("me",.d (.int c)),("k",.d (.int k))]
section
variable {g:G0}{P:Params}(W:WW g P){c:C}{Lx:ak}{M:bC}{σ:Sg}{wr:bC}
include W
def adl(D:c.toG0=g)(G:2<=c.n){l:aO}(H:sJ l)(Q:∀e,∀h∈(nd l e).acc,0<=h.1/\h.1<=((40:Nat):Int))(K:∀e,(nd l e).acc.length<=20){o:Nat}{b:aL}{m back p i:aF}{k:Int}{Pp:eH}(O:o<aa l)(F:∀e∈m,dP (aa l) e)(I:aa m<=1000)(u:∀e∈i,dP (aa l) e/\e≠o)(s:aa i<=20)(B:aa p=aa i):
 Ex ((c.fn (xd P) 138 Lx λE=>False).set M σ wr) (adk l o b m back p i k) [(sr P).drop 7] Pp (λE d=>d=.tup [.lst ([bE (.at o .run),bE (.double k)]++((p.zip i).map λf=>bE (dd f.1 (m.contains f.2)))++((i.filter λe=>m.contains e).map λe=>bE (dd 0 (back.contains e)))),.lst (((bu (aa l)).map (lq l b m)).take o++[aX (fX l o (nd l o) b (iE l b i back) (kG l b i back))]++((bu (aa l)).map (lq l b m)).drop (o+1)),aK b,.lst ((cZ l o (kG l b i back)).map bq)]):=by
 intros g P c Lx M σ wr l _ W D G H Q K o b m back p i k Pp O F I u s B;intros o b m back p i k Pp _ W D G H Q K O F I u s B;refine Ex.bm λa5=>?_
 have C:∀{ae:Nat},ae<=20->ae<=bf:=λw=>aj w ∅
 have a8:(i.filter λe=>m.contains e).length<=20:=aj (fZ _ _) s;have N:(p.zip i).length<=20:=by rw[CK,B,FU];exact s
 have Y:∀e∈kG l b i back,e∈i:=λe t=>adi (y9.mp (cH.mp t).1)
 have V:(mT (iE l b i back) i).length<=aa i:=by
  unfold mT;cases iE l b i back with
  |nil=>exact cB _
  |cons r no=>exact(AH _).length_le
 have av:(kG l b i back).length<=20:=aj (fZ _ _) (aj (adj _) (aj V s));have X:=λ{M:bC} {σ:Sg} {wr:bC} {au:aH} {y:ak}=>ade W D G (Lx:=Lx) (M:=M) (σ:=σ) (wr:=wr) H Q K (b:=b) (Pp:=Pp) (As:=au) (a:=y) O F I (no:=iE l b i back) (λe t=>(u e (cH.mp t).1).1) (Z:=kG l b i back) (λe t=>(u e (Y e t)).1) (T4 _ (IG _)) (λw=>(u _ (Y _ w)).2 J) av
 unfold sr bodyPick at X⊢;refine r6 (x:="acts") (wR (qE (eL (ds:=[bE (.at o .run),bE (.double k)]) (aN (bQ (aN (dR (by decide+kernel)) (bl J aZ))) (aN (bQ (aN (dR (by decide+kernel)) (bl J aZ))) aZ)))) aJ) λy S ax=>?_;intros y _ S ax
 have a3:¬c.M y:=λw=>S (a5 y w)
 have aw:(p.zip i).filter (λE=>af)=p.zip i:=rJ.mpr λE E=>rfl
 refine mG (x:="acts") (es:=(p.zip i).map λf=>bE (dd f.1 (m.contains f.2))) J (az J) (.inr J) aJ (bF (aw▸cF.OP (ts:=p.zip i) (enc:=λf=>.tup [.int f.1,.int f.2]) (g:=λf=>bE (dd f.1 (m.contains f.2))) (q:=λE=>af) (adg p i▸uW.zip (ah J) (ah J) (by rw[aP,aP];exact B)) (λE L M R A z=>⟨_,j8 (.cons aJ (.cons aJ .nil)),b8 J (b8 J cX),mF,λE=>Ev.dd (pO (ah J) (ah J) J) (ah J)⟩) (C N) J)) J ?_ ?_
 .rw[aP];exact aj (gc N 2) ∅
 refine mG (x:="acts") (es:=(i.filter λe=>m.contains e).map λe=>bE (dd 0 (back.contains e))) J (az J) (.inr J) aJ (bF (rZ (ts:=i) (enc:=.int) (g:=λe=>bE (dd 0 (back.contains e))) (q:=λe=>m.contains e) (dU (ah J)).it (λE L M R A z=>⟨_,cW aJ,b8 J cX,jt (pO (ah J) (ah J) J),λE=>Ev.dd (pO (ah J) (ah J) J) aQ⟩) (C s) J)) J ?_ ?_
 .rw[bO,aP,aP];exact aj (dQ (gc N 2) a8) ∅
 refine pN (ts:=i) (enc:=.int) (g:=.int) (q:=λe=>back.contains e&&blt b (nd l e).promised) (dU (ah J)).it (λE L M R A z=>⟨_,cW aJ,b8 J cX,jt (iU (ia (pO (ah J) (ah J) J) λE=>xN (bS (br (j:=2) (k8 (u A z).1 (ah J) J (ah J)) aQ J J) (ah J) (uR (op:=.Gt) (BI _ _) (lX _) J)))),λE=>ah J⟩) (C s) aJ ?_;have a7:(i.filter λe=>back.contains e&&blt b (nd l e).promised)=iE l b i back:=rfl;rw[a7];refine fN (v:=.d (.lst (i.map .int))) (ah J) aJ ?_;refine Ex.SW (T:=Int) (enc:=.int) kB (λE=>cL _) J J J (λe t=>(cH.mp t).1) aJ ?_;rw[adh]
 have a0:jE 0 ((mT (iE l b i back) i).map .int)=((mT (iE l b i back) i).mapIdx λr e=>(r,e)).map λf=>gn [.int (0+(f.1:Int)),.int f.2]:=by
  unfold jE;apply kO;intro r;intros r;rw[mX,cC,cC,mX];cases(mT (iE l b i back) i)[r]?<;>rfl
 refine pN (ts:=(mT (iE l b i back) i).mapIdx λr e=>(r,e)) (enc:=λf=>gn [.int (0+(f.1:Int)),.int f.2]) (g:=λf=>.int f.2) (q:=λf=>back.contains f.2&&!((mT (iE l b i back) i).take f.1).contains f.2) (a0▸eG.YW (ah J)).it (λE L M R A z=>⟨_,j8 (.cons aJ (.cons aJ .nil)),b8 J (b8 J cX),jt (iU (ia (pO (ah J) (ah J) J) λE=>xN (E7 (ah J) (bF (tE (ah J) J .none (.int (ah J)))) ?_))),λE=>ah J⟩) ?_ aJ ?_
 .let ⟨r,a6,zy⟩:=L1.mp z;rw[<-zy];show j7 _ ai (U (0+(r:Int)))=_;rw[GI,zV _ (by rw[aP];exact gf a6),AA]
 .rw[qb];exact C (aj V s)
 have a4:((((mT (iE l b i back) i).mapIdx λr e=>(r,e)).filter λf=>back.contains f.2&&!((mT (iE l b i back) i).take f.1).contains f.2).map λf=>iM f.2)=(kG l b i back).map .int:=by
  unfold kG;rw[<-adf,bV];rfl
 rw[a4];refine fO (X (az J) a3) ?_;exact(k9 J)
end
def l6(b:aO)(a:Nat):aL:=(max (nd b a).promised.1 (nd b a).aE.1+1,(a:Int))
def adm(c:aO)(d:Nat)(e:Int)(f:Bool)(k:Int):
 fu c d e f k=⟨[.at d .run,.double k]++((pH f (b9 (aa c) d f k)).zip (b9 (aa c) d f k)).map (λb=>dd b.1 ((f6 e (aa c) d).contains b.2))++((b9 (aa c) d f k).filter λa=>(f6 e (aa c) d).contains a).map (λa=>dd 0 ((dI e (aa c) d).contains a)),
  oh c d (l6 c d) (f6 e (aa c) d) (fX c d (nd c d) (l6 c d) (iE c (l6 c d) (b9 (aa c) d f k) (dI e (aa c) d)) (kG c (l6 c d) (b9 (aa c) d f k) (dI e (aa c) d))),
  l6 c d,cZ c d (kG c (l6 c d) (b9 (aa c) d f k) (dI e (aa c) d))⟩:=rfl
def adn{a:aO}{e:Nat}{b:aL}{c:aF}{f:aD}(g:e<aa a):((bu (aa a)).map (lq a b c)).take e++[aX f]++((bu (aa a)).map (lq a b c)).drop (e+1)=(oh a e b c f).map aX:=by
 intros a e b c f _ g;unfold bu oh;rw[bV,bV];refine S7 g ?_ λd h=>?_
 .rw[AR,az J]
 rw[AR,AR,aB h];unfold lq
 have i:(c.filter λd=>!blt b (nd a d).promised).contains (d:Int)=(c.contains (d:Int)&&!blt b (nd a d).promised):=by
  rw[oJ,gy,cH,gQ,gy]
 rw[i];cases(c.contains (d:Int)&&!blt b (nd a d).promised)<;>rfl
def ado(f:Nat)(k:Int)(e:bZ)(d:aF)(c:Int×Int->Mv)(h:Int->Mv):([Mv.at f .run,.double k]++e.map c++d.map h).map bE=[bE (.at f .run),bE (.double k)]++(e.map λa=>bE (c a))++(d.map λb=>bE (h b)):=by
 rw[cy,cy,bV,bV];rfl
section
variable {g:G0}{P:Params}(W:WW g P)
include W
def adp(p:sJ c)(F:∀h,∀f∈(nd c h).acc,0<=f.1/\f.1<=((40:Nat):Int))(D:∀h,(nd c h).acc.length<=20)(r:e<aa c):kg g 3 138 [.d (.lst (c.map aX)),.d (.int e),.d (.int f),.d (.int i),.d (.int k)] (λH=>True) (.tup [.lst ((fu c e f (decide (i=1)) k).bG.map bE),.lst ((fu c e f (decide (i=1)) k).after.map aX),aK (fu c e f (decide (i=1)) k).b,.lst ((fu c e f (decide (i=1)) k).log.map bq)]):=by
 intros g P c e f i k _ W p F D r;refine o6 (n:=2) (ZH W) J λav L y A ae=>?_
 have E:(bx (aa c) e).length<=4:=aj (fZ _ _) (by rw[k7];exact p.n4)
 have t:(cY (bx (aa c) e) k).length<=5:=by
  unfold cY;rw[bO];exact dQ E (S8 _)
 have V:∀h∈f6 f (aa c) e,dP (aa c) h:=λh w=>Fb (cH.mp w).1
 have X:(f6 f (aa c) e).length<=1000:=aj (fZ _ _) (by rw[k7];exact aj p.n4 ∅);have I:∀m,∀h∈b9 (aa c) e m k,dP (aa c) h/\h≠e:=λm h w=>have o:=t8 w;⟨⟨o.1,o.2.1⟩,o.2.2⟩
 have B:∀m,(b9 (aa c) e m k).length<=5:=λm=>by
  unfold b9;split
  .rw[yj];exact t
  exact t
 have Q:∀m,(pH m (b9 (aa c) e m k)).length=(b9 (aa c) e m k).length:=λm=>by
  unfold pH;split
  .rw[yj,k7]
  rw[aP]
 have u:=λ{M:bC} {σ:Sg} {wr:bC} (m:Bool)=>adl W y A (Lx:=L) (M:=M) (σ:=σ) (wr:=wr) p F D (b:=l6 c e) (back:=dI f (aa c) e) (k:=k) (Pp:=λH H=>gn [.lst ((fu c e f m k).bG.map bE),.lst ((fu c e f m k).after.map aX),aK (fu c e f m k).b,.lst ((fu c e f m k).log.map bq)]=.none) r V X (I m) (aj (B m) ∅) (Q m)
 have z:∀m,gn [.lst ([bE (.at e .run),bE (.double k)]++(((pH m (b9 (aa c) e m k)).zip (b9 (aa c) e m k)).map λC=>bE (dd C.1 ((f6 f (aa c) e).contains C.2)))++(((b9 (aa c) e m k).filter λh=>(f6 f (aa c) e).contains h).map λh=>bE (dd 0 ((dI f (aa c) e).contains h)))),.lst (((bu (aa c)).map (lq c (l6 c e) (f6 f (aa c) e))).take e++[aX (fX c e (nd c e) (l6 c e) (iE c (l6 c e) (b9 (aa c) e m k) (dI f (aa c) e)) (kG c (l6 c e) (b9 (aa c) e m k) (dI f (aa c) e)))]++((bu (aa c)).map (lq c (l6 c e) (f6 f (aa c) e))).drop (e+1)),aK (l6 c e),.lst ((cZ c e (kG c (l6 c e) (b9 (aa c) e m k) (dI f (aa c) e))).map bq)]=gn [.lst ((fu c e f m k).bG.map bE),.lst ((fu c e f m k).after.map aX),aK (fu c e f m k).b,.lst ((fu c e f m k).log.map bq)]:=λm=>by
  rw[adm,adn r];exact aR (λT=>gn [.lst T,_,_,_]) (ado ..).symm
 rw[<-y] at W;unfold sr bodyPick at u⊢;refine E8 (vs:=[.d (.int (aa c)),.d (aX (nd c e))]) (cR (lO (ah J) (aR U (aP _))) (cR (k8 ⟨fJ _,dB.mpr r⟩ (ah J) J (ah J)) eX)) (iy aJ (iy aJ jh)) ?_;refine fN (v:=.d (aK (l6 c e))) (bQ (aN (dY (Ev.max2 (br (ds:=[.int (nd c e).promised.1,.int (nd c e).promised.2]) (j:=0) (br (j:=2) (ah J) aQ J J) aQ J J) (br (ds:=[.int (nd c e).aE.1,.int (nd c e).aE.2]) (j:=0) (br (j:=6) (ah J) aQ J J) aQ J J)) aQ qt) (bl J aZ))) aJ ?_;refine uZ (nJ (SO W p.n4) W.QI (by rw[W.hK];rfl) (jv J (jv J (jv J eX))) (kJ A) trivial) (iy aJ (iy aJ jh)) ?_;refine r6 (x:="order") (cn:=.l ((bx (aa c) e).map .int)) (yU (Bh (ts:=bu (aa c)) (enc:=.int) (g:=.int) (q:=λh=>decide (h≠e)) (qy (eG.ints (aj p.n4 ∅) (ah J))) (λH R M Y i N=>⟨_,cW aJ,b8 J cX,jt (B8 (ah J) (ah J)),λH=>ah J⟩) (by rw[k7];exact aj p.n4 ∅) J) aJ J) λO K aw=>?_
 refine Ex.SV (x:="order") (a:=O) (ds:=(bx (aa c) e).map .int) J (az J) (.inr J) (λo=>K (.inl o)) J (by rw[aP];exact aj (fG E) ∅) λM σ wr au Z=>?_
 rw[S9];refine B9 (ts:=cY (bx (aa c) e) k) (enc:=.int) (g:=λH=>.int 0) (dU (ah J)).it (λH R M Y i N=>⟨_,cW aJ,b8 J cX,aQ⟩) (aj t ∅) aJ ?_;refine b7 (b:=decide (i=1)) (bX.Fc (ah J) aQ) (λs=>?_) λs=>aG ?_
 .rw[s];refine fN (v:=.d (.lst ((b9 (aa c) e af k).map .int))) (bF ?_) aJ ?_
  .rw[show b9 (aa c) e af k=(cY (bx (aa c) e) k).reverse from rfl,L3];exact cF.rev (ah J) J
  refine fN (v:=.d (.lst ((pH af (b9 (aa c) e af k)).map .int))) (bF ?_) aJ ?_
  .rw[show pH af (b9 (aa c) e af k)=(bu (b9 (aa c) e af k).length).reverse from rfl,L3,<-JK];exact cF.rev (bF (cF.Za (n:=((b9 (aa c) e af k).length:Int)) (lO (ah J) (aR U (aP _))) ⟨fJ _,dN (iK.mpr (B af)) ∅⟩)) J
  exact aG (Bb (fO (u af) (k9 J)) (λH H o=>o) λH G o=>o.trans (z af))
 have S:((cY (bx (aa c) e) k).map λH=>iM 0)=(pH aA (b9 (aa c) e aA k)).map .int:=by
  rw[show pH aA (b9 (aa c) e aA k)=(cY (bx (aa c) e) k).map λH=>(0:Int) from rfl,bV];rfl
 rw[s,S];exact Bb (fO (u aA) (k9 J)) (λH H o=>o) λH G o=>o.trans (z aA)
end
section
variable {c:C}{ρ:Nm}{e e1 e2 e3:aT}{v:V}{p1 p2 p3 p4 pos tp vp:Pos}{es o5:cN}{Q Q':C->gm->Prop}{k:eV}{rest:dH}{P:eH}{R:d9}{ds sL Cd:aH}{n m:Nat}
def o4.mono(h:o4 c ρ es Q)(e:∀b a,Q b a->Q' b a):o4 c ρ es Q':=λn pos k j=>aS (h n pos k j) (λo p m=>by
 obtain⟨b,a,l,d,g,f,i⟩:=m;exact⟨b,a,l,d,g,f,e _ _ i⟩)
def Ex.mk3(h1:cF c ρ e1 sL)(h2:∀a,cF (c.add a (.l sL)) ρ e2 Cd)(t:∀a b,Ev ((c.add a (.l sL)).add b (.l Cd)) ρ e3 v)(D:∀d∈[x,y,z],gH c d)
 (I:∀a b,¬c.M a->c.σ a=ai->¬(c.add a (.l sL)).M b->(c.add a (.l sL)).σ b=ai->Ex ((c.add a (.l sL)).add b (.l Cd)) ((x,.r a)::(y,.r b)::(z,v)::ρ) (rest::k) P R)
 (J:autoParam (cD e1=aA) aI) (G:autoParam (cD e2=aA) aI) (H:autoParam (cD e3=aA) aI) (hw:autoParam (swappedStores [.Tuple o5 n tp] (.Tuple [e1,e2,e3] m vp) c.env=pure (U [x,y,z])) aI):Ex c ρ ((.Assign [.Tuple o5 n tp] (.Tuple [e1,e2,e3] m vp) pos::rest)::k) P R:=by
 refine Ig (names:=[x,y,z]) (Q:=λi g=>∃a b,¬c.M a/\c.σ a=ai/\¬(c.add a (.l sL)).M b/\(c.add a (.l sL)).σ b=ai/\i=(c.add a (.l sL)).add b (.l Cd)/\g=[.r a,.r b,v]) ?_ D ?_ (by exact(by decide:3<=100)) hw
 .refine nF (lR (qE h1)) (λK L Z f=>?_) J;let ⟨a,C,E,A,p⟩:=f;subst A p;refine nF (lR (qE (h2 a))) (λN O Z h=>?_) G;let ⟨b,u,F,s,j⟩:=h;subst s j;exact(cR (t a b) eX H).ms.mono λS g e=>⟨a,b,C,E,u,F,e.1,by rw[e.2]⟩
 intro i g _ o;let ⟨a,b,f,h,e,B,q,w⟩:=o;subst q w;exact⟨rfl,I a b f h e B⟩
end
structure WL(g:G0)(P:Params):Prop extends WW g P where
 m_words:g.mg "_law_words"=U (.ref 118)
def sM(a:Nat×aO):D:=.tup [.int a.1,.lst (a.2.map aX)]
def KA:aH:=qT.map λa=>.tup (a.map bq)
section
variable {g:G0}{P:Params}(W:WL g P)
include W
def xS(d:(hd.heap_1 P).lookup a=U (seqObj "tuple" b n))(f:aa ds<=bf)(h:aW g.h₀ (λa=>g.h₀.get? a=ai) b.toList ds):Rep g.h₀ (λa=>g.h₀.get? a=ai) (.ref a) (.tup ds):=
 have c:=W.jB a _ (W.hK.symm▸d)
 .tup ⟨n,c⟩ (λe=>ns e c) f h
def adq:Rep g.h₀ (λa=>g.h₀.get? a=ai) (.ref 118) (.tup KA):=by
 refine xS W J ∅ (.cons (xS W J ∅ .nil) (.cons (xS W J ∅ (.cons (.str _ _ (by decide+kernel)) .nil)) (.cons (xS W J ∅ (.cons (.str _ _ (by decide+kernel)) .nil)) (.cons (xS W J ∅ (.cons (.str _ _ (by decide+kernel)) (.cons (.str _ _ (by decide+kernel)) .nil))) (.cons (xS W J ∅ (.cons (.str _ _ (by decide+kernel)) (.cons (.str _ _ (by decide+kernel)) .nil))) (.cons (xS W J ∅ (.cons (.str _ _ (by decide+kernel)) (.cons (.str _ _ (by decide+kernel)) .nil))) .nil))))))
end
noncomputable def KC(a:Params):dH:=EO ((sy a).drop 7)
def Fj(n:Nat)(a:R1)(b c:ak):Nm:=[("nodes",.d (.lst (a.nodes.map aX))),("left",.d (.lst (a.left.map bI))),("n",.d (.int n)),("acts",.r b),("marks",.r c)]
noncomputable def ads(a:lY):Nm:=[("k",.d (.int a.k)),("mode",.d (.int a.mode)),("lost",.d (.int a.cu)),("word",.d (.int a.word)),("y",.d (.int a.y)),("x",.d (.int a.x)),("who",.d (.int a.who))]
structure Tf(n:aD):Prop where
 sz:n.size<=4
 ph:n.phase<=2
 ch:aa n.aq<=1000
 hp:aa n.hp<=1000
 hl:aa n.hl<=1000
 vo:∀x∈n.hl,aa x.2.2<=1000
structure Fl(S:R1)(me:Nat)(r:lY)(o:ju)(ws:dG)(v:fE×aO):Prop where
 Fo:me<aa S.nodes
 F:sJ S.nodes
 hk:∀j,∀x∈(nd S.nodes j).acc,0<=x.1/\x.1<=((40:Nat):Int)
 hla:∀j,(nd S.nodes j).acc.length<=20
 eo:o=fu S.nodes me r.x (decide (r.mode.fmod 2=1)) r.k
 F2:sJ o.after
 l2:aa o.after=aa S.nodes
 lg:aa o.log<=10
 ew:qT[bT r.word 6]?=U ws
 lw:aa ws<=10
 ev:v=gK o.after me o.b o.log ws r.y (r.cu.fmod 4) r.k
 l3:aa v.2=aa S.nodes
 ag:Tf (nd v.2 me)
 al:aa S.bG+aa S.left+aa o.bG+aa v.1<=1000
 ml:aa S.marks<=100
def uo(a:R1)(b:Nat)(d:lY)(e:ju)(c:fE×aO):fE:=a.bG++(a.left.map λz=>za d.k)++e.bG++c.1++[Mv.at b .again]
def Ce(a:R1)(e:Nat)(d:lY)(b:ju)(c:fE×aO):List (Nat×aO):=a.marks++[((a.bG++(a.left.map λz=>za d.k)++b.bG).length,b.after)]++[((uo a e d b c).length,c.2)]
def adt{b f:Type}(a:b->f)(e d c:List b):e.map a++(d.map a++c.map a)=(e++d++c).map a:=by rw[cy,cy,e9]
def adu(g:Fl d a c e f b)(h:bT c.who (aa d.nodes)=a):mQ d c=if c.mode.fmod 4<2 then⟨uo d a c e b++[Mv.at a .e8],Ce d a c e b++[((uo d a c e b++[Mv.at a .e8]).length,b.2.set a (n7 (nd b.2 a)))],kD (nd b.2 a),b.2.set a (n7 (nd b.2 a))⟩ else⟨uo d a c e b,Ce d a c e b,kD (nd b.2 a),b.2⟩:=by
 intros d a c e f b _ g h;have i:qT.getD (bT c.word 6) []=f:=by rw[qc,g.ew];rfl
 unfold mQ Ce uo;dsimp only;rw[h,i,<-g.eo,<-g.ev]
section
variable {g:G0}{P:Params}(W:WL g P){c:C}{Lx:ak}{M:bC}{σ:Sg}{wr:bC}
include W
def adv(I:c.toG0=g)(z:4<=c.n){S:R1}{me:Nat}{r:lY}{o:ju}{ws:dG}{v:fE×aO}(i:Fl S me r o ws v)(B:bT r.who (aa S.nodes)=me){a m:ak}{R:d9}(K:σ a=U (.l (S.bG.map bE)))(N:σ m=U (.l (S.marks.map sM)))(q:wr a)(s:wr m)(p:m≠a):
 Ex ((c.fn (su P) 153 Lx λ_=>False).set M σ wr) (ads r++Fj (aa S.nodes) S a m) [KC P] (λe h=>e.σ a=U (.l ((mQ S r).bG.map bE))/\e.σ m=U (.l ((mQ S r).marks.map sM))/\e.wr a/\e.wr m/\Sub (Fj (aa S.nodes) (mQ S r) a m) h) R:=by
 intros g P c Lx M σ wr S _ W I z me r o ws v i B a m R K N q s p;intros me r o ws v a m R _ W I z i B K N q s p;have T:0<aa S.nodes:=eK (cL _) i.Fo;have a8:=B;have G:=adu i B;have au:r.who.fmod (aa S.nodes)=(me:Int):=(EL r.who T).trans (aR (λn:Nat=>(n:Int)) B);have C:=i.al;rw[<-I] at W;have ax:(S.bG.map bE).length+(S.left.map λ_=>bE (.drop r.k)).length<=1000:=by rw[aP,aP];exact aj (aj (fz _ _) (fz _ _)) C
 have a0:(S.bG.map bE++S.left.map λ_=>bE (.drop r.k)).length+(o.bG.map bE).length<=1000:=by rw[bO,aP,aP,aP];exact aj (fz _ _) C
 have E:((S.bG.map bE++S.left.map λ_=>bE (.drop r.k))++o.bG.map bE).length+(v.1.map bE++[bE (.at me .again)]).length<=1001:=by rw[bO,bO,bO,aP,aP,aP,aP];exact fG C
 have Y:(S.bG.map bE++S.left.map λ_=>bE (.drop r.k))++o.bG.map bE=(S.bG++(S.left.map λ_=>za r.k)++o.bG).map bE:=by rw[cy,cy,bV];rfl
 have Z:(S.bG++(S.left.map λ_=>za r.k)++o.bG).map bE++(v.1.map bE++[bE (.at me .again)])=(uo S me r o v).map bE:=adt bE _ v.1 [Mv.at me .again];rw[Y] at E;unfold KC sy bodyPick;refine fN (v:=.d (.int me)) (au▸dY (ah J) (ah J) (qw λae=>pR T (oN ae))) aJ ?_;refine mG (x:="acts") (es:=S.left.map λ_=>bE (.drop r.k)) J K q aJ (bF (uh (ts:=S.left) (enc:=bI) (dU (ah J)).it (λa5 a7 M a9 a4 a6=>⟨_,cW aJ,b8 J cX,bQ (aN (dR (by decide+kernel)) (bl J aZ))⟩) ?_)) J (aj ax ∅) ?_
 .exact aj (aj (jK _ _) (aj (aj (fz _ _) (fz _ _)) C)) ∅
 refine uZ (nJ (adp W.toWW i.F i.hk i.hla i.Fo) W.Zn (by rw[W.hK];rfl) (jv J (jv J (jv J (cR (dY (ah J) aQ (qw ∅)) (jv J eX))))) (kJ z) trivial) (iy aJ (iy aJ (iy aJ (iy aJ jh)))) ?_;rw[<-i.eo];refine mG (x:="acts") (es:=o.bG.map bE) J (az J) q aJ (ah J) J (aj a0 ∅) ?_;rw[Y];refine kY (qF (a:=m) (x:=sM ((S.bG++(S.left.map λ_=>za r.k)++o.bG).length,o.after)) (ah J) ((aB p).trans ((aB p).trans N)) s (bQ (aN (lO (ah J) ((EM (az J)).trans (aR U (aP _)))) (bl J aZ))) (by rw[aP];exact aj (fG i.ml) ∅)) λe L O t=>?_
 let ⟨w,_⟩:=t;subst w;have a3:=tP r.word (n:=6) ∅;have av:me<aa o.after:=i.l2▸i.Fo;have A:me<aa v.2:=i.l3▸i.Fo;refine uZ (nJ (ac2 W.toWW i.F2 (b:=o.b) (y:=r.y) (cu:=r.cu.fmod 4) (k:=r.k) av i.lg i.lw) W.Zo (by rw[W.hK];rfl) (jv J (jv J (jv J (jv J (cR (br (ds:=KA) (j:=bT r.word 6) (Ev.YM W.m_words (adq W)) (dY (ah J) aQ (qw ∅)) ?_ ?_) (jv J (cR (dY (ah J) aQ (qw ∅)) (jv J eX)))))))) (kJ z) trivial) (iy aJ (iy aJ jh)) ?_
 .rw[show r.word.fmod 6=((bT r.word 6:Nat):Int) from EL r.word (n:=6) ∅];exact g9 a3
 .unfold KA;rw[cC,i.ew];rfl
 rw[<-i.ev];refine fN (nJ (acE W.toWW i.ag.sz i.ag.ph i.ag.ch i.ag.hp i.ag.hl i.ag.vo) W.Zp (by rw[W.hK];rfl) (cR (k8 ⟨fJ _,dB.mpr A⟩ (ah J) J (ah J)) eX) (aj ∅ (kJ z)) trivial) aJ ?_;refine mG (x:="acts") (es:=v.1.map bE++[bE (.at me .again)]) J ((aB p.symm).trans (az J)) q aJ (bF (mE (ah J) (bF (eL (aN (bQ (aN (dR (by decide+kernel)) (bl J aZ))) aZ))) J J ?_)) J (aj E ∅) ?_
 .exact aj (aj (jK _ _) E) ∅
 rw[Z];refine kY (qF (a:=m) (x:=sM ((uo S me r o v).length,v.2)) (ah J) ((aB p).trans (az J)) s (bQ (aN (lO (ah J) ((EM (az J)).trans (aR U (aP _)))) (bl J aZ))) ?_) λe L O t=>?_
 .rw[bO,aP];exact aj (fG (fG i.ml)) ∅
 let ⟨w,_⟩:=t;subst w;refine b7 (b:=decide (r.mode.fmod 4<2)) (bS (dY (ah J) aQ (qw ∅)) aQ Cmp.lt) (λH=>?_) λH=>?_
 .rw[az (eZ H)] at G;rw[G];refine kY (qF (a:=a) (x:=bE (.at me .e8)) (ah J) ((aB p.symm).trans (az J)) q (bQ (aN (dR (by decide+kernel)) (bl J aZ))) ?_) λe L O t=>?_
  .rw[<-Z,bO];exact aj (fG E) ∅
  let ⟨w,_⟩:=t;subst w;have V:aa v.2<=4:=by rw[i.l3];exact i.F.n4
  have Q:dP (aa v.2) (me:Int):=⟨fJ _,dB.mpr A⟩;have D:(v.2.map aX).length=aa v.2:=aP _
  have X:(v.2.map aX).take me++[aX (n7 (nd v.2 me))]++(v.2.map aX).drop (me+1)=(v.2.set me (n7 (nd v.2 me))).map aX:=by
   rw[CL,LZ,az (D.symm▸A),e9];rfl
  refine fN (v:=.d (.lst ((v.2.set me (n7 (nd v.2 me))).map aX))) (bF ?_) aJ ?_
  .rw[<-X];refine mE (bF (mE (ds:=(v.2.map aX).take me) (es:=[aX (n7 (nd v.2 me))]) (bF ?_) (bF (eL (aN (dY (sD (ds:=five (nd v.2 me)++[.str (jm (nd v.2 me).phase),aK (nd v.2 me).aE,.lst (jd (nd v.2 me))]) (out:=five (nd v.2 me)) (l:=ai) (u:=U 5) (k8 Q (ah J) J (ah J)) .none (.int aQ) J) (bQ (ds:=[.str "idle",aK (nd v.2 me).aE,.lst []]) (aN (dR (by decide+kernel)) (aN (br (j:=6) (k8 Q (ah J) J (ah J)) aQ J J) (aN (bF (eL aZ (bM J))) aZ))) (bM J)) (oV (bM J))) aZ) (bM J))) J J ?_)) (bF ?_) J J ?_
   .rw[<-zV (v.2.map aX) (gf (D.symm▸A))];exact tE (ah J) J .none (.int (ah J))
   .rw[bO,uC,D];exact aj (gg (aj (vU _ _) V) 1) ∅
   .rw[<-Ku (v.2.map aX) (D.symm▸A)];exact tE (ah J) J (.int (dY (ah J) aQ qt)) .none
   rw[X,aP,mY];exact aj V ∅
  refine kY (qF (a:=m) (x:=sM ((uo S me r o v++[Mv.at me .e8]).length,v.2.set me (n7 (nd v.2 me)))) (ah J) ((aB p).trans (az J)) s (bQ (aN (lO (ah J) ((EM (az J)).trans (aR U ?_))) (bl J aZ))) ?_) λe L O t=>?_
  .rw[bO,bO,aP];rfl
  .rw[bO,bO,aP];exact aj (fG (fG (fG i.ml))) ∅
  let ⟨w,_⟩:=t;subst w;refine aG (aG (cP ⟨(aB p.symm).trans ((az J).trans ?_),(az J).trans ?_,q,s,?_⟩))
  .exact aR (λaw=>U (Cn.l aw)) (cy (f:=bE) (l₁:=uo S me r o v) (l₂:=[Mv.at me .e8])).symm
  .unfold Ce;rw[cy,cy,cy];rfl
  exact(k9 J)
 rw[aB (of_decide_eq_false H)] at G;rw[G];refine aG (aG (cP ⟨(aB p.symm).trans (az J),(az J).trans ?_,q,s,?_⟩))
 .unfold Ce;rw[cy,cy];rfl
 exact(k9 J)
end
def KD(b:bU):D.dO (b.map ck)<=2:=oz λd a=>by
 let ⟨c,_,zy⟩:=aY.mp a;exact Kn c
def Tg(b:aL):(aK b).dep=1:=rfl
def Th(a:gr):(bI a).dep<=4:=by
 cases a<;>simp only[bI,D.dep,D.dO,Tg,zU]<;>try decide
 rename_i b;have:=KD b;exact fG (mz (wH ∅ (mz (mz (zm (lA this J))))))
def Ti(n:aD):(aX n).dep<=6:=by
 intros n;unfold aX jd;have f:=KD n.acc
 have d:D.dO (n.aq.map eB)<=1:=oz λc a=>by
  let ⟨b,_,zy⟩:=aY.mp a;simp[eB,D.dep,D.dO,zU]
 have e:D.dO (if n.phase=1 then n.hp.map ku else if n.phase=2 then n.hl.map jV else[])<=4:=oz λc a=>by
  split at a
  .let ⟨b,_,zy⟩:=aY.mp a;have:=KD b.2;simp only[ku,D.dep,D.dO];exact fG (mz (zm (lA this J)))
  split at a
  .let ⟨b,_,zy⟩:=aY.mp a
   have:D.dO (eY b.2.2)<=0:=oz λc a=>by
    let ⟨g,_,zy⟩:=aY.mp a;exact cB _
   simp only[jV,D.dep,D.dO,zU];exact fG (mz (mz (zm (lA this J))))
  cases a
 simp only[D.dep,D.dO,Tg];exact fG (mz (mz (wH ∅ (wH (lA f J) (wH (lA d J) (mz (wH ∅ (zm (lA e J)))))))))
def adw(ns:aO):(oU (ns.map aX)).dep<=7:=by
 have:D.dO (ns.map aX)<=6:=oz λc b=>by
  let ⟨a,_,zy⟩:=aY.mp b;exact Ti a
 simp only[D.dep];exact lA ‹_› rfl
def adx(a:cT):(oU (a.map bI)).dep<=5:=by
 have:D.dO (a.map bI)<=4:=oz λd c=>by
  let ⟨b,_,zy⟩:=aY.mp c;exact Th b
 simp only[D.dep];exact lA ‹_› rfl
def ady(b:Mv):(bE b).dep<=6:=by
 rw[Z8]
 have:D.dO (Q4 b)<=5:=by
  cases b with
  |«at» i e=>
   cases e with
   |bW f=>exact oz λc a=>by rw[dh.mp a,zU];exact cL _
   |msg d=>exact oz λc a=>by rw[dh.mp a];exact aj (Th d) ∅
   |_=>exact cL _
  |_=>exact cL _
 simp only[D.dep,D.dO];exact eK ‹_› ∅
def adz(a:fE):(oU (a.map bE)).dep<=7:=by
 have:D.dO (a.map bE)<=6:=oz λd c=>by
  let ⟨b,_,zy⟩:=aY.mp c;exact ady b
 simp only[D.dep];exact lA ‹_› rfl
section
variable {c:C}{ρ:Nm}{e₁ e₂:aT}{pos:Pos}{x:D}
def bX.adA(e:Ev c ρ e₁ (.d x))(f:Ev c ρ e₂ (.d x))(a:x.dep<=400)(b:behindInMarks .NotEq e₂=aA:=by with_unfolding_all rfl):bX c ρ (.Compare e₁ [.NotEq] [e₂] pos) aA:=by
 have:=bS (pos:=pos) e f (uQ (c:=c) (x:=x) (y:=x) (aj (oA _ _) a)) b;rw[D.beq_refl] at this;exact this
end
section
variable {c:C}{ρ f9:Nm}{k:eV}{rest:dH}{P:eH}{R:d9}{pos:Pos}
def Ex.adB{i:Type}{ts:List i}{enc:i->D}{j iter:aT}{body:dH}(m:eG c ρ iter (ts.map enc))(o:Sub f9 ρ)
 (l:∀M σ wr d,d∈ts->∃b,iV (c.set M σ wr) j (enc d) b/\Ex (c.set M σ wr) (b++f9) [body] (λz a=>Sub f9 a) R)
 (s:∀M σ wr,Ex (c.set M σ wr) f9 (rest::k) P R) (hs:autoParam (∀e,foldedSetIterable iter c.env e=pure e) lH):Ex c ρ ((.For j iter body [] pos::rest)::k) P R:=by
 refine Ex.for (Inv:=λz z a=>Sub f9 a) m o (λn t r a h f g=>?_) (λr a h g=>?_) hs
 .let ⟨M,σ,wr,zy⟩:=gv (c:=c) h;rw[cC] at f;cases ht:ts[n]? with
  |none=>rw[ht] at f;cases f
  |some d=>
   rw[ht] at f;cases f;let ⟨b,p,q⟩:=l M σ wr d (iZ ht);exact⟨b,p,fO q (Sub.app g b)⟩
 let ⟨M,σ,wr,zy⟩:=gv (c:=c) h;exact fO (s M σ wr) g
end
open Mine.Ex renaming adB->Fp
open Mine.bX renaming adA->Fq
def adC(h:0<n):seqIndex? (-1) n=U (n-1):=by
 obtain⟨a,rfl⟩:∃a,n=a+1:=⟨n-1,(Nat.sub_add_cancel h).symm⟩;have b:(-1:Int)+((a+1:Nat):Int)=(a:Int):=by rw[Int.natCast_add,GN];exact Int.add_neg_cancel_right _ 1
 have c:(decide ((0:Int)<=-1+((a+1:Nat):Int))&&decide ((-1:Int)+((a+1:Nat):Int)<((a+1:Nat):Int)))=af:=by
  rw[b];exact(gQ _ _).mpr ⟨decide_eq_true (fJ a),decide_eq_true (dB.mpr (l7 a))⟩
 exact(az c).trans (aR U (aR Int.toNat b))
def Tj(c:PS)(b:fE):∀(k i:Nat),i<=k->(nZ c b k)[i]?=U (.lst ((jG c (b.take i)).1.map aX)):=by
 intro e
 induction e with
 |zero=>
  intro i a;cases FP.mp a;rfl
 |succ k d=>
  intro i a;rw[JH];rcases sP a with a|a
  .rw[List.getElem?_append_left (by rw[BS];exact a)];exact d i (lu a)
  subst a;rw[LR (by rw[BS];exact cB _),BS,K4];rfl
noncomputable def vJ(n:aD)(a:Nat):cT:=
 [.promise (n.aE.1+1,n.me) ((n.me+1).fmod a) n.me [(1,(n.aE,U "w"))],.accepted (n.aE.1+1,n.me) ((n.me+1).fmod a) n.me 1,.accepted n.aE ((n.me+1).fmod a) n.me 99]++[.refuse (n.aE.1+1,n.me) ((n.me+1).fmod a) n.me (n.aE.1+2,(n.me+1).fmod a),.refuse n.aE ((n.me+1).fmod a) n.me n.aE]++n.aq.map λb=>.aq n.aE ((n.me+1).fmod a) n.me b.1 (U "w")
def zX(n:Nat)(a:R1)(b c:aH):Nm:=[("history",.d (.lst b)),("messages",.d (.lst c)),("acts",.d (.lst (a.bG.map bE))),("marks",.d (.lst (a.marks.map sM))),("nodes",.d (.lst (a.nodes.map aX))),("left",.d (.lst (a.left.map bI))),("n",.d (.int n))]
noncomputable def KG(a:Params):dH:=EO ((sy a).drop 13)
section
variable {g:G0}{P:Params}(W:WL g P){c:C}{Lx:ak}{M:bC}{σ:Sg}{wr:bC}
include W
def adD(o:c.toG0=g)(r:15<=c.n){S:R1}{n:Nat}{H Ms:aH}(u:0<n){h:aD}(l:aa h.aq<=1000)(t:∀e∈vJ h n,vA h (.msg e)/\bK h (.msg e)=(h,[])):
 Ex ((c.fn (su P) 153 Lx λZ=>False).set M σ wr) (("node",.d (aX h))::zX n S H Ms) [KG P] (λZ f=>Sub (zX n S H Ms) f) (λZ d=>d=.bool af):=by
 intros g P c Lx M σ wr S n H Ms h _ W o r u l t;rw[<-o] at W;refine Ex.bm λA=>?_
 unfold KG sy bodyPick;refine E8 (vs:=[.d (.int h.me),.d (aK h.aE),.d (.int ((h.me+1).fmod n))]) (cR (br (j:=0) (ah J) aQ J J) (cR (br (j:=6) (ah J) aQ J J) (cR (dY (dY (br (j:=0) (ah J) aQ J J) aQ qt) (ah J) (qw λi=>pR u (oN i))) eX))) (iy aJ (iy aJ (iy aJ jh))) ?_;refine fN (v:=.d (aK (h.aE.1+1,h.me))) (bQ (aN (dY (br (ds:=[.int h.aE.1,.int h.aE.2]) (j:=0) (ah J) aQ J J) aQ qt) (bl J aZ)) (bM J)) aJ ?_;refine r6 (x:="stale") (wR (qE (eL (ds:=[bI (.promise (h.aE.1+1,h.me) ((h.me+1).fmod n) h.me [(1,(h.aE,U "w"))]),bI (.accepted (h.aE.1+1,h.me) ((h.me+1).fmod n) h.me 1),bI (.accepted h.aE ((h.me+1).fmod n) h.me 99)]) (aN (bQ (aN (dR (by decide+kernel)) (bl J (bl J (bl J (aN (bF (eL (aN (bQ (aN aQ (bl J (aN (dR (by decide+kernel)) aZ))) (bM J)) aZ) (bM J))) aZ))))) (bM J)) (aN (bQ (aN (dR (by decide+kernel)) (bl J (bl J (bl J (aN aQ aZ))))) (bM J)) (aN (bQ (aN (dR (by decide+kernel)) (bl J (bl J (bl J (aN aQ aZ))))) (bM J)) aZ))) (bM J))) aJ) λs y E=>?_
 refine mG (x:="stale") (es:=[bI (.refuse (h.aE.1+1,h.me) ((h.me+1).fmod n) h.me (h.aE.1+2,(h.me+1).fmod n)),bI (.refuse h.aE ((h.me+1).fmod n) h.me h.aE)]) J (az J) (.inr J) aJ (bF (eL (aN (bQ (aN (dR (by decide+kernel)) (bl J (bl J (bl J (aN (bQ (aN (dY (br (ds:=[.int h.aE.1,.int h.aE.2]) (j:=0) (ah J) aQ J J) aQ qt) (bl J aZ)) (bM J)) aZ))))) (bM J)) (aN (bQ (aN (dR (by decide+kernel)) (bl J (bl J (bl J (bl J aZ))))) (bM J)) aZ)) (bM J))) J (bM J) ?_;refine mG (x:="stale") (es:=h.aq.map λm:Int×bz=>bI (.aq h.aE ((h.me+1).fmod n) h.me m.1 (U "w"))) J (az J) (.inr J) aJ (bF (uh (ts:=h.aq) (enc:=eB) (qy (dU (br (j:=4) (ah J) aQ J J))) (λB C M F k q=>⟨_,j8 (.cons aJ (.cons aJ .nil)),b8 J (b8 J cX),bQ (aN (dR (by decide+kernel)) (bl J (bl J (bl J (bl J (aN (dR (by decide+kernel)) aZ))))))⟩) (aj l ∅))) J ?_ ?_
 .rw[aP];exact aj (gc l 5) ∅
 refine BL (a:=s) (x:="stale") J (az J) (λi=>y (A s i)) ?_
 have w:[bI (.promise (h.aE.1+1,h.me) ((h.me+1).fmod n) h.me [(1,(h.aE,U "w"))]),bI (.accepted (h.aE.1+1,h.me) ((h.me+1).fmod n) h.me 1),bI (.accepted h.aE ((h.me+1).fmod n) h.me 99)]++[bI (.refuse (h.aE.1+1,h.me) ((h.me+1).fmod n) h.me (h.aE.1+2,(h.me+1).fmod n)),bI (.refuse h.aE ((h.me+1).fmod n) h.me h.aE)]++(h.aq.map λm=>bI (.aq h.aE ((h.me+1).fmod n) h.me m.1 (U "w")))=(vJ h n).map bI:=by
  unfold vJ;rw[cy,bV];rfl
 rw[w];refine Fp (ts:=vJ h n) (enc:=bI) (f9:=("node",.d (aX h))::zX n S H Ms) (dU (ah J)) (gw (gw (gw (gw (gw (gw (gw (gw lZ J) J) J) J) J) J) J) J) (λM σ wr k q=>⟨_,cW aJ,?_⟩) λM σ wr=>aG (cP (gw lZ J))
 have p:=t k q;refine b7 (b:=aA) (Fq (x:=.tup [aX h,.lst []]) ?_ (bQ (bl J (aN (bF (eL aZ)) aZ))) ?_) (λi=>oO i) λZ=>aG (aG (cP (gw lZ J)))
 .have z:gn [aX h,.lst []]=.tup [aX (bK h (.msg k)).1,.lst ((bK h (.msg k)).2.map bI)]:=by rw[p.2];rfl
  rw[z];exact nJ (JG W.toWW p.1) W.JA (by rw[W.hK];rfl) (jv J (cR (bQ (aN (dR (by decide+kernel)) (bl J aZ))) eX)) (kJ r) trivial
 have:=Ti h;simp only[D.dep,D.dO];lia
end
structure KH(n:Nat)(S:R1):Prop where
 n0:0<n
 n4:n<=4
 l5:aa S.bG<=500
 pf:∀k mv,S.bG[k]?=U mv->BR (jG (pS n) (S.bG.take k)) mv/\(jG (pS n) (S.bG.take k)).1.length<=1000/\(jG (pS n) (S.bG.take k)).2.length<=100000
 lf:(jG (pS n) S.bG).2=S.left
 E6:∀p∈S.marks,p.1<=aa S.bG/\(jG (pS n) (S.bG.take p.1)).1=p.2
 ch:∀v∈S.nodes,aa v.aq<=1000
 st:∀v∈S.nodes,∀x∈vJ v n,vA v (.msg x)/\bK v (.msg x)=(v,[])
section
variable {g:G0}{P:Params}(W:WL g P){c:C}{Lx:ak}{M:bC}{σ:Sg}{wr:bC}
include W
def adE(o:c.toG0=g)(q:17<=c.n){S:R1}{n:Nat}(h:KH n S){a m:ak}{Pp:eH}(t:σ a=U (.l (S.bG.map bE)))(z:σ m=U (.l (S.marks.map sM)))(y:¬c.M a)(A:¬c.M m)(B:m≠a):
 Ex ((c.fn (su P) 153 Lx λZ=>False).set M σ wr) (Fj n S a m) [(sy P).drop 8] Pp (λZ d=>d=.bool af):=by
 intros g P c Lx M σ wr S n a m Pp _ W o q h t z y A B;have w:=λ{M:bC} {σ:Sg} {wr:bC} {D C:aH} {s:aD} (u:s∈S.nodes)=>adD W o (aj ∅ q) (Lx:=Lx) (M:=M) (σ:=σ) (wr:=wr) (S:=S) (H:=D) (Ms:=C) h.n0 (h.ch s u) (h.st s u)
 rw[<-o] at W;unfold KG sy bodyPick at w;unfold sy bodyPick;refine BL (a:=a) (x:="acts") J t y (BL (a:=m) (x:="marks") J ((aB B).trans z) A ?_);refine fN (v:=.d (.lst (S.bG.map bE))) (bF (IV (ah J) J)) aJ ?_;refine fN (nJ (aan W.toWW h.n4 h.l5 h.pf) W.Zl (by rw[W.hK];rfl) (jv J (jv J eX)) (kJ q) trivial) aJ ?_;refine b7 (b:=aA) (iU (tD (a:=aA) (HL (bX.Zh (ah J))) λZ=>S5 (Fq (ah J) (ah J) (aj (adz _) ∅)))) (λf=>oO f) λZ=>aG ?_
 refine uZ (ah J) (iy aJ (iy aJ jh)) ?_;rw[h.lf];have k:(nZ (pS n) S.bG (aa S.bG)).length=aa S.bG+1:=BS _ _ _;refine b7 (b:=aA) (iU (tD (a:=aA) (HL (bX.Zi (ah J))) λZ=>tD (a:=aA) ?_ λZ=>S5 (Fq (ah J) (ah J) (aj (adx _) ∅)))) (λf=>oO f) λZ=>aG ?_
 .have:=decide_eq_false (p:=(((aa S.bG+1:Nat):Int)≠(aa S.bG:Int)+1)) λf=>f J
  rw[<-this];exact B8 (lO (ah J) (aR U k)) (dY (lO (ah J) (aR U (aP _))) aQ qt)
 refine Fp (ts:=S.nodes) (enc:=aX) (f9:=zX n S (nZ (pS n) S.bG (aa S.bG)) (S.left.map bI)) (dU (ah J)) (k9 J) (λM σ wr e i=>⟨_,cW aJ,w i⟩) λM σ wr=>?_
 refine Fp (ts:=S.marks) (enc:=sM) (f9:=zX n S (nZ (pS n) S.bG (aa S.bG)) (S.left.map bI)) (dU (ah J)) lZ (λM σ wr e i=>⟨_,j8 (.cons aJ (.cons aJ .nil)),?_⟩) λM σ wr=>?_
 .have r:=h.E6 e i;refine b7 (b:=aA) (Fq (x:=.lst (e.2.map aX)) (kT (j:=e.1) (ah J) J (ah J) (g9 (by rw[k];exact F4 r.1)) ?_) (ah J) (aj (adw _) ∅)) (λf=>oO f) λZ=>aG (aG (cP (gw (gw lZ J) J)))
  rw[Tj _ _ _ _ r.1,r.2]
 refine Fp (ts:=(jG (pS n) S.bG).1) (enc:=aX) (f9:=zX n S (nZ (pS n) S.bG (aa S.bG)) (S.left.map bI)) (dU (kT (j:=aa S.bG) (ah J) J (Ev.neg aQ) ?_ ?_)) lZ (λM σ wr e i=>⟨_,cW aJ,?_⟩) λM σ wr=>lQ (nE Ev.bool) J
 .have:=adC (n:=(nZ (pS n) S.bG (aa S.bG)).length) (by rw[k];exact pT _);rw[k] at this⊢;exact this
 .rw[Tj _ _ _ _ (cB _),oF]
 refine b7 (b:=aA) (HL (b:=af) (iU (ia (a:=af) (Ju (br (j:=0) (ah J) aQ J J)) λZ=>ia (a:=af) (Ju (br (ds:=[.int e.promised.1,.int e.promised.2]) (j:=0) (br (j:=2) (ah J) aQ J J) aQ J J)) λZ=>xN (Ju (br (ds:=[.int e.aE.1,.int e.aE.2]) (j:=0) (br (j:=6) (ah J) aQ J J) aQ J J))))) (λf=>oO f) λZ=>aG (aG (cP (gw lZ J)))
end
def zY(a:Int):Nat:=([3,2,4,1,3]:List Nat).getD (bT a 5) 1
def To(h:n<5):n=0\/n=1\/n=2\/n=3\/n=4:=(show ∀n<5,n=0\/n=1\/n=2\/n=3\/n=4 from by decide) n h
def adF(a:Int):0<zY a/\zY a<=4:=by
 intros a;unfold zY;rcases To (tP a (n:=5) ∅) with h|h|h|h|h<;>(rw[h];decide)
theorem Ev.uq{ρ:Nm}{uq:aF}(i:Nat)(hi:i<aa uq)(h:ρ.lookup x=U (.d (.lst (eY uq)))):Ev c ρ (.Subscript (.Name x p1) (.Constant (.int (i:Nat)) q p2) p3) (.d (.int (uq.getD i 0))):=by
 refine kT (j:=i) (ah h) J aQ (g9 (by unfold eY;rw[aP];exact hi)) ?_;unfold eY;rw[cC,dZ hi,qc,dZ hi];rfl
noncomputable def ur(a:aF)(i:Nat):lY:=⟨a.getD i 0,a.getD (i+1) 0,a.getD (i+2) 0,a.getD (i+3) 0,a.getD (i+4) 0,a.getD (i+5) 0,a.getD (i+6) 0⟩
def Ft(a:lY):D:=.tup [.int a.who,.int a.x,.int a.y,.int a.word,.int a.cu,.int a.mode,.int a.k]
def Tp:Prop:=∀(a:Nat) (b:List lY),0<a->a<=4->aa b<=3->(∀c d,b[c]?=U d->∃g f e,Fl (n8 a (b.take c)) (bT d.who a) d g f e/\(n8 a (b.take c)).nodes.length=a)/\KH a (n8 a b)
section
variable {g:G0}{P:Params}(W:WL g P)
include W
def adG:iN g 153 (su P) (sy P) ["script"]:=jr W.toWW (Yh P) J J J J J J J J (dK λz=>all0 J) ∅ rfl J
def adH(ax:Tp){e:aF}(hz:aa e<=63):kg g 18 153 [.d (.lst (eY e))] (λ_=>True) (.bool af):=by
 intros g P e _ W ax hz;refine o6 (n:=17) (adG W) J λB u ae a0 _=>?_
 have b4:(eY e).length=aa e:=by unfold eY;rw[aP]
 have a3:=λ{M:bC} {σ:Sg} {wr:bC} {K:R1} {b3:Nat} {F:lY} {aw:ju} {X:dG} {bk:fE×aO} {i p:ak} {R:d9}=>adv W ae (aj ∅ a0) (Lx:=u) (M:=M) (σ:=σ) (wr:=wr) (S:=K) (me:=b3) (r:=F) (o:=aw) (ws:=X) (v:=bk) (a:=i) (m:=p) (R:=R)
 have a6:=λ{M:bC} {σ:Sg} {wr:bC} {K:R1} {n:Nat} {i p:ak}=>adE W ae a0 (Lx:=u) (M:=M) (σ:=σ) (wr:=wr) (S:=K) (n:=n) (a:=i) (m:=p) (Pp:=λ_ _=>D.bool af=.none)
 unfold KC sy bodyPick at a3;unfold sy bodyPick at a6⊢;refine b7 (b:=decide (aa e<22)) ?_ (λV=>lQ (nE Ev.bool) J) λV=>aG ?_
 .have L:decide (aa e<22)=decide (((eY e).length:Int)<22):=by rw[b4];exact decide_eq_decide.mpr (by exact dB.symm)
  rw[L];exact bS (lO (ah J) J) aQ Cmp.lt
 have bp:22<=aa e:=gO.mp (of_decide_eq_false V);have f:=λ{bt:Nm} {bo:Nat} {cm b1 cb:Pos} (k:Nat) (cq:k<22)=>Ev.uq (c:=B.fn (su P) 153 u λ_=>False) (ρ:=bt) (uq:=e) (x:="script") (q:=bo) (p1:=cm) (p2:=b1) (p3:=cb) k (jL cq bp)
 have w:=adF (e.getD 0 0);have a8:=tP (e.getD 0 0) (n:=5) ∅;refine fN (v:=.d (.int (zY (e.getD 0 0)))) (br (ds:=[.int 3,.int 2,.int 4,.int 1,.int 3]) (j:=bT (e.getD 0 0) 5) (bQ (aN aQ (aN aQ (aN aQ (aN aQ (aN aQ aZ)))))) (dY (f 0 ∅ rfl) aQ (qw ∅)) ?_ ?_) aJ ?_
 .rw[show(e.getD 0 0).fmod 5=((bT (e.getD 0 0) 5:Nat):Int) from EL _ (n:=5) ∅];exact g9 a8
 .unfold zY;rcases To a8 with h|h|h|h|h<;>(rw[h];rfl)
 refine fN (v:=.d (Ft (ur e 1))) (bQ (aN (f 1 ∅ rfl) (aN (f 2 ∅ rfl) (aN (f 3 ∅ rfl) (aN (f 4 ∅ rfl) (aN (f 5 ∅ rfl) (aN (f 6 ∅ rfl) (aN (f 7 ∅ rfl) aZ)))))))) aJ ?_;refine fN (v:=.d (Ft (ur e 8))) (bQ (aN (f 8 ∅ rfl) (aN (f 9 ∅ rfl) (aN (f 10 ∅ rfl) (aN (f 11 ∅ rfl) (aN (f 12 ∅ rfl) (aN (f 13 ∅ rfl) (aN (f 14 ∅ rfl) aZ)))))))) aJ ?_;refine fN (v:=.d (Ft (ur e 15))) (bQ (aN (f 15 ∅ rfl) (aN (f 16 ∅ rfl) (aN (f 17 ∅ rfl) (aN (f 18 ∅ rfl) (aN (f 19 ∅ rfl) (aN (f 20 ∅ rfl) (aN (f 21 ∅ rfl) aZ)))))))) aJ ?_;generalize zY (e.getD 0 0)=n at w;refine B9 (ts:=bu n) (enc:=.int) (g:=λO=>aX ⟨O,n,(0,0),[],[],0,(0,0),[],[]⟩) (qy (eG.ints (aj w.2 ∅) (ah J))) (λc0 c4 M c6 cz c2=>⟨_,cW aJ,b8 J cX,bQ (bl J (bl J (aN (bQ (aN aQ (aN aQ aZ))) (aN (bF (eL aZ)) (aN (bF (eL aZ)) (aN (dR (by decide+kernel)) (aN (bQ (aN aQ (aN aQ aZ))) (aN (bF (eL aZ)) aZ))))))))⟩) (by rw[k7];exact aj w.2 ∅) aJ ?_
 have cp:((bu n).map λO=>aX ⟨O,n,(0,0),[],[],0,(0,0),[],[]⟩)=(n8 n []).nodes.map aX:=by
  show _=oB aX ((eT n).map _);unfold bu;rw[bV,bV];rfl
 rw[cp];have Q:=ax n [ur e 1,ur e 8,ur e 15] w.1 w.2 (by exact(by decide:3<=3));refine Ex.mk3 (x:="acts") (y:="marks") (z:="left") (sL:=[]) (Cd:=[sM (0,(n8 n []).nodes)]) (v:=.d (.lst [])) (eL aZ) (λi=>eL (aN (bQ (aN aQ (bl J aZ))) aZ)) (λi c5=>bF (eL aZ)) (eU.mpr ⟨aJ,eU.mpr ⟨aJ,eU.mpr ⟨aJ,λ_ h=>gS h⟩⟩⟩) λi p b2 c3 cf au=>?_
 have H:p≠i:=λL=>by rw[L] at au;exact nomatch (az J).symm.trans au
 have b6:¬B.M i:=λh=>b2 (.inl h)
 have cx:¬B.M p:=λh=>cf (.inl (.inl h))
 generalize ct:[ur e 1,ur e 8,ur e 15]=s at Q;refine Ex.for (Inv:=λk t I=>t.σ i=U (.l ((n8 n (s.take k)).bG.map bE))/\t.σ p=U (.l ((n8 n (s.take k)).marks.map sM))/\t.wr i/\t.wr p/\Sub (Fj n (n8 n (s.take k)) i p) I) (eG.tup (ds:=s.map Ft) (ct▸bQ (bl J (bl J (bl J aZ))))) ⟨(aB H.symm).trans (az J),az J,.inl (.inr J),.inr J,(k9 J)⟩ (λk av t I T A N=>?_) λt I T N=>?_
 .let ⟨C,G,Z,a5,E⟩:=N;rw[cC] at A;cases hx:s[k]? with
  |none=>rw[hx] at A;cases A
  |some F=>
   rw[hx] at A;cases A;let ⟨aw,X,bk,b5,Y⟩:=Q.1 k F hx;let ⟨a4,a7,a9,zy⟩:=gv (c:=B.fn (su P) 153 u λ_=>False) T;have bj:=a3 (M:=a4) (σ:=a7) (wr:=a9) (R:=λ_ av=>av=D.bool af) b5 (by rw[Y]) C G Z a5 H
   have cw:n8 n (s.take (k+1))=mQ (n8 n (s.take k)) F:=by
    unfold n8;rw[rH,hx,j3];rfl
   rw[cw];rw[Y] at bj;exact⟨_,j8 (.cons aJ (.cons aJ (.cons aJ (.cons aJ (.cons aJ (.cons aJ (.cons aJ .nil))))))),fO bj (jY (jY (jY (jY (jY (jY (jY E)))))))⟩
 let ⟨C,G,Z,a5,E⟩:=N;let ⟨a4,a7,a9,zy⟩:=gv (c:=B.fn (su P) 153 u λ_=>False) T;rw[aP,oF] at C G E;exact fO (a6 Q.2 C G b6 cx H) E
end
def Sl(b:Nat)(a:Int):Prop:=1<=a/\a<=b
abbrev SL{a:Type}(c:Nat)(b:List (Int×a)):Prop:=∀d∈b,Sl c d.1
def Sl.up(h:P<=a)(c:Sl P b):Sl a b:=⟨c.1,dN c.2 (iK.mpr h)⟩
def MB(a e:Nat):gr->Prop
 |.prepare _ c b=>dP a c/\dP a b
 |.promise _ c b f=>dP a c/\dP a b/\Nk f/\SL e f
 |.refuse _ c b _=>dP a c/\dP a b
 |.accept _ c b d _=>dP a c/\dP a b/\Sl e d
 |.accepted _ c b d=>dP a c/\dP a b/\Sl e d
 |.aq _ c b d _=>dP a c/\dP a b/\Sl e d
structure PB0(z P:Nat)(p:aU):Prop where
 me:dP z p.me
 sz:p.size=z
 ph:p.phase<=2
 na:Nk p.acc
 ka:SL P p.acc
 nc:Nk p.aq
 kc:SL P p.aq
 np:Nk p.props
 kp:∀x∈p.props,Sl P x.1/\x.2.2.Nodup/\∀j∈x.2.2,dP z j
 p2:p.phase≠2->p.props=[]
 nm:Nk p.prom
 km:∀x∈p.prom,Nk x.2/\SL P x.2
 ou:∀m∈p.out,MB z P m
structure c9(z P:Nat)(p:aU):Prop extends PB0 z P p where
 pm:2*aa p.prom<=z
 p1:p.phase≠1->p.prom=[]
def jJ{b:Type}{d:b->Prop}:∀a∈([]:List b),d a:=λz c=>nomatch c
theorem SL.put{c:Type}{b:Nat}{e:List (Int×c)}(h:SL b e){a:Int}(hs:Sl b a)(d:c):SL b (put e a d):=λi g=>(Bw (p:=(a,d)) g).elim (h i) λf=>f▸hs
def KI{d:Type}{c b:List d}(h:c=b)(k:2*aa b<=a):2*aa c<=a:=h▸k
section
variable {z P:Nat}{p:aU}
theorem PB0.all(b:PB0 z P p){mk:Int->gr}(h:∀a,dP z a->MB z P (mk a)):PB0 z P (p.all mk):=
 ⟨b.me,b.sz,b.ph,b.na,b.ka,b.nc,b.kc,b.np,b.kp,b.p2,b.nm,b.km,λe c=>(eE.mp c).elim (b.ou e) λc=>by
  let ⟨a,d,zy⟩:=aY.mp c;exact h a (b.sz▸PR d)⟩
theorem PB0.check(a:PB0 z P p){b:Int}(hs:Sl P b):PB0 z P (p.check b):=by
 intros z P p b _ a hs;unfold sd;cases look p.props b with
 |none=>exact a
 |some c=>
  dsimp only;split
  .exact PB0.all (p:={p with aq:=put p.aq b c.1}) ⟨a.me,a.sz,a.ph,a.na,a.ka,qJ a.nc _ _,a.kc.put hs _,a.np,a.kp,a.p2,a.nm,a.km,a.ou⟩ λe d=>⟨a.me,d,hs⟩
  exact a
theorem PB0.bW(a:PB0 z P p)(h2:p.phase=2){b:Int}(hs:Sl P b)(c:bz):PB0 z P (p.bW b c):=
 PB0.check (PB0.all (mk:=λd=>.accept p.aE p.me d b c) (p:={p with props:=put p.props b (c,[p.me]),acc:=put p.acc b (p.aE,c)}) ⟨a.me,a.sz,a.ph,qJ a.na _ _,a.ka.put hs _,a.nc,a.kc,qJ a.np _ _,λi g=>(Bw (p:=(b,(c,[p.me]))) g).elim (a.kp i) λf=>f▸⟨hs,jZ _ _,λd e=>dh.mp e▸a.me⟩,λh=>aV h2 h,a.nm,a.km,a.ou⟩ λd e=>⟨a.me,e,hs⟩) hs
def Fv(p:aU)(a:Int):(p.check a).phase=p.phase/\(p.check a).prom=p.prom:=by
 intros p a;unfold sd;cases look p.props a with
 |none=>exact⟨rfl,rfl⟩
 |some b=>dsimp only;split<;>exact⟨rfl,rfl⟩
def Cf(p:aU)(b:Int)(a:bz):(p.bW b a).phase=p.phase/\(p.bW b a).prom=p.prom:=Fv _ _
def adI{b:bU}{c:ji}(h:SL P b)(a:Sl P c.1):SL P (gC b c):=by
 unfold gC;split
 .exact h.put a _
 split
 .exact h.put a _
 exact h
def KJ{a:bU}(h:SL P a):SL P (eO a):=by
 have f:∀(a b:bU),SL P a->SL P b->SL P (a.foldl gC b):=λa=>by
  induction a with
  |nil=>exact λb z h=>h
  |cons i a j=>exact λb c e=>j _ (λd g=>c d (.tail _ g)) (adI e (c i (.head _)))
 exact f a [] h jJ
def PB0.KL(f:PB0 z P p):SL P (p.prom.map (·.2)).flatten:=λd a=>by
 let ⟨g,b,a⟩:=LS.mp a;let ⟨e,c,zy⟩:=aY.mp b;exact(f.km e c).2 d a
def Fw{e:Type}{a:List (Int×e)}(h:SL P a):0<=cJ (a.map (·.1))/\cJ (a.map (·.1))<=P:=Kz (fJ P) λf d=>by
 let ⟨c,b,zy⟩:=aY.mp d;exact⟨dN ∅ (h c b).1,(h c b).2⟩
def adJ{c:Int}(h:c<=P):∀a∈slots c,Sl P a:=λa d=>have b:=se.mp d;⟨b.1,dN b.2 h⟩
def adK{f:Int->bz}:∀(c:aF) (a:aU),(∀b∈c,Sl P b)->PB0 z P a->a.phase=2->a.prom=[]->PB0 z P (c.foldl (λa b=>a.bW b (f b)) a)/\(c.foldl (λa b=>a.bW b (f b)) a).phase=2/\(c.foldl (λa b=>a.bW b (f b)) a).prom=[]:=λc=>by
 induction c with
 |nil=>exact λa y e d g=>⟨e,d,g⟩
 |cons b c k=>exact λa h e d g=>k _ (λj i=>h j (.tail _ i)) (e.bW d (h b (.head _)) _) ((Cf ..).1.trans d) ((Cf ..).2.trans g)
theorem c9.lead(a:PB0 z P p)(h1:p.phase=1):c9 z P p.lead:=by
 intros z P p _ a h1;unfold yY;split
 case isTrue c=>exact⟨a,a.sz▸c,λb=>aV h1 b⟩
 have b:=adK (f:=λd=>(look (eO (p.prom.map (·.2)).flatten) d).elim ai (·.2)) _ {p with phase:=2,prom:=[]} (adJ (Fw (KJ a.KL)).2) ⟨a.me,a.sz,cB _,a.na,a.ka,a.nc,a.kc,a.np,a.kp,λc=>aV J c,kh,jJ,a.ou⟩ rfl J;exact⟨b.1,KI b.2.2 (cL _),λy=>b.2.2⟩
end
section
theorem c9.out(d:c9 c P b)(h:∀a∈ms,MB c P a):c9 c P {b with out:=b.out++ms}:=
 ⟨⟨d.me,d.sz,d.ph,d.na,d.ka,d.nc,d.kc,d.np,d.kp,d.p2,d.nm,d.km,λa e=>(eE.mp e).elim (d.ou a) (h a)⟩,d.pm,d.p1⟩
def c9.Fx(c:c9 a P p)(h:MB a P m):c9 a P {p with out:=p.out++[m]}:=c.out λz b=>dh.mp b▸h
def c9.idle(d:c9 c P a)(b e:aL):c9 c P {a with promised:=b,aE:=e,phase:=0,prom:=[],props:=[]}:=
 ⟨⟨d.me,d.sz,cL _,d.na,d.ka,d.nc,d.kc,kh,jJ,λz=>rfl,kh,jJ,d.ou⟩,cL _,λz=>rfl⟩
theorem c9.gV(d:c9 c P a)(b:aL):c9 c P (a.gV b):=by
 unfold aU.gV;split
 .exact d.idle b _
 exact⟨⟨d.me,d.sz,d.ph,d.na,d.ka,d.nc,d.kc,d.np,d.kp,d.p2,d.nm,d.km,d.ou⟩,d.pm,d.p1⟩
def SL.KN{a:bU}(h:SL P a):SL P (bH a):=λc b=>h c (kq.mp b)
def PB0.got(c:PB0 b P a){e:Int}{d:bU}(h:Nk d/\SL P d):PB0 b P {a with prom:=put a.prom e d}:=
 ⟨c.me,c.sz,c.ph,c.na,c.ka,c.nc,c.kc,c.np,c.kp,c.p2,qJ c.nm _ _,λi g=>(Bw (p:=(e,d)) g).elim (c.km i) λf=>f▸h,c.ou⟩
def adL{ns:aF}(h:ns.Nodup/\∀a∈ns,dP c a)(i:dP c b):(if ns.contains b then ns else ns++[b]).Nodup/\∀a∈(if ns.contains b then ns else ns++[b]),dP c a:=by
 split
 case isTrue e=>exact h
 case isFalse e=>exact⟨jz.mpr ⟨h.1,jZ _ _,λk j l f g=>e (gy.mpr ((g.trans (dh.mp f))▸j))⟩,λa d=>(eE.mp d).elim (h.2 a) λd=>dh.mp d▸i⟩
def c9.msg(e:c9 c b a)(h:MB c b d):c9 c b (a.message d):=by
 intros c b a d _ e h;cases d with
 |prepare g i m=>
  show c9 c b (if blt g a.promised then _ else _);split
  .exact e.Fx ⟨e.me,h.1⟩
  have f:=e.gV g;exact f.Fx ⟨f.me,h.1,tN f.na,f.ka.KN⟩
 |accept g i m k r=>
  show c9 c b (if blt g a.promised then _ else _);split
  .exact e.Fx ⟨e.me,h.1⟩
  have f:=e.gV g;exact c9.Fx (p:={a.gV g with acc:=put (a.gV g).acc k (g,r)}) ⟨⟨f.me,f.sz,f.ph,qJ f.na _ _,f.ka.put h.2.2 _,f.nc,f.kc,f.np,f.kp,f.p2,f.nm,f.km,f.ou⟩,f.pm,f.p1⟩ ⟨f.me,h.1,h.2.2⟩
 |aq g i m k r=>
  show c9 c b {a with aq:=if(look a.aq k).isSome then a.aq else put a.aq k r};split
  .exact e
  exact⟨⟨e.me,e.sz,e.ph,e.na,e.ka,qJ e.nc _ _,e.kc.put h.2.2 _,e.np,e.kp,e.p2,e.nm,e.km,e.ou⟩,e.pm,e.p1⟩
 |refuse g i m v=>
  show c9 c b (if g=a.aE/\a.phase≠0/\blt a.aE v=af then _ else _);split
  .exact e.idle _ _
  exact e
 |promise g i m w=>
  show c9 c b (if g=a.aE/\a.phase=1/\look a.prom i=ai then _ else _);split
  case isTrue n=>exact c9.lead (e.got h.2.2) n.2.1
  case isFalse n=>exact e
 |accepted g i m k=>
  show c9 c b (if g=a.aE/\a.phase=2 then _ else _);split
  case isFalse n=>exact e
  case isTrue n=>
   cases l:look a.props k with
   |none=>exact e
   |some j=>
    have q:=e.kp (k,j) (qH l);have s:=adL q.2 h.1;exact⟨PB0.check (p:={a with props:=put a.props k (j.1,if j.2.contains i then j.2 else j.2++[i])}) ⟨e.me,e.sz,e.ph,e.na,e.ka,e.nc,e.kc,qJ e.np _ _,λu t=>(Bw (p:=(k,(j.1,if j.2.contains i then j.2 else j.2++[i]))) t).elim (e.kp u) λl=>l▸⟨q.1,s⟩,λo=>aV n.2 o,e.nm,e.km,e.ou⟩ q.1,KI (Fv _ _).2 e.pm,λo=>(Fv _ _).2.trans (e.p1 λl=>o ((Fv _ _).1.trans l))⟩
end
section
theorem SL.up{c:Type}{a:Nat}{b:List (Int×c)}(h:P<=a)(d:SL P b):SL a b:=λf e=>(d f e).up h
theorem MB.up{d:Nat}(h:P<=d){c:gr}(b:MB a P c):MB a d c:=by
 cases c with
 |prepare=>exact b
 |promise=>exact⟨b.1,b.2.1,b.2.2.1,b.2.2.2.up h⟩
 |refuse=>exact b
 |accept=>exact⟨b.1,b.2.1,b.2.2.up h⟩
 |accepted=>exact⟨b.1,b.2.1,b.2.2.up h⟩
 |aq=>exact⟨b.1,b.2.1,b.2.2.up h⟩
theorem PB0.up{f:Nat}(h:P<=f)(c:PB0 b P a):PB0 b f a:=
 ⟨c.me,c.sz,c.ph,c.na,c.ka.up h,c.nc,c.kc.up h,c.np,λe d=>⟨(c.kp e d).1.up h,(c.kp e d).2⟩,c.p2,c.nm,λe d=>⟨(c.km e d).1,(c.km e d).2.up h⟩,λg i=>(c.ou g i).up h⟩
theorem c9.up{d:Nat}(h:P<=d)(c:c9 b P a):c9 b d a:=⟨c.toPB0.up h,c.pm,c.p1⟩
def Cg:jk->Nat
 |.bW _=>1
 |_=>0
def EB(b a:Nat):jk->Prop
 |.msg c=>MB b a c
 |_=>True
def adM(f:c9 d c b):∀a∈b.Eb,MB d c a:=λa e=>by
 intros d c b a _ f e;have h:=f.sz;unfold yZ at e;split at e
 .let ⟨j,g,zy⟩:=aY.mp e;exact⟨f.me,h▸Eh (cH.mp g).1⟩
 split at e
 .let ⟨k,l,e⟩:=fB.mp e;have i:=(f.kp k (kq.mp l)).1;split at e
  .let ⟨j,g,zy⟩:=aY.mp e;exact⟨f.me,h▸PR g,i⟩
  let ⟨j,g,zy⟩:=aY.mp e;exact⟨f.me,h▸Eh (cH.mp g).1,i⟩
 exact gS e
def c9.run(d:c9 c P a):PB0 c P (({a with aE:=(max a.promised.1 a.aE.1+1,a.me),promised:=(max a.promised.1 a.aE.1+1,a.me),phase:=1,props:=[],prom:=[(a.me,bH a.acc)]}:aU).all λb=>.prepare (max a.promised.1 a.aE.1+1,a.me) a.me b):=
 PB0.all (p:={a with aE:=(max a.promised.1 a.aE.1+1,a.me),promised:=(max a.promised.1 a.aE.1+1,a.me),phase:=1,props:=[],prom:=[(a.me,bH a.acc)]}) ⟨d.me,d.sz,by exact(by decide:1<=2),d.na,d.ka,d.nc,d.kc,kh,jJ,λz=>rfl,jZ _ _,λg e=>dh.mp e▸⟨tN d.na,d.ka.KN⟩,d.ou⟩ λb f=>⟨d.me,f⟩
theorem c9.event(e:c9 c b d)(f:EB c b a):c9 c (b+Cg a) (d.event a):=by
 intros c b d a _ e f;cases a with
 |run=>exact c9.lead e.run J
 |bW l=>
  show c9 c (b+1) (if d.phase=2 then _ else _);split
  case isFalse h=>exact e.up (jw b)
  case isTrue h=>
   have g:=Fw λj k=>(e.kp j k).1
   exact⟨(e.toPB0.up (jw b)).bW h ⟨GQ g.1,CT g.2 1⟩ l,KI (Cf ..).2 e.pm,λi=>(Cf ..).2.trans (e.p1 λa=>i ((Cf ..).1.trans a))⟩
 |again=>exact e.out (adM e)
 |e8=>exact e
 |msg m=>exact e.msg f
end
section
def Fy{a:Type}{b:List (Int×a)}{c:Int×a}(h:c∈dJ [] b):c∈b:=(Xn h).resolve_left jy
theorem c9.tup(f:c9 b c a):c9 b c (ig a.tup):=by
 intros b c a _ f
 have m:∀d∈(if a.phase=1 then dJ [] (if a.phase=1 then bH a.prom else[]) else[]),d∈a.prom:=λd e=>by
  split at e
  .exact kq.mp (Fy e)
  exact gS e
 refine⟨⟨f.me,f.sz,f.ph,Ea kh,λd e=>f.ka d (kq.mp (Fy e)),Ea kh,λd e=>f.kc d (kq.mp (Fy e)),?_,?_,λg=>aB g,?_,λd e=>f.km d (m d e),λq k=>aV k jy⟩,?_,λg=>aB g⟩
 .show Nk (if a.phase=2 then _ else _);split
  .exact Ea kh
  exact kh
 .intro d e;have e:d∈(if a.phase=2 then dJ [] ((if a.phase=2 then qK a.props else[]).map λd=>(d.1,(d.2.1,fV d.2.2))) else[]):=e;split at e
  case isFalse g=>exact gS e
  case isTrue g=>
   let ⟨p,h,zy⟩:=aY.mp (Fy e);unfold qK at h;let ⟨o,n,zy⟩:=aY.mp h;have i:=f.kp o (kq.mp n);exact⟨i.1,IG _,λl j=>i.2.2 l (Br.mp (y9.mp j))⟩
 .show Nk (if a.phase=1 then _ else _);split
  .exact Ea kh
  exact kh
 show 2*(if a.phase=1 then dJ [] (if a.phase=1 then bH a.prom else[]) else[]).length<=b;split
 .refine aj (lz 2 (aj (D4 _ _) ?_)) f.pm;rw[u7];exact cj (rB _)
 exact cL _
end
def NB(c b:Nat)(n:aD):Prop:=∃a,c9 c b a/\n=a.tup
theorem NB.of(h:NB a P n):c9 a P (ig n):=by let ⟨c,b,zy⟩:=h;exact b.tup
structure GB(z P:Nat)(S:aO×cT):Prop where
 len:aa S.1=z
 nd:∀n∈S.1,NB z P n
 ms:∀m∈S.2,MB z P m
def zZ:Mv->Nat
 |.at _ a=>Cg a
 |_=>0
section
theorem NB.up(h:P<=a)(c:NB b P n):NB b a n:=c.imp λz c=>⟨c.1.up h,c.2⟩
theorem GB.up(h:P<=a)(d:GB c P b):GB c a b:=⟨d.len,λe g=>(d.nd e g).up h,λi f=>(d.ms i f).up h⟩
def adN(h:NB a P n):NB a P n.e8:=by
 let ⟨b,c,zy⟩:=h;exact⟨_,c.idle b.promised b.aE,rfl⟩
theorem GB.set(j:GB c P d)(h:P<=b)(m:NB c b n)(hw:∀a∈f,a∈d.2)(o:∀a∈e,MB c b a):GB c b (d.1.set i n,f++e):=
 ⟨(mY ..).trans j.len,λa k=>(List.mem_or_eq_of_mem_set k).elim (λg=>(j.nd a g).up h) λl=>l▸m,λa k=>(eE.mp k).elim (λg=>(j.ms a (hw a g)).up h) (o a)⟩
def GB.step(f:GB b P a)(j:n∈a.1)(h:EB b P e)(hw:∀d∈c,d∈a.2):GB b (P+Cg e) (a.1.set i (bK n e).1,c++(bK n e).2):=
 have g:=(f.nd n j).of.event h
 f.set (fz _ _) ⟨_,g,rfl⟩ hw g.ou
def Tq{a:cT}(h:m∈a.take i++a.drop (i+1)):m∈a:=(eE.mp h).elim AF List.mem_of_mem_drop
end
def adO(a:Nat):(slots (a:Int)).length=a:=((aP _).trans gx).trans (j5 a)
def vK{e:Type}{a:Nat}{b:List (Int×e)}(h:Nk b)(hs:SL a b):aa b<=a:=
 aj (cj (aP _).symm) (aj (IP (u:=slots (a:Int)) h λg f=>by
  let ⟨c,d,zy⟩:=aY.mp f;exact se.mpr (hs c d)) (cj (adO a)))
def adP{c:aF}(h:c.Nodup)(hs:∀b∈c,dP a b):aa c<=a:=aj (IP (u:=bu a) h λd e=>ua.mpr (hs d e)) (cj (Ei a))
def Fz(h:2*a<=b)(hz:b<=4):a<=2:=Nat.le_of_mul_le_mul_left (aj h hz) (by decide:0<2)
def adQ{b:List (Int×bU)}(h:∀a∈b,aa a.2<=20):(b.map (·.2)).flatten.length<=20*aa b:=by
 induction b with
 |nil=>exact cB _
 |cons a b e=>exact aj (cj (bO.trans (kK ..))) (dQ (e λd c=>h d (.tail _ c)) (h a (.head _)))
section
def PB0.Tr(g:P<=20)(c:PB0 b P a)(hl:aa a.prom<=10):Ew a:=
 have e:=Fw (KJ c.KL)
 ⟨aj (adQ λd f=>aj (vK (c.km d f).1 (c.km d f).2) g) (aj (lz 20 hl) ∅),e.1,dN e.2 (iK.mpr (aj g ∅))⟩
def PB0.la(d:P<=21)(c:PB0 b P a):aa a.acc<=21:=aj (vK c.na c.ka) d
def PB0.lc(d:P<=21)(c:PB0 b P a):aa a.aq<=21:=aj (vK c.nc c.kc) d
def PB0.lp(f:P<=21)(c:PB0 b P a):aa a.props<=21:=aj (vK c.np λe d=>(c.kp e d).1) f
def PB0.lv(hz:c<=4)(e:PB0 c P b):∀a∈b.props,aa a.2.2<=4:=λa d=>aj (adP (e.kp a d).2.1 (e.kp a d).2.2) hz
def c9.fit(hz:b<=4)(d:P<=21)(c:c9 b P a)(ho:a.out=[]):mL a:=
 ⟨c.me.1,rL c.me.2 (iK.mpr hz),c.sz▸hz,c.ph,c.na,eK (c.la d) ∅,aj (c.lc d) ∅,ho▸cL _,c.np,eK (c.lp d) ∅,c.lv hz,c.p2,xV (Fz c.pm hz)⟩
def c9.Tt(hz:b<=4)(d:P<=21)(c:c9 b P a):Q3 a:=
 ⟨c.na,c.nc,λz=>⟨c.nm,eK (Fz c.pm hz) ∅⟩,λz=>⟨c.np,eK (c.lp d) ∅,λf e=>eK (c.lv hz f e) ∅⟩,eK (c.la d) ∅,eK (c.lc d) ∅,c.ph⟩
end
section
def adR{a:jQ}(h:Nk a):Nk (qK a):=by
 unfold Nk qK;rw[bV];exact tN h
def z0{a:Type}{c:Prop}[Decidable c]{b:List a}{Q:List a->Prop}(h:Q b)(h0:Q []):Q (if c then b else[]):=by
 split
 .exact h
 exact h0
def vL{b:Type}{a:List (Int×b)}{k:Nat}(h:aa a<=k):(bH a).length<=k:=aj (cj (u7 a)) h
def NB.FA(hz:a<=4)(g:P<=21){n:aD}(h:NB a P n):JF n:=by
 let ⟨m,b,zy⟩:=h;exact⟨aj (vL (b.la g)) ∅,aj (vL (b.lc g)) ∅,b.ph,z0 (Q:=λc=>aa c<=1000) (aj (vL (Fz b.pm hz)) ∅) (cL _),z0 (Q:=λc=>aa c<=1000) (aj (cj (aP _)) (aj (vL (b.lp g)) ∅)) (cL _),z0 (Q:=Nk) (adR b.np) kh,z0 (Q:=λ(c:jQ)=>∀f∈c,aa f.2.2<=4/\∀d∈f.2.2,0<=d/\d<4) (λf l=>by
  let ⟨j,e,zy⟩:=aY.mp l;have e:=kq.mp e;exact⟨aj (cj (IE _)) (b.lv hz j e),λd k=>have i:=(b.kp j e).2.2 d (Br.mp k);⟨i.1,rL i.2 (iK.mpr hz)⟩⟩) jJ⟩
def c9.evt(hz:b<=4)(g:P<=20)(f:c9 b P c)(i:a≠.e8)(e:EB b P a):Jr c a:=by
 cases a with
 |run=>
  have d:=f.run.Tr g (by exact(by decide:1<=10));exact⟨d.it,d.lo,d.hi⟩
 |e8=>exact aV J i
 |bW n=>exact trivial
 |again=>exact trivial
 |msg l=>
  cases l with
  |promise k h j m=>exact λz z z=>(f.got e.2.2).Tr g (aj (qG ..) (aj (fG (Fz f.pm hz)) ∅))
  |accepted k h j o=>exact⟨e.1.1,rL e.1.2 (iK.mpr hz)⟩
  |_=>exact trivial
def adS(a:jk):Cg a<=1:=by cases a<;>first|exact cB _|exact cL _
def NB.Tu(hz:b<=4)(c:P<=20)(h:NB b P n)(f:a≠.e8)(e:EB b P a):vA n a:=
 have d:=xV c
 ⟨h.FA hz d,h.of.fit hz d J,h.of.evt hz c f e,(h.of.event e).Tt hz (dQ c (adS a))⟩
end
def z8(a:Nat)(b:Int):(bx a b).length<=a:=aj (fZ _ _) (cj (Ei a))
def pQ{c:Type}{a b:List c}(h:aa b<=k):(a++b).length<=aa a+k:=aj (cj bO) (gc h _)
def mV{a c:Type}{b:List a}{d:a->c}{k:Nat}(h:aa b<=k):(b.map d).length<=k:=aj (cj (aP _)) h
def KO(a:aU)(b:Int->gr):(a.all b).out.length<=aa a.out+a.size:=pQ (mV (z8 _ _))
def Tv(a:aU)(b:Int):(a.check b).out.length<=aa a.out+a.size/\(a.check b).size=a.size:=by
 unfold sd;cases look a.props b with
 |none=>exact⟨fz _ _,rfl⟩
 |some c=>
  dsimp only;split
  .exact⟨KO {a with aq:=put a.aq b c.1} _,rfl⟩
  exact⟨fz _ _,rfl⟩
def Tw(a:aU)(b:Int)(c:bz):(a.bW b c).out.length<=aa a.out+(a.size+a.size)/\(a.bW b c).size=a.size:=
 have d:=Tv (({a with props:=put a.props b (c,[a.me]),acc:=put a.acc b (a.aE,c)}:aU).all λe=>.accept a.aE a.me e b c) b
 ⟨aj d.1 (aj (gg (KO _ _) _) (cj (rC ..))),d.2⟩
def adT{f:Int->bz}:∀(b:aF) (a:aU),a.size<=4->(b.foldl (λa c=>a.bW c (f c)) a).out.length<=aa a.out+8*aa b:=λb=>by
 induction b with
 |nil=>exact λa z=>cB _
 |cons c b g=>exact λa d=>have e:=Tw a c (f c);aj (g _ (e.2.symm▸d)) (aj (gg (aj e.1 (gc (dQ d d) _)) _) (cj ((rC ..).trans (aR _ (kK ..)))))
def Tz{b:bU}(h:∀a∈b,Sl P a.1):(slots (cJ (b.map (·.1)))).length<=P:=
 aj (cj ((aP _).trans gx)) (wo.mpr (Fw h).2)
def FD{d i:Type}{c:d->List i}{k:Nat}{b:List d}(h:∀a∈b,(c a).length<=k):(b.flatMap c).length<=k*aa b:=by
 induction b with
 |nil=>exact cL _
 |cons a b g=>exact aj (cj (bO.trans (kK ..))) (dQ (g λf e=>h f (.tail _ e)) (h a (.head _)))
def xU(h:a<=b+c)(k:c<=200):a<=b+200:=aj h (gc k _)
section
def PB0.z4(hz:b<=4)(c:PB0 b P a):a.size<=4:=aj (cj c.sz) hz
def TA(hz:b<=4)(g:P<=20)(c:PB0 b P a):aa a.lead.out<=aa a.out+160:=by
 unfold yY;split
 .exact fz _ _
 have d:=adT (f:=λe=>(look (eO (a.prom.map (·.2)).flatten) e).elim ai (·.2)) (slots (cJ ((eO (a.prom.map (·.2)).flatten).map (·.1)))) {a with phase:=2,prom:=[]} (aj (cj c.sz) hz);exact aj d (gc (lz 8 (aj (Tz (KJ c.KL)) g)) _)
def adU(hz:b<=4)(i:P<=20)(c:c9 b P a):aa a.Eb<=80:=by
 have d:=c.z4 hz;have g:∀f:Int->Bool,((bu a.size).filter f).length<=4:=λf=>aj (fZ _ _) ((Ei _).symm▸d)
 unfold yZ;split
 .exact aj (mV (g _)) ∅
 split
 .refine aj (FD (k:=4) λe z=>?_) (lz 4 (vL (aj (vK c.np λe h=>(c.kp e h).1) i)));split
  .exact mV (aj (z8 _ _) d)
  exact mV (g _)
 exact cL _
def c9.ol(hz:b<=4)(m:P<=20)(k:c9 b P a){e:jk}(p:EB b P e):(a.event e).out.length<=aa a.out+200:=by
 have j:=k.z4 hz;have no:aa a.out<=aa a.out+200:=fz _ _;have l:∀(g:gr),(a.out++[g]).length<=aa a.out+200:=λg=>xU (pQ (cB 1)) ∅
 have n:∀d,(a.gV d).out=a.out:=λd=>by unfold aU.gV;split<;>rfl
 cases e with
 |run=>exact xU (c:=4+160) (aj (TA hz m k.run) (aj (gg (aj (KO _ _) (gc j _)) _) (cj (rC ..)))) ∅
 |bW o=>
  show(if a.phase=2 then _ else _:aU).out.length<=_;split
  .exact xU (Tw ..).1 (aj (dQ j j) ∅)
  exact no
 |again=>exact xU (pQ (adU hz m k)) ∅
 |e8=>exact no
 |msg r=>
  cases r with
  |prepare d f h=>
   show(if blt d a.promised=af then _ else _:aU).out.length<=_;split
   .exact l _
   show((a.gV d).out++_).length<=_;rw[n];exact l _
  |accept d f h i o=>
   show(if blt d a.promised=af then _ else _:aU).out.length<=_;split
   .exact l _
   show((a.gV d).out++_).length<=_;rw[n];exact l _
  |aq d f h i o=>exact no
  |refuse d f h q=>
   show(if d=a.aE/\a.phase≠0/\blt a.aE q=af then _ else _:aU).out.length<=_;split<;>exact no
  |promise d f h s=>
   show(if d=a.aE/\a.phase=1/\look a.prom f=ai then _ else _:aU).out.length<=_;split
   .exact xU (TA hz m (k.got p.2.2)) ∅
   exact no
  |accepted d f h i=>
   show(if d=a.aE/\a.phase=2 then _ else _:aU).out.length<=_;split
   .cases look a.props i with
    |none=>exact no
    |some g=>exact xU (Tv {a with props:=put a.props i (g.1,if g.2.contains f then g.2 else g.2++[f])} i).1 (aj j ∅)
   exact no
theorem NB.ol(hz:a<=4)(c:P<=20)(h:NB a P n)(b:EB a P e):(bK n e).2.length<=200:=aj (h.of.ol hz c b) (cj (rB _))
end
def FE(c:Nat)(d:Mv):Prop:=∀b a,d=.at b a->b<c/\∀e,EB c e a
theorem MB.to(h:MB a P m):dP a m.to:=by
 cases m with
 |prepare=>exact h.2
 |refuse=>exact h.2
 |_=>exact h.2.1
def TF{c:Type}:∀(a:List c) (i:Nat),(a.take i++a.drop (i+1)).length<=aa a:=λa=>by
 induction a with
 |nil=>exact λi=>by rw[LX,List.drop_nil];exact cB _
 |cons d a b=>
  intro i;cases i with
  |zero=>exact jw _
  |succ i=>exact fG (b i)
def TG{b:Type}(a:Option b):aa a.toList<=1:=by
 cases a with
 |none=>exact cL _
 |some c=>exact cB 1
section
structure MvG(z P:Nat)(S:aO×cT)(mv:Mv):Prop where
 gb:GB z (P+zZ mv) (fq S mv)
 pf:BR S mv
 ln:(fq S mv).2.length<=aa S.2+200
theorem GB.mv(hz:c<=4)(r:b<=20)(f:GB c b a){t:Mv}(h:FE c t):MvG c b a t:=by
 intros c b a t _ hz r f h;cases t with
 |«at» i g=>
  have s:=h i g J;have m:i<aa a.1:=jL s.1 (cj f.len.symm);have p:=dZ m;have n:=f.nd _ (sU m);have q:=n.ol hz r (s.2 b);have j:fq a (.at i g)=(a.1.set i (nR a.1[i] g).1,a.2++(nR a.1[i] g).2):=by unfold fq;dsimp only;rw[p]
  refine⟨j.symm▸?_,⟨_,p,λu=>n.Tu hz r u (s.2 b),aj q ∅⟩,j.symm▸pQ ?_⟩
  .cases g with
   |e8=>exact f.set (cB _) (adN n) (λd h=>h) jJ
   |_=>exact f.step (sU m) (s.2 b) λd h=>h
  cases g with
  |e8=>exact cL _
  |_=>exact q
 |deliver l=>
  cases hk:a.2[bT l (aa a.2)]? with
  |none=>
   have j:fq a (.deliver l)=a:=by unfold fq;dsimp only;rw[hk]
   exact⟨j.symm▸f,λd k=>(nomatch hk.symm.trans k),aj (cj (aR (λa=>aa a.2) j)) (fz _ _)⟩
  |some d=>
   have o:=f.ms d (iZ hk);have m:d.to.toNat<aa a.1:=jL ((AI o.to.1).mpr o.to.2) (cj f.len.symm);have p:=dZ m;have n:=f.nd _ (sU m);have q:=n.ol hz r (e:=.msg d) o;have j:fq a (.deliver l)=(a.1.set d.to.toNat (bK a.1[d.to.toNat] (.msg d)).1,a.2.take (bT l (aa a.2))++a.2.drop (bT l (aa a.2)+1)++(bK a.1[d.to.toNat] (.msg d)).2):=by unfold fq;dsimp only;rw[hk];dsimp only;rw[p]
   exact⟨j.symm▸f.step (sU m) (e:=.msg d) o λd h=>Tq h,λv k=>dF (hk.symm.trans k)▸⟨o.to.1,_,p,n.Tu hz r (λg=>nomatch g) o,aj q ∅⟩,j.symm▸aj (pQ q) (gg (TF _ _) _)⟩
 |drop l=>exact⟨⟨f.len,f.nd,λd k=>f.ms d (Tq k)⟩,trivial,aj (TF _ _) (fz _ _)⟩
 |double l=>exact⟨⟨f.len,f.nd,λd k=>(eE.mp k).elim (f.ms d) λh=>f.ms d (iZ (Option.mem_toList.mp h))⟩,trivial,xU (pQ (TG _)) ∅⟩
end
structure AO(z c d:Nat)(l:fE):Prop where
 ok:∀mv∈l,FE z mv
 pc:(l.map zZ).sum<=c
 ln:aa l<=d
section
def AO.app(h:AO e c d a)(g:AO e f d' b):AO e (c+f) (d+d') (a++b):=
 ⟨λi j=>(eE.mp j).elim (h.ok i) (g.ok i),by rw[cy,L4];exact dQ h.pc g.pc,by rw[bO];exact dQ h.ln g.ln⟩
def AO.nil:AO a 0 0 []:=⟨jJ,cB _,cB _⟩
def AO.one(h:i<a)(d:∀b,EB a b e):AO a (Cg e) 1 [.at i e]:=⟨λk f j g c=>by rw[dh.mp f] at c;cases c;exact⟨h,d⟩,cB _,cB _⟩
def sO(a:Mv):Prop:=zZ a=0/\∀b,FE b a
def FF(k:Int):sO (.drop k):=⟨rfl,λz z z a=>nomatch a⟩
def KP(k:Int):sO (.deliver k):=⟨rfl,λz z z a=>nomatch a⟩
def TH(k:Int):sO (.double k):=⟨rfl,λz z z a=>nomatch a⟩
def AO.way(h:∀a∈b,sO a)(f:aa b<=d):AO e 0 d b:=by
 refine⟨λa c=>(h a c).2 e,?_,f⟩;clear f
 induction b with
 |nil=>exact cB _
 |cons a b g=>exact dQ (cj (h a (.head _)).1) (g λi c=>h i (.tail _ c))
theorem AO.take(c:AO e b d a)(k:Nat):AO e b d (a.take k):=by
 refine⟨λf g=>c.ok f (AF g),aj ?_ c.pc,aj (wg _ _) c.ln⟩
 conv=>rhs;rw[<-CG k a,cy,L4]
 exact fz _ _
end
def GB.adV{g d:Nat}(hz:g<=4){e:fE}:∀{b:Nat} {a:aO×cT},GB g b a->(∀c∈e,FE g c)->b+(e.map zZ).sum<=20->GB g (b+(e.map zZ).sum) (jG a e)/\(jG a e).2.length<=aa a.2+200*aa e:=by
 induction e with
 |nil=>exact λh z z=>⟨h,cB _⟩
 |cons c e l=>
  intro b a h k f;have j:=h.mv hz (aj (fz _ _) f) (k c (.head _));rw[dM,List.sum_cons,<-rC] at f⊢;have i:=l j.gb (λm f=>k m (.tail _ f)) f;exact⟨i.1,aj i.2 (aj (gg j.ln _) (cj ((rC ..).trans (aR _ (kK ..)))))⟩
open Mine.AO renaming app->vM,way->vN,one->FG
def adW(n:Nat):(pS n).1=(gM n).nodes:=bV
def GB.start(n:Nat):GB n 0 (pS n):=by
 refine⟨(aP _).trans (Ei n),λd b=>?_,jJ⟩;let ⟨a,c,zy⟩:=aY.mp b;exact⟨⟨a,n,(0,0),[],[],0,(0,0),[],[],[]⟩,⟨⟨Eh c,rfl,cL _,kh,jJ,kh,jJ,kh,jJ,λz=>rfl,kh,jJ,jJ⟩,cL _,λz=>rfl⟩,rfl⟩
structure TJ(P:Nat)(n:aD):Prop where
 ph:n.phase<=2
 na:Nk n.acc
 ka:SL P n.acc
 nc:Nk n.aq
 la:aa n.acc<=P
 lc:aa n.aq<=P
section
def NB.rA(h:NB a P n):TJ P n:=by
 let ⟨c,b,zy⟩:=h;exact⟨b.ph,tN b.na,b.ka.KN,tN b.nc,vL (vK b.na b.ka),vL (vK b.nc b.kc)⟩
theorem GB.rA(f:GB b P (a,c))(d:Int):TJ P (Mine.nd a d):=by
 unfold Mine.nd;rw[qc];cases h:a[d.toNat]? with
 |none=>exact⟨cL _,kh,jJ,kh,cL _,cL _⟩
 |some e=>exact(f.nd e (iZ h)).rA
def GB.TL(hz:b<=4)(f:P<=20)(e:GB b P (a,c)):sJ a:=
 ⟨λd=>(e.rA d).ph,λd=>(e.rA d).na,λd=>(e.rA d).nc,λd=>aj (e.rA d).la f,λd=>aj (e.rA d).lc f,aj (cj e.len) hz⟩
def NB.ag(hz:a<=4)(e:P<=21)(h:NB a P n):Tf n:=
 have b:=h.FA hz e
 ⟨h.of.z4 hz,b.ph,b.ch,b.hp,b.hl,λd c=>aj (b.Ey d c).1 ∅⟩
def NB.lag(hz:a<=4)(l:P<=6)(h:NB a P n):(kD n).length<=24:=by
 let ⟨c,b,zy⟩:=h;have d:=b.z4 hz;have g:∀f:Int->Bool,((bx c.size c.me).filter f).length<=4:=λf=>aj (fZ _ _) (aj (z8 _ _) d)
 unfold kD;dsimp only;split
 .exact aj (mV (g _)) ∅
 split
 .refine aj (FD (k:=4) λe z=>?_) (lz 4 (z0 (Q:=λj=>aa j<=6) (aj (cj (aP _)) (vL (aj (vK b.np λe i=>(b.kp e i).1) l))) (cL _)));split
  .exact mV (aj (z8 _ _) d)
  exact mV (g _)
 exact cL _
def adX{a:bU}(h:SL P a):(mO a).length<=P:=mV (Tz h)
theorem GB.log(g:GB c a (b,d))(l:Nat)(e:Int)(i:Bool)(k:Int):(fu b l e i k).log.length<=a:=
 z0 (Q:=λj=>aa j<=a) (adX λe f=>by
  let ⟨h,_,f⟩:=fB.mp f;exact(g.rA h).ka e f) (cL _)
end
def TM{b:Type}{a:List b}{k:Int}{n:Nat}(h:aa a<=n):(cY a k).length<=n+1:=aj (pQ (TG _)) (fG h)
def KQ{c:Prop}[Decidable c]{a b:Mv}(e:sO a)(d:sO b):sO (if c then a else b):=by
 split
 .exact e
 exact d
def FH{c:Type}{l:List c}{d:c->Mv}(h:∀a,sO (d a)):∀b∈l.map d,sO b:=λb e=>by
 let ⟨a,_,zy⟩:=aY.mp e;exact h a
section
def adY(hz:aa c<=4)(m:f<g)(l:Int)(j:Bool)(k:Int):AO g 0 12 (fu c f l j k).bG:=by
 have i:(if j=af then(cY (bx (aa c) f) k).reverse else cY (bx (aa c) f) k).length<=5:=by
  have h:=TM (k:=k) (aj (z8 (aa c) f) hz);split
  .exact aj (cj yj) h
  exact h
 exact vM (d:=7) (d':=5) (vM (d:=2) (d':=5) (vM (a:=[_]) (b:=[_]) (FG (e:=.run) m λz=>trivial) (vN (d:=1) (λz h=>dh.mp h▸TH k) (cB _))) (vN (FH λz=>KQ (KP _) (FF _)) (mV (aj (cj CK) (aj (vU _ _) i))))) (vN (FH λz=>KQ (KP _) (FF _)) (mV (aj (fZ _ _) i)))
def adZ(h:d<c):∀{a:dG} {k:Nat},aa a<=k->AO c k k (a.map λb=>.at d (.bW b)):=λ{a}=>by
 induction a with
 |nil=>exact λf=>⟨jJ,cL _,cL _⟩
 |cons b a i=>
  intro k f;cases k with
  |zero=>exact aV f (KY _)
  |succ k=>
   have g:=vM (FG (e:=.bW b) h λz=>trivial) (i (Cr f));exact⟨g.ok,aj g.pc (cj (kK ..)),aj g.ln (cj (kK ..))⟩
def ad0(hz:aa N<=4)(u:a<e)(b:aL){log f:dG}(h1:aa log<=6)(h2:aa f<=2)(s q k:Int):AO e 2 101 (gK N a b log f s q k).1:=by
 have n:(iC (nd N a) log f).length<=8:=by
  unfold iC bh;rw[qb];split
  .exact aj (cj bO) (dQ h1 h2)
  exact aj h1 ∅
 have p:∀{g:Type} (o:Int->g),((bx (aa N) a).map o).length<=4:=λo=>mV (aj (z8 _ _) hz)
 have m:(cY (fQ (aa N) a (iC (nd N a) log f)) k).length<=33:=TM (aj (FD (k:=4) λl z=>p _) (lz 4 n));have i:∀{g:Type} {t:List g} {v:g->Bool},∀h∈t.map (λl=>if v l=af then Bx 0 else za 0),sO h:=FH λz=>KQ (KP _) (FF _)
 exact vM (c:=2) (d:=69) (d':=32) (vM (c:=2) (d:=36) (d':=33) (vM (c:=2) (d:=3) (d':=33) (vM (c:=2) (d:=2) (d':=1) (adZ u h2) (vN (λz r=>dh.mp r▸TH k) (cB _))) (vN i (mV m))) (vN i (mV (aj (fZ _ _) m)))) (vN (λh j=>by
  let ⟨w,_,j⟩:=fB.mp j;exact i h j) (aj (FD (k:=4) λl z=>p _) (lz 4 (aj (fZ _ _) n))))
end
def ad1(b:aL)(c:Int):(b.1+1,c)≠b:=λa=>Mp (sZ b.1) (aR GW a)
section
def ad2(h:0<b)(hz:b<=4)(m:d<=20)(C:bA a)(j:c9 b d (ig a)):∀c∈vJ a b,(ig a).message c=ig a/\zv (ig a) c:=by
 intros b d a _ h hz m C j;have f:=ad1 a.aE a.me;have k:0<=(a.me+1).fmod b/\(a.me+1).fmod b<4:=⟨CV _ (dB.mpr h),rL (Mm _ (dB.mpr h)) (iK.mpr hz)⟩
 have o:look (ig a).props 99=ai:=nP.mpr λe=>by
  let ⟨l,g,n⟩:=aY.mp e;have i:=(j.kp l g).1.2;rw[n] at i;exact aV (dN i (iK.mpr m)) ∅
 unfold vJ;refine L5.mpr ⟨L5.mpr ⟨eU.mpr ⟨⟨aB λe=>f e.1,λe=>aV e f⟩,eU.mpr ⟨⟨aB λe=>f e.1,k⟩,eU.mpr ⟨⟨?_,k⟩,jJ⟩⟩⟩,eU.mpr ⟨⟨aB λe=>f e.1,trivial⟩,eU.mpr ⟨⟨aB λe=>yr ((Rh a.aE).symm.trans e.2.2),trivial⟩,jJ⟩⟩⟩,λc p=>?_⟩
 .show(if a.aE=a.aE/\a.phase=2 then _ else _:aU)=_;split
  .rw[o]
  rfl
 let ⟨l,g,zy⟩:=aY.mp p;refine⟨?_,trivial⟩;rw[C.of];exact aR (λq=>aU.mk _ _ _ _ q _ _ _ _ _) (az (qM.mp (uA g)))
def NB.stale(k:0<c)(hz:c<=4)(i:P<=20)(h:NB c P a)(C:bA a)(j:b∈vJ a c):vA a (.msg b)/\bK a (.msg b)=(a,[]):=
 have d:=h.of;have f:=ad2 k hz i C d b j;have e:=xV i;have g:(ig a).event (.msg b)=ig a:=f.1
 ⟨⟨h.FA hz e,d.fit hz e J,f.2,g.symm▸d.Tt hz e⟩,BW C (C.of▸g)⟩
end
def FJ(n:Nat):pS n=((gM n).nodes,[]):=fh (adW n) J
structure RB(n c:Nat)(S:R1):Prop where
 rg:RG n S
 ao:AO n c (75*c) S.bG
 ml:aa S.marks<=1+2*c
 lf:aa S.left<=24
def Cj{n f d:Nat}(i:n<=4){a:fE}{c:aO×cT}(h:pl ((gM n).nodes,[]) a=c)(g:AO n f d a)(j:f<=6):GB n 6 c/\aa c.2<=200*aa a:=by
 have e:0+(a.map zZ).sum<=6:=aj (cj (rB _)) (aj g.pc j);have b:=GB.adV i (d:=d) (GB.start n) g.ok (aj e ∅);rw[FJ] at b;exact h▸⟨b.1.up e,aj b.2 (cj (rB _))⟩
def ad3{a:aO}{b:Nat}(h:b<aa a):nd a b∈a:=fW (dZ h)▸sU h
def ad4(a:Int):qT[bT a 6]?=U (qT.getD (bT a 6) []):=by
 have b:bT a 6<aa qT:=tP a (n:=6) ∅;rw[qc,dZ b];rfl
theorem RB.round{n i:Nat}{g:R1}(w:0<n)(h:n<=4)(p:i<=4)(R:RB n i g)(c:lY):(∃a f d,Fl g (bT c.who n) c a f d)/\RB n (i+2) (mQ g c):=by
 intros n i g c _ w h p R;have m:=R.rg.inv.len;have j:bT c.who n<n:=tP c.who w;have E:=acn (bT c.word 6);generalize q:fu g.nodes (bT c.who n) c.x (decide (c.mode.fmod 2=1)) c.k=a;generalize o:gK a.after (bT c.who n) a.b a.log (qT.getD (bT c.word 6) []) c.y (c.cu.fmod 4) c.k=d;let ⟨L,O⟩:=R.rg.round w c q o;let ⟨Q,M,P,K⟩:=L;have C:i+2<=6:=gg p 2;have J:=R.ao.app (vN (FH (l:=g.left) λZ=>FF c.k) (mV R.lf));have G0:=(Cj h M J (vS (vS C))).1;have v:=adY (aj (cj m) h) j c.x (decide (c.mode.fmod 2=1)) c.k;have u:=G0.log (bT c.who n) c.x (decide (c.mode.fmod 2=1)) c.k;rw[q] at v u;have A1:=J.app v;have z:=(Cj h P A1 (vS (vS C))).1;have B:=ad0 (N:=a.after) (aj (cj z.len) h) j a.b (log:=a.log) u E c.y (c.cu.fmod 4) c.k;rw[o] at B;have D:=A1.app B;have t:=(Cj h K D C).1;have F:=t.nd _ (ad3 (jL j (cj t.len.symm)));have s:=D.app (FG (e:=.again) j λZ=>trivial);have A:=s.app (FG (e:=.e8) j λZ=>trivial);have G:=F.lag h (cB 6);refine⟨⟨a,qT.getD (bT c.word 6) [],d,⟨jL j (cj m.symm),G0.TL h ∅,λr H I=>⟨dN ∅ ((G0.rA r).ka H I).1,dN ((G0.rA r).ka H I).2 ∅⟩,λr=>aj (G0.rA r).la ∅,q.symm,z.TL h ∅,z.len.trans m.symm,aj u ∅,ad4 _,aj E ∅,o.symm,t.len.trans m.symm,F.ag h ∅,aj (dQ (dQ (dQ (aj R.ao.ln (lz 75 p)) R.lf) v.ln) B.ln) ∅,aj R.ml (aj (gc (lz 2 p) 1) ∅)⟩⟩,?_⟩
 have:AO n (i+2) (75*i+150) (mQ g c).bG/\(mQ g c).marks.length<=aa g.marks+4/\(mQ g c).left.length<=24:=by
  unfold mQ;dsimp only;rw[m,q,o];split
  .exact⟨⟨A.ok,A.pc,aj A.ln (gc (by decide:139<=150) (75*i))⟩,aj (pQ (k:=1) (cB _)) (gg (aj (pQ (k:=1) (cB _)) (gg (pQ (k:=2) (by exact(by decide:1<=2))) 1)) 1),G⟩
  exact⟨⟨s.ok,s.pc,aj s.ln (gc (by decide:138<=150) (75*i))⟩,aj (pQ (k:=1) (cB _)) (gg (pQ (k:=3) (by exact(by decide:1<=3))) 1),G⟩
 exact⟨O,this.1,aj this.2.1 (gg R.ml 4),this.2.2⟩
def Cm{n i:Nat}{m:aD}(h:(gM n).nodes[i]?=U m):m=⟨i,n,(0,0),[],[],0,(0,0),[],[]⟩:=by
 let ⟨b,a,zy⟩:=G4.mp (cC.symm.trans h);rw[(fH.mp a).2.symm,AE]
def FL(n:Nat)(a:Int):(nd (gM n).nodes a).acc=[]/\(nd (gM n).nodes a).aq=[]:=by
 unfold nd;rw[qc];cases h:(gM n).nodes[a.toNat]? with
 |none=>exact⟨rfl,rfl⟩
 |some b=>rw[Cm h];exact⟨rfl,rfl⟩
def Iv.start(n:Nat):Iv n (gM n).nodes:=by
 have f:(gM n).nodes.length=n:=(aP _).trans gx;have no:∀b,¬pK (gM n).nodes b:=λb ⟨c,e,l⟩=>gS ((FL n c).1▸l)
 refine⟨f,⟨⟨λi g a=>?_,λi g a=>aR aD.me (Cm a)⟩,λi g a=>(aR aD.size (Cm a)).trans f.symm⟩,λo=>⟨λc e=>(FL n c).1.symm▸.nil,λc e=>(FL n c).1.symm▸jJ,λb a=>aV a (no b),λb a=>aV a (no b),λh p j=>aV j (no h),λc e r q d=>?_,λb a=>aV a (no b)⟩,λk d=>?_⟩
 .rw[Cm a];exact⟨.nil,.nil,λa=>qz a,λz=>rfl,λa=>qz a,λz=>rfl⟩
 .rw[(FL n c).2] at d;cases d
 rw[Cm (n:=n) (i:=0) (m:=k) (by rw[d];rfl)];exact⟨0,rfl,rfl⟩
theorem RB.start(n:Nat):RB n 0 (gM n):=
 ⟨⟨rfl,λb a=>dh.mp a▸⟨cB _,rfl⟩,Iv.start n⟩,AO.nil,cB _,cL _⟩
def RB.run{n:Nat}(d:0<n)(c:n<=4){a:List lY}(e:aa a<=3):∀k,k<=aa a->RB n (2*k) (n8 n (a.take k)):=λk=>by
 induction k with
 |zero=>exact λz=>RB.start n
 |succ k f=>
  intro b;have:=((f (vS b)).round d c (lz 2 (Cr (aj b e))) a[k]).2;rw[List.take_succ_eq_append_getElem b];unfold n8 at this⊢;rw[j3];exact this
def RB.tail{n j:Nat}{f:R1}(h:0<n)(a:n<=4)(e:j<=6)(R:RB n j f):KH n f:=by
 have g:=(Cj a R.rg.st R.ao e).1;have i:6<=20:=by decide
 have k:aa f.bG<=450:=aj R.ao.ln (lz 75 e);refine⟨h,a,aj k ∅,λo m r=>?_,by rw[FJ];exact aR GV R.rg.st,by rw[FJ];exact R.rg.E6,λc b=>((g.nd c b).FA a ∅).ch,λc b t q=>?_⟩
 .have s:=R.ao.take o;have d:=Cj a J s e;rw[FJ];exact⟨(d.1.mv a i (R.ao.ok m (iZ r))).pf,aj (cj d.1.len) (aj a ∅),aj d.2 (aj (lz 200 (aj (wg _ _) k)) ∅)⟩
 let ⟨p,l⟩:=List.mem_iff_getElem?.mp b;exact(g.nd c b).stale h a i (R.rg.inv.ri.G.gE p c l) q
def plain:Tp:=λn h b a c=>by
 refine⟨λg l j=>?_,by have:=(RB.run b a c (aa h) (cB _)).tail b a (lz 2 c);rwa [oF] at this⟩;let ⟨d,o⟩:=fH.mp j;have e:=RB.run b a c g (gf d);let ⟨m,f,k,i⟩:=(e.round b a (lz 2 (Cr (aj d c))) l).1;exact⟨m,f,k,i,e.rg.inv.len⟩
end Sx
theorem ad5{e:Params}{h:bY}{b:List aC}{a:List Int}(c:WellAll e h b (a.map λi=>Hz i)):aW h (λz=>False) b (eY a):=by
 induction a generalizing b with
 |nil=>cases c;exact .nil
 |cons d a f=>
  cases c with
  |cons g j=>
   cases g;exact .cons (.int d _) (f j)
theorem ad6{f:ExcName->Option aC}{c d:Str->Option aC}{h:bY}(e:Top viewP (looseW viewP []) f c d h):∀a∈oS,c a=none:=λa b=>
 e.free a ((by decide+kernel:∀a∈oS,a∉startupNames) a b) ((by decide+kernel:∀a∈oS,a∉looseW viewP []) a b) ((by decide+kernel:∀a∈oS,a∉(recsOf viewP).map (·.name)) a b) ((by decide+kernel:∀a∈oS,a∉(litsOf viewP).map (·.1)) a b) ((by decide+kernel:∀a∈oS,a∉(clssOf viewP (looseW viewP [])).map (·.name)) a b)
theorem ad7(a:List Int):ofPy (.list (a.map MG))=.list (a.map λi=>Hz i):=by
 have:∀a:List Int,ofPys (a.map MG)=a.map λi=>Hz i:=λa=>by
  induction a with
  |nil=>rfl
  |cons c a b=>rw[dM,dM,<-b];rfl
 show WData.list _=_;rw[this]
theorem ad8:Of 18 callerA:=⟨rfl,by decide+kernel,by decide+kernel⟩
theorem top:rw_sx_r018_1.Holds:=hd (by
 intro w s₀ fM mg mb G Y fa o pm cd doc dV kV ho hd hcd hD TN hg eW vals as ad9 aea hrd hwl hlo;have KX:=kIn_of Y;have hsm:=G.X;clear hd hcd hD Y ho;refine Ground.open G ?_;intro T B D TE TW
 have hfa:fa=153:=by
  have e:=oK KX T.g (n:="law") (v:=.ref 153) (by kernel_rfl);have e':mg "law"=some (.ref fa):=TN;rw[e] at e';cases e';rfl
 subst hfa;clear TN
 wrow_args ad9 aea hrd hwl hlo
 rename_i uq hs aeb hLy hr1 hl2 wa wb a vs wc hL ra w1 r0 hI hr hc1 hc2;have hz:uq.length<=63:=iK.1 (iI.1 ‹_›)
 have WLg:WL ⟨rw_sx_r018_1.row.prog,w,fM.heap,88,hd.heap_1 w.params,mg,mb⟩ w.params:=
  ⟨⟨rfl,KX,rfl,oK KX T.g (by kernel_rfl),oK KX T.g (by kernel_rfl),oK KX T.g (by kernel_rfl),oK KX T.g (by kernel_rfl),oK KX T.g (by kernel_rfl),oK KX T.g (by kernel_rfl),oK KX T.g (by kernel_rfl),oK KX T.g (by kernel_rfl),oK KX T.g (by kernel_rfl),oK KX T.g (by kernel_rfl)⟩,oK KX T.g (by kernel_rfl)⟩
 have F:=adH WLg plain hz;rw[ad7] at w1⊢
 have rep:Rep fM.heap (λz=>False) (.ref a) (.lst (eY uq)):=by
  cases w1 with
  |list e wl=>exact .lst ⟨_,e⟩ (λh=>h) (by unfold eY;rw[aP];(first|(refine lim ‹_› ?_;rfl)|(refine uO ‹_› ?_;rfl)|(show _<=1000000;lia))) (ad5 wl)
 have Bs0:Bs {prog:=rw_sx_r018_1.row.prog,w:=w,h₀:=fM.heap,cls:=88,K:=hd.heap_1 w.params,mg:=mg,mb:=mb,A:=callerA,env:=callEnvC (su w.params) 0 0,M:=λz=>False,X:=λz=>False,own:=[],n:=18,σ:=λz=>none,wr:=λz=>False,B:=λz=>False} fM:=
  ⟨λz z e=>e,⟨KX,T.g,T.b,T.nolimit,T.builtins,ad6 T,AN.mp hsm⟩,ad8,λz h=>h.elim,λz h=>h,λz h=>h.elim,λz z h=>(by cases h),λz h=>h.elim,λz h=>h⟩
 refine kL (uw (F _ rfl (cB _) trivial fM [.ref a] (λv s'=>Kp fM s'/\v=.bool true) Bs0 (.cons rep .nil) λs' u k r=>⟨k,by cases r;rfl⟩)) (λv s' h=>?_) λz z h=>h.elim
 obtain⟨k,rfl⟩:=h;exact GoodW.toG ⟨.inl ⟨_,.bool true,[],rfl,λz=>rfl,.bool _,(by first|kernel_rfl|rfl|decide),λz=>⟨uy,λz h=>by cases h⟩⟩,k.keep,k.os,k.gens.trans hg⟩)
end
end Mine
theorem PySem.Challenge.cw_sx_r018_1_holds : PySem.Challenge.rw_sx_r018_1.Holds :=
 Mine.top
