import PyProof.Rows.All
import Wide.All
import OpenK.AllK
import Wide.FinOn
import PyProof.TableCode
import PyProof.ByEvalTree
import Lean
import PySem.Challenge.RW_qd0049_01
set_option Elab.async false
set_option maxRecDepth 100000
set_option maxHeartbeats 8000000
set_option linter.all false
set_option tactic.hygienic false
set_option genCtorIdx false
set_option genInjectivity false
set_option genSizeOf false
set_option genSizeOfSpec false
set_option compiler.extract_closed false
set_option backward.match.sparseCases false
noncomputable section
namespace Mine
open PySem
open _root_.And renaming elim->eD
open _root_.Array renaming append_empty->Zw,getElem?_eq_getElem->Gv,getElem?_eq_some_iff->n7,getElem?_setIfInBounds_ne->ZP,length_toList->GB,toArray_toList->aa0,toList_extract->aaf,toList_inj->F1
open _root_.Bool renaming and_eq_true_iff->cH,and_eq_true->de,and_false->Gd,and_true->Gc,beq_comm->ZL,eq_false_iff->qs,eq_iff_iff->qy,false_eq_true->jI,false_ne_true->ei,false->V,noConfusion->Y1,not_eq_false->aaz,not_eq_true'->uB,not_eq_true->kZ,or_eq_false_iff->mB,or_eq_true->gq,or_false->aaX,or_true->qM,true->J
open _root_.Eq renaming refl->ct
open _root_.Exists renaming elim->bi
open _root_.False renaming elim->gN
open _root_.ForInStep renaming yield->qN
open _root_.Int renaming add_assoc->ub,add_comm->Y9,add_left_comm->Y3,add_nonneg->x7,add_sub_cancel->Zl,add_zero->iX,ediv_nonneg->aaw,ediv_one->yd,emod_lt_of_pos->FP,emod_nonneg->ye,eq_ofNat_of_zero_le->qw,le_antisymm->db,le_max_left->FH,le_max_right->gl,le_natAbs->Zd,le_of_eq->bz,le_of_lt->qo,le_refl->uc,le_total->FE,le_trans->gk,lt_irrefl->i0,lt_of_le_of_lt->nY,lt_of_lt_of_le->qn,lt_trans->Zp,min_le_left->ue,mul_add->Y5,mul_comm->Fz,mul_ediv_add_emod->Y',mul_nonneg->Y8,mul_one->Y7,mul_zero->Y4,natAbs->FK,natCast_nonneg->da,ne_of_gt->uf,neg_nonpos_of_nonneg->ql,neg_one_mul->FA,not_le->kK,not_lt_of_ge->kL,not_lt->aK,ofNat_inj->uH,ofNat_le->mj,ofNat_lt->ed,toNat_lt->ZR,toNat_natCast->e0,toNat_of_nonneg->jz,toNat->aS,zero_add->ua,zero_mul->Y6
open _root_.Int.ofNat renaming inj->Zm
open _root_.List renaming all_eq_true->i1,any_cons->Z3,any_eq_false->GC,any_eq_true->yz,any_map->ZK,append_assoc->cz,append_cancel_left->oi,append_nil->ci,cons_ne_nil->nX,contains_cons->mG,drop_drop->yZ,drop_eq_getElem_cons->k4,drop_eq_nil_iff->aae,drop_eq_nil_of_le->qI,drop_left->dI,drop_length->mF,drop_nil->Zq,drop_take->qC,drop_zero->abh,eq_nil_of_length_eq_zero->yJ,eraseDups_cons->aaC,ext_getElem?->uo,extract_eq_take_drop->aag,filterMap_append->Ho,filterMap_cons_some->ZZ,filterMap_cons->hY,filterMap_map->ZX,filterMap_nil->abk,filter_cons_of_neg->Hg,filter_cons_of_pos->Hh,filter_cons->abl,filter_sublist->Gf,find?_append->Hq,find?_cons->i7,find?_eq_none->Hm,find?_isSome->Z2,find?_some->yQ,findIdx?_eq_some_iff_getElem->Zs,flatten_append->abu,flatten_cons->y_,foldl_append->GZ,foldl_cons->qL,forIn_cons->GY,forall_mem_cons->dH,getD_eq_getElem?_getD->h0,getElem?_append_left->cX,getElem?_append_right->mw,getElem?_concat_length->gT,getElem?_drop->abe,getElem?_eq_getElem->bI,getElem?_eq_none_iff->Zt,getElem?_eq_none->kS,getElem?_eq_some_iff->cQ,getElem?_map->dG,getElem?_nil->yi,getElem?_range->yx,getElem?_set_ne->bm,getElem?_set_self->gn,getElem?_toArray->jE,getElem_map->aaZ,getElem_mem->gr,idxOf_lt_length_of_mem->Hj,isEmpty_iff->oa,isPrefixOf_iff_prefix->aab,length_append->az,length_cons->b4,length_drop->cY,length_eq_one_iff->fP,length_eq_zero_iff->n0,length_filterMap_le->yI,length_filter_le->n_,length_map->bN,length_nil->eE,length_pos_iff->mH,length_pos_of_mem->yX,length_range->aax,length_replicate->fx,length_reverse->qH,length_set->dD,length_singleton->aaU,length_take_le'->abd,length_take_le->yV,length_take->cK,length->gS,lookup_cons->yl,map_append->jH,map_congr_left->jJ,map_cons->i8,map_drop->Hl,map_fst_zip->Gg,map_inj_left->aa2,map_map->gR,map_reverse->G0,map_snd_zip->aaD,map_take->abi,mem_append_left->dc,mem_append_right->bB,mem_append->aZ,mem_cons_of_mem->aa5,mem_cons_self->G8,mem_cons->bD,mem_filterMap->yk,mem_filter->dj,mem_map->ch,mem_of_find?_eq_some->aa4,mem_of_getElem?->eZ,mem_of_mem_drop->abb,mem_of_mem_take->qT,mem_or_eq_of_mem_set->Hr,mem_range->qt,mem_reverse->aaE,mem_singleton->bq,nil_append->qU,nodup_append->abt,nodup_cons->ef,nodup_nil->uq,not_mem_nil->x6,of_mem_zip->Gr,pairwise_cons->i3,pairwise_iff_getElem->yt,pairwise_map->He,prefix_append->Hn,prefix_refl->bT,push_toArray->aak,range'_succ->aac,range'->uw,range_succ_eq_map->Hk,replicate_succ->F5,replicate->bF,reverse_cons->yj,size_toArray->cS,take_append_drop->qS,take_append_of_le_length->aa8,take_eq_take_min->abc,take_left->fS,take_length_add_append->aa9,take_length->uy,take_nil->FX,take_of_length_le->yr,take_take->Hc,toArray->qK
open _root_.List.Nodup renaming sublist->ZO
open _root_.List.Pairwise renaming filterMap->ab5,imp_of_mem->ab6
open _root_.List.cons renaming inj->dk
open _root_.Nat renaming add_assoc->c_,add_comm->cR,add_le_add_left->bH,add_le_add_right->c9,add_le_add->ec,add_le_of_le_sub'->aa7,add_left_comm->FJ,add_lt_add_left->G_,add_lt_add_of_lt_of_le->y',add_lt_add_right->Y2,add_lt_of_lt_sub'->FL,add_mod_right->Zi,add_mod->Zj,add_mul->yS,add_right_comm->uL,add_sub_add_right->aad,add_sub_cancel_left->gQ,add_sub_cancel->Hp,add_zero->yD,beq->qr,ble_eq_true_of_le->Hi,ble->cc,div_add_mod->Y_,div_eq_of_lt->aa6,div_lt_of_lt_mul->abq,eq_add_of_sub_eq->ya,eq_of_beq_eq_true->FS,eq_zero_or_pos->abj,le_add_left_of_le->yc,le_add_left->cG,le_add_of_sub_le->x8,le_add_right_of_le->yf,le_add_right->bl,le_antisymm->b8,le_max_left->FM,le_max_right->Zh,le_min_of_le_of_le->FQ,le_mul_of_pos_left->FO,le_of_add_left_le->uh,le_of_add_right_le->qQ,le_of_ble_eq_true->bw,le_of_eq->aq,le_of_lt_succ->fu,le_of_lt->bj,le_of_not_le->yY,le_of_not_lt->ml,le_of_sub_eq_zero->ug,le_of_succ_le_succ->jK,le_of_succ_le->abo,le_refl->aL,le_sub_of_add_le'->oh,le_sub_of_add_le->abm,le_succ_of_le->hW,le_succ->fy,le_total->x9,le_trans->ak,log2_lt->FZ,lt_add_left->Zo,lt_add_of_pos_right->FF,lt_add_one_of_le->Hs,lt_add_right->yb,lt_irrefl->d1,lt_of_add_lt_add_right->abg,lt_of_add_right_lt->abn,lt_of_le_of_lt->aT,lt_of_le_of_ne->FR,lt_of_lt_of_eq->Hf,lt_of_lt_of_le->bc,lt_of_not_le->kM,lt_of_succ_le->FG,lt_of_succ_lt_succ->nZ,lt_of_succ_lt->yC,lt_or_ge->Ha,lt_succ_of_le->di,lt_succ_of_lt->ui,lt_succ_self->fN,lt_trans->i9,lt_trichotomy->yu,min_eq_left->fM,min_eq_right->FD,min_le_left->eA,min_le_right->eY,mod_eq_of_lt->qq,mod_lt->gm,mod_two_eq_zero_or_one->Zk,mul_add_div->Zn,mul_assoc->G9,mul_comm->qR,mul_le_mul_left->kG,mul_le_mul_right->uJ,ne_of_gt->bf,ne_of_lt->dB,not_le_of_lt->Zc,not_le->aM,not_lt_of_le->FN,not_lt_zero->eX,not_lt->ar,not_succ_le_zero->yU,one_ne_zero->aba,pow_le_pow_right->yT,pow_mul->GR,pow_pos->G',pow_succ->uI,sub_add_cancel->ud,sub_add_eq->abf,sub_eq_of_eq_add->Ze,sub_eq_zero_of_le->x_,sub_le_of_le_add->Zf,sub_le_sub_right->uK,sub_le->b_,sub_lt_iff_lt_add'->abr,sub_one_lt_of_lt->qp,sub_pos_of_lt->qm,sub_self->qu,sub_sub_self->Zg,sub_sub->Zb,sub_zero->aaV,succ_le_of_lt->iY,succ_le_succ->dA,succ_lt_succ->abp,succ_mul->Za,succ_ne_self->uA,succ_ne_zero->yW,succ_pos->fv,succ->uz,zero_add->ee,zero_le->bn,zero_lt_one->mC,zero_lt_succ->x',zero_mul->yR
open _root_.Nat.succ renaming inj->h9
open _root_.Option renaming bind_eq_some_iff->b0,bind_some->qJ,getD_some->Z0,getD->aao,isNone_iff_eq_none->ut,isSome_iff_exists->n5,map_eq_some_iff->dS,map_some->yy,ne_none_iff_exists'->yn,none->I,some_ne_none->x5,some->D
open _root_.Option.some renaming injEq->aa3,inj->aE
open _root_.Or renaming elim->dC
open _root_.Prod renaming fst->Fx,snd->Fy
open _root_.Prod.mk renaming injEq->aaM,inj->ym
open _root_.PyProof.Rows renaming Subscript_->GN,add_lists->abE,add_tuples->abF,and_int->abL,callWith_type->abW,floordiv_int->abG,get?_update_seq->aaY,iadd_int->abX,lshift_int_small->abK,mod_int'->abH,pow_int_small->abI,rshift_int->abJ,seqObj->fR,slot_tuple_getitem->yv
open _root_.PySem renaming Addr->aG,Around->bQ,BoolOp->mo,CmpOp->kN,Comprehension->yg,Const->mn,DictEntry->uk,ExceptHandler->FT,Expr->aA,GenState->yK,InCallC->qA,IsPart->kW,IsTupleKey->og,ItemOn->kV,Meets->kQ,Model->fz,NameKind->kO,Operator->mm,OsState->yL,Program->bK,Scope->d0,Shared->ao,Stmt->cP,Value->ay,World->bM,attributeBase->GL,behindInMarks->FU,builtinsNs->jB,cLine->fw,call_gives->kR,call_isinstance->ZN,call_meetsIn->GD,call_meets->mx,cameBackBy->i4,cellsFrom->kT,checkBuiltinCall->qO,clipAt->i5,codeAny_builtin->uF,codeAny_call_builtin->aaH,codeAny_call_function->Gl,codeAny_func->Gq,codeAny->gO,entryFor_of_tree->Gw,foldedSetIterable->FV,getMethod_builtin->jF,holding->kP,intKind->eB,isInstance->yo,isSubtype->um,methodCall->GP,mkIntGrown->GQ,newEnv->qz,noteFrame->Gk,notedBy->fQ,opaqueClassAbove->G2,operate->yh,plainId_quiet->yO,rawInt->eC,recursionLimit->mv,refuseLoop->yE,setItem->qE,sizeLine_eq->jD,sizeLine->gp,slot_list_getitem->Gs,slot_list_setitem->Z1,standAt->mr,subscripted->FW,swappedStores->jA,swapsWithSole->uj,sysModules->FY,tupleKind->ul,typeIs_int->qx,valueAt->yq,wpAny_Name->GO,wpAny_Return_some->aaB,wpAny_bind->ac,wpAny_callSpecial?_slot->qD,wpAny_call_entry->gP,wpAny_call->n9,wpAny_comprehension_free->aaA,wpAny_dictEntries->G4,wpAny_dictEpoch->G5,wpAny_execs_cons->uD,wpAny_execs_nil->uC,wpAny_field->eg,wpAny_forIn_list->aan,wpAny_getItem_list_slice->ZY,wpAny_handled->GS,wpAny_holding->cJ,wpAny_isInstance->yp,wpAny_isOneOf_itemiter->G6,wpAny_isSubtype_exc->yM,wpAny_ite_false->qG,wpAny_ite_split->ZI,wpAny_letTemporaryGo->ZS,wpAny_loadName_local->GG,wpAny_loadPart'->GV,wpAny_loadPart_at->i_,wpAny_load->yF,wpAny_madeBy_exc->aaF,wpAny_mkBytes->yB,wpAny_mono->eh,wpAny_newFunctionEnv_cells->Gm,wpAny_newList->GK,wpAny_newObj_type->fO,wpAny_newTuple->GH,wpAny_of_eq->ce,wpAny_pure->ax,wpAny_pyIter_enum->aay,wpAny_pyIter_tuple->GW,wpAny_release->GX,wpAny_ret_mkInt->aai,wpAny_rule->hX,wpAny_seqItems->ux,wpAny_sequenceKey->ZW,wpAny_setField_rec->qP,wpAny_setField->qB,wpAny_standAt->e7,wpAny_throw->GU,wpAny_truthy_bool->ZJ,wpAny_tupleItemsOf->F0,wpAny_typeNameOfWhole_itemiter->yN,wpAny_typeNameOf_itemiter->aaS,wpAny_typeOf->us,wpAny_updateSeq->yA,wpAny->af,wpAt_bind->aaG,wpAt_stack->abY
open _root_.PySem.Around renaming frames_deeper->ZQ
open _root_.PySem.Builtin renaming bitAnd->Zu
open _root_.PySem.Builtin.Bytes renaming buffer?->abR,find?->GA,fitsIndex->abM,joinLetGo->abT,joined->abU,takeBuffer?->abS,takeBufferQuiet?->aaj,window->aah
open _root_.PySem.Builtin.Bytes.Kind renaming bytearray->abV
open _root_.PySem.Builtin.Dict renaming showsAll->ab4
open _root_.PySem.Builtin.Dict_items renaming ownedTupleFields->ab0,ownedTupleIsFree->ab1,ownsTuple->abZ
open _root_.PySem.Builtin.Int renaming intBits->Z_
open _root_.PySem.Builtin.List renaming listExtendWith->ab3,listSameRef->aaW,listSubscript?->abQ,listTooLong->Z9
open _root_.PySem.Builtin.Range renaming rangeFitsLong->yH,rangeSize->iZ
open _root_.PySem.Builtin.Slice renaming sliceAdjust->ZV,sliceApplied->abN,slicePartIndex->abO,slicePlaces->Gu
open _root_.PySem.Builtin.SmallTypes renaming nextOf->aas
open _root_.PySem.Builtin.Tuple renaming tupleItemsOf->abP
open _root_.PySem.Calls renaming Name_function_global->GF,loadGlobal_builtin->aar,spliced_cons->mE,spliced_nil->n8
open _root_.PySem.Challenge renaming pw_qd0049_01->abD
open _root_.PySem.Code renaming quiet_builtin->aaL
open _root_.PySem.Env renaming kindOf->jC
open _root_.PySem.F renaming args_NoneType_eq_2->ZA,args_NoneType_ne_2->ZD,args_dict_get_3->aaq,args_dict_itemiterator_next_1->aaR,args_object_init_2->ZM,args_tuple_iterator_next_1->aau,entry_NoneType_eq->Zz,entry_NoneType_ne->ZC,entry_dict_get->aap,entry_dict_itemiterator_next->aaQ,entry_extend_loop->aaT,entry_tuple_iterator_next->aat,excBase_Exception->uE,plainAttrs_dict->Gy,plainAttrs_int->Z4,plainAttrs_list->Gx,plain_extend_loop->G7,slot_NoneType_eq_refl->ZE,slot_NoneType_eq->Zy,slot_NoneType_ne_refl->ZF,slot_NoneType_ne->ZB,slot_dict_get->Gz,slot_dict_itemiterator_next->uG,slot_dict_items_iter->aaO,slot_dict_items->aa1,slot_dict_setdefault->Z8,slot_int_rmul->Zx,slot_list_eq->ZG,slot_list_extend->Z6,slot_list_insert->Z7,slot_list_ne->ZH,slot_tuple_iterator_next->yG,slot_tuple_lt->aaN,slot_tuple_mul->Zv,store_Exception->aaJ
open _root_.PySem.Flow renaming ret->yP
open _root_.PySem.Heap renaming ExtBut->aav,SameBut->h8,get?_push_of_some->bA,get?_push_size->cI,get?_update_ne->aaI,get?_update_other->kU,get?_update_self->hZ,lt_size->ca,size_push->kX
open _root_.PySem.Heap.FunFrames renaming cons->Gi
open _root_.PySem.Heap.SameBut renaming refl->ab2,update->kY
open _root_.PySem.NameKind renaming cell->Ge
open _root_.PySem.Obj renaming cls_mapFields->Gj,data_mapFields->mA,isFreed_of_fields->ur,mapFields->n6,mapSeq->i6
open _root_.PySem.PyData renaming keyHash->Zr
open _root_.PySem.SeqAt renaming rc_eq_decline_or->F8,rc_ne_decline_or->F'
open _root_.PySem.Shared renaming TypeIs->aaP
open _root_.PySem.Str renaming ofString->cy
open _root_.PySem.Value renaming isInt_shape->G3,isInt->n4
open _root_.PySem.W renaming Frag->bg,findCls->mD,getL->qF,looks_findIn->G1,typeIs_bytes->dE
open _root_.PySem.W.FB renaming args_bytes_eq_2->F_,args_bytes_getitem_2->ZU,args_bytes_ne_2->Gb,entry_bytes_eq->F9,entry_bytes_getitem->ZT,entry_bytes_ne->Ga,plainAttrs_bytes->Z5,slot_bytes_eq->F6,slot_bytes_getitem->yw,slot_bytes_ne->F7
open _root_.PySem.W.KBy renaming tooLong_not->aam
open _root_.PySem.W.KTBy renaming bits_le->Z',if_not->jG,low_length->aaa,low->uv
open _root_.PySem.W.Looks renaming of_pure->aaK
open _root_.Std.Legacy.Range renaming forIn_eq_forIn_range'->aal
open _root_.UInt8 renaming toNat_inj->uu
def aH{P:Prop}(h:∀G:Prop,(P->G)->G):P:=h P id
def iP{c:Prop}{h:Decidable c}(a:c){b:Sort _}{t e:b}:ite c t e=t:=if_pos a
def iN{c:Prop}{h:Decidable c}(a:¬c){b:Sort _}{t e:b}:ite c t e=e:=if_neg a
def cA{c:Sort _}{d:Sort _}{a b:c}(f:c->d)(h:a=b):f a=f b:=congrArg f h
def aB{a b:Prop}(h:a)(k:¬a):b:=absurd h k
def dT{p:Prop}[h:Decidable p](e:p):decide p=true:=decide_eq_true e
def dF{p:Prop}[h:Decidable p](e:¬p):decide p=false:=decide_eq_false e
def bE{c:Type _}[BEq c][LawfulBEq c]{a b:c}:(a==b)=true↔a=b:=beq_iff_eq
def nN{p:Prop}(h:p):¬¬p:=not_not_intro h
@[elab_as_elim] def iI{a:Sort _}{c:Prop}{b:Decidable c}{motive:a->Sort _}{t e:a}(h:c->motive t)(k:¬c->motive e):motive (ite c t e):=iteInduction h k
def zD{p:Prop}(h:p:=by decide):p:=h
def zK{p:Prop}(h:p:=by decide+kernel):p:=h
def zS{p:Prop}(h:p:=by simp):p:=h
def zA{p:Prop}(h:p:=by assumption):p:=h
inductive E2{b c:Type}(p:b->c->Prop):Prop |mk (a:b) (b:c) (h:p a b):E2 p
inductive E3{b c d:Type}(p:b->c->d->Prop):Prop |mk (a:b) (b:c) (c:d) (h:p a b c):E3 p
inductive E4{b c d e:Type}(p:b->c->d->e->Prop):Prop |mk (a:b) (b:c) (c:d) (d:e) (h:p a b c d):E4 p
inductive E5{b c d e f:Type}(p:b->c->d->e->f->Prop):Prop |mk (a:b) (b:c) (c:d) (d:e) (e:f) (h:p a b c d e):E5 p
inductive E7{b c d e f g h:Type}(p:b->c->d->e->f->g->h->Prop):Prop |mk (a:b) (b:c) (c:d) (d:e) (e:f) (f:g) (g:h) (h:p a b c d e f g):E7 p
inductive E8{b c d e f g h i:Type}(p:b->c->d->e->f->g->h->i->Prop):Prop |mk (a:b) (b:c) (c:d) (d:e) (e:f) (f:g) (g:h) (h:i) (h:p a b c d e f g h):E8 p
inductive uM{b c d e f g h i j k l m n o q:Type}(p:b->c->d->e->f->g->h->i->j->k->l->m->n->o->q->Prop):Prop |mk (a:b) (b:c) (c:d) (d:e) (e:f) (f:g) (g:h) (h:i) (i:j) (j:k) (k:l) (l:m) (m:n) (n:o) (o:q) (h:p a b c d e f g h i j k l m n o):uM p
inductive A3(a b c:Prop):Prop |mk (F:a) (F:b) (F:c)
inductive A4(a b c d:Prop):Prop |mk (F:a) (F:b) (F:c) (F:d)
inductive A5(a b c d e:Prop):Prop |mk (F:a) (F:b) (F:c) (F:d) (F:e)
inductive A6(a b c d e f:Prop):Prop |mk (F:a) (F:b) (F:c) (F:d) (F:e) (F:f)
inductive A7(a b c d e f g:Prop):Prop |mk (F:a) (F:b) (F:c) (F:d) (F:e) (F:f) (F:g)
inductive A8(a b c d e f g h:Prop):Prop |mk (F:a) (F:b) (F:c) (F:d) (F:e) (F:f) (F:g) (F:h)
inductive A9(a b c d e f g h i:Prop):Prop |mk (F:a) (F:b) (F:c) (F:d) (F:e) (F:f) (F:g) (F:h) (F:i)
inductive Hu(a b c d e f g h i j:Prop):Prop |mk (F:a) (F:b) (F:c) (F:d) (F:e) (F:f) (F:g) (F:h) (F:i) (F:j)
inductive Hv(a b c d e f g h i j k l:Prop):Prop |mk (F:a) (F:b) (F:c) (F:d) (F:e) (F:f) (F:g) (F:h) (F:i) (F:j) (F:k) (F:l)
def E2.elim{G:Prop}(h:E2 p)(k:∀a b,p a b->G):G:=by cases h with |mk a b h=>exact k _ _ h
def E3.elim{G:Prop}(h:E3 p)(k:∀a b c,p a b c->G):G:=by cases h with |mk a b c h=>exact k _ _ _ h
def E4.elim{G:Prop}(h:E4 p)(k:∀a b c d,p a b c d->G):G:=by cases h with |mk a b c d h=>exact k _ _ _ _ h
def E7.elim{G:Prop}(h:E7 p)(k:∀a b c d e f g,p a b c d e f g->G):G:=by cases h with |mk a b c d e f g h=>exact k _ _ _ _ _ _ _ h
def E8.elim{G:Prop}(h:E8 p)(k:∀a b c d e f g h,p a b c d e f g h->G):G:=by cases h with |mk a b c d e f g h h=>exact k _ _ _ _ _ _ _ _ h
def z0{P:Prop}(h:False):P:=h.elim
def z1{P:Prop}(h:false=true):P:=Y1 h
def z2{P:Prop}(h:true=false):P:=Y1 h
def z3{b:Type}{a:b}{P:Prop}(h:none=some a):P:=(x5 a h.symm).elim
def z4{b:Type}{a:b}{P:Prop}(h:some a=none):P:=(x5 a h).elim
def z5{b:Type}{a:b}{l:List _}{P:Prop}(h: []=a::l):P:=(nX a l h.symm).elim
def z6{b:Type}{a:b}{l:List _}{P:Prop}(h:a::l=[]):P:=(nX a l h).elim
def z7{b:Type}{a:b}{P:Prop}(h:a∈ []):P:=(x6 h).elim
def z9{c d e:Type}{a:c}{b:d}{s t:e}{P:Prop}(h:some (Except.error b,s)=some (.ok a,t)):P:=z1 (cA (λo=>o.elim true λp=>p.1.toBool) h)
def mI{c d e:Type}{a b:c}{s t:e}(h:some (Except.ok (ε:=d) a,s)=some (.ok b,t)):a=b/\s=t:=⟨Except.ok.inj (cA Fx (aE h)),cA Fy (aE h)⟩
def oe{b:Type}{G:Prop}(o:Option b)(n:o=none->G)(s:∀a,o=some a->G):G:=Option.casesOn (motive:=λx=>o=x->G) o n s rfl
@[elab_as_elim] def rwt{a b:c}(h:a=b){P:c->Prop}(p:P b):P a:=h▸p
@[elab_as_elim] def me{c:Type}{b:c}{l:List _}{P:c->Prop}{a:c}(h:a∈b::l)(p:P b)(q:a∈l->P a):P a:=(bD.mp h).elim (λe=>rwt e p) q
@[elab_as_elim] def kp{P:Nat->Prop}(h:j<k)(f:∀n,j<n+1->P (n+1)):P k:=by cases k with |zero=>exact aB h (eX _) |succ n=>exact f n h
def a1(h:a<=b)(w:cc b c=true):a<=c:=ak h (bw w)
def a2(h:a<=b)(w:cc (b+1) c=true):a<c:=aT h (bw w)
def a3(h:a<b)(w:cc b (c+1)=true):a<=c:=fu (bc h (bw w))
def a4{a x b c:Nat}(h:a+x<=b)(w:cc b c=true):a<=c:=ak (ak (bl a x) h) (bw w)
def a5{a x b c:Nat}(h:x+a<=b)(w:cc b c=true):a<=c:=ak (ak (cG a x) h) (bw w)
def a6(h:a<=b)(w:cc (b+x) c=true):a+x<=c:=ak (c9 h x) (bw w)
def a7(h:a<=b)(w:cc (b+x) c=true):x+a<=c:=ak (aq (cR x a)) (a6 h w)
def a8(h:a<=x)(k:b<=y)(w:cc (x+y) z=true):a+b<=z:=ak (ec h k) (bw w)
def a9(h:a<=x)(k:b<=y)(w:cc (x+y+1) z=true):a+b<z:=ak (dA (ec h k)) (bw w)
def b1(h:a<=b+x)(k:b<=y)(w:cc (y+x) z=true):a<=z:=ak h (ak (c9 k x) (bw w))
def b2(h:a<=b+x)(k:b<y)(w:cc (y+x) z=true):a<z:=bc (aT h (Y2 k x)) (bw w)
def b3{a b x c y:Nat}(h:a<=b+x)(k:b<=c+y):a<=c+(y+x):=ak h (ak (c9 k x) (aq (c_ c y x)))
def b5{a b x c y:Nat}(h:a<=b+x)(k:b<=c+y):a<=c+(x+y):=ak (b3 h k) (aq (cA _ (cR y x)))
def b6{a b x:Nat}(h:a<=b):a<=b+x:=ak h (bl ..)
def b7{a b x:Nat}(h:a<=b):a<=x+b:=ak h (cG ..)
def b9{a b c x:Nat}(h:a<=b+x):a<=b+(c+x):=ak h (bH (cG x c) b)
def d9{a b c x:Nat}(h:a<=b+x):a<=b+(x+c):=ak h (bH (bl x c) b)
def e1(h:b=x)(k:a<y)(w:cc y x=true):a<b:=bc k (ak (bw w) (aq h.symm))
def e2(h:b=x)(w:cc (a+1) x=true):a<b:=ak (bw w) (aq h.symm)
def e3(h:b=x)(w:cc x z=true):b<=z:=ak (aq h) (bw w)
def e4(h:a<b)(w:cc x a=true):b≠x:=bf (aT (bw w) h)
def e5(h:a<b)(w:cc x a=true):x≠b:=dB (aT (bw w) h)
def e6(h:a<b)(w:cc x (a+1)=true):x<=b:=ak (bw w) h
def e8{a b c:Nat}(h:¬a<=b)(w:cc c b=true):c<a:=aT (bw w) (aM.mp h)
def e9{a b c:Nat}(h:¬a<b)(w:cc c b=true):c<=a:=ak (bw w) (ar.mp h)
def f2{a b x c:Nat}(h:a+(x+b) <c):a+b<c:=aT (bH (cG b x) a) h
def f3{a b x c:Nat}(h:a+(b+x) <c):a+b<c:=aT (bH (bl b x) a) h
def f4{a b x:Nat}(h:a+x<=b+x):a<=b:=Nat.le_of_add_le_add_right h
def f5(h:a<=b)(w:cc (x*b) c=true):x*a<=c:=ak (kG x h) (bw w)
def f6(h:a<=b)(w:cc (x*b+1) c=true):x*a<c:=aT (kG x h) (bw w)
def f9{a b c x y:Nat}(h:a<=b+x)(k:b+(x+y)<=c):a+y<=c:=ak (c9 h y) (ak (aq (c_ b x y)) k)
def g1{a b c x y:Nat}(h:a<=b+x)(k:b+(y+x)<=c):a+y<=c:=f9 h (ak (aq (cA _ (cR x y))) k)
def g2{a b c d:Nat}(h:a<b)(k:b<=c)(l:c<=d):a<d:=bc h (ak k l)
def g6{a b x:Nat}(h:a=b)(k:x<b):x<a:=bc k (aq h.symm)
def g7{a b x:Nat}(h:a=b)(k:b<=x):a<=x:=ak (aq h) k
def g8{a b x:Nat}(h:a=b)(k:x<=b):x<=a:=ak k (aq h.symm)
def g9{a b x:Nat}(h:a=b)(k:b<x):a<x:=aT (aq h) k
inductive Ne |v (i:Nat) |n (k:Nat) |p (a b:Ne) |m (k:Nat) (a:Ne) |r (a:Ne) (k:Nat)
inductive Ie |v (i:Nat) |c (a:Ne) |n (k:Int) |p (a b:Ie) |s (a b:Ie) |g (a:Ie) |m (k:Int) (a:Ie) |r (a:Ie) (k:Int)
inductive Lr |z |i (k:Nat) (l r:Ie) (t:Lr) |n (k:Nat) (l r:Ne) (t:Lr)
noncomputable def oj{a:Type}(z:a)(l:List a):Nat->a:=l.rec (λF=>z) λa F f i=>i.casesOn a f
def Ne.d(c:List Nat)(e:Ne):Nat:=e.rec (oj 0 c) (λk=>k) (λF F a b=>a+b) (λk F a=>k*a) (λF k a=>a*k)
def Ie.d(c:List Nat)(x:List Int)(e:Ie):Int:=e.rec (oj 0 x) (λa=>((a.d c:Nat):Int)) (λk=>k) (λF F a b=>a+b) (λF F a b=>a - b) (λF a=>-a) (λk F a=>k*a) (λF k a=>a*k)
noncomputable def jL(a:List Int):List Int->List Int:=a.rec (λb=>b) λx a f b=>b.casesOn (x::a) λy b=>(x+y)::f b
noncomputable def mJ(k:Int)(a:List Int):List Int:=a.map (k*·)
noncomputable def qV(i:Nat):List Int:=i.rec [1] λF l=>0::l
noncomputable def dn(a:List Int):List Int->Int:=a.rec (λF=>0) λx F f c=>c.casesOn 0 λy c=>x*y+f c
noncomputable abbrev qW(c:List Nat):List Int:=c.map λn:Nat=>(n:Int)
def qX a:∀b c,dn (jL a b) c=dn a c+dn b c:=by
 induction a with
 |nil=>exactλb c=>(ua _).symm
 |cons x a F=>
  refineλb c=>?_;cases b with
  |nil=>exact(iX _).symm
  |cons y b=>cases c with
   |nil=>rfl
   |cons z c=>
    show(x+y)*z+dn (jL a b) c=x*z+dn a c+(y*z+dn b c);rw[F b c,Int.add_mul,ub,ub,Y3 (y*z)]
def qY k a:∀c,dn (mJ k a) c=k*dn a c:=by
 induction a with
 |nil=>exactλc=>(Y4 k).symm
 |cons x a F=>
  refineλc=>?_;cases c with
  |nil=>exact(Y4 k).symm
  |cons z c=>
   show k*x*z+dn (mJ k a) c=k*(x*z+dn a c);rw[F c,Y5,Int.mul_assoc]
def za i:∀c,dn (qV i) c=oj 0 c i:=by
 induction i with
 |zero=>
  refineλc=>?_;cases c with
   |nil=>rfl
   |cons a c=>exact(iX _).trans (Int.one_mul a)
 |succ i F=>
  refineλc=>?_;cases c with
   |nil=>rfl
   |cons a c=>exact(cA (·+dn (qV i) c) (Y6 a)).trans ((ua _).trans (F c))
def Hw c:∀i,oj 0 (qW c) i=(oj 0 c i):=by
 induction c with
 |nil=>exactλF=>rfl
 |cons a c F=>
  refineλi=>?_;cases i with
   |zero=>rfl
   |succ i=>exact F i
def Ne.q(e:Ne):List Int:=e.rec (λi=>0::qV i) (λk=>[(k:Int)]) (λF F a b=>jL a b) (λk F a=>mJ k a) (λF k a=>mJ k a)
def Ne.qZ c(e:Ne):dn e.q (1::qW c)=(e.d c):=by
 induction e with
 |v i=>exact(ua _).trans ((za i _).trans (Hw c i))
 |n k=>exact(iX _).trans (Y7 k)
 |p a b F K=>exact(qX ..).trans (congr (cA _ F) K)
 |m k a h=>exact(qY ..).trans (cA _ h)
 |r a k h=>exact(qY ..).trans ((cA _ h).trans (Fz ..))
noncomputable abbrev gU:=List Int×List Int
def h_(p q:gU):gU:=(jL p.1 q.1,jL p.2 q.2)
def fT(k:Int)(p:gU):gU:=(mJ k p.1,mJ k p.2)
def gV(c:List Nat)(x:List Int)(p:gU):Int:=dn p.1 (1::qW c)+dn p.2 x
def q0 c x p q:gV c x (h_ p q)=gV c x p+gV c x q:=by
 show dn (jL ..) _+dn (jL ..) _=_;rw[qX,qX,ub,Y3 (dn q.1 _),<- ub];rfl
def mK c x k p:gV c x (fT k p)=k*gV c x p:=
 (congr (cA _ (qY ..)) (qY ..)).trans (Y5 ..).symm
def Ie.q(e:Ie):gU:=e.rec (λi=>([],qV i)) (λa=>(a.q,[])) (λk=>([k],[])) (λF F a b=>h_ a b) (λF F a b=>h_ a (fT (-1) b)) (λF a=>fT (-1) a) (λk F a=>fT k a) (λF k a=>fT k a)
def Ie.qZ c x(e:Ie):gV c x e.q=e.d c x:=by
 induction e with
 |v i=>exact(ua _).trans (za i x)
 |c a=>exact(iX _).trans (a.qZ c)
 |n k=>exact(iX _).trans ((iX _).trans (Y7 k))
 |p a b F K=>exact(q0 ..).trans (congr (cA _ F) K)
 |s a b F K=>exact(q0 ..).trans (congr (cA _ F) ((mK ..).trans ((cA _ K).trans (FA _))))
 |g a h=>exact(mK ..).trans ((cA _ h).trans (FA _))
 |m k a h=>exact(mK ..).trans (cA _ h)
 |r a k h=>exact(mK ..).trans ((cA _ h).trans (Fz ..))
def Hx a:∀c:List _,a.all (λx=>decide (0<=x))=J->0<=dn a (qW c):=by
 induction a with
 |nil=>exactλF F=>uc _
 |cons x a F=>
  refineλc h=>?_;cases c with
   |nil=>exact uc _
   |cons y c=>exact x7 (Y8 (of_decide_eq_true (cH.mp h).1) (da y)) (F c (cH.mp h).2)
def Hy a:∀c,a.all (λx=>decide (x=0))=J->dn a c=0:=by
 induction a with
 |nil=>exactλF F=>rfl
 |cons x a F=>
  refineλc h=>?_;cases c with
   |nil=>rfl
   |cons y c=>exact(congr (cA _ ((cA (·*y) (of_decide_eq_true (cH.mp h).1)).trans (Y6 y))) (F c (cH.mp h).2)).trans (iX 0)
def Lr.S(t:Lr):gU:=t.rec ([],[]) (λk l r F s=>h_ (fT k (h_ l.q (fT (-1) r.q))) s) (λk l r F s=>h_ (fT k (h_ (Ie.c l).q (fT (-1) (Ie.c r).q))) s)
noncomputable def Lr.d(c:List Nat)(x:List Int)(t:Lr):Prop:=t.rec False (λF l r F s=>l.d c x<=r.d c x->s) (λF l r F s=>l.d c<=r.d c->s)
def Lr.row(k:Nat){l r:Ie}{S:gU}{P:Prop}(h:l.d c x<=r.d c x)(e:w<=0)(q:0<gV c x (h_ (fT k (h_ l.q (fT (-1) r.q))) S)+w)(K:∀w,w<=0->0<gV c x S+w->P):P:=by
 have z:gV c x (fT k (h_ l.q (fT (-1) r.q)))=k*(l.d c x+ -1*r.d c x):=by rw[mK,q0,mK,Ie.qZ,Ie.qZ]
 rw[q0,z,Y9 _ (gV c x S),ub]at q;exact K _ (Int.add_le_add (Int.mul_nonpos_of_nonneg_of_nonpos (da k) (gk (bz (cA (l.d c x+·) (FA _))) (Int.sub_nonpos_of_le h))) e) q
def Lr.go c x(t:Lr):∀w:Int,w<=0->0<gV c x t.S+w->t.d c x:=by
 induction t with
 |z=>exactλw h k=>aB k (aK.mpr (gk (bz (ua w)) h))
 |i k l r t F=>exactλw h q e=>Lr.row k e h q F
 |n k l r t F=>exactλw h q e=>Lr.row k (l:=.c l) (r:=.c r) (mj.mpr e) h q F
def gU.ok(p:gU):Bool:=p.2.all (λx=>decide (x=0)) && (jL [-1] p.1).all λx=>decide (0<=x)
def ik c x(t:Lr)(h:gU.ok t.S=J):t.d c x:=by
 refine t.go c x 0 (uc _) ?_;have y:=Hx _ (1::c) (cH.mp h).2;rw[qX]at y;have y:1+0<=1+(-1+dn ..):=Int.add_le_add_left y 1;rw[Int.add_neg_cancel_left]at y;exact gk y (bz (((cA _ (Hy _ x (cH.mp h).1)).trans (iX _)).symm.trans (iX _).symm))
def s1(a b:Nat):a<=a - b+b:=x8 (aL _)
def s3 a b{P:Prop}(h:b<=a->a - b+b<=a->P)(k:a<=b->a - b<=0->P):P:=
 (x9 b a).elim (λq=>h q (aq (ud q))) λq=>k q (aq (x_ q))
def s4(a b:Nat){P:Prop}(h:a<=b->a<=min a b->P)(k:b<=a->b<=min a b->P):P:=
 (x9 a b).elim (λq=>h q (aq (fM q).symm)) λq=>k q (aq (FD q).symm)
def s5(a b:Nat){P:Prop}(h:a<=b->max a b<=b->P)(k:b<=a->max a b<=a->P):P:=
 (x9 a b).elim (λq=>h q (aq (Nat.max_eq_right q))) λq=>k q (aq (Nat.max_eq_left q))
def dm(a b:Nat):a<=b*(a / b)+a% b/\b*(a / b)+a% b<=a:=⟨aq (Y_ a b).symm,aq (Y_ a b)⟩
def ne2(h:a≠b){P:Prop}(k:a+1<=b->P)(l:b+1<=a->P):P:=(Nat.lt_or_gt_of_ne h).elim k l
def i' a:a<=(a.toNat:Int):=Int.self_le_toNat a
def fA a{P:Prop}(h:0<=a->(a.toNat:Int)<=a->P)(k:a<=0->a.toNat<=0->P):P:=
 (FE 0 a).elim (λq=>h q (bz (jz q))) λq=>k q (aq (Int.toNat_of_nonpos q))
def gt(a b:Int){P:Prop}(h:a<=b->a<=min a b->P)(k:b<=a->b<=min a b->P):P:=
 (FE a b).elim (λq=>h q (bz (Int.min_eq_left q).symm)) λq=>k q (bz (Int.min_eq_right q).symm)
def ja(a b:Int){P:Prop}(h:a<=b->max a b<=b->P)(k:b<=a->max a b<=a->P):P:=
 (FE a b).elim (λq=>h q (bz (Int.max_eq_right q))) λq=>k q (bz (Int.max_eq_left q))
def q5(a b:Int):a<=b*(a / b)+a% b/\b*(a / b)+a% b<=a:=⟨bz (Y' a b).symm,bz (Y' a b)⟩
def k6{a b:Int}(h:a≠b){P:Prop}(k:a+1<=b->P)(l:b+1<=a->P):P:=(Int.lt_or_gt_of_ne h).elim k l
noncomputable instance:Add Ne:=⟨.p⟩
noncomputable instance (n:Nat):OfNat Ne n:=⟨.n n⟩
noncomputable instance:Mul Ne:=⟨λa b=>a.casesOn (λψ=>b.casesOn (λψ=>b) (λk=>.r a k) (λψ ψ=>b) (λψ ψ=>b) λψ ψ=>b) (λk=>.m k b) (λψ ψ=>b.casesOn (λψ=>b) (λk=>.r a k) (λψ ψ=>b) (λψ ψ=>b) λψ ψ=>b) (λψ ψ=>b) λψ ψ=>b⟩
noncomputable instance:Add Ie:=⟨.p⟩
noncomputable instance:Sub Ie:=⟨.s⟩
noncomputable instance (n:Nat):OfNat Ie n:=⟨.n n⟩
noncomputable abbrev N0:=Ne.v 0
noncomputable abbrev N1:=Ne.v 1
noncomputable abbrev N2:=Ne.v 2
noncomputable abbrev N3:=Ne.v 3
noncomputable abbrev N4:=Ne.v 4
noncomputable abbrev N5:=Ne.v 5
noncomputable abbrev N6:=Ne.v 6
noncomputable abbrev N7:=Ne.v 7
noncomputable abbrev I0:=Ie.v 0
noncomputable abbrev I1:=Ie.v 1
noncomputable abbrev I2:=Ie.v 2
noncomputable abbrev I3:=Ie.v 3
section
variable {a b c d e f g:Nat}
def mz d a c:d+c+a*c=d+(a+1)*c:=(c_ d c _).trans (cA _ ((cR c _).trans (Za a c).symm))
def q6{P:Prop}(h:a=a+(b+1)):P:=aB h (dB (FF (x' b)))
def Hz(h:a+2*(b+1)+2<=c+1):a+1+2*b+2<=c:=ar.mp (ik [a,b,c] [] (.n 1 (N0+2*(N1+1)+2) (N2+1) (.n 1 (N2+1) (N0+1+2*N1+2) .z)) rfl h)
def HA(h:a+20*(b+1)+200<=c+10):a+3+20*b+200<=c:=ar.mp (ik [a,b,c] [] (.n 1 (N0+20*(N1+1)+200) (N2+10) (.n 1 (N2+1) (N0+3+20*N1+200) .z)) rfl h)
def HC(h:a+2*(b+1)+2<=c+1):a<c:=(bc (di (bl ..)) (fu (FG h)))
def HD{a:Int}(h:(a+b)=c):(-b)<=a:=aK.mp (ik [c,b] [a] (.i 1 (.c N0) (I0+(Ie.c N1)) (.i 1 (I0+1) (.g (.c N1)) .z)) rfl (bz (Eq.symm h)))
def HF{b:Int}(h:(a:Int) <2^63)(i:b=c\/b<0/\(b+(a:Int))=c):(-2^63)<=b:=aK.mp λF=>dC i (λK=>ik [c] [b] (.i 1 (I0+1) (.g (.n _)) (.i 1 (.c N0) I0 .z)) rfl F (bz (Eq.symm K))) (λK=>ik [a,c] [b] (.i 1 ((Ie.c N0)+1) (.n (2^63)) (.i 1 (I0+1) (.g (.n (2^63))) (.i 1 (.c N1) (I0+(Ie.c N0)) .z))) rfl h F (bz (Eq.symm K.2)))
def HG{c:Int}(h:(a:Int) <2^63)(i:b<a)(j:c=b\/c<0/\(c+(a:Int))=b):c<2^63:=kK.mp λF=>dC j (λK=>ik [a,b] [c] (.i 1 ((Ie.c N0)+1) (.n (2^63)) (.n 1 (N1+1) N0 (.i 1 (.n (2^63)) I0 (.i 1 I0 (.c N1) .z)))) rfl h i F (bz K)) (λK=>ik [] [c] (.i 1 (.n (2^63)) I0 (.i 1 (I0+1) 0 .z)) rfl F K.1)
def HH{c:Int}(h:(a:Int) <2^63)(j:b<a)(i:c=b\/c<0/\(c+(a:Int))=b):(-2^63)<=c/\c<2^63:=⟨aK.mp λF=>dC i (λK=>ik [b] [c] (.i 1 (I0+1) (.g (.n _)) (.i 1 (.c N0) I0 .z)) rfl F (bz (Eq.symm K))) (λK=>ik [a,b] [c] (.i 1 ((Ie.c N0)+1) (.n (2^63)) (.i 1 (I0+1) (.g (.n (2^63))) (.i 1 (.c N1) (I0+(Ie.c N0)) .z))) rfl h F (bz (Eq.symm K.2))),kK.mp λF=>dC i (λK=>ik [a,b] [c] (.i 1 ((Ie.c N0)+1) (.n (2^63)) (.n 1 (N1+1) N0 (.i 1 (.n (2^63)) I0 (.i 1 I0 (.c N1) .z)))) rfl h j F (bz K)) (λK=>ik [] [c] (.i 1 (.n (2^63)) I0 (.i 1 (I0+1) 0 .z)) rfl F K.1)⟩
def HI{a:Int}(h:a<0):(max (a+(b:Int)) 0)=max 0 (min (a+b) b):=db (aK.mp λP=>ja _ 0 (λF F=>ik [b] [a,(min (a+b) b),(max 0 _),(max _ 0)] (.i 1 (I2+1) I3 (.i 1 I3 0 (.i 1 0 I2 .z))) rfl P F (FH 0 (min (a+b) b))) (λF F=>gt (a+b) b (λK K=>ik [b] [a,(min (a+b) b),(max 0 (min (a+b) b)),(max (a+b) 0)] (.i 1 (I2+1) I3 (.i 1 I3 (I0+(Ie.c N0)) (.i 1 (I0+(Ie.c N0)) I1 (.i 1 I1 I2 .z)))) rfl P F K (gl 0 (min (a+b) b))) (λF K=>ik [b] [a] (.i 1 (I0+1) 0 (.i 1 (.c N0) (I0+(Ie.c N0)) .z)) rfl h F))) (aK.mp λF=>ja (a+b) 0 (λK K=>gt (a+b) b (λK K=>ja 0 (min (a+b) b) (λK K=>ik [b] [a,(max (a+b) 0),(min (a+b) b),(max 0 (min (a+b) b))] (.i 1 (I1+1) I3 (.i 1 I3 I2 (.i 1 (I0+(Ie.c N0)) I1 (.i 1 I2 (I0+(Ie.c N0)) .z)))) rfl F K (FH (a+b) 0) (ue (a+b) b)) (λK K=>ik [b] [a,(max (a+b) 0),(min (a+b) b),(max 0 (min (a+b) b))] (.i 1 (I1+1) I3 (.i 1 I3 0 (.i 1 0 I1 .z))) rfl F K (gl (a+b) 0))) (λK P=>ik [b] [a] (.i 1 (I0+1) 0 (.i 1 (.c N0) (I0+(Ie.c N0)) .z)) rfl h K)) (λK K=>gt (a+b) b (λK K=>ja 0 (min (a+b) b) (λK K=>ik [b] [a,(max (a+b) 0),(min (a+b) b),(max 0 (min (a+b) b))] (.i 1 (I1+1) I3 (.i 1 I3 I2 (.i 1 (I0+(Ie.c N0)) I1 (.i 1 I2 (I0+(Ie.c N0)) .z)))) rfl F K (FH (a+b) 0) (ue (a+b) b)) (λK K=>ik [b] [a,(max (a+b) 0),(min (a+b) b),(max 0 (min (a+b) b))] (.i 1 (I1+1) I3 (.i 1 I3 0 (.i 1 0 I1 .z))) rfl F K (gl (a+b) 0))) (λF K=>ik [b] [a] (.i 1 (I0+1) 0 (.i 1 (.c N0) (I0+(Ie.c N0)) .z)) rfl h F)))
def HJ{a:Int}(h:¬a<0):(min a (b:Int))=max 0 (min a b):=db (aK.mp λF=>ik [b] [a,(min a b),(max 0 _)] (.i 1 (I2+1) I1 (.i 1 I1 I2 .z)) rfl F (gl 0 _)) (aK.mp λF=>gt a b (λK K=>ja 0 _ (λP P=>ik [b] [a,(min a b),(max 0 _)] (.i 1 (I1+1) I2 (.i 1 I2 I1 .z)) rfl F P) (λP P=>ik [b] [a,(min a b),(max 0 _)] (.i 1 0 I0 (.i 1 (I1+1) I2 (.i 1 I0 I1 (.i 1 I2 0 .z)))) rfl (aK.mp h) F K P)) (λK K=>ja 0 _ (λP P=>ik [b] [a,(min a b),(max 0 (min a b))] (.i 1 (I1+1) I2 (.i 1 I2 I1 .z)) rfl F P) (λP P=>ik [b] [a,(min a b),(max 0 (min a b))] (.i 1 (I1+1) I2 (.i 1 (.c N0) I1 (.i 1 I2 0 .z))) rfl F K P)))
def HL:aS (a-b-1+1)=a-b:=b8 (ar.mp λK=>fA _ (λF F=>ik [a,b,(a - b),(aS _)] [] (.n 1 (N2+1) N3 (.i 1 (.c N3) ((Ie.c N0)-(Ie.c N1)-1+1) (.n 1 N0 (N2+N1) .z))) rfl K F (s1 a b)) (λF F=>ik [a,b,(a - b),(aS (((a - b) - 1)+1))] [] (.n 1 (N2+1) N3 (.n 1 N3 0 .z)) rfl K F)) (ar.mp λF=>fA (((a - b) - 1)+1) (λK K=>s3 a b (λK K=>ik [a,b,(aS (((a - b) - 1)+1)),(a - b)] [] (.n 1 (N2+1) N3 (.n 1 (N3+N1) N0 (.i 1 ((Ie.c N0)-(Ie.c N1)-1+1) (.c N2) .z))) rfl F K (i' (((a - b) - 1)+1))) (λK K=>ik [a,b,(aS (((a - b) - 1)+1)),(a - b)] [] (.n 1 (N2+1) N3 (.n 1 N3 0 .z)) rfl F K)) (λK P=>s3 a b (λP P=>ik [a,b,(aS (((a - b) - 1)+1)),(a - b)] [] (.n 1 (N2+1) N3 (.i 1 ((Ie.c N0)-(Ie.c N1)-1+1) 0 (.n 1 (N3+N1) N0 .z))) rfl F K P) (λK K=>ik [a,b,(aS (((a - b) - 1)+1)),(a - b)] [] (.n 1 (N2+1) N3 (.n 1 N3 0 .z)) rfl F K)))
def HM(h:¬a<(b:Int)):aS 0=b-a:=b8 (ar.mp λK=>fA 0 (λF F=>ik [b,a,(b - a),(aS 0)] [] (.n 1 (N2+1) N3 (.i 1 (.c N3) 0 .z)) rfl K F) (λF F=>ik [b,a,(b - a),(aS 0)] [] (.n 1 (N2+1) N3 (.n 1 N3 0 .z)) rfl K F)) (ar.mp λF=>fA 0 (λK K=>s3 b a (λK K=>ik [b,a,(aS 0),(b - a)] [] (.i 1 (.c N0) (.c N1) (.n 1 (N2+1) N3 (.n 1 (N3+N1) N0 .z))) rfl (aK.mp h) F K) (λK K=>ik [(aS 0),b,a,(b - a)] [] (.n 1 (N0+1) N3 (.n 1 N3 0 .z)) rfl F K)) (λK K=>s3 b a (λK K=>ik [b,a,(aS 0),(b - a)] [] (.i 1 (.c N0) (.c N1) (.n 1 (N2+1) N3 (.n 1 (N3+N1) N0 .z))) rfl (aK.mp h) F K) (λK K=>ik [(aS 0),b,a,(b - a)] [] (.n 1 (N0+1) N3 (.n 1 N3 0 .z)) rfl F K)))
def HO(h:(a:Int)=0):a=0:=b8 (ar.mp (ik [a] [] (.i 1 (.c N0) 0 (.n 1 (0+1) N0 .z)) rfl (bz h))) (ar.mp (ik [a] [] (.n 1 (N0+1) 0 .z) rfl))
def HP:((a:Int)-1-(-1)-(-1)-1)=a:=db (aK.mp (ik [a] [] (.i 1 ((Ie.c N0)+1) ((Ie.c N0)-1-(Ie.n _)-(Ie.n _)-1) .z) rfl)) (aK.mp (ik [a] [] (.i 1 ((Ie.c N0)-1-(Ie.n _)-(Ie.n _)-1+1) (.c N0) .z) rfl))
def zb(h:¬((a:Int)-1) > -1):0=(a:Int):=db (aK.mp (ik [a] [] (.i 1 ((Ie.c N0)+1) 0 .z) rfl)) (aK.mp (ik [a] [] (.i 1 ((Ie.c N0)-1) (.n _) (.i 1 (0+1) (.c N0) .z)) rfl (aK.mp h)))
def HQ:aS (a-1+(-1)*b)=a-1-b:=b8 (ar.mp λK=>fA _ (λF F=>ik [a,(a - 1),b,((a - 1) - b),(aS _)] [] (.n 1 (N3+1) N4 (.i 1 (.c N4) ((Ie.c N0)-1+(Ie.m (- 1) (.c N2))) (.n 1 N0 (N1+1) (.n 1 N1 (N3+N2) .z)))) rfl K F (s1 a 1) (s1 (a - 1) b)) (λF F=>ik [a,(a - 1),b,((a - 1) - b),(aS ((a - 1)+((-1)*b)))] [] (.n 1 (N3+1) N4 (.n 1 N4 0 .z)) rfl K F)) (ar.mp λF=>fA ((a - 1)+((-1)*b)) (λK K=>s3 a 1 (λK K=>s3 (a - 1) b (λP P=>ik [a,b,(aS ((a - 1)+((-1)*b))),(a - 1),((a - 1) - b)] [] (.n 1 (N2+1) N4 (.n 1 (N3+1) N0 (.n 1 (N4+N1) N3 (.i 1 ((Ie.c N0)-1+(Ie.m (- 1) (.c N1))) (.c N2) .z)))) rfl F K P (i' ((a - 1)+((-1)*b)))) (λK K=>ik [a,b,(aS ((a - 1)+((-1)*b))),(a - 1),((a - 1) - b)] [] (.n 1 (N2+1) N4 (.n 1 N4 0 .z)) rfl F K)) (λK K=>ik [a,b,(aS ((a - 1)+((-1)*b))),(a - 1),((a - 1) - b)] [] (.n 1 (N2+1) N4 (.n 1 N3 0 (.n 1 N4 N3 .z))) rfl F K (b_ (a - 1) b))) (λK P=>s3 a 1 (λP P=>s3 (a - 1) b (λS S=>ik [a,b,(aS ((a - 1)+((-1)*b))),(a - 1),((a - 1) - b)] [] (.n 1 (N2+1) N4 (.i 1 ((Ie.c N0)-1+(Ie.m (- 1) (.c N1))) 0 (.n 1 (N3+1) N0 (.n 1 (N4+N1) N3 .z)))) rfl F K P S) (λK K=>ik [a,b,(aS ((a - 1)+((-1)*b))),(a - 1),((a - 1) - b)] [] (.n 1 (N2+1) N4 (.n 1 N4 0 .z)) rfl F K)) (λK K=>ik [a,b,(aS ((a - 1)+((-1)*b))),(a - 1),((a - 1) - b)] [] (.n 1 (N2+1) N4 (.n 1 N3 0 (.n 1 N4 N3 .z))) rfl F K (b_ (a - 1) b))))
def HR(h:a<(b:Int)):a<b:=aM.mp (ik [a,b] [] (.i 1 ((Ie.c N0)+1) (.c N1) (.n 1 N1 N0 .z)) rfl h)
def zc(h:a+20*b+200<=c):a+1<c:=aM.mp (ik [a,b,c] [] (.n 1 (N0+20*N1+200) N2 (.n 1 N2 (N0+1) .z)) rfl h)
def HS:(a%256%2^8:Nat)=(a:Int)%256:=cA _ (Nat.mod_mod a _)
def zd:¬(a:Int) < -2^63:=(kL (gk (ql (by decide)) (da _)))
def ze(h:a<=64):¬(a:Int) >= 2^63:=(ik [a] [] (.n 1 N0 64 (.i 1 (.n _) (.c N0) .z)) rfl h)
def zf(h:a<=64):¬(a:Int) > 2^63-1-33:=aK.mpr (gk (mj.mpr h) (by decide))
def zg(h:a<=64):¬a > ((16777216:Nat):Int):=(ik [a] [] (.n 1 N0 64 (.i 1 ((Ie.c 16777216)+1) (.c N0) .z)) rfl h)
def zh(h:a<=8*b):¬a > 8*(b:Int):=(ik [a,b] [] (.n 1 N0 (8*N1) (.i 1 ((Ie.m 8 (.c N1))+1) (.c N0) .z)) rfl h)
def HT(h:a+0=b+1-c)(i:a<=b):b-a<c:=aM.mp λF=>s3 (b+1) c (λK K=>s3 b a (λK K=>ik [b,c,((b+1) - c),a,(b - a)] [] (.n 1 N2 (N3+0) (.n 1 N1 N4 (.n 1 (N4+N3) N0 (.n 1 (N0+1) (N2+N1) .z)))) rfl (aq (Eq.symm h)) F K (s1 _ c)) (λK K=>ik [b,c,((b+1) - c),a,(b - a)] [] (.n 1 N2 (N3+0) (.n 1 N3 N0 (.n 1 N1 N4 (.n 1 N4 0 (.n 1 (N0+1) (N2+N1) .z))))) rfl (aq (Eq.symm h)) i F K (s1 _ c))) (λK P=>ik [c,b,a,(b - a)] [] (.n 1 N0 N3 (.n 1 (N1+1) N0 (.n 1 N3 N1 .z))) rfl F K (b_ b a))
def HU(h:a+(b+1)=c-d)(i:c<=a):False:=ik [a,b,c,d,(c - d)] [] (.n 1 (N0+(N1+1)) N4 (.n 1 N2 N0 (.n 1 N4 N2 .z))) rfl (aq h) i (b_ c d)
def HV(h:a+(b+1)=c+1-d):a+1+b=c+1-d:=(Eq.trans (cR ..) (Eq.trans (FJ ..) h))
def HW(h:a<b):((a:Int)-0) <b:=kK.mp (ik [a,b] [] (.n 1 (N0+1) N1 (.i 1 (.c N1) ((Ie.c N0)-0) .z)) rfl h)
def HX(h:¬a<b):¬((a:Int)-0) <b:=(ik [b,a] [] (.n 1 N0 N1 (.i 1 ((Ie.c N1)-0+1) (.c N0) .z)) rfl (ar.mp h))
def HY:(min (a:Int) a)=a:=db (aK.mp λF=>ik [a] [(min a a)] (.i 1 ((Ie.c N0)+1) I0 (.i 1 I0 (.c N0) .z)) rfl F (ue a a)) (aK.mp λK=>gt a a (λF F=>ik [a] [(min a a)] (.i 1 (I0+1) (.c N0) (.i 1 (.c N0) I0 .z)) rfl K F) (λF F=>ik [a] [(min a a)] (.i 1 (I0+1) (.c N0) (.i 1 (.c N0) I0 .z)) rfl K F))
def HZ(h:a<b):b-a=b-(a+1)+1:=(ya (iY (qm h)) (Zb ..))
def H0(h:a<=16777216):0*(b-1)+a<=16777216:=ar.mp (ik [a,b,(b - 1)] [] (.n 1 N0 16777216 (.n 1 (16777216+1) (0*N2+N0) .z)) rfl h)
def zi(h:(a:Int)<=64):a<=64:=ar.mp (ik [a] [] (.i 1 (.c N0) 64 (.n 1 (64+1) N0 .z)) rfl h)
def zj(h:(a:Int)<=64):a<=16777216:=ar.mp (ik [a] [] (.i 1 (.c N0) 64 (.n 1 (16777216+1) N0 .z)) rfl h)
def H1(h:a+2*b+2<=c):a+1+2*b+2<=c+1:=ar.mp (ik [a,b,c] [] (.n 1 (N0+2*N1+2) N2 (.n 1 (N2+1+1) (N0+1+2*N1+2) .z)) rfl h)
def H2(h:a+20*b+200<=c):a+(1+3*0)+20*b+200<=c+10:=ar.mp (ik [a,b,c] [] (.n 1 (N0+20*N1+200) N2 (.n 1 (N2+10+1) (N0+(1+3*0)+20*N1+200) .z)) rfl h)
def H3(h:a<8*b)(i:b<=1048576)(j:c=134217728):¬a >= c:=(Zc (g2 h (kG _ i) (g8 j (by decide))))
def H4{a:Int}:(a+1+b)=a+(b+1):=db (aK.mp (ik [b] [a] (.i 1 (I0+((Ie.c N0)+1)+1) (I0+1+(Ie.c N0)) .z) rfl)) (aK.mp (ik [b] [a] (.i 1 (I0+1+(Ie.c N0)+1) (I0+((Ie.c N0)+1)) .z) rfl))
def H5{a:Int}(h:a=1\/a=2\/a= -1):a≠0:=λF=>dC h (λK=>ik [] [a] (.i 1 I0 0 (.i 1 1 I0 .z)) rfl (bz F) (bz (Eq.symm K))) (λK=>dC K (λK=>ik [] [a] (.i 1 I0 0 (.i 1 2 I0 .z)) rfl (bz F) (bz (Eq.symm K))) (λK=>ik [] [a] (.i 1 0 I0 (.i 1 I0 (.n _) .z)) rfl (bz (Eq.symm F)) (bz K)))
def H6{a:Int}(h:(-100000000)<=a):(-2^63)<=a:=aK.mp (ik [] [a] (.i 1 (.n _) I0 (.i 1 (I0+1) (.g (.n _)) .z)) rfl h)
def H7{a b:Int}(h:(-16777216)<=a)(i:b > 0):(-100000000)<=a+(b-1):=aK.mp (ik [] [a,b] (.i 1 (.n _) I0 (.i 1 (0+1) I1 (.i 1 (I0+(I1-1)+1) (.n _) .z))) rfl h i)
def H8{a b:Int}(i:a=1\/a=2\/a= -1)(h:b<=16777216):(b+(a-1))<=100000000:=aK.mp λF=>dC i (λK=>ik [] [b,a] (.i 1 I0 16777216 (.i 1 (100000000+1) (I0+(I1-1)) (.i 1 I1 1 .z))) rfl h F (bz K)) (λK=>dC K (λK=>ik [] [b,a] (.i 1 I0 16777216 (.i 1 (100000000+1) (I0+(I1-1)) (.i 1 I1 2 .z))) rfl h F (bz K)) (λK=>ik [] [b,a] (.i 1 I0 16777216 (.i 1 (100000000+1) (I0+(I1-1)) (.i 1 I1 (.n _) .z))) rfl h F (bz K)))
def H9{a b:Int}(h:(-16777216)<=a)(i:b=1\/b=2\/b= -1):(-100000000)<=a+(b+1):=aK.mp λF=>dC i (λK=>ik [] [a,b] (.i 1 (.n _) I0 (.i 1 (I0+(I1+1)+1) (.n _) (.i 1 1 I1 .z))) rfl h F (bz (Eq.symm K))) (λK=>dC K (λK=>ik [] [a,b] (.i 1 (.n _) I0 (.i 1 (I0+(I1+1)+1) (.n _) (.i 1 2 I1 .z))) rfl h F (bz (Eq.symm K))) (λK=>ik [] [a,b] (.i 1 (.n _) I0 (.i 1 (I0+(I1+1)+1) (.n _) (.i 1 (.n _) I1 .z))) rfl h F (bz (Eq.symm K))))
def H_{a b:Int}(h:a<=16777216)(i:¬b > 0):(a+(b+1))<=100000000:=aK.mp (ik [] [a,b] (.i 1 I0 16777216 (.i 1 I1 0 (.i 1 (100000000+1) (I0+(I1+1)) .z))) rfl h (aK.mp i))
def zk{a:Int}(h:(-16777216)<=a):(-100000000)<=a:=aK.mp (ik [] [a] (.i 1 (.n _) I0 (.i 1 (I0+1) (.n _) .z)) rfl h)
def H'{a:Int}(h:a=1\/a=2\/a= -1):(-100000000)<=a:=aK.mp λF=>dC h (λK=>ik [] [a] (.i 1 (I0+1) (.n _) (.i 1 1 I0 .z)) rfl F (bz (Eq.symm K))) (λK=>dC K (λK=>ik [] [a] (.i 1 (I0+1) (.n _) (.i 1 2 I0 .z)) rfl F (bz (Eq.symm K))) (λK=>ik [] [a] (.i 1 (I0+1) (.n _) (.i 1 (.n _) I0 .z)) rfl F (bz (Eq.symm K))))
def Ia{a:Int}(h:a=1\/a=2\/a= -1):a<=100000000:=aK.mp λF=>dC h (λK=>ik [] [a] (.i 1 (100000000+1) I0 (.i 1 I0 1 .z)) rfl F (bz K)) (λK=>dC K (λK=>ik [] [a] (.i 1 (100000000+1) I0 (.i 1 I0 2 .z)) rfl F (bz K)) (λK=>ik [] [a] (.i 1 (100000000+1) I0 (.i 1 I0 (.n _) .z)) rfl F (bz K)))
def Ib{a:Int}(h:aS a<=16777216):a<=100000000:=aK.mp λF=>ik [(aS a)] [a] (.n 1 N0 16777216 (.i 1 (100000000+1) I0 (.i 1 I0 (.c N0) .z))) rfl h F (i' a)
def Ig(h:a=a+b):b=0:=b8 (ar.mp (ik [a,b] [] (.n 1 (N0+N1) N0 (.n 1 (0+1) N1 .z)) rfl (aq (Eq.symm h)))) (ar.mp (ik [b] [] (.n 1 (N0+1) 0 .z) rfl))
def Ih(h:a-b=c-b)(i:¬a<b)(j:¬c<b):a=c:=(Eq.trans (ya (ml i) h) (ud (ml j)))
def Ii(h:a+b=c)(i:b<c):a-1<a/\a-1+(b+1)=c:=⟨aM.mp λK=>s3 a 1 (λF F=>ik [a,(a - 1)] [] (.n 1 N0 N1 (.n 1 (N1+1) N0 .z)) rfl K F) (λF F=>ik [c,a,b,(a - 1)] [] (.n 1 N0 (N1+N2) (.n 1 (N2+1) N0 (.n 1 N1 N3 (.n 1 N3 0 .z)))) rfl (aq (Eq.symm h)) i K F),b8 (ar.mp λF=>s3 a 1 (λK K=>ik [a,b,c,(a - 1)] [] (.n 1 (N0+N1) N2 (.n 1 (N2+1) (N3+(N1+1)) (.n 1 (N3+1) N0 .z))) rfl (aq h) F K) (λK K=>ik [b,c,a,(a - 1)] [] (.n 1 (N0+1) N1 (.n 1 (N1+1) (N3+(N0+1)) (.n 1 N3 0 .z))) rfl i F K)) (ar.mp λF=>ik [c,a,b,(a - 1)] [] (.n 1 N0 (N1+N2) (.n 1 (N3+(N2+1)+1) N0 (.n 1 N1 (N3+1) .z))) rfl (aq (Eq.symm h)) F (s1 a 1))⟩
def Ij(h:a+b=c)(i:¬b<c):b=c:=(b8 (ak (cG ..) (aq h)) (ml i))
def Ik(h:(a:Int) <256):a<256:=aM.mp (ik [a] [] (.i 1 ((Ie.c N0)+1) 256 (.n 1 256 N0 .z)) rfl h)
def zl{a:Int}(h:FK a<2^64):(-2^64) <a:=Int.neg_lt_of_neg_lt (nY Zd (qn (ed.mpr ((Int.natAbs_neg a).symm▸h)) (by decide)))
def zm{a:Int}(h:FK a<2^64):a<2^64:=nY Zd (qn (ed.mpr h) (by decide))
def Il{a:Int}(h:0<a/\a<2^512):FK a<2^512:=ed.mp (nY (bz (Int.natAbs_of_nonneg (qo h.1))) (qn h.2 (by decide+kernel)))
def Im(h:a+20*b+200<=c):a<c:=aM.mp (ik [a,b,c] [] (.n 1 (N0+20*N1+200) N2 (.n 1 N2 N0 .z)) rfl h)
def Io(h:a<=16777216):(a:Int) <2^63:=kK.mp (ik [a] [] (.n 1 N0 16777216 (.i 1 (.n _) (.c N0) .z)) rfl h)
def Ip:¬((a:Int)+1)=0:=(uf (nY (da _) (Int.lt_succ _)))
def Iq:a/256%b*256+a%256=a%256+256*(a/256%b):=b8 (ar.mp (ik [a,(a% 256),(a / 256),b,((a / 256) % b)] [] (.n 1 (N1+256*N4+1) (N4*256+N1) .z) rfl)) (ar.mp (ik [a,(a / 256),b,((a / 256) % b),(a% 256)] [] (.n 1 (N3*256+N4+1) (N4+256*N3) .z) rfl))
def Ir:a+1<=8*((a+1+7)/8):=ar.mp λF=>ik [a,(((a+1)+7) / 8),(((a+1)+7) % 8)] [] (.n 1 (8*N1+1) (N0+1) (.n 1 (N0+1+7) (8*N1+N2) (.n 1 (N2+1) 8 .z))) rfl F (dm _ 8).1 (gm _ (fv 7))
def Iu(h:a<8*b):(a+1+7)/8<=b:=ar.mp λF=>ik [a,b,(((a+1)+7) / 8),(((a+1)+7) % 8)] [] (.n 1 (N0+1) (8*N1) (.n 8 (N1+1) N2 (.n 1 (8*N2+N3) (N0+1+7) .z))) rfl h F (dm _ 8).2
def Iv(h:a<b)(i:b<=c)(j:c<=a):d<e:=aM.mp λF=>ik [a,b,c] [] (.n 1 (N0+1) N1 (.n 1 N1 N2 (.n 1 N2 N0 .z))) rfl h i j
def Iw(h:min a b=min a c)(i:a<=c):a<=b:=ar.mp λF=>s4 a b (λK P=>ik [b,a] [] (.n 1 (N0+1) N1 (.n 1 N1 N0 .z)) rfl F K) (λK K=>s4 a c (λK K=>ik [a,c,(min a c),b,(min a b)] [] (.n 1 N2 N4 (.n 1 (N3+1) N0 (.n 1 N0 N2 (.n 1 N4 N3 .z)))) rfl (aq (Eq.symm h)) F K (eY a b)) (λK K=>ik [a,c,(min a c),b,(min a b)] [] (.n 1 N2 N4 (.n 1 N0 N1 (.n 1 (N3+1) N0 (.n 1 N1 N2 (.n 1 N4 N3 .z))))) rfl (aq (Eq.symm h)) i F K (eY a b)))
def Ix(h:2*a+2<=b+1)(i:0<c)(j:c<=a):2*(a-c)+2<=b:=ar.mp λK=>s3 a c (λF F=>ik [a,b,c,(a - c)] [] (.n 1 (2*N0+2) (N1+1) (.n 2 (0+1) N2 (.n 1 (N1+1) (2*N3+2) (.n 2 (N3+N2) N0 .z)))) rfl h i K F) (λF F=>ik [a,b,c,(a - c)] [] (.n 1 (2*N0+2) (N1+1) (.n 2 (0+1) N2 (.n 2 N2 N0 (.n 1 (N1+1) (2*N3+2) (.n 2 N3 0 .z))))) rfl h i j K F)
def Iy(h:0<a)(i:min a b=0)(j:a<=b):False:=s4 a b (λF F=>ik [a,b,(min a b)] [] (.n 1 (0+1) N0 (.n 1 N2 0 (.n 1 N0 N2 .z))) rfl h (aq i) F) (λF F=>ik [a,b,(min a b)] [] (.n 1 (0+1) N0 (.n 1 N2 0 (.n 1 N0 N1 (.n 1 N1 N2 .z)))) rfl h (aq i) j F)
def zn(h:2*(a+1)+2<=b+1):2*a+2<=b:=ar.mp (ik [a,b] [] (.n 1 (2*(N0+1)+2) (N1+1) (.n 1 (N1+1) (2*N0+2) .z)) rfl h)
def Iz(h:a+1<=b)(i:b<32):a<=30:=(fu (nZ (aT h i)))
def IA(h:a<=41*b)(i:c<=41):c+a<=41*(b+1):=ar.mp (ik [a,b,c] [] (.n 1 N0 (41*N1) (.n 1 N2 41 (.n 1 (41*(N1+1)+1) (N2+N0) .z))) rfl h i)
def zo{a:Int}(h:a<16):aS a<16:=aM.mp λF=>fA a (λK K=>ik [(aS a)] [a] (.i 1 (I0+1) 16 (.n 1 16 N0 (.i 1 (.c N0) I0 .z))) rfl h F K) (λK K=>ik [(aS a)] [a] (.n 1 16 N0 (.n 1 N0 0 .z)) rfl F K)
def IB(h:0<a)(j:min a b=a)(i:b<c+1):b-a<c:=aM.mp λF=>s4 a b (λK P=>s3 b a (λP P=>ik [a,b,c,(b - a)] [] (.n 1 (0+1) N0 (.n 1 (N1+1) (N2+1) (.n 1 N2 N3 (.n 1 (N3+N0) N1 .z)))) rfl h i F P) (λP P=>ik [a,b,c,(b - a)] [] (.n 1 (0+1) N0 (.n 1 (N1+1) (N2+1) (.n 1 N2 N3 (.n 1 N0 N1 (.n 1 N3 0 .z))))) rfl h i F K P)) (λK K=>s3 b a (λK K=>ik [a,b,c,(b - a)] [] (.n 1 (0+1) N0 (.n 1 (N1+1) (N2+1) (.n 1 N2 N3 (.n 1 (N3+N0) N1 .z)))) rfl h i F K) (λK K=>ik [a,b,(min a b),c,(b - a)] [] (.n 1 (0+1) N0 (.n 1 N0 N2 (.n 1 (N1+1) (N3+1) (.n 1 N3 N4 (.n 1 N4 0 (.n 1 N2 N1 .z)))))) rfl h (aq (Eq.symm j)) i F K (eY a b)))
def zp(h:a=b+c)(i:b=128):¬a<128:=(ik [b,c,a] [] (.n 1 (N0+N1) N2 (.n 1 128 N0 (.n 1 (N2+1) 128 .z))) rfl (aq (Eq.symm h)) (aq (Eq.symm i)))
def zq(h:a=b+c)(i:b=192):¬a<128:=(ik [b,c,a] [] (.n 1 (N0+N1) N2 (.n 1 192 N0 (.n 1 (N2+1) 128 .z))) rfl (aq (Eq.symm h)) (aq (Eq.symm i)))
def zr(h:a<64)(i:b=128+a):¬192<=b:=(Zc (aT (aq i) (FL h)))
def uN(h:a=b+c):a-b=c:=(Ze (Eq.trans h (cR ..)))
def IC(h:a<2^8):a-192<64:=(di (Zf (fu h)))
def ID(h:¬a<128):a=128+(a-128):=(ya (b_ ..) (Zg (ml h)))
def IE(h:¬192<=a):a-128<64:=aM.mp λF=>s3 a _ (λK K=>ik [a,(a - 128)] [] (.n 1 (N0+1) 192 (.n 1 64 N1 (.n 1 (N1+128) N0 .z))) rfl (aM.mp h) F K) (λK K=>ik [a,(a - 128)] [] (.n 1 64 N1 (.n 1 N1 0 .z)) rfl F K)
def IF(i:55<a)(h:b=c+a):b=c+55+(a-55):=b8 (ar.mp λF=>ik [b,c,a,(a - 55)] [] (.n 1 N0 (N1+N2) (.n 1 (N1+55+N3+1) N0 (.n 1 N2 (N3+55) .z))) rfl (aq h) F (s1 a _)) (ar.mp λK=>s3 a _ (λF F=>ik [c,a,b,(a - 55)] [] (.n 1 (N0+N1) N2 (.n 1 (N2+1) (N0+55+N3) (.n 1 (N3+55) N1 .z))) rfl (aq (Eq.symm h)) K F) (λF K=>ik [a] [] (.n 1 (55+1) N0 (.n 1 N0 55 .z)) rfl i F))
def IG(h:a=128)(i:b<=8):a+55+b<256:=aM.mp (ik [a,b] [] (.n 1 N0 128 (.n 1 N1 8 (.n 1 256 (N0+55+N1) .z))) rfl (aq h) i)
def IH(h:a=192)(i:b<=8):a+55+b<256:=aM.mp (ik [a,b] [] (.n 1 N0 192 (.n 1 N1 8 (.n 1 256 (N0+55+N1) .z))) rfl (aq h) i)
def II(h:a<b)(i:c<=b):max (a+1) c<=b:=ar.mp λK=>s5 _ c (λF F=>ik [c,b,a,(max _ c)] [] (.n 1 N0 N1 (.n 1 (N1+1) N3 (.n 1 N3 N0 .z))) rfl i K F) (λF F=>ik [a,b,c,(max _ c)] [] (.n 1 (N0+1) N1 (.n 1 (N1+1) N3 (.n 1 N3 (N0+1) .z))) rfl h K F)
def IJ(h:max (a+1) b<=c):a<c:=aM.mp λF=>ik [a,b,(max _ b),c] [] (.n 1 N2 N3 (.n 1 N3 N0 (.n 1 (N0+1) N2 .z))) rfl h F (FM _ b)
def IK(h:0<a)(i:a+b=0):False:=(aB i (bf (yb _ h)))
def IL(h:max (a+1) b<=c):b<=c:=ar.mp λF=>ik [a,b,(max _ b),c] [] (.n 1 N2 N3 (.n 1 (N3+1) N1 (.n 1 N1 N2 .z))) rfl h F (Zh _ b)
def IM(h:0<a)(i:a+b<c+1):b<c:=aM.mp (ik [a,b,c] [] (.n 1 (0+1) N0 (.n 1 (N0+N1+1) (N2+1) (.n 1 N2 N1 .z))) rfl h i)
def IN:0<=(a:Int)/16:=aK.mp (ik [a,(a / 16)] [] (.i 1 ((Ie.c N1)+1) 0 .z) rfl)
def IP(h:a<2^8):((a:Int)/16) <16:=kK.mp λF=>ik [a,(a / 16),(a% 16)] [] (.n 1 (N0+1) (Ne.n _) (.i 16 16 (.c N1) (.n 1 (16*N1+N2) N0 .z))) rfl h F (dm a 16).2
def zs{a b:Int}(h:a<16)(i:b<16):aS (16*a+b) <256:=aM.mp λF=>fA _ (λK K=>ik [(aS _)] [a,b] (.i 16 (I0+1) 16 (.i 1 (I1+1) 16 (.n 1 256 N0 (.i 1 (.c N0) ((Ie.m _ I0)+I1) .z)))) rfl h i F K) (λK K=>ik [(aS _)] [a,b] (.n 1 256 N0 (.n 1 N0 0 .z)) rfl F K)
def zt(h:(a+1+1)%2=0):a%2=0:=(Zi a 2).symm.trans h
def IQ{a b:Int}(h:0<=a)(i:0<=b)(j:a<16):(((aS (16*b+a):Nat):Int)/16)=b:=db (aK.mp λF=>fA _ (λK K=>ik [(aS _),((aS _) / 16),((aS _) % 16)] [a,b] (.i 1 (I0+1) 16 (.i 16 (I1+1) (.c N1) (.i 1 (.c N0) ((Ie.m 16 I1)+I0) (.n 1 (16*N1+N2) N0 .z)))) rfl j F K (dm (aS ((16*b)+a)) 16).2) (λK K=>ik [(aS ((16*b)+a)),((aS ((16*b)+a)) / 16),((aS ((16*b)+a)) % 16)] [b,a] (.i 16 0 I0 (.i 16 (I0+1) (.c N1) (.n 1 N0 0 (.n 1 (16*N1+N2) N0 .z)))) rfl i F K (dm (aS ((16*b)+a)) 16).2)) (aK.mp λF=>ik [(aS ((16*b)+a)),((aS ((16*b)+a)) / 16),((aS ((16*b)+a)) % 16)] [a,b] (.i 1 0 I0 (.i 16 ((Ie.c N1)+1) I1 (.i 1 ((Ie.m 16 I1)+I0) (.c N0) (.n 1 N0 (16*N1+N2) (.n 1 (N2+1) 16 .z))))) rfl h F (i' ((16*b)+a)) (dm (aS ((16*b)+a)) 16).1 (gm (aS ((16*b)+a)) (fv 15)))
def IR{a b:Int}(h:0<=a)(i:0<=b)(j:a<16):((aS (16*b+a):Nat)%16)=a:=(cA (· % 16) (jz (x7 (Y8 (by decide) i) h))).trans ((Int.mul_add_emod_self_left _ b a).trans (Int.emod_eq_of_lt h j))
def IS(h:a%2=1):(0+1+a)%2=0:=(Zj 1 a 2).trans (cA (λz=>(1% 2+z) % 2) h)
def IT(h:¬a%2=1):(0+1+1+a)%2=0:=(Zj 2 a 2).trans (cA (λz=>(2% 2+z) % 2) ((Zk a).resolve_right h))
def IU(h:a<16):0<=(a:Int)/\(a:Int) <16:=⟨aK.mp (ik [a] [] (.i 1 ((Ie.c N0)+1) 0 .z) rfl),kK.mp (ik [a] [] (.n 1 (N0+1) 16 (.i 1 16 (.c N0) .z)) rfl h)⟩
def IV{a:Int}(h:0<=a/\a<16):aS a<16:=aM.mp λF=>fA a (λK K=>ik [(aS a)] [a] (.i 1 (I0+1) 16 (.n 1 16 N0 (.i 1 (.c N0) I0 .z))) rfl h.2 F K) (λK K=>ik [(aS a)] [a] (.n 1 16 N0 (.n 1 N0 0 .z)) rfl F K)
def zu{a b:Int}(h:¬a<b)(i:¬b<a):a=b:=db (aK.mp (ik [] [a,b] (.i 1 I0 I1 (.i 1 (I1+1) I0 .z)) rfl (aK.mp i))) (aK.mp (ik [] [b,a] (.i 1 I0 I1 (.i 1 (I1+1) I0 .z)) rfl (aK.mp h)))
def abv{a b:Int}(h:¬a<b)(i:¬a=b):b<a:=kK.mp λF=>k6 i (ik [] [b,a] (.i 1 I0 I1 (.i 1 (I1+1) I0 .z)) rfl (aK.mp h)) (ik [] [a,b] (.i 1 I0 I1 (.i 1 (I1+1) I0 .z)) rfl F)
def IW(i:a-b=0)(j:b<=a)(h:c=b):c=a:=(b8 (ak (aL _) (g7 h j)) (g8 h (ug i)))
def IX(h:a-b=c+1):b<a:=aM.mp λK=>s3 a b (λF F=>ik [c,a,b,(a - b)] [] (.n 1 (N0+1) N3 (.n 1 N1 N2 (.n 1 (N3+N2) N1 .z))) rfl (aq (Eq.symm h)) K F) (λF F=>ik [c,a,b,(a - b)] [] (.n 1 (N0+1) N3 (.n 1 N3 0 .z)) rfl (aq (Eq.symm h)) F)
def IY(h:a-b=c+1):a-(b+1)=c:=(Eq.trans (Eq.symm (Zb ..)) (Ze h))
def abw{a b:Int}(h:a<=b)(i:¬b=a):a<b:=kK.mp λF=>k6 i (ik [] [a,b] (.i 1 I0 I1 (.i 1 (I1+1) I0 .z)) rfl h) (ik [] [b,a] (.i 1 I0 I1 (.i 1 (I1+1) I0 .z)) rfl F)
def IZ(h:a+1+1<2):False:=(aB h (FN (cG ..)))
def I4(h:a+20*b+200<=c):a+1+1<c:=aM.mp (ik [a,b,c] [] (.n 1 (N0+20*N1+200) N2 (.n 1 N2 (N0+1+1) .z)) rfl h)
def I5(h:a<=3)(i:¬a<2):a=2\/a=3:=(Nat.lt_or_eq_of_le h).imp_left λh=>b8 (fu h) (ml i)
def I6(h:a+1+1+1+1+1+1+1+1+1<=8):False:=ik [a] [] (.n 1 (N0+1+1+1+1+1+1+1+1+1) 8 .z) rfl h
def I7(h:0<a/\a<2^63):(a:Int) <2^512:=qn (ed.mpr h.2) (by decide+kernel)
def zv:¬a+1+1=1:=(bf (di (yc (by decide))))
def I8:a+1+2*b+4=a+2*b+4+1:=b8 (ar.mp (ik [a,b] [] (.n 1 (N0+2*N1+4+1+1) (N0+1+2*N1+4) .z) rfl)) (ar.mp (ik [a,b] [] (.n 1 (N0+1+2*N1+4+1) (N0+2*N1+4+1) .z) rfl))
def I9:a+1+2*b+4=a+2*b+3+2:=b8 (ar.mp (ik [a,b] [] (.n 1 (N0+2*N1+3+2+1) (N0+1+2*N1+4) .z) rfl)) (ar.mp (ik [a,b] [] (.n 1 (N0+1+2*N1+4+1) (N0+2*N1+3+2) .z) rfl))
def I_:(a+1+b+1:Nat)=((a+(b+1)+1:Nat):Int):=db (aK.mp (ik [a,b] [] (.i 1 ((Ie.c (N0+(N1+1)+1))+1) (.c (N0+1+N1+1)) .z) rfl)) (aK.mp (ik [a,b] [] (.i 1 ((Ie.c (N0+1+N1+1))+1) (.c (N0+(N1+1)+1)) .z) rfl))
def Ja(h:a+(b+c) <10000000)(i:d<=a+b):d+c<10000000:=(di (f9 i (fu h)))
def Jb(h:a+(1+b) <10000000):a+(b-1) <10000000:=aM.mp λF=>ik [a,b,(b - 1)] [] (.n 1 (N0+(1+N1)+1) 10000000 (.n 1 10000000 (N0+N2) (.n 1 N2 N1 .z))) rfl h F (b_ b 1)
def zw(i:0<a)(h:b<=c+(a-1+1)):b<=c+(1+a-1):=ar.mp λK=>s3 a 1 (λF F=>ik [b,c,a,(a - 1),((1+a) - 1)] [] (.n 1 N0 (N1+(N3+1)) (.n 1 (N1+N4+1) N0 (.n 1 (N3+1) N2 (.n 1 (1+N2) (N4+1) .z)))) rfl h K F (s1 _ 1)) (λF F=>ik [a,b,c,(a - 1),((1+a) - 1)] [] (.n 1 (0+1) N0 (.n 1 N1 (N2+(N3+1)) (.n 1 (N2+N4+1) N1 (.n 1 N3 0 (.n 1 (1+N0) (N4+1) .z))))) rfl i h K F (s1 _ 1))
def zx(h:a+b<10000000):a+(b-1) <10000000:=aM.mp λF=>ik [a,b,(b - 1)] [] (.n 1 (N0+N1+1) 10000000 (.n 1 10000000 (N0+N2) (.n 1 N2 N1 .z))) rfl h F (b_ b 1)
def zy(h:a<=b+c):a<=b+(1+c-1):=ar.mp λF=>ik [a,b,c,((1+c) - 1)] [] (.n 1 N0 (N1+N2) (.n 1 (N1+N3+1) N0 (.n 1 (1+N2) (N3+1) .z))) rfl h F (s1 _ 1)
def uO(h:a+1<=b):b=b-1+1:=(b8 (x8 (aL _)) (Nat.add_le_of_le_sub (uh h) (aL _)))
def Jc(h:0<a):a=a-1+1:=(b8 (x8 (aL _)) (iY (qp h)))
def Jd(h:a+1<b):b=b-1+1:=(b8 (x8 (aL _)) (iY (qp h)))
def Je(h:a+(b+1+1)*c<10000000)(i:d<=c):a+d<10000000:=aT (bH (ak i (FO c (fv _))) a) h
def Jf(h:a+(b+1) <1000000)(i:c<=1):a+c+b<1000000:=(di (g1 (bH i _) (fu h)))
def Jg(h:(a+1)*b<=(a+1)*c)(i:d+(a+1+1)*c<10000000)(j:b<=c)(k:e<=d+(b-1)):e+(a+1)*b<10000000:=aT (ak (ec (ak k (bH (ak (b_ b 1) j) d)) h) (aq (mz d _ c))) i
def Jh(h:(a+1)*b<=(a+1)*c)(i:d<=e+a*b)(j:e<=f+(b-1)):d<=f+(a+1)*c:=ak i (ak (c9 (ak j (bH (b_ b 1) f)) _) (ak (aq (mz f a b)) (bH h f)))
def Ji(h:a+(b+2)*c<10000000):a+c<10000000:=aT (bH (FO c (fv _)) a) h
def Jj(h:a+(b+2)*c<10000000)(i:d<=a+(c-1)):d+(b+1)*c<10000000:=aT (ak (c9 (ak i (bH (b_ c 1) a)) _) (aq (mz a _ c))) h
def Jk(h:a<=b+c*d)(i:b<=e+(d-1)):a<=e+(c+1)*d:=ak h (ak (c9 (ak i (bH (b_ d 1) e)) _) (aq (mz e c d)))
def Jl(h:a<=b+(c-1+1)):a<=b+(c+1):=ar.mp λF=>ik [a,b,c,(c - 1)] [] (.n 1 N0 (N1+(N3+1)) (.n 1 (N1+(N2+1)+1) N0 (.n 1 N3 N2 .z))) rfl h F (b_ c 1)
def Jm:((-1)+((a+1:Nat):Int))=a:=db (aK.mp (ik [a] [] (.i 1 ((Ie.c N0)+1) ((Ie.n _)+(Ie.c (N0+1))) .z) rfl)) (aK.mp (ik [a] [] (.i 1 ((Ie.n _)+(Ie.c (N0+1))+1) (.c N0) .z) rfl))
def Jn(h:a=b+1):aS (max 0 (min ((-1)+a) a))=b:=b8 (ar.mp λK=>fA _ (λF F=>gt ((-1)+a) a (λP P=>ja 0 _ (λP P=>ik [a,b,(aS _)] [(min _ a),(max 0 _)] (.n 1 N0 (N1+1) (.n 1 (N1+1) N2 (.i 1 (.c N2) I1 (.i 1 I1 I0 (.i 1 I0 ((Ie.n (-1))+(Ie.c N0)) .z))))) rfl (aq h) K F P (ue ((-1)+a) a)) (λP P=>ik [b,a,(aS (max 0 (min ((-1)+a) a)))] [(min ((-1)+a) a),(max 0 (min ((-1)+a) a))] (.n 1 (N0+1) N2 (.i 1 (.c N2) I1 (.i 1 I1 0 .z))) rfl K F P)) (λF P=>ik [a] [] (.i 1 (.c N0) ((Ie.n (-1))+(Ie.c N0)) .z) rfl F)) (λF F=>ik [b,a,(aS (max 0 (min ((-1)+a) a)))] [(min ((-1)+a) a),(max 0 (min ((-1)+a) a))] (.n 1 (N0+1) N2 (.n 1 N2 0 .z)) rfl K F)) (ar.mp λF=>fA (max 0 (min ((-1)+a) a)) (λK K=>gt ((-1)+a) a (λK K=>ik [b,a,(aS (max 0 (min ((-1)+a) a)))] [(min ((-1)+a) a),(max 0 (min ((-1)+a) a))] (.n 1 (N0+1) N1 (.n 1 (N2+1) N0 (.i 1 ((Ie.n (-1))+(Ie.c N1)) I0 (.i 1 I1 (.c N2) (.i 1 I0 I1 .z))))) rfl (aq (Eq.symm h)) F K (i' (max 0 (min ((-1)+a) a))) (gl 0 (min ((-1)+a) a))) (λK P=>ik [a] [] (.i 1 (.c N0) ((Ie.n (-1))+(Ie.c N0)) .z) rfl K)) (λK P=>gt ((-1)+a) a (λP P=>ik [b,a,(aS (max 0 (min ((-1)+a) a)))] [(min ((-1)+a) a),(max 0 (min ((-1)+a) a))] (.n 1 (N0+1) N1 (.n 1 (N2+1) N0 (.i 1 I1 0 (.i 1 ((Ie.n (-1))+(Ie.c N1)) I0 (.i 1 I0 I1 .z))))) rfl (aq (Eq.symm h)) F K P (gl 0 (min ((-1)+a) a))) (λF K=>ik [a] [] (.i 1 (.c N0) ((Ie.n (-1))+(Ie.c N0)) .z) rfl F)))
def zz(h:a+2*(b+1) <c):a+(0+1+1)+2*b<c:=aM.mp (ik [a,b,c] [] (.n 1 (N0+2*(N1+1)+1) N2 (.n 1 N2 (N0+(0+1+1)+2*N1) .z)) rfl h)
def Jo(h:a+1<min (b+1) (c+1)):a<min b c:=aM.mp λF=>s4 (b+1) (c+1) (λK K=>s4 b c (λK K=>ik [a,b,c,(min _ _),(min b c)] [] (.n 1 (N0+1+1) N3 (.n 1 N4 N0 (.n 1 N1 N4 (.n 1 N3 (N1+1) .z)))) rfl h F K (eA _ _)) (λK K=>ik [a,b,c,(min _ _),(min b c)] [] (.n 1 (N0+1+1) N3 (.n 1 N4 N0 (.n 1 N2 N4 (.n 1 N3 (N2+1) .z)))) rfl h F K (eY _ _))) (λK K=>s4 b c (λK K=>ik [a,b,c,(min _ _),(min b c)] [] (.n 1 (N0+1+1) N3 (.n 1 N4 N0 (.n 1 N1 N4 (.n 1 N3 (N1+1) .z)))) rfl h F K (eA (b+1) (c+1))) (λK K=>ik [a,b,c,(min (b+1) (c+1)),(min b c)] [] (.n 1 (N0+1+1) N3 (.n 1 N4 N0 (.n 1 N2 N4 (.n 1 N3 (N2+1) .z)))) rfl h F K (eY (b+1) (c+1))))
def uP(h:a+(b+1)=c):a<c:=aM.mp (ik [a,b,c] [] (.n 1 (N0+(N1+1)) N2 (.n 1 N2 N0 .z)) rfl (aq h))
def zB(h:a+(b+1)=c):a+1+b=c:=(Eq.trans (cR ..) (Eq.trans (FJ ..) h))
def Jp(h:a<(b:Int)):a=((min b a:Nat):Int):=db (aK.mp λK=>s4 b a (λF F=>ik [a,b,(min b a)] [] (.i 1 ((Ie.c N0)+1) (.c N1) (.i 1 ((Ie.c N2)+1) (.c N0) (.n 1 N1 N2 .z))) rfl h K F) (λF F=>ik [b,a,(min b a)] [] (.i 1 ((Ie.c N2)+1) (.c N1) (.n 1 N1 N2 .z)) rfl K F)) (aK.mp λF=>ik [a,b,(min b a)] [] (.i 1 ((Ie.c N0)+1) (.c N2) (.n 1 N2 N0 .z)) rfl F (eY b a))
def Jq(h:¬a<(b:Int)):b=((min b a:Nat):Int):=db (aK.mp λK=>s4 b a (λF F=>ik [b,a,(min b a)] [] (.i 1 ((Ie.c N2)+1) (.c N0) (.n 1 N0 N2 .z)) rfl K F) (λF F=>ik [b,a,(min b a)] [] (.i 1 (.c N0) (.c N1) (.i 1 ((Ie.c N2)+1) (.c N0) (.n 1 N1 N2 .z))) rfl (aK.mp h) K F)) (aK.mp λF=>ik [b,a,(min b a)] [] (.i 1 ((Ie.c N0)+1) (.c N2) (.n 1 N2 N0 .z)) rfl F (eA b a))
def Jr(h:a+(b-c) <10000000)(j:c<=b)(i:d<=a+1)(k:¬c=b):d+(b-(c+1)) <10000000:=aM.mp λK=>ne2 k (λP=>s3 b c (λF F=>s3 b _ (λF F=>ik [a,b,c,(b - c),d,(b - (c+1))] [] (.n 1 (N0+N3+1) 10000000 (.n 1 N4 (N0+1) (.n 1 10000000 (N4+N5) (.n 1 (N5+(N2+1)) N1 (.n 1 N1 (N3+N2) .z))))) rfl h i K F (s1 b c)) (λF F=>ik [a,b,c,(b - c),d,(b - (c+1))] [] (.n 1 (N0+N3+1) 10000000 (.n 1 N4 (N0+1) (.n 1 10000000 (N4+N5) (.n 1 (N2+1) N1 (.n 1 N5 0 (.n 1 N1 (N3+N2) .z)))))) rfl h i K P F (s1 b c))) (λF K=>ik [c,b] [] (.n 1 (N0+1) N1 (.n 1 N1 N0 .z)) rfl P F)) (ik [c,b] [] (.n 1 N0 N1 (.n 1 (N1+1) N0 .z)) rfl j)
def zC(h:a+(b+1) <10000000)(i:c<=a+1):c+(b+1-1) <10000000:=aM.mp λK=>s3 _ 1 (λF F=>ik [a,b,c,((b+1) - 1)] [] (.n 1 (N0+(N1+1)+1) 10000000 (.n 1 N2 (N0+1) (.n 1 10000000 (N2+N3) (.n 1 (N3+1) (N1+1) .z)))) rfl h i K F) (λF F=>ik [a,b,c,((b+1) - 1)] [] (.n 1 (N0+(N1+1)+1) 10000000 (.n 1 N2 (N0+1) (.n 1 10000000 (N2+N3) (.n 1 N3 0 .z)))) rfl h i K F)
def Js(h:a<16)(i:b<16):16*a+b<256:=aM.mp (ik [a,b] [] (.n 16 (N0+1) 16 (.n 1 (N1+1) 16 (.n 1 256 (16*N0+N1) .z))) rfl h i)
def Jt:(a*16+b)*16+c=a*256+(16*b+c):=b8 (ar.mp (ik [a,b,c] [] (.n 1 (N0*256+(16*N1+N2)+1) ((N0*16+N1)*16+N2) .z) rfl)) (ar.mp (ik [a,b,c] [] (.n 1 ((N0*16+N1)*16+N2+1) (N0*256+(16*N1+N2)) .z) rfl))
def Ju:((a+1:Nat)-1-((0:Nat):Int))=a:=db (aK.mp (ik [a] [] (.i 1 ((Ie.c N0)+1) ((Ie.c (N0+1))-1-(Ie.c 0)) .z) rfl)) (aK.mp (ik [a] [] (.i 1 ((Ie.c (N0+1))-1-(Ie.c 0)+1) (.c N0) .z) rfl))
def Jv:(((a+1:Nat):Int)-1-((b+1:Nat):Int))=a-1-b:=db (aK.mp (ik [a,b] [] (.i 1 ((Ie.c N0)-1-(Ie.c N1)+1) ((Ie.c (N0+1))-1-(Ie.c (N1+1))) .z) rfl)) (aK.mp (ik [a,b] [] (.i 1 ((Ie.c (N0+1))-1-(Ie.c (N1+1))+1) ((Ie.c N0)-1-(Ie.c N1)) .z) rfl))
def uQ(h:a<=1000000):(a:Int)<=16777216:=aK.mp (ik [a] [] (.n 1 N0 1000000 (.i 1 (16777216+1) (.c N0) .z)) rfl h)
def Jw:(((a:Int)-(-1)-1)/(-(-1))+1)=(a+1:Nat):=cA (·+1) ((yd _).trans (Zl a 1))
def Jx(h:¬(a:Int) > -1):0=((a+1:Nat):Int):=db (aK.mp (ik [a] [] (.i 1 ((Ie.c (N0+1))+1) 0 .z) rfl)) (aK.mp λF=>ik [a] [] (.i 1 (.c N0) (.n _) .z) rfl (aK.mp h))
def Jy:((a:Int)+(b:Int)*(-1))=(a+1:Nat)-1-b:=db (aK.mp (ik [a,b] [] (.i 1 ((Ie.c (N0+1))-1-(Ie.c N1)+1) ((Ie.c N0)+(Ie.r (.c N1) _)) .z) rfl)) (aK.mp (ik [a,b] [] (.i 1 ((Ie.c N0)+(Ie.r (.c N1) _)+1) ((Ie.c (N0+1))-1-(Ie.c N1)) .z) rfl))
def Jz(h:a<2^8):(a+b*256)%256=a:=(Nat.add_mul_mod_self_right a b _).trans (qq h)
def JA(h:a<=63):(a:Int)<=64:=aK.mp (ik [a] [] (.n 1 N0 63 (.i 1 (64+1) (.c N0) .z)) rfl h)
def JB(h:a%2=1):(0+1+a)/2=a/2+1:=b8 (ar.mp λF=>ik [a,(a% 2),(a / 2),(((0+1)+a) / 2),(((0+1)+a) % 2)] [] (.n 1 N1 1 (.n 2 (N2+1+1) N3 (.n 1 N0 (2*N2+N1) (.n 1 (2*N3+N4) (0+1+N0) .z)))) rfl (aq h) F (dm a 2).1 (dm _ 2).2) (ar.mp λF=>ik [a,(a% 2),(((0+1)+a) / 2),(a / 2),(((0+1)+a) % 2)] [] (.n 1 1 N1 (.n 2 (N2+1) (N3+1) (.n 1 (2*N3+N1) N0 (.n 1 (0+1+N0) (2*N2+N4) (.n 1 (N4+1) 2 .z))))) rfl (aq (Eq.symm h)) F (dm a 2).2 (dm _ 2).1 (gm _ (fv 1)))
def JC:(0+1+1+a)/2=a/2+1:=b8 (ar.mp λF=>ik [a,(a / 2),((((0+1)+1)+a) / 2),((((0+1)+1)+a) % 2),(a% 2)] [] (.n 2 (N1+1+1) N2 (.n 1 (2*N2+N3) (0+1+1+N0) (.n 1 N0 (2*N1+N4) (.n 1 (N4+1) 2 .z)))) rfl F (dm _ 2).2 (dm a 2).1 (gm a (fv 1))) (ar.mp λF=>ik [a,((((0+1)+1)+a) / 2),(a / 2),((((0+1)+1)+a) % 2),(a% 2)] [] (.n 2 (N1+1) (N2+1) (.n 1 (0+1+1+N0) (2*N1+N3) (.n 1 (N3+1) 2 (.n 1 (2*N2+N4) N0 .z)))) rfl F (dm _ 2).1 (gm _ (fv 1)) (dm a 2).2)
def JD(h:63<a):3<(a:Int)/16:=kK.mp λF=>ik [a,(a / 16),(a% 16)] [] (.n 1 (63+1) N0 (.i 16 (.c N1) 3 (.n 1 N0 (16*N1+N2) (.n 1 (N2+1) 16 .z)))) rfl h F (dm a _).1 (gm a (fv _))
def JE(h:¬63<a):¬3<(a:Int)/16:=λF=>ik [a,(a / 16),(a% 16)] [] (.n 1 N0 63 (.i 16 (3+1) (.c N1) (.n 1 (16*N1+N2) N0 .z))) rfl (ar.mp h) F (dm a 16).2
def JF:(2<=((a:Int) / 16))↔(1<(a / 16)):=⟨λF=>aM.mp (ik [a,(a / 16)] [] (.i 1 2 (.c N1) (.n 1 N1 1 .z)) rfl F),λF=>aK.mp (ik [a,(a / 16)] [] (.n 1 (1+1) N1 (.i 1 ((Ie.c N1)+1) 2 .z)) rfl F)⟩
def JG(h:((a:Int)/16%2)=1)(i:a/16=b):b%2=1:=(cA (· % 2) i).symm.trans (Zm h)
def JH(i:a/16=b)(j:¬((a:Int)/16%2)=1):¬b%2=1:=λh=>j (cA _ ((cA (· % 2) i).trans h))
def JI(h:((a:Int)%16)=0):¬a%16≠0:=λF=>ne2 F (ik [a,(a% 16)] [] (.n 1 (N1+1) 0 .z) rfl) (ik [a,(a% 16)] [] (.i 1 (.c N1) 0 (.n 1 (0+1) N1 .z)) rfl (bz h))
def JJ(h:¬((a:Int)%16)=0):a%16≠0:=λF=>k6 h (ik [a,(a% 16)] [] (.i 1 ((Ie.c N1)+1) 0 .z) rfl) (ik [a,(a% 16)] [] (.n 1 N1 0 (.i 1 (0+1) (.c N1) .z)) rfl (aq F))
def JK:a=a/256*256^1+a%256:=b8 (ar.mp λF=>ik [a,(a / 256),(a% 256)] [] (.n 1 ((Ne.r N1 _)+N2+1) N0 (.n 1 N0 (256*N1+N2) .z)) rfl F (dm a 256).1) (ar.mp λF=>ik [a,(a / 256),(a% 256)] [] (.n 1 (N0+1) ((Ne.r N1 _)+N2) (.n 1 (256*N1+N2) N0 .z)) rfl F (dm a 256).2)
def JL(i:a=128\/a=192)(h:b<56):a+b<256:=aM.mp λF=>dC i (λK=>ik [b,a] [] (.n 1 (N0+1) 56 (.n 1 256 (N1+N0) (.n 1 N1 128 .z))) rfl h F (aq K)) (λK=>ik [b,a] [] (.n 1 (N0+1) 56 (.n 1 256 (N1+N0) (.n 1 N1 192 .z))) rfl h F (aq K))
def JM(h:a=128\/a=192):a+55+1<256:=aM.mp λF=>dC h (λK=>ik [a] [] (.n 1 256 (N0+55+1) (.n 1 N0 128 .z)) rfl F (aq K)) (λK=>ik [a] [] (.n 1 256 (N0+55+1) (.n 1 N0 192 .z)) rfl F (aq K))
def JN(h:a=128\/a=192):a+55+2<256:=aM.mp λF=>dC h (λK=>ik [a] [] (.n 1 256 (N0+55+2) (.n 1 N0 128 .z)) rfl F (aq K)) (λK=>ik [a] [] (.n 1 256 (N0+55+2) (.n 1 N0 192 .z)) rfl F (aq K))
def JO(h:a+1<=b)(i:c<=d):c+1<=b+d:=ar.mp (ik [a,b,c,d] [] (.n 1 (N0+1) N1 (.n 1 N2 N3 (.n 1 (N1+N3+1) (N2+1) .z))) rfl h i)
def JP(h:max (a+1) b<=0):False:=ik [a,b,(max _ b)] [] (.n 1 N2 0 (.n 1 (N0+1) N2 .z)) rfl h (FM _ b)
def JQ:(a+((0:Nat):Int)*1)=a:=db (aK.mp (ik [a] [] (.i 1 ((Ie.c N0)+1) ((Ie.c N0)+(Ie.m _ 1)) .z) rfl)) (aK.mp (ik [a] [] (.i 1 ((Ie.c N0)+(Ie.m _ 1)+1) (.c N0) .z) rfl))
def JR:(a+((b+1:Nat):Int)*1)=(a+1:Nat)+b*1:=db (aK.mp (ik [a,b] [] (.i 1 ((Ie.c (N0+1))+(Ie.r (.c N1) 1)+1) ((Ie.c N0)+(Ie.r (.c (N1+1)) 1)) .z) rfl)) (aK.mp (ik [a,b] [] (.i 1 ((Ie.c N0)+(Ie.r (.c (N1+1)) 1)+1) ((Ie.c (N0+1))+(Ie.r (.c N1) 1)) .z) rfl))
def JS(h:a<b+1+c):a<b+(c+1):=(FG (b5 (iY h) (aL _)))
def JT:(((a:Int)-0-1)/1+1)=a:=db (aK.mp λF=>ik [a] [(((a - 0) - 1) / 1),(((a - 0) - 1) % 1)] (.i 1 ((Ie.c N0)+1) (I0+1) (.i 1 ((Ie.m 1 I0)+I1) ((Ie.c N0)-0-1) (.i 1 0 I1 .z))) rfl F (q5 _ 1).2 (ye _ (by decide))) (aK.mp λF=>ik [a] [(((a - 0) - 1) / 1),(((a - 0) - 1) % 1)] (.i 1 (I0+1+1) (.c N0) (.i 1 ((Ie.c N0)-0-1) ((Ie.m 1 I0)+I1) (.i 1 (I1+1) 1 .z))) rfl F (q5 ((a - 0) - 1) 1).1 (FP ((a - 0) - 1) (by decide:(0:Int) <1)))
def JU(h:¬0<(a:Int)):0=(a:Int):=db (aK.mp (ik [a] [] (.i 1 ((Ie.c N0)+1) 0 .z) rfl)) (aK.mp (ik [a] [] (.i 1 (.c N0) 0 (.i 1 (0+1) (.c N0) .z)) rfl (aK.mp h)))
def JV(h:a<0+b):b+1-1-a=b-1-a+1:=b8 (ar.mp λF=>s3 _ 1 (λK K=>s3 _ a (λP P=>ik [b,(b - 1),a,((b - 1) - a),((b+1) - 1),(((b+1) - 1) - a)] [] (.n 1 (N3+1+1) N5 (.n 1 (N4+1) (N0+1) (.n 1 (N5+N2) N4 (.n 1 N0 (N1+1) (.n 1 N1 (N3+N2) .z))))) rfl F K P (s1 b 1) (s1 (b - 1) a)) (λK K=>ik [b,(b - 1),a,((b - 1) - a),((b+1) - 1),(((b+1) - 1) - a)] [] (.n 1 (N3+1+1) N5 (.n 1 N5 0 .z)) rfl F K)) (λK K=>ik [b,(b - 1),a,((b - 1) - a),((b+1) - 1),(((b+1) - 1) - a)] [] (.n 1 (N3+1+1) N5 (.n 1 N4 0 (.n 1 N5 N4 .z))) rfl F K (b_ ((b+1) - 1) a))) (ar.mp λF=>s3 (b+1) 1 (λK K=>s3 b 1 (λK K=>s3 (b - 1) a (λP P=>ik [b,((b+1) - 1),a,(((b+1) - 1) - a),(b - 1),((b - 1) - a)] [] (.n 1 (N3+1) (N5+1) (.n 1 (N4+1) N0 (.n 1 (N5+N2) N4 (.n 1 (N0+1) (N1+1) (.n 1 N1 (N3+N2) .z))))) rfl F K P (s1 (b+1) 1) (s1 ((b+1) - 1) a)) (λK K=>ik [a,b,((b+1) - 1),(((b+1) - 1) - a),(b - 1),((b - 1) - a)] [] (.n 1 (N0+1) (0+N1) (.n 1 (N3+1) (N5+1) (.n 1 N5 0 (.n 1 (N1+1) (N2+1) (.n 1 N2 (N3+N0) .z))))) rfl h F K (s1 (b+1) 1) (s1 ((b+1) - 1) a))) (λK K=>ik [a,b,((b+1) - 1),(((b+1) - 1) - a),(b - 1),((b - 1) - a)] [] (.n 1 (N0+1) (0+N1) (.n 1 (N3+1) (N5+1) (.n 1 N4 0 (.n 1 (N1+1) (N2+1) (.n 1 N2 (N3+N0) (.n 1 N5 N4 .z)))))) rfl h F K (s1 (b+1) 1) (s1 ((b+1) - 1) a) (b_ (b - 1) a))) (λF K=>ik [a,b] [] (.n 1 (N0+1) (0+N1) (.n 1 (N1+1) 1 .z)) rfl h F))
def JW(h:a+b<=c)(i:d<b):a+b-1-d<c:=aM.mp λK=>s3 _ 1 (λF F=>ik [a,b,c,((a+b) - 1),d,(((a+b) - 1) - d)] [] (.n 1 (N0+N1) N2 (.n 1 N2 N5 (.n 1 (N3+1) (N0+N1) (.n 1 N5 N3 .z)))) rfl h K F (b_ _ d)) (λF F=>ik [a,b,c,d,((a+b) - 1),(((a+b) - 1) - d)] [] (.n 1 (N0+N1) N2 (.n 1 (N3+1) N1 (.n 1 N2 N5 (.n 1 N4 0 (.n 1 N5 N4 .z))))) rfl h i K F (b_ _ d))
def JX(h:a<b):c+(b-1-a)=c+b-1-a:=b8 (ar.mp λF=>s3 b 1 (λK K=>s3 _ a (λP P=>ik [c,b,((c+b) - 1),a,(((c+b) - 1) - a),(b - 1),((b - 1) - a)] [] (.n 1 (N4+1) (N0+N6) (.n 1 (N5+1) N1 (.n 1 (N6+N3) N5 (.n 1 (N0+N1) (N2+1) (.n 1 N2 (N4+N3) .z))))) rfl F K P (s1 (c+b) 1) (s1 ((c+b) - 1) a)) (λK K=>ik [a,b,c,((c+b) - 1),(((c+b) - 1) - a),(b - 1),((b - 1) - a)] [] (.n 1 (N0+1) N1 (.n 1 (N4+1) (N2+N6) (.n 1 N6 0 (.n 1 (N2+N1) (N3+1) (.n 1 N3 (N4+N0) .z))))) rfl h F K (s1 (c+b) 1) (s1 ((c+b) - 1) a))) (λK K=>ik [a,b,c,((c+b) - 1),(((c+b) - 1) - a),(b - 1),((b - 1) - a)] [] (.n 1 (N0+1) N1 (.n 1 (N4+1) (N2+N6) (.n 1 N5 0 (.n 1 N6 N5 (.n 1 (N2+N1) (N3+1) (.n 1 N3 (N4+N0) .z)))))) rfl h F K (b_ (b - 1) a) (s1 (c+b) 1) (s1 ((c+b) - 1) a))) (ar.mp λF=>s3 b 1 (λK K=>s3 (c+b) 1 (λK P=>s3 ((c+b) - 1) a (λK K=>ik [c,b,(b - 1),a,((b - 1) - a),((c+b) - 1),(((c+b) - 1) - a)] [] (.n 1 (N0+N4+1) N6 (.n 1 (N5+1) (N0+N1) (.n 1 (N6+N3) N5 (.n 1 N1 (N2+1) (.n 1 N2 (N4+N3) .z))))) rfl F P K (s1 b 1) (s1 (b - 1) a)) (λK K=>ik [c,b,(b - 1),a,((b - 1) - a),((c+b) - 1),(((c+b) - 1) - a)] [] (.n 1 (N0+N4+1) N6 (.n 1 N6 0 .z)) rfl F K)) (λK K=>ik [c,b,(b - 1),a,((b - 1) - a),((c+b) - 1),(((c+b) - 1) - a)] [] (.n 1 (N0+N4+1) N6 (.n 1 N5 0 (.n 1 N6 N5 .z))) rfl F K (b_ ((c+b) - 1) a))) (λK P=>s3 (b - 1) a (λP P=>s3 (c+b) 1 (λP P=>ik [c,b,(b - 1),a,((b - 1) - a),((c+b) - 1),(((c+b) - 1) - a)] [] (.n 1 (N0+N4+1) N6 (.n 1 N1 1 (.n 1 (N5+1) (N0+N1) (.n 1 N6 N5 .z)))) rfl F K P (b_ ((c+b) - 1) a)) (λP P=>ik [c,b,(b - 1),a,((b - 1) - a),((c+b) - 1),(((c+b) - 1) - a)] [] (.n 1 (N0+N4+1) N6 (.n 1 N5 0 (.n 1 N6 N5 .z))) rfl F P (b_ ((c+b) - 1) a))) (λP P=>s3 (c+b) 1 (λP P=>ik [c,b,(b - 1),a,((b - 1) - a),((c+b) - 1),(((c+b) - 1) - a)] [] (.n 1 (N0+N4+1) N6 (.n 1 N1 1 (.n 1 (N5+1) (N0+N1) (.n 1 N6 N5 .z)))) rfl F K P (b_ ((c+b) - 1) a)) (λK K=>ik [c,b,(b - 1),a,((b - 1) - a),((c+b) - 1),(((c+b) - 1) - a)] [] (.n 1 (N0+N4+1) N6 (.n 1 N5 0 (.n 1 N6 N5 .z))) rfl F K (b_ ((c+b) - 1) a)))))
def JY(h:0=a-b)(i:b<=a):b=a:=(b8 i (ug (Eq.symm h)))
def JZ(h:a<=b-c/\0<a):c+a<=b:=ar.mp λK=>s3 b c (λF F=>ik [a,b,c,(b - c)] [] (.n 1 N0 N3 (.n 1 (N1+1) (N2+N0) (.n 1 (N3+N2) N1 .z))) rfl h.1 K F) (λF F=>ik [a,b,c,(b - c)] [] (.n 1 N0 N3 (.n 1 (0+1) N0 (.n 1 N3 0 .z))) rfl h.1 h.2 F)
def J0(i:a-b<c+1)(h:d<=a-b/\0<d):a-(b+d) <c:=aM.mp λK=>s3 a b (λF F=>s3 a _ (λF F=>ik [a,b,(a - b),c,d,(a - (b+d))] [] (.n 1 (N2+1) (N3+1) (.n 1 (0+1) N4 (.n 1 N3 N5 (.n 1 (N5+(N1+N4)) N0 (.n 1 N0 (N2+N1) .z))))) rfl i h.2 K F (s1 a b)) (λF F=>ik [a,b,(a - b),c,d,(a - (b+d))] [] (.n 1 (N2+1) (N3+1) (.n 1 N4 N2 (.n 1 (0+1) N4 (.n 1 N3 N5 (.n 1 N5 0 .z))))) rfl i h.1 h.2 K F)) (λF F=>ik [d,a,b,(a - b)] [] (.n 1 N0 N3 (.n 1 (0+1) N0 (.n 1 N3 0 .z))) rfl h.1 h.2 F)
def J1(h:¬a<b+1+c):1+c<=a-b:=ar.mp λF=>ik [b,c,a,(a - b)] [] (.n 1 (N0+1+N1) N2 (.n 1 (N3+1) (1+N1) (.n 1 N2 (N3+N0) .z))) rfl (ar.mp h) F (s1 a b)
def J2(h:¬a<=b):a-b=a-(b+1)+1:=b8 (ar.mp λK=>s3 a b (λF F=>ik [a,b,(a - (b+1)),(a - b)] [] (.n 1 (N2+1+1) N3 (.n 1 (N3+N1) N0 (.n 1 N0 (N2+(N1+1)) .z))) rfl K F (s1 a _)) (λF F=>ik [a,b,(a - (b+1)),(a - b)] [] (.n 1 (N2+1+1) N3 (.n 1 N3 0 .z)) rfl K F)) (ar.mp λF=>s3 a b (λK K=>s3 a _ (λK K=>ik [a,b,(a - b),(a - (b+1))] [] (.n 1 (N2+1) (N3+1) (.n 1 (N3+(N1+1)) N0 (.n 1 N0 (N2+N1) .z))) rfl F K (s1 a b)) (λK K=>ik [b,a,(a - b),(a - (b+1))] [] (.n 1 (N0+1) N1 (.n 1 (N2+1) (N3+1) (.n 1 N3 0 (.n 1 N1 (N2+N0) .z)))) rfl (aM.mp h) F K (s1 a b))) (λF K=>ik [b,a] [] (.n 1 (N0+1) N1 (.n 1 N1 N0 .z)) rfl (aM.mp h) F))
def zE(h:a+(b+1)=61):¬60<a:=(ik [a,b] [] (.n 1 (N0+(N1+1)) 61 (.n 1 (60+1) N0 .z)) rfl (aq h))
def J3:(((a:Int)≠2)/\((a:Int)≠17))↔((a≠2)/\(a≠17)):=⟨λF=>⟨λK=>k6 F.1 (ik [a] [] (.n 1 2 N0 (.i 1 ((Ie.c N0)+1) 2 .z)) rfl (aq (Eq.symm K))) (ik [a] [] (.n 1 N0 2 (.i 1 (2+1) (.c N0) .z)) rfl (aq K)),λK=>k6 F.1 (ik [a] [] (.n 1 17 N0 (.i 1 ((Ie.c N0)+1) 2 .z)) rfl (aq (Eq.symm K))) (λP=>k6 F.2 (ik [a] [] (.n 1 17 N0 (.i 1 ((Ie.c N0)+1) 17 .z)) rfl (aq (Eq.symm K))) (ik [a] [] (.n 1 N0 17 (.i 1 (17+1) (.c N0) .z)) rfl (aq K)))⟩,λK=>⟨λF=>ne2 K.1 (ik [a] [] (.i 1 2 (.c N0) (.n 1 (N0+1) 2 .z)) rfl (bz (Eq.symm F))) (ik [a] [] (.i 1 (.c N0) 2 (.n 1 (2+1) N0 .z)) rfl (bz F)),λF=>ne2 K.1 (ik [a] [] (.i 1 17 (.c N0) (.n 1 (N0+1) 2 .z)) rfl (bz (Eq.symm F))) (λP=>ne2 K.2 (ik [a] [] (.i 1 17 (.c N0) (.n 1 (N0+1) 17 .z)) rfl (bz (Eq.symm F))) (ik [a] [] (.i 1 (.c N0) 17 (.n 1 (17+1) N0 .z)) rfl (bz F)))⟩⟩
def J4(i:a=128\/a=192)(h:b<=55):a+b<256:=aM.mp λF=>dC i (λK=>ik [b,a] [] (.n 1 N0 55 (.n 1 256 (N1+N0) (.n 1 N1 128 .z))) rfl h F (aq K)) (λK=>ik [b,a] [] (.n 1 N0 55 (.n 1 256 (N1+N0) (.n 1 N1 192 .z))) rfl h F (aq K))
def J5(i:a=128\/a=192)(h:b<=8):a+55+b<256:=aM.mp λF=>dC i (λK=>ik [b,a] [] (.n 1 N0 8 (.n 1 256 (N1+55+N0) (.n 1 N1 128 .z))) rfl h F (aq K)) (λK=>ik [b,a] [] (.n 1 N0 8 (.n 1 256 (N1+55+N0) (.n 1 N1 192 .z))) rfl h F (aq K))
def J6(h:a+1+b<=60):a+(b+1)<=60:=ar.mp (ik [a,b] [] (.n 1 (N0+1+N1) 60 (.n 1 (60+1) (N0+(N1+1)) .z)) rfl h)
def J7(h:a+(b+1) <1000):a+(0+1)+b<1000:=(di (g1 (aL _) (fu h)))
def J8{a b:Int}(h:a=b):¬a<b:=(ik [] [b,a] (.i 1 I0 I1 (.i 1 (I1+1) I0 .z)) rfl (bz (Eq.symm h)))
def J9(h:a<b)(i:a<c):a<min b c:=(FG (FQ (iY h) (iY i)))
def J_(h:a+(b+1)=c)(i:c<=d/\c<=e):a<d:=aM.mp (ik [a,b,c,d] [] (.n 1 (N0+(N1+1)) N2 (.n 1 N2 N3 (.n 1 N3 N0 .z))) rfl (aq h) i.1)
def J'{a b:Int}(h:a<b)(i:b<a):False:=(aB h (kL (qo i)))
def Ka(h:2*a+2<=b+1)(i:b+1<=100000)(j:c<=a/\c<=d):c<1000000:=aM.mp (ik [a,b,c] [] (.n 1 (2*N0+2) (N1+1) (.n 1 (N1+1) 100000 (.n 2 N2 N0 (.n 2 1000000 N2 .z)))) rfl h i j.1)
def Kg(i:a<=b/\a<=c)(h:min a d=min a b):a<=d:=ar.mp λF=>s4 a d (λK P=>ik [d,a] [] (.n 1 (N0+1) N1 (.n 1 N1 N0 .z)) rfl F K) (λK K=>s4 a b (λK K=>ik [a,b,(min a b),d,(min a d)] [] (.n 1 N2 N4 (.n 1 (N3+1) N0 (.n 1 N0 N2 (.n 1 N4 N3 .z)))) rfl (aq (Eq.symm h)) F K (eY a d)) (λK K=>ik [a,b,(min a b),d,(min a d)] [] (.n 1 N0 N1 (.n 1 N2 N4 (.n 1 (N3+1) N0 (.n 1 N1 N2 (.n 1 N4 N3 .z))))) rfl i.1 (aq (Eq.symm h)) F K (eY a d)))
def Kh(i:2*a+2<=b+1)(j:2*c+2<=b+1)(h:0<d)(k:d<=a/\d<=e):2*(c-d)+2<=b:=ar.mp λK=>s3 c d (λF F=>ik [c,b,d,(c - d)] [] (.n 1 (2*N0+2) (N1+1) (.n 2 (0+1) N2 (.n 1 (N1+1) (2*N3+2) (.n 2 (N3+N2) N0 .z)))) rfl j h K F) (λF F=>ik [a,b,d,c,(c - d)] [] (.n 1 (2*N0+2) (N1+1) (.n 2 (0+1) N2 (.n 2 N2 N0 (.n 1 (N1+1) (2*N4+2) (.n 2 N4 0 .z))))) rfl i h k.1 K F)
def Kk(i:0<a)(h:b+(a+c) <10000000):b+(a-1)+1<10000000:=aM.mp λK=>s3 a 1 (λF F=>ik [b,a,c,(a - 1)] [] (.n 1 (N0+(N1+N2)+1) 10000000 (.n 1 10000000 (N0+N3+1) (.n 1 (N3+1) N1 .z))) rfl h K F) (λF F=>ik [a,b,c,(a - 1)] [] (.n 1 (0+1) N0 (.n 1 (N1+(N0+N2)+1) 10000000 (.n 1 10000000 (N1+N3+1) (.n 1 N3 0 .z)))) rfl i h K F)
def Ko(h:a+(b+1) <900):a+(0+1)+b<900:=(di (g1 (aL _) (fu h)))
def Kq(h:a+(1+b) <10000000):a+(b-1)+1<10000000:=aM.mp λF=>ik [a,b,(b - 1)] [] (.n 1 (N0+(1+N1)+1) 10000000 (.n 1 10000000 (N0+N2+1) (.n 1 N2 N1 .z))) rfl h F (b_ b 1)
def Kr(h:a<=b+2)(i:b<=100)(j:c<=a+9)(k:d<=41):c+d<=16777216:=ar.mp (ik [a,b,c,d] [] (.n 1 N0 (N1+2) (.n 1 N1 100 (.n 1 N2 (N0+9) (.n 1 N3 41 (.n 1 (16777216+1) (N2+N3) .z))))) rfl h i j k)
def Ku(h:a<=b+2)(i:b<=100)(j:c<=a+9)(k:d<=41):c+d<65536:=aM.mp (ik [a,b,c,d] [] (.n 1 N0 (N1+2) (.n 1 N1 100 (.n 1 N2 (N0+9) (.n 1 N3 41 (.n 1 65536 (N2+N3) .z))))) rfl h i j k)
def Kv(h:a<=41*16)(i:b<=c+9)(j:c<=200):a+b<=1000:=ar.mp (ik [a,b,c] [] (.n 1 N0 (41*16) (.n 1 N1 (N2+9) (.n 1 N2 200 (.n 1 (1000+1) (N0+N1) .z)))) rfl h i j)
def Kx(h:a<=b+(c-1)):a<=b+c:=ar.mp λF=>ik [a,b,c,(c - 1)] [] (.n 1 N0 (N1+N3) (.n 1 (N1+N2+1) N0 (.n 1 N3 N2 .z))) rfl h F (b_ c 1)
def Ky(h:a<=60):(a:Int)<=64:=aK.mp (ik [a] [] (.n 1 N0 60 (.i 1 (64+1) (.c N0) .z)) rfl h)
def Kz(h:a<5)(i:b=a)(j:c<=28):b+c<=16777216:=(bj (b2 (bH j _) (g9 i h) rfl))
def KA(h:a<5)(i:b=a):b+c<=4+c:=ar.mp (ik [a,b,c] [] (.n 1 (N0+1) 5 (.n 1 N1 N0 (.n 1 (4+N2+1) (N1+N2) .z))) rfl h (aq i))
def KC(h:a<5)(i:b=a):b<=4+c:=(yf (fu (g9 i h)))
def KD(h:a<b)(i:b<=1000000)(j:c<=a):c<=2000000:=(bj (bc (aT j h) (ak i (by decide))))
def KE(h:a<b)(i:b<=1000000)(j:c<=a):c+(b-(a+1))<=2000000:=ar.mp λF=>ik [a,b,c,(b - (a+1))] [] (.n 1 (N0+1) N1 (.n 2 N1 1000000 (.n 1 N2 N0 (.n 1 (2000000+1) (N2+N3) (.n 1 N3 N1 .z))))) rfl h i j F (b_ b _)
def KG(i:a<b)(h:c<=a):c+(b-(a+1))<=b+1:=ar.mp λK=>s3 b _ (λF F=>ik [c,a,b,(b - (a+1))] [] (.n 1 N0 N1 (.n 1 (N2+1+1) (N0+N3) (.n 1 (N3+(N1+1)) N2 .z))) rfl h K F) (λF F=>ik [a,b,c,(b - (a+1))] [] (.n 1 (N0+1) N1 (.n 1 N2 N0 (.n 1 (N1+1+1) (N2+N3) (.n 1 N3 0 .z)))) rfl i h K F)
def KH(h:a<b)(i:b<=1000000)(j:c<=a):c+(0+1)<=2000000:=(bj (b2 (c9 j _) (bc h i) rfl))
def KI(h:a<b)(i:b<=1000000)(j:c<=a):c+(0+1)+(b-a)<=2000000:=ar.mp λF=>ik [a,b,c,(b - a)] [] (.n 1 (N0+1) N1 (.n 2 N1 1000000 (.n 1 N2 N0 (.n 1 (2000000+1) (N2+(0+1)+N3) (.n 1 N3 N1 .z))))) rfl h i j F (b_ b a)
def KJ(h:a<b)(i:c<=a):c+(0+1)+(b-a)<=b+1:=ar.mp λK=>s3 b a (λF F=>ik [c,a,b,(b - a)] [] (.n 1 N0 N1 (.n 1 (N2+1+1) (N0+(0+1)+N3) (.n 1 (N3+N1) N2 .z))) rfl i K F) (λF K=>ik [a,b] [] (.n 1 (N0+1) N1 (.n 1 N1 N0 .z)) rfl h F)
def KL(h:a<b)(i:b<=1000000)(j:c<=a):c+(0+1)+(b-(a+1))<=2000000:=ar.mp λF=>ik [a,b,c,(b - (a+1))] [] (.n 1 (N0+1) N1 (.n 2 N1 1000000 (.n 1 N2 N0 (.n 1 (2000000+1) (N2+(0+1)+N3) (.n 1 N3 N1 .z))))) rfl h i j F (b_ b _)
def KO(i:a<b)(h:c<=a):c+(0+1)+(b-(a+1))<=b+1:=ar.mp λK=>s3 b _ (λF F=>ik [c,a,b,(b - (a+1))] [] (.n 1 N0 N1 (.n 1 (N2+1+1) (N0+(0+1)+N3) (.n 1 (N3+(N1+1)) N2 .z))) rfl h K F) (λF F=>ik [a,b,c,(b - (a+1))] [] (.n 1 (N0+1) N1 (.n 1 N2 N0 (.n 1 (N1+1+1) (N2+(0+1)+N3) (.n 1 N3 0 .z)))) rfl i h K F)
def KP(h:a<b)(i:b<=1000)(j:c<=a):c+(0+1)<=5000:=(bj (b2 (c9 j _) (bc h i) rfl))
def KQ(h:a<b)(i:b<=1000)(j:c<=a)(k:d<=b):c+(0+1)+d<=5000:=ar.mp (ik [a,b,c,d] [] (.n 1 (N0+1) N1 (.n 2 N1 1000 (.n 1 N2 N0 (.n 1 N3 N1 (.n 1 (5000+1) (N2+(0+1)+N3) .z))))) rfl h i j k)
def KR(j:a<b)(h:c=b-(a+1))(i:d<=a):d+(0+1)+c<=b+e+1:=ar.mp λK=>s3 b _ (λF F=>ik [c,b,a,(b - (a+1)),d,e] [] (.n 1 N0 N3 (.n 1 N4 N2 (.n 1 (N1+N5+1+1) (N4+(0+1)+N0) (.n 1 (N3+(N2+1)) N1 .z)))) rfl (aq h) i K F) (λF F=>ik [a,b,c,(b - (a+1)),d,e] [] (.n 1 (N0+1) N1 (.n 1 N2 N3 (.n 1 N4 N0 (.n 1 (N1+N5+1+1) (N4+(0+1)+N2) (.n 1 N3 0 .z))))) rfl j (aq h) i K F)
def KS(j:a<b)(h:c=b-(a+1))(i:d<=a):d+c<=b+e+1:=ar.mp λK=>s3 b _ (λF F=>ik [c,b,a,(b - (a+1)),d,e] [] (.n 1 N0 N3 (.n 1 N4 N2 (.n 1 (N1+N5+1+1) (N4+N0) (.n 1 (N3+(N2+1)) N1 .z)))) rfl (aq h) i K F) (λF F=>ik [a,b,c,(b - (a+1)),d,e] [] (.n 1 (N0+1) N1 (.n 1 N2 N3 (.n 1 N4 N0 (.n 1 (N1+N5+1+1) (N4+N2) (.n 1 N3 0 .z))))) rfl j (aq h) i K F)
def KU(h:a<b)(i:b<=1000)(j:c=b-a)(k:d<=a+1):d+c<=5000:=ar.mp λF=>ik [a,b,c,(b - a),d] [] (.n 1 (N0+1) N1 (.n 2 N1 1000 (.n 1 N2 N3 (.n 1 N4 (N0+1) (.n 1 (5000+1) (N4+N2) (.n 1 N3 N1 .z)))))) rfl h i (aq j) k F (b_ b a)
def KV(h:a<b)(i:c=b-a)(j:d<=a+1):d+c<=b+e+1:=ar.mp λK=>s3 b a (λF F=>ik [c,b,a,(b - a),d,e] [] (.n 1 N0 N3 (.n 1 N4 (N2+1) (.n 1 (N1+N5+1+1) (N4+N0) (.n 1 (N3+N2) N1 .z)))) rfl (aq i) j K F) (λF K=>ik [a,b] [] (.n 1 (N0+1) N1 (.n 1 N1 N0 .z)) rfl h F)
def KW(h:a<=2*b+2)(i:c<=2*b+3):max (a+1) c<=2*b+3:=ar.mp λK=>s5 _ c (λF F=>ik [c,b,a,(max _ c)] [] (.n 1 N0 (2*N1+3) (.n 1 (2*N1+3+1) N3 (.n 1 N3 N0 .z))) rfl i K F) (λF F=>ik [a,b,c,(max _ c)] [] (.n 1 N0 (2*N1+2) (.n 1 (2*N1+3+1) N3 (.n 1 N3 (N0+1) .z))) rfl h K F)
def KX(h:a<=49*b)(i:c<=49):c+a<=49*(b+1):=ar.mp (ik [a,b,c] [] (.n 1 N0 (49*N1) (.n 1 N2 49 (.n 1 (49*(N1+1)+1) (N2+N0) .z))) rfl h i)
def KY(h:a<=49*b):c+a<=49*(b+1)+c:=ar.mp (ik [a,b,c] [] (.n 1 N0 (49*N1) (.n 1 (49*(N1+1)+N2+1) (N2+N0) .z)) rfl h)
def KZ(h:a<=49*b+c)(i:d<=49):d+a<=49*(b+1)+c:=ar.mp (ik [a,b,c,d] [] (.n 1 N0 (49*N1+N2) (.n 1 N3 49 (.n 1 (49*(N1+1)+N2+1) (N3+N0) .z))) rfl h i)
def K0(h:a<=49*17+b)(i:b<=1000*(c+1))(j:c<=3):a<=49*17+1000*4:=ar.mp (ik [a,b,c] [] (.n 1 N0 (49*17+N1) (.n 1 N1 (1000*(N2+1)) (.n 1000 N2 3 (.n 1 (49*17+1000*4+1) N0 .z)))) rfl h i j)
def K1(h:a<=49*17+b)(i:b<=1000*(c+1))(j:d<=9):d+a<=1000*(c+1+1):=ar.mp (ik [a,b,c,d] [] (.n 1 N0 (49*17+N1) (.n 1 N1 (1000*(N2+1)) (.n 1 N3 9 (.n 1 (1000*(N2+1+1)+1) (N3+N0) .z)))) rfl h i j)
def K2(h:a<=b+c+9)(i:b<=49)(j:c<=49):a<=1000*(d+1):=ar.mp (ik [a,b,c,d] [] (.n 1 N0 (N1+N2+9) (.n 1 N1 49 (.n 1 N2 49 (.n 1 (1000*(N3+1)+1) N0 .z)))) rfl h i j)
def zF(h:a+1<=3)(i:b<=2*a+2):b<=30:=ar.mp (ik [a,b] [] (.n 2 (N0+1) 3 (.n 1 N1 (2*N0+2) (.n 1 (30+1) N1 .z))) rfl h i)
def zG(h:a<=41):a<=1000*(b+1):=ar.mp (ik [a,b] [] (.n 1 N0 41 (.n 1 (1000*(N1+1)+1) N0 .z)) rfl h)
def K3(h:a+1<=3)(i:b<=1000*(a+1))(j:c<=49):c+b<100000:=aM.mp (ik [a,b,c] [] (.n 1000 (N0+1) 3 (.n 1 N1 (1000*(N0+1)) (.n 1 N2 49 (.n 1 100000 (N2+N1) .z)))) rfl h i j)
def K4(h:a<=2*b+2)(i:c<=1)(j:d<=a):max (c+1) (max (d+1) 0)<=2*(b+1)+2:=ar.mp λP=>s5 _ 0 (λF K=>ik [d] [] (.n 1 (N0+1) 0 .z) rfl F) (λF F=>s5 _ _ (λK K=>ik [a,b,d,c,(max _ 0),(max ..)] [] (.n 1 N0 (2*N1+2) (.n 1 N2 N0 (.n 1 (2*(N1+1)+2+1) N5 (.n 1 N4 (N2+1) (.n 1 N5 N4 .z))))) rfl h j P F K) (λF F=>ik [c,b,d,(max (d+1) 0),(max ..)] [] (.n 1 N0 1 (.n 1 (2*(N1+1)+2+1) N4 (.n 1 N4 (N0+1) .z))) rfl i P F))
def K5(h:a<=b+c+9)(i:b<=49)(j:c<=1000*(d+1)):a<=1000*(d+1+1):=ar.mp (ik [a,b,c,d] [] (.n 1 N0 (N1+N2+9) (.n 1 N1 49 (.n 1 N2 (1000*(N3+1)) (.n 1 (1000*(N3+1+1)+1) N0 .z)))) rfl h i j)
def K6(h:a+1=b)(i:b<a):False:=(aB h (bf (ui i)))
def K7:aS (max 0 (min a b))=min a b:=b8 (ar.mp λK=>fA _ (λF F=>s4 a b (λP P=>ja 0 _ (λS S=>ik [a,b,(min a b),(aS _)] [(min a b),(max 0 _)] (.n 1 (N2+1) N3 (.i 1 (.c N3) I1 (.n 1 N0 N2 (.i 1 I1 I0 (.i 1 I0 (.c N0) .z))))) rfl K F P S (ue a b)) (λP P=>ik [a,b,(min a b),(aS (max 0 (min a b)))] [(min a b),(max 0 (min a b))] (.n 1 (N2+1) N3 (.i 1 (.c N3) I1 (.i 1 I1 0 .z))) rfl K F P)) (λP P=>ja 0 (min a b) (λS S=>ik [a,b,(min a b),(aS (max 0 (min a b)))] [(min a b),(max 0 (min a b))] (.n 1 (N2+1) N3 (.i 1 (.c N3) I1 (.n 1 N1 N2 (.i 1 I1 I0 (.i 1 I0 (.c N1) .z))))) rfl K F P S (Int.min_le_right a b)) (λP P=>ik [a,b,(min a b),(aS (max 0 (min a b)))] [(min a b),(max 0 (min a b))] (.n 1 (N2+1) N3 (.i 1 (.c N3) I1 (.i 1 I1 0 .z))) rfl K F P))) (λF F=>ik [a,b,(min a b),(aS (max 0 (min a b)))] [(min a b),(max 0 (min a b))] (.n 1 (N2+1) N3 (.n 1 N3 0 .z)) rfl K F)) (ar.mp λF=>fA (max 0 (min a b)) (λK K=>s4 a b (λK K=>gt a b (λK K=>ik [a,b,(aS (max 0 (min a b))),(min a b)] [(min a b),(max 0 (min a b))] (.n 1 (N2+1) N3 (.i 1 (.c N0) I0 (.i 1 I1 (.c N2) (.n 1 N3 N0 (.i 1 I0 I1 .z))))) rfl F K (i' (max 0 (min a b))) (eA a b) (gl 0 (min a b))) (λK K=>ik [a,b,(aS (max 0 (min a b))),(min a b)] [(min a b),(max 0 (min a b))] (.n 1 (N2+1) N3 (.i 1 (.c N1) I0 (.i 1 I1 (.c N2) (.n 1 N3 N1 (.i 1 I0 I1 .z))))) rfl F K (i' (max 0 (min a b))) (eY a b) (gl 0 (min a b)))) (λK K=>gt a b (λK K=>ik [a,b,(aS (max 0 (min a b))),(min a b)] [(min a b),(max 0 (min a b))] (.n 1 (N2+1) N3 (.i 1 (.c N0) I0 (.i 1 I1 (.c N2) (.n 1 N3 N0 (.i 1 I0 I1 .z))))) rfl F K (i' (max 0 (min a b))) (eA a b) (gl 0 (min a b))) (λK K=>ik [a,b,(aS (max 0 (min a b))),(min a b)] [(min a b),(max 0 (min a b))] (.n 1 (N2+1) N3 (.i 1 (.c N1) I0 (.i 1 I1 (.c N2) (.n 1 N3 N1 (.i 1 I0 I1 .z))))) rfl F K (i' (max 0 (min a b))) (eY a b) (gl 0 (min a b))))) (λK P=>s4 a b (λP P=>gt a b (λP P=>ik [a,b,(aS (max 0 (min a b))),(min a b)] [(min a b),(max 0 (min a b))] (.n 1 (N2+1) N3 (.i 1 I1 0 (.i 1 (.c N0) I0 (.n 1 N3 N0 (.i 1 I0 I1 .z))))) rfl F K P (eA a b) (gl 0 (min a b))) (λP P=>ik [a,b,(aS (max 0 (min a b))),(min a b)] [(min a b),(max 0 (min a b))] (.n 1 (N2+1) N3 (.i 1 I1 0 (.i 1 (.c N1) I0 (.n 1 N3 N1 (.i 1 I0 I1 .z))))) rfl F K P (eY a b) (gl 0 (min a b)))) (λP P=>gt a b (λP P=>ik [a,b,(aS (max 0 (min a b))),(min a b)] [(min a b),(max 0 (min a b))] (.n 1 (N2+1) N3 (.i 1 I1 0 (.i 1 (.c N0) I0 (.n 1 N3 N0 (.i 1 I0 I1 .z))))) rfl F K P (eA a b) (gl 0 (min a b))) (λP P=>ik [a,b,(aS (max 0 (min a b))),(min a b)] [(min a b),(max 0 (min a b))] (.n 1 (N2+1) N3 (.i 1 I1 0 (.i 1 (.c N1) I0 (.n 1 N3 N1 (.i 1 I0 I1 .z))))) rfl F K P (eY a b) (gl 0 (min a b))))))
def K8{a:Int}(h:a<16):¬15<a:=(kL (Int.le_of_lt_add_one (qn h (by decide))))
def K9:(a+2*((b+1:Nat):Int))=(a+2:Nat)+2*b:=db (aK.mp (ik [a,b] [] (.i 1 ((Ie.c (N0+2))+(Ie.m 2 (.c N1))+1) ((Ie.c N0)+(Ie.m 2 (.c (N1+1)))) .z) rfl)) (aK.mp (ik [a,b] [] (.i 1 ((Ie.c N0)+(Ie.m 2 (.c (N1+1)))+1) ((Ie.c (N0+2))+(Ie.m 2 (.c N1))) .z) rfl))
def K_:(((a:Int)-0-1)/2+1)=((a+1)/2:Nat):=db (aK.mp λF=>ik [a,((a+1) / 2),((a+1) % 2)] [(((a - 0) - 1) / 2),(((a - 0) - 1) % 2)] (.i 2 ((Ie.c N1)+1) (I0+1) (.n 1 (N0+1) (2*N1+N2) (.n 1 (N2+1) 2 (.i 1 ((Ie.m 2 I0)+I1) ((Ie.c N0)-0-1) (.i 1 0 I1 .z))))) rfl F (dm (a+1) 2).1 (gm (a+1) (fv 1)) (q5 ((a - 0) - 1) 2).2 (ye ((a - 0) - 1) (by decide))) (aK.mp λF=>ik [a,((a+1) / 2),((a+1) % 2)] [(((a - 0) - 1) / 2),(((a - 0) - 1) % 2)] (.i 2 (I0+1+1) (.c N1) (.n 1 (2*N1+N2) (N0+1) (.i 1 ((Ie.c N0)-0-1) ((Ie.m 2 I0)+I1) (.i 1 (I1+1) 2 .z)))) rfl F (dm (a+1) 2).2 (q5 ((a - 0) - 1) 2).1 (FP ((a - 0) - 1) (by decide:(0:Int) <2)))
def K'(h:¬0<(a:Int)):0=(((a+1)/2:Nat):Int):=db (aK.mp (ik [a,((a+1) / 2)] [] (.i 1 ((Ie.c N1)+1) 0 .z) rfl)) (aK.mp λF=>ik [a,((a+1) / 2),((a+1) % 2)] [] (.i 1 (.c N0) 0 (.i 2 (0+1) (.c N1) (.n 1 (2*N1+N2) (N0+1) .z))) rfl (aK.mp h) F (dm _ 2).2)
def La{a b:Int}(h:0<=a)(i:0<=b):0<=16*a+b:=aK.mp (ik [] [a,b] (.i 16 0 I0 (.i 1 0 I1 (.i 1 ((Ie.m _ I0)+I1+1) 0 .z))) rfl h i)
def Lb(h:a+2*0=b):b<=a:=(fu (g9 (Eq.symm h) (fN _)))
def zH(h:a+2*(b+1)=c):a<c:=aM.mp (ik [a,b,c] [] (.n 1 (N0+2*(N1+1)) N2 (.n 1 N2 N0 .z)) rfl (aq h))
def zI(h:a+2*(b+1)=c):a+1<c:=aM.mp (ik [a,b,c] [] (.n 1 (N0+2*(N1+1)) N2 (.n 1 N2 (N0+1) .z)) rfl (aq h))
def Lc(h:a+2*(b+1)=c)(i:c<=1000000)(j:d<=a):d<16777216:=aM.mp (ik [a,b,c,d] [] (.n 1 (N0+2*(N1+1)) N2 (.n 1 N2 1000000 (.n 1 N3 N0 (.n 1 16777216 N3 .z)))) rfl (aq h) i j)
def Ld(h:a+2*(b+1)=c):a+2+2*b=c:=b8 (ar.mp (ik [a,b,c] [] (.n 1 (N0+2*(N1+1)) N2 (.n 1 (N2+1) (N0+2+2*N1) .z)) rfl (aq h))) (ar.mp (ik [c,a,b] [] (.n 1 N0 (N1+2*(N2+1)) (.n 1 (N1+2+2*N2+1) N0 .z)) rfl (aq (Eq.symm h))))
def Le(h:a%2=0):0+2*((a+1)/2)=a:=have F:=Nat.mul_div_cancel' (Nat.dvd_of_mod_eq_zero h);(ee _).trans ((cA (λz=>2*((z+1) / 2)) F.symm).trans ((cA _ (Zn (by decide) _ 1)).trans F))
def Lf:((((a% 2):Nat):Int)≠0)↔((a% 2)=1):=⟨λF=>b8 (ar.mp λK=>ik [a,(a% 2)] [] (.n 1 (1+1) N1 (.n 1 (N1+1) 2 .z)) rfl K (gm a (fv 1))) (ar.mp λK=>k6 F (ik [a,(a% 2)] [] (.i 1 ((Ie.c N1)+1) 0 .z) rfl) (ik [a,(a% 2)] [] (.n 1 (N1+1) 1 (.i 1 (0+1) (.c N1) .z)) rfl K)),λF=>λK=>ik [a,(a% 2)] [] (.n 1 1 N1 (.i 1 (.c N1) 0 .z)) rfl (aq (Eq.symm F)) (bz K)⟩
def Lg(h:a<800000)(i:b<=0+3)(j:c<=a+3)(k:d<=c+1):d+(b+1) <10000000:=aM.mp (ik [a,b,c,d] [] (.n 1 (N0+1) 800000 (.n 1 N1 (0+3) (.n 1 N2 (N0+3) (.n 1 N3 (N2+1) (.n 1 10000000 (N3+(N1+1)) .z))))) rfl h i j k)
def Lh(h:a<800000)(i:b<=0+3)(j:c<=a+3)(k:d<=c+1)(l:e<=d+(b+1)):e+(b+1) <10000000:=aM.mp (ik [a,b,c,d,e] [] (.n 1 (N0+1) 800000 (.n 2 N1 (0+3) (.n 1 N2 (N0+3) (.n 1 N3 (N2+1) (.n 1 N4 (N3+(N1+1)) (.n 1 10000000 (N4+(N1+1)) .z)))))) rfl h i j k l)
def Li(h:a+1<=b)(i:a=c)(j:b<=d):c<=d:=ar.mp (ik [a,b,c,d] [] (.n 1 (N0+1) N1 (.n 1 N2 N0 (.n 1 N1 N3 (.n 1 (N3+1) N2 .z)))) rfl h (aq (Eq.symm i)) j)
def Lj(h:a<=b+(c+1)+(c+1))(i:b<=d+1)(j:c<=0+3)(k:d<=e+3):a<=e+20:=ar.mp (ik [a,b,c,d,e] [] (.n 1 N0 (N1+(N2+1)+(N2+1)) (.n 1 N1 (N3+1) (.n 2 N2 (0+3) (.n 1 N3 (N4+3) (.n 1 (N4+20+1) N0 .z))))) rfl h i j k)
def Ll(h:a=32)(i:b<=2000)(j:c<=b)(k:d<=b):c+a+d<=16777216:=ar.mp (ik [a,b,c,d] [] (.n 1 N0 32 (.n 2 N1 2000 (.n 1 N2 N1 (.n 1 N3 N1 (.n 1 (16777216+1) (N2+N0+N3) .z))))) rfl (aq h) i j k)
def Lm(h:a=32)(i:b<=2000)(j:c<=b)(k:d<=b):c+a+d<=5000:=ar.mp (ik [a,b,c,d] [] (.n 1 N0 32 (.n 2 N1 2000 (.n 1 N2 N1 (.n 1 N3 N1 (.n 1 (5000+1) (N2+N0+N3) .z))))) rfl (aq h) i j k)
def Ln:(-16777216)<=(a:Int)-1:=aK.mp (ik [a] [] (.i 1 ((Ie.c N0)-1+1) (.n _) .z) rfl)
def Lo(h:a<=1000000):((a:Int)-1)<=16777216:=aK.mp (ik [a] [] (.n 1 N0 1000000 (.i 1 (16777216+1) ((Ie.c N0)-1) .z)) rfl h)
def Lq:(((a:Int)-1-(-1)-1)/(-(-1))+1)=a:=(cA (·+1) ((yd _).trans (Zl _ 1))).trans (Int.sub_add_cancel a 1)
def Ls:((a:Int)-1+(b:Int)*(-1))=a-1-b:=db (aK.mp (ik [a,b] [] (.i 1 ((Ie.c N0)-1-(Ie.c N1)+1) ((Ie.c N0)-1+(Ie.r (.c N1) _)) .z) rfl)) (aK.mp (ik [a,b] [] (.i 1 ((Ie.c N0)-1+(Ie.r (.c N1) _)+1) ((Ie.c N0)-1-(Ie.c N1)) .z) rfl))
def Lu(h:a<b)(i:b<=1000)(j:c=a):c+(0+1)<=16777216:=(iY (bc (g9 j h) (ak i (by decide))))
def Lv(h:a<b)(i:b<=1000)(j:c=b-(a+1))(k:d=a):d+(0+1)+c<=16777216:=ar.mp λF=>ik [a,b,c,(b - (a+1)),d] [] (.n 1 (N0+1) N1 (.n 2 N1 1000 (.n 1 N2 N3 (.n 1 N4 N0 (.n 1 (16777216+1) (N4+(0+1)+N2) (.n 1 N3 N1 .z)))))) rfl h i (aq j) (aq k) F (b_ b _)
def Lw(j:a<b)(h:c=b-(a+1))(i:d=a):d+(0+1)+c=b:=b8 (ar.mp λK=>s3 b _ (λF F=>ik [c,b,a,(b - (a+1)),d] [] (.n 1 N0 N3 (.n 1 N4 N2 (.n 1 (N1+1) (N4+(0+1)+N0) (.n 1 (N3+(N2+1)) N1 .z)))) rfl (aq h) (aq i) K F) (λF F=>ik [a,b,c,(b - (a+1)),d] [] (.n 1 (N0+1) N1 (.n 1 N2 N3 (.n 1 N4 N0 (.n 1 (N1+1) (N4+(0+1)+N2) (.n 1 N3 0 .z))))) rfl j (aq h) (aq i) K F)) (ar.mp λF=>ik [b,a,(b - (a+1)),c,d] [] (.n 1 N2 N3 (.n 1 N1 N4 (.n 1 (N4+(0+1)+N3+1) N0 (.n 1 N0 (N2+(N1+1)) .z)))) rfl (aq (Eq.symm h)) (aq (Eq.symm i)) F (s1 b _))
def Lx(h:a<800000)(i:b<c)(j:c<=1000):a+2*b<1000000:=aM.mp (ik [a,b,c] [] (.n 1 (N0+1) 800000 (.n 2 (N1+1) N2 (.n 2 N2 1000 (.n 1 1000000 (N0+2*N1) .z)))) rfl h i j)
def Ly(h:0<a)(i:a+b<=c):c=c-1+1:=b8 (ar.mp λF=>ik [c,(c - 1)] [] (.n 1 (N1+1+1) N0 (.n 1 N0 (N1+1) .z)) rfl F (s1 c 1)) (ar.mp λK=>s3 c 1 (λF F=>ik [c,(c - 1)] [] (.n 1 (N0+1) (N1+1) (.n 1 (N1+1) N0 .z)) rfl K F) (λF F=>ik [a,b,c,(c - 1)] [] (.n 1 (0+1) N0 (.n 1 (N0+N1) N2 (.n 1 (N2+1) (N3+1) (.n 1 N3 0 .z)))) rfl h i K F))
def Lz(h:0<a)(i:a+b<=c+1):b<=c:=ar.mp (ik [a,b,c] [] (.n 1 (0+1) N0 (.n 1 (N0+N1) (N2+1) (.n 1 (N2+1) N1 .z))) rfl h i)
def LB(h:0<a)(i:b<=a*(c+1)):1+b<=a*(c+1+1):=ak (ec h i) (aq (cR a _))
def LC(h:0<a)(i:b*(c+1)<=a*(c+1))(j:d<=b*(c+1)):1+d<=a*(c+1+1):=ak (ec h (ak j i)) (aq (cR a _))
def LD(h:a+b+c<2^31):a+(b+c) <2^31:=aM.mp (ik [a,b,c] [] (.n 1 (N0+N1+N2+1) (Ne.n _) (.n 1 (Ne.n _) (N0+(N1+N2)) .z)) rfl h)
def LF(h:a<500000)(i:b<=c*65)(j:c<=10):a+b<10000000:=aM.mp (ik [a,b,c] [] (.n 1 (N0+1) 500000 (.n 1 N1 (N2*65) (.n 65 N2 10 (.n 1 10000000 (N0+N1) .z)))) rfl h i j)
def LG(h:a<500000)(i:b<=a+c)(j:c<=d*65)(k:d<=10):b+(64+2)*c<10000000:=aM.mp (ik [a,b,c,d] [] (.n 1 (N0+1) 500000 (.n 1 N1 (N0+N2) (.n 67 N2 (N3*65) (.n 4355 N3 10 (.n 1 10000000 (N1+(Ne.m _ N2)) .z))))) rfl h i j k)
def LH(h:a<=10)(i:b<500000)(j:c<=a*65)(k:d<=b+c)(l:e<=65)(m:f<=d+(64+1)*c):f+e<10000000:=aM.mp (ik [a,b,c,d,e,f] [] (.n 4290 N0 10 (.n 1 (N1+1) 500000 (.n 66 N2 (N0*65) (.n 1 N3 (N1+N2) (.n 1 N4 65 (.n 1 N5 (N3+(Ne.m _ N2)) (.n 1 10000000 (N5+N4) .z))))))) rfl h i j k l m)
def LJ(h:a<=10)(i:b<=a*65)(j:c<=d+b)(k:e<=65)(l:f<=c+(64+1)*b)(m:g<=f+e):g<=d+50000:=ar.mp (ik [a,b,c,d,e,f,g] [] (.n 4290 N0 10 (.n 66 N1 (N0*65) (.n 1 N2 (N3+N1) (.n 1 N4 65 (.n 1 N5 (N2+(Ne.m _ N1)) (.n 1 N6 (N5+N4) (.n 1 (N3+50000+1) N6 .z))))))) rfl h i j k l m)
def LL(h:a+(b+1) <100):a+(0+1)+b<100:=(di (g1 (aL _) (fu h)))
def LM(h:a+(b+1)*50000<500000)(i:c<=a+50000):c+b*50000<500000:=aT (ak (c9 i _) (aq (mz a b _))) h
def LN(h:a<=b+c*50000)(i:b<=d+50000):a<=d+(c+1)*50000:=ak h (ak (c9 i _) (aq (mz d c _)))
def LO(h:a=b+1):a≠0:=(bf (g6 h (Zo _ (by decide))))
def zJ(h:5<a)(i:a<=b)(j:c=b+1):5<c:=aM.mp (ik [a,b,c] [] (.n 1 (5+1) N0 (.n 1 N0 N1 (.n 1 (N1+1) N2 (.n 1 N2 5 .z)))) rfl h i (aq (Eq.symm j)))
def LP(h:a=b+1):b≠a:=(dB (g6 h (fN _)))
def LQ(h:a<=0+(b+1))(i:b<=650):a+(0+1+1)*50000<500000:=aT (c9 (ak h (ak (aq (ee _)) (dA i))) _) (by decide)
def LR(h:a<=0+(b+1))(i:b<=650)(j:c<=a+(0+1+1)*50000):c<=150000:=ak j (ak (c9 (ak h (ak (aq (ee _)) (dA i))) _) (by decide))
def LU(h:a+b+c+d<2^31)(i:e<=a+b):e+(c+d) <2^31:=aM.mp (ik [a,b,c,d,e] [] (.n 1 (N0+N1+N2+N3+1) (Ne.n _) (.n 1 N4 (N0+N1) (.n 1 (Ne.n _) (N4+(N2+N3)) .z))) rfl h i)
def LV(h:a<200000)(i:b<=65)(j:c<=65):a+b+b+c<2^31:=aM.mp (ik [a,b,c] [] (.n 1 (N0+1) 200000 (.n 2 N1 65 (.n 1 N2 65 (.n 1 (Ne.n _) (N0+N1+N1+N2) .z)))) rfl h i j)
def zL(h:a<=b+c)(i:c<=65):a<=b+100:=ar.mp (ik [a,b,c] [] (.n 1 N0 (N1+N2) (.n 1 N2 65 (.n 1 (N1+100+1) N0 .z))) rfl h i)
def LW(h:a<200000)(i:b<=200)(j:c<=65):a+b+b+c<2^31:=aM.mp (ik [a,b,c] [] (.n 1 (N0+1) 200000 (.n 2 N1 200 (.n 1 N2 65 (.n 1 (Ne.n _) (N0+N1+N1+N2) .z)))) rfl h i j)
def LX(h:a<=b+100)(i:b<=c+200)(j:c<=d+100)(k:d<=150000):a<200000:=aM.mp (ik [a,b,c,d] [] (.n 1 N0 (N1+100) (.n 1 N1 (N2+200) (.n 1 N2 (N3+100) (.n 1 N3 150000 (.n 1 200000 N0 .z))))) rfl h i j k)
def LY(h:a<=b+100)(i:b<=c+200)(j:c<=d+100)(k:d<=150000)(l:e<=a+100000):e<500000:=aM.mp (ik [a,b,c,d,e] [] (.n 1 N0 (N1+100) (.n 1 N1 (N2+200) (.n 1 N2 (N3+100) (.n 1 N3 150000 (.n 1 N4 (N0+100000) (.n 1 500000 N4 .z)))))) rfl h i j k l)
def LZ(h:2*a=0+1):False:=Nat.zero_ne_one ((Nat.mul_mod_right 2 a).symm.trans (cA (· % 2) h))
def L0(h:a+1+b=c)(i:¬b<d-55):¬c<a+1+(d-55):=(ik [a,b,c,d,(d - 55)] [] (.n 1 (N0+1+N1) N2 (.n 1 N4 N1 (.n 1 (N2+1) (N0+1+N4) .z))) rfl (aq h) (ar.mp i))
def L1(h:55<a)(i:min (a-55) b=0)(j:¬b<a-55):False:=s3 a 55 (λF F=>s4 (a - 55) b (λF F=>ik [a,(a - 55),b,(min _ b)] [] (.n 1 (55+1) N0 (.n 1 N3 0 (.n 1 N1 N3 (.n 1 N0 (N1+55) .z)))) rfl h (aq i) F (s1 a _)) (λF F=>ik [a,(a - 55),b,(min _ b)] [] (.n 1 (55+1) N0 (.n 1 N3 0 (.n 1 N1 N2 (.n 1 N2 N3 (.n 1 N0 (N1+55) .z))))) rfl h (aq i) (ar.mp j) F (s1 a _))) (λF K=>ik [a] [] (.n 1 (55+1) N0 (.n 1 N0 55 .z)) rfl h F)
def zM(i:a=128\/a=192)(h:b=a+c):¬b<128:=λF=>dC i (λK=>ik [a,c,b] [] (.n 1 (N0+N1) N2 (.n 1 (N2+1) 128 (.n 1 128 N0 .z))) rfl (aq (Eq.symm h)) F (aq (Eq.symm K))) (λK=>ik [a,c,b] [] (.n 1 (N0+N1) N2 (.n 1 (N2+1) 128 (.n 1 192 N0 .z))) rfl (aq (Eq.symm h)) F (aq (Eq.symm K)))
def L2(h:a+1+b=c)(i:b<d-55+e):c<a+1+(d-55)+e:=aM.mp (ik [c,a,b,d,(d - 55),e] [] (.n 1 N0 (N1+1+N2) (.n 1 (N2+1) (N4+N5) (.n 1 (N1+1+N4+N5) N0 .z))) rfl (aq (Eq.symm h)) i)
def L3(h:a+1+b=c)(i:¬b<d-55+e):¬c<a+1+(d-55)+e:=(ik [a,b,c,d,(d - 55),e] [] (.n 1 (N0+1+N1) N2 (.n 1 (N4+N5) N1 (.n 1 (N2+1) (N0+1+N4+N5) .z))) rfl (aq h) (ar.mp i))
def L4(h:a+1+b=c)(i:¬b<d):¬c<a+1+d:=(ik [a,b,c,d] [] (.n 1 (N0+1+N1) N2 (.n 1 N3 N1 (.n 1 (N2+1) (N0+1+N3) .z))) rfl (aq h) (ar.mp i))
def L5(h:¬a<=b):b+1+(a-(b+1))=a:=(Nat.add_sub_cancel' (iY (kM h)))
def L6(i:0<a)(h:a<=b-c):c+a<=b:=ar.mp λK=>s3 b c (λF F=>ik [a,b,c,(b - c)] [] (.n 1 N0 N3 (.n 1 (N1+1) (N2+N0) (.n 1 (N3+N2) N1 .z))) rfl h K F) (λF F=>ik [a,b,c,(b - c)] [] (.n 1 (0+1) N0 (.n 1 N0 N3 (.n 1 N3 0 .z))) rfl i h F)
def L7(h:0<a)(i:b-c<d+1)(j:a<=b-c):b-(c+a) <d:=aM.mp λK=>s3 b c (λF F=>s3 b _ (λF F=>ik [a,b,c,(b - c),d,(b - (c+a))] [] (.n 1 (0+1) N0 (.n 1 (N3+1) (N4+1) (.n 1 N4 N5 (.n 1 (N5+(N2+N0)) N1 (.n 1 N1 (N3+N2) .z))))) rfl h i K F (s1 b c)) (λF F=>ik [a,b,c,(b - c),d,(b - (c+a))] [] (.n 1 (0+1) N0 (.n 1 (N3+1) (N4+1) (.n 1 N0 N3 (.n 1 N4 N5 (.n 1 N5 0 .z))))) rfl h i j K F)) (λF F=>ik [a,b,c,(b - c)] [] (.n 1 (0+1) N0 (.n 1 N0 N3 (.n 1 N3 0 .z))) rfl h j F)
def L8(h:¬a<=b-c):c+a≠b:=λF=>ik [b,c,(b - c),a] [] (.n 1 (N2+1) N3 (.n 1 (N1+N3) N0 (.n 1 N0 (N2+N1) .z))) rfl (aM.mp h) (aq F) (s1 b c)
def L9(h:¬a<=b-c):¬c+a<b:=λF=>ik [b,c,(b - c),a] [] (.n 1 (N2+1) N3 (.n 1 (N1+N3+1) N0 (.n 1 N0 (N2+N1) .z))) rfl (aM.mp h) F (s1 b c)
def L_(i:0<a+b)(h:a+b<=c-d):d+a+b<=c:=ar.mp λK=>s3 c d (λF F=>ik [a,b,c,d,(c - d)] [] (.n 1 (N0+N1) N4 (.n 1 (N2+1) (N3+N0+N1) (.n 1 (N4+N3) N2 .z))) rfl h K F) (λF F=>ik [a,b,c,d,(c - d)] [] (.n 1 (0+1) (N0+N1) (.n 1 (N0+N1) N4 (.n 1 N4 0 .z))) rfl i h F)
def Ma(h:a+(b+1)=61):a+1+b=61:=b8 (ar.mp (ik [a,b] [] (.n 1 (N0+(N1+1)) 61 (.n 1 (61+1) (N0+1+N1) .z)) rfl (aq h))) (ar.mp (ik [a,b] [] (.n 1 61 (N0+(N1+1)) (.n 1 (N0+1+N1+1) 61 .z)) rfl (aq (Eq.symm h))))
def Mb(h:a+b<=c-d)(i:c<=100000):b+1<1000000:=aM.mp λF=>ik [a,b,c,d,(c - d)] [] (.n 1 (N0+N1) N4 (.n 1 N2 100000 (.n 1 1000000 (N1+1) (.n 1 N4 N2 .z)))) rfl h i F (b_ c d)
def Mc(h:¬a=b):¬b=(a:Int):=λF=>ne2 h (ik [b,a] [] (.i 1 (.c N0) (.c N1) (.n 1 (N1+1) N0 .z)) rfl (bz F)) (ik [a,b] [] (.i 1 (.c N0) (.c N1) (.n 1 (N1+1) N0 .z)) rfl (bz (Eq.symm F)))
def Md(h:a-b=0)(i:b<=a/\b<=c)(j:¬b=a):False:=(aB h (Nat.sub_ne_zero_of_lt (FR i.1 j)))
def Me:a+1+2*b+4=a+2*(b+1)+3:=b8 (ar.mp (ik [a,b] [] (.n 1 (N0+2*(N1+1)+3+1) (N0+1+2*N1+4) .z) rfl)) (ar.mp (ik [a,b] [] (.n 1 (N0+1+2*N1+4+1) (N0+2*(N1+1)+3) .z) rfl))
end
set_option genCtorIdx true in
inductive PV where
 |none |bool (b:Bool) |int (i:Int) |str (s:Str) |bytes (b:List UInt8)
 |tup (a:List PV) |U (a:List PV) |loc (n:Nat)
inductive av where
 |list (c:List PV) |dict (a:List (Int×PV)) |ck (a:List (List Int×PV)) |inst (b:Str) (d:List (Str×PV)) |dead
set_option genCtorIdx true in
inductive Exc where
 |bU |co
structure St where
 loc:List (Option PV)
 objs:List av
def M(a:Type):Type:=St->Option (Except Exc a×St)
noncomputable def rt{b:Type}(a:b):M b:=λF=>D (.ok a,F)
noncomputable def bd{b c:Type}(m:M b)(f:b->M c):M c:=λF=>
 match m F with
 |some (.ok a,st')=>f a st'
 |some (.error x,st')=>D (.error x,st')
 |none=>I
noncomputable def aC{a:Type}:M a:=λF=>I
noncomputable def mL{a:Type}(x:Exc):M a:=λF=>D (.error x,F)
def jM{a:Type}:Option a->M a
 |some a=>rt a
 |none=>aC
noncomputable def aI:Nat:=16777216
noncomputable def jb:PV->Option Int
 |.int i=>D i
 |_=>I
noncomputable def ej:PV->Option (List UInt8)
 |.bytes b=>D b
 |_=>I
noncomputable def k8:PV->Option (List PV)
 |.tup xs=>D xs
 |_=>I
noncomputable def zN:PV->Option Nat
 |.loc n=>D n
 |_=>I
noncomputable def uR:PV->Option Str
 |.str x=>D x
 |_=>I
noncomputable def k9:av->Option (List PV)
 |.list xs=>D xs
 |_=>I
noncomputable def zO:av->Option (List (Int×PV))
 |.dict cp=>D cp
 |_=>I
noncomputable def zP:av->Option (List (List Int×PV))
 |.ck cp=>D cp
 |_=>I
def a_{a b:Type}(v:Option a)(f:a->M b):M b:=match v with
 |some a=>f a
 |none=>aC
def getL(i:Nat):M PV:=λF=>a_ (F.loc[i]?).join rt F
noncomputable def ol(i:Nat)(v:PV):M Unit:=λF=>D (.ok (),{F with loc:=F.loc.set i (D v)})
def d4(a:St):PV->Option (List PV)
 |.U xs=>D xs
 |.loc n=>(a.objs[n]?).bind k9
 |_=>I
def bV(mt:Bool)(a:List PV):M PV:=λF=>
 if a.length<=aI then
  (if mt then D (.ok (.loc F.objs.length),{F with objs:=F.objs++ [.list a]})else D (.ok (.U a),F))
 else I
noncomputable def mkObj(o:av):M PV:=λF=>D (.ok (.loc F.objs.length),{F with objs:=F.objs++ [o]})
def el(a:List PV):M PV:=if a.length<=aI then rt (.tup a)else aC
def mkBytes(a:List UInt8):M PV:=if a.length<=aI then rt (.bytes a)else aC
def k_(h:a.objs[n]?=D (.list b)):d4 a (.loc n)=D b:=by
 show(a.objs[n]?).bind _=_;rw[h];rfl
def jN(h:jb v=D i):v=.int i:=by
 cases v with
 |int=>exact cA _ (aE h)
 |_=>exact z3 h
def mM(h:ej v=D i):v=.bytes i:=by
 cases v with
 |bytes=>exact cA _ (aE h)
 |_=>exact z3 h
def zQ(h:uR v=D i):v=.str i:=by
 cases v with
 |str=>exact cA _ (aE h)
 |_=>exact z3 h
def zT(h:k8 v=D i):v=.tup i:=by
 cases v with
 |tup=>exact cA _ (aE h)
 |_=>exact z3 h
def Mh(h:zN v=D i):v=.loc i:=by
 cases v with
 |loc=>exact cA _ (aE h)
 |_=>exact z3 h
def uS(h:k9 v=D i):v=.list i:=by
 cases v with
 |list=>exact cA _ (aE h)
 |_=>exact z3 h
def Mi(h:zO v=D i):v=.dict i:=by
 cases v with
 |dict=>exact cA _ (aE h)
 |_=>exact z3 h
def Mj(h:zP v=D i):v=.ck i:=by
 cases v with
 |ck=>exact cA _ (aE h)
 |_=>exact z3 h
def cZ{a:Type}(v:PV)(f:Int->M a):M a:=a_ (jb v) f
def onBytes{a:Type}(v:PV)(f:List UInt8->M a):M a:=a_ (ej v) f
def jO{a:Type}(v:PV)(f:List PV->M a):M a:=a_ (k8 v) f
def gu{a:Type}(v:PV)(f:Nat->M a):M a:=a_ (zN v) f
def onStr{a:Type}(v:PV)(f:Str->M a):M a:=a_ (uR v) f
def em{a:Type}(v:PV)(f:List PV->M a):M a:=λF=>a_ (d4 F v) f F
def ia{a:Type}(n:Nat)(f:av->M a):M a:=λF=>a_ F.objs[n]? f F
def om{a:Type}(n:Nat)(f:List (Int×PV)->M a):M a:=ia n λx=>a_ (zO x) f
def uT{a:Type}(n:Nat)(f:List (List Int×PV)->M a):M a:=ia n λx=>a_ (zP x) f
def jP{b c:Type}(l:List b)(f:b->List b->M c):M c:=match l with
 |[]=>aC
 |a::r=>f a r
def gW{b a:Type}(l:List b)(m:M a):M a:=match l with
 |[]=>m
 |_::_=>aC
def dU{b c:Type}(a:List b)(f:b->M c):M c:=jP a λa r=>gW r (f a)
def fU{b c:Type}(a:List b)(f:b->b->M c):M c:=jP a λa r=>dU r (f a)
noncomputable def ib(n:Nat)(o:av):M Unit:=λF=>D (.ok (),{F with objs:=F.objs.set n o})
noncomputable def orM{a:Type}(v:Option a)(f:a->M PV)(d:M PV):M PV:=match v with
 |some a=>f a
 |none=>d
def jc(mt:Bool)(a b:PV):M PV:=λF=>match d4 F a,d4 F b with
 |some x,D y=>bV mt (x++y) F
 |_,_=>I
def lb(mt:Bool)(a:PV)(n:Int):M PV:=λF=>match d4 F a with
 |some x=>if 0<=n/\n<=64/\x.length*n.toNat<=256 then bV mt (bF n.toNat x).flatten F else I
 |none=>I
def Mk(mt:Bool)(a b:PV):M PV:=match a with
 |.int i=>cZ b λj=>rt (.int (i+j))
 |.bytes x=>onBytes b λy=>mkBytes (x++y)
 |.tup x=>jO b λy=>el (x++y)
 |a=>jc mt a b
def mulM(mt:Bool)(a:PV)(n:Int):M PV:=match a with
 |.int i=>if i.natAbs<2^64\/n.natAbs<2^64 then rt (.int (i*n))else aC
 |.tup x=>if x.length=1/\n=16 then rt (.tup (bF n.toNat x).flatten)else aC
 |a=>lb mt a n
def i2{c:Type}(a b:PV)(f:Int->Int->M c):M c:=cZ a λi=>cZ b λj=>f i j
def binop(c:mm)(mt:Bool)(a b:PV):M PV:=match c with
 |.Add=>Mk mt a b
 |.Mult=>cZ b (mulM mt a)
 |.Sub=>i2 a b λi j=>rt (.int (i - j))
 |.FloorDiv=>i2 a b λi j=>if 0<j/\j<2^512 then rt (.int (i / j))else aC
 |.Mod=>i2 a b λi j=>if 0<j then rt (.int (i% j))else aC
 |.Pow=>i2 a b λi j=>if i.natAbs<2^64/\0<=j/\j<=64 then rt (.int (i^j.toNat))else aC
 |.RShift=>i2 a b λi j=>if 0<=i/\i<256/\j=4 then rt (.int (i / 16))else aC
 |.LShift=>i2 a b λi j=>if i=1/\j=64 then rt (.int 18446744073709551616)else aC
 |.BitAnd=>i2 a b λi j=>if 0<=i/\i<256/\j=15 then rt (.int (i% 16))else aC
 |_=>aC
noncomputable def isInt:PV->Bool
 |.int _=>J
 |_=>V
noncomputable def bR{K:Type}[DecidableEq K](a:List (K×PV))(k:K):Option PV:=(a.find? λe=>e.1=k).map (·.2)
noncomputable def c5{K:Type}[DecidableEq K](a:List (K×PV))(k:K)(v:PV):List (K×PV):=
 if a.any (λe=>e.1=k)then a.map (λe=>if e.1=k then(e.1,v)else e)else a++ [(k,v)]
def intsOf:List PV->Option (List Int)
 |[]=>D []
 |v::r=>(jb v).bind λi=>(intsOf r).map (i::·)
noncomputable def isNone:PV->Bool
 |.none=>J
 |_=>V
noncomputable def zU:PV->Option Bool
 |.none=>D J
 |.bytes _=>D V
 |_=>I
noncomputable def zV(x:List UInt8):PV->Option Bool
 |.none=>D V
 |.bytes y=>D (x==y)
 |_=>I
noncomputable def jd{a:Type}[BEq a](x y:Option a):Option Bool:=x.bind λx=>y.bind λy=>D (x==y)
def gX:List PV->Option (List (List UInt8))
 |[]=>D []
 |v::r=>(ej v).bind λb=>(gX r).map (b::·)
def zW(a b:PV):Option Bool:=match a with
 |.none=>zU b
 |.bytes x=>zV x b
 |.int i=>jd (D i) (jb b)
 |.str x=>jd (D x) (uR b)
 |.tup xs=>(k8 b).bind λF=>jd (intsOf xs) (intsOf F)
 |_=>I
def zX(a:List PV)(b:PV)(l:Option (List PV)):Option Bool:=match l with
 |some F=>if a.length=F.length then jd (gX a) (gX F)else D V
 |none=>(ej b).map λF=>V
def lc(c:St)(a b:PV):Option Bool:=match d4 c a with
 |some F=>zX F b (d4 c b)
 |none=>zW a b
def uU(f:Bool->Bool)(a b:PV):M PV:=λF=>a_ (lc F a b) (λc=>rt (.bool (f c))) F
def uV(f:Bool->Bool)(a b:PV):M PV:=match b with
 |.none=>rt (.bool (f (isNone a)))
 |_=>aC
def Ml(i:Int)(b:PV):M PV:=match b with
 |.tup xs=>a_ (intsOf xs) λF=>rt (.bool (!F.contains i))
 |.loc n=>om n λF=>rt (.bool !(bR F i).isSome)
 |_=>aC
def cmp(c:kN)(a b:PV):M PV:=match c with
 |.Eq=>uU id a b
 |.NotEq=>uU not a b
 |.Lt=>i2 a b λi j=>rt (.bool (decide (i<j)))
 |.LtE=>i2 a b λi j=>rt (.bool (decide (i<=j)))
 |.Gt=>i2 a b λi j=>rt (.bool (decide (j<i)))
 |.GtE=>i2 a b λi j=>rt (.bool (decide (j<=i)))
 |.Is=>uV id a b
 |.IsNot=>uV not a b
 |.NotIn=>cZ a λi=>Ml i b
 |.In=>aC
def truth(v:PV):M Bool:=match v with
 |.none=>rt V
 |.bool b=>rt b
 |.int i=>rt (i !=0)
 |.bytes b=>rt (!b.isEmpty)
 |.tup F=>rt (!F.isEmpty)
 |v=>em v λF=>rt (!F.isEmpty)
noncomputable def place(n:Nat)(i:Int):Option Nat:=seqIndex? i n
noncomputable def clip(n:Nat)(i:Int):Nat:=(max 0 (min (if i<0 then i+n else i) n)).toNat
def cut{b:Type}(a:List b)(c d:Option Int):List b:=(a.take (d.elim a.length (clip a.length))).drop (c.elim 0 (clip a.length))
def jQ(a:List PV)(k:Int):M PV:=a_ ((place a.length k).bind (a[·]?)) rt
def Mm(o:PV)(k:Int):M PV:=match o with
 |.tup xs=>jQ xs k
 |.U xs=>jQ xs k
 |.bytes xs=>a_ ((place xs.length k).bind (xs[·]?)) λv=>rt (.int v.toNat)
 |.loc n=>ia n λx=>match x with
  |.list xs=>jQ xs k
  |.dict cp=>a_ (bR cp k) rt
  |_=>aC
 |_=>aC
def item(o i:PV):M PV:=cZ i (Mm o)
def slice(mt:Bool)(o:PV)(a b:Option Int):M PV:=match o with
 |.tup F=>rt (.tup (cut F a b))
 |.bytes F=>rt (.bytes (cut F a b))
 |v=>em v λF=>bV mt (cut F a b)
def reversed(o:PV):M PV:=em o λF=>bV V F.reverse
def Mn(n:Nat)(x:av)(i v:PV):M Unit:=match x with
 |.list F=>cZ i λk=>if 0<=k/\k<F.length then ib n (.list (F.set k.toNat v))else aC
 |.dict cp=>cZ i λk=>if cp.length<aI then ib n (.dict (c5 cp k v))else aC
 |.ck cp=>jO i λF=>a_ (intsOf F) λF=>if cp.length<aI then ib n (.ck (c5 cp F v))else aC
 |_=>aC
def setItem(o i v:PV):M Unit:=gu o λn=>ia n λx=>Mn n x i v
noncomputable def eF(c:Str):Bool:=c=="Trie" ||c=="Numbered"
noncomputable def jR(x:Str):Bool:=x=="digest" ||x=="node" ||x=="known"
def uW{a:Type}(x:av)(f:Str->List (Str×PV)->M a):M a:=match x with
 |.inst c fs=>f c fs
 |_=>aC
def jS(o:PV)(x:Str):M PV:=gu o λn=>ia n λy=>uW y λc F=>if eF c/\jR x then a_ (F.lookup x) rt else aC
noncomputable def oo:List (Str×PV)->Str->PV->List (Str×PV)
 |[],x,v=>[(x,v)]
 |(y,u)::r,x,v=>if y==x then(y,v)::r else(y,u)::oo r x v
def oq(o:PV)(x:Str)(v:PV):M Unit:=gu o λn=>ia n λy=>uW y λc F=>if eF c/\jR x/\F.length<100 then ib n (.inst c (oo F x v))else aC
noncomputable def q7(n:Nat)(l:Option (List PV)):M PV:=match l with
 |some K=>λF=>D (.ok (.U K),{F with objs:=F.objs.set n .dead})
 |none=>rt (.loc n)
def mN(v:PV):M PV:=match v with
 |.loc n=>λF=>q7 n ((F.objs[n]?).bind k9) F
 |v=>rt v
def q8:List PV->M (List PV)
 |[]=>rt []
 |v::r=>bd (mN v) λF=>bd (q8 r) λK=>rt (F::K)
def freeze(v:PV):M PV:=
 match v with
 |.tup xs=>bd (q8 xs) λF=>rt (.tup F)
 |v=>mN v
def q9(v:PV):Option UInt8:=(jb v).bind λi=>if 0<=i/\i<256 then D i.toNat.toUInt8 else I
def bytesOf:List PV->Option (List UInt8)
 |[]=>D []
 |v::r=>(q9 v).bind λb=>(bytesOf r).bind λF=>D (b::F)
noncomputable def d5(b:UInt8):PV:=.int b.toNat
noncomputable def ba(l:List UInt8):Nat:=l.foldl (λa b=>a*256+b.toNat) 0
noncomputable def cT:Nat->Nat->List UInt8
 |0,_=>[]
 |n+1,x=>(x% 256).toUInt8::cT n (x / 256)
noncomputable def ic(x:Nat):Nat:=if x=0 then 0 else x.log2+1
noncomputable def lf(x:List UInt8):List UInt8->Nat->Option Nat
 |[],i=>if x.isPrefixOf []then D i else I
 |l@(_::r),i=>if x.isPrefixOf l then D i else lf x r (i+1)
noncomputable def aY:List Int->List Int->Bool
 |[],[]=>V
 |[],_::_=>J
 |_::_,[]=>V
 |a::as,b::bs=>if a<b then J else if b<a then V else aY as bs
def ou(a:List Int×PV):List (List Int×PV)->List (List Int×PV)
 |[]=>[a]
 |b::r=>if aY a.1 b.1 then a::b::r else b::ou a r
def je:List (List Int×PV)->List (List Int×PV)
 |[]=>[]
 |a::r=>ou a (je r)
noncomputable def isBytes:PV->Bool
 |.bytes _=>J
 |_=>V
noncomputable def ov(e:List Int×PV):PV:=.tup [.tup (e.1.map .int),e.2]
def q_(o:PV):M PV:=gu o λn=>uT n λF=>
 if F.all (λe=>isBytes e.2 && decide (e.1.length<=aI))/\F.length<=3 then rt (.U ((je F).map ov))else aC
inductive It where
 |seq (a:List PV)
def fV(a b c:Int):Option (List PV):=
 if(-16777216<=a/\a<=16777216)/\(-16777216<=b/\b<=16777216)/\(c=1\/c=2\/c= -1)/\(iZ a b c).toNat<=aI then D ((List.range (iZ a b c).toNat).map λ(i:Nat)=>PV.int (a+i*c))else I
noncomputable def jT(a:List PV)(i:Int):List PV:=match a with
 |[]=>[]
 |x::r=>.tup [.int i,x]::jT r (i+1)
set_option genCtorIdx true in
inductive Fl where
 |next |ret (v:PV)
noncomputable def gv:Nat:=1000000
def cB(a:M Bool)(c:M Fl):Nat->M Fl
 |0=>aC
 |n+1=>bd a λb=>if b then bd c λf=>(match f with
   |.next=>cB a c n
   |.ret v=>rt (.ret v))
  else rt .next
noncomputable def c0(a:PV->M Fl):List PV->M Fl
 |[]=>rt .next
 |x::r=>bd (a x) λf=>match f with
  |.next=>c0 a r
  |.ret v=>rt (.ret v)
noncomputable def forM(b:It)(a:PV->M Fl):M Fl:=match b with
 |.seq xs=>c0 a xs
noncomputable def gw(a:PV->M (Option PV)):List PV->List PV->M (List PV)
 |acc,[]=>rt acc
 |acc,x::r=>bd (a x) λo=>match o with
  |some v=>gw a (acc++ [v]) r
  |none=>gw a acc r
noncomputable def dV(b:It)(a:PV->M (Option PV)):M (List PV):=match b with
 |.seq xs=>gw a [] xs
noncomputable def jf(m:M Fl)(x:Exc)(h:M Fl):M Fl:=λF=>
 match m F with
 |some (.error y,st')=>(match x,y with
  |.bU,.bU=>h st'
  |.co,.co=>h st'
  |_,_=>I)
 |r=>r
noncomputable def dp{b:Type}(k:Nat)(m:M b):M b:=λF=>
 match m {F with loc:=bF k I++F.loc} with
 |some (.ok a,st')=>D (.ok a,{st' with loc:=F.loc})
 |_=>I
structure Cx where
 slots:List (Str×kO)
 own:Nat
 scope:d0
noncomputable def zY:kO->Bool
 |.local=>J
 |.cell=>J
 |_=>V
def Cx.ie(a:Cx)(x:Str):Option Nat:=(a.scope.names.lookup x).bind λk=>cond (zY k) (a.slots.findIdx? λe=>e.1==x && e.2==k) I
noncomputable def Mo:kO->Bool
 |.local=>J
 |_=>V
def Cx.fW(a:Cx)(x:Str):Option Nat:=(a.scope.names.lookup x).bind λk=>cond (Mo k ||qr a.own a.slots.length) (a.ie x) I
def mO{b:Type}{v:Option _}{a:b}(h:cond c v I=D a):c=J/\v=D a:=by
 cases c with
 |true=>exact⟨rfl,h⟩
 |false=>exact z3 h
def Mp(h:zY k=J):k=.local\/k=.cell:=by
 cases k with
 |«local»=>exact .inl rfl
 |cell=>exact .inr rfl
 |_=>exact z1 h
def ra{a:Cx}(b:a.fW x=D i):a.ie x=D i:=by
 obtain⟨k,_,e⟩:=b0.mp b;exact(mO e).2
def Mq{a:Cx}(b:a.fW x=D i)(c:a.scope.names.lookup x=D .cell):a.own=a.slots.length:=by
 obtain⟨k,F,e⟩:=b0.mp b;rw[c]at F;rw[<- aE F]at e;exact FS (mO e).1
noncomputable def Cx.bL(a:Cx)(x:Str):Bool:=a.scope.names.lookup x==D .globalImplicit && !(x==("__debug__":Str))
noncomputable def uX(e:Str×kO):Bool:=e.2==.local ||e.2==.cell
def cq(s:d0):Cx:=⟨s.names.filter uX,(s.names.filter uX).length,s⟩
noncomputable def ow(s:d0):d0:={s with names:=s.names.map λ(n,k)=>if k==.free then(n,.cell)else(n,k)}
noncomputable def dJ(s:d0):List (Str×kO):=s.names.filter λe=>e.2==.local && e.1 !=(".0":Str)
def Cx.comp(a:Cx)(s:d0):Cx:=⟨dJ s++a.slots,(dJ s).length,ow s⟩
def mP(a:Cx)(b:d0):Bool:=
 a.own==a.slots.length && !a.slots.isEmpty && a.scope.kind==.function && b.kind==.function && decide (b.names.map (·.1)).Nodup && a.slots.all (λe=>e.1 !=(".0":Str)) &&
  b.names.all λe=>e.2==.local ||e.2==.globalImplicit ||(e.2==.free && a.scope.names.lookup e.1==D .cell && (a.ie e.1).isSome)
noncomputable def rb(x:Str):Option PV:=
 ((([("ODD",.int 1),("LEAF",.int 2),("DEEPEST",.int 60),("OCTETS",.int 128),("LIST",.int 192),("SHORT",.int 55),
  ("LONGEST_KEY",.int 32),("INLINE_BELOW",.int 32),("NOUGHT_trie",.bytes []),("NOUGHT_proof",.bytes []),("DIGEST_SIZE",.int 32),("BRANCH_SIZE",.int 17),
  ("LEAST_ADDRESS",.int 605153021707326989568713251046585937826284568576),("SPREAD",.int 281479271743489),
  ("_law_octets",.tup [.int 0,.int 1,.int 16,.int 17,.int 255]),("_law_sizes",.tup [.int 1,.int 2,.int 26,.int 27,.int 28,.int 29,.int 60]),
  ("_law_signs",.tup [.int 0,.int 1,.int 127,.int 128])]:List (String×PV)).map λe=>(cy e.1,e.2)):List (Str×PV)).lookup x
noncomputable def Mr:List String:=["nibbles_of","shared","packed","unpacked","number_octets","octets_number","head","encoded_at","encoded","read_size","read_head","read_item","decoded",
 "with_kid","put_in_branch","parted","put_in","led_to","settled","taken_out","with_value","step_down","value_at","form_of","node_item","root",
 "proof_of","check_below","check_branch","check_pair","opened","pair_step","branch_step","item_step","proven",
 "_law_draw","_law_key","_law_value","_law_asked","_law_path","_law_node","_law_spelled","_law_read","_law_headed","_law_written","_law_traced","_law_proof","_law_item","_law_whole",
 "_law_may_be","_law_looked","_law_judged","_law_told","_law_turned","_law_other_rows","_law_is_kept","_law_bent_so","_law_below_it","_law_at_will","_law_made_so","law",
 "Trie.__init__","Trie.put","Trie.root","Numbered.__init__","Numbered.number","Numbered.of"]
def zZ:List Str:=Mr.map cy
noncomputable def Ms:List (String×Nat):=[("root_trie",25),("nibbles_of",0),("shared",1),("packed",2),("unpacked",3),("number_octets",4),("octets_number",5),("head",6),("encoded_at",7),("encoded",8),("read_size",9),("read_head",10),("read_item",11),("decoded",12),("with_kid",13),("put_in_branch",14),("parted",15),("put_in",16),("led_to",17),("settled",18),("taken_out",19),("with_value",20),("step_down",21),("value_at",22),("form_of",23),("node_item",24),("root",25),("proof_of",26),("check_below",27),("check_branch",28),("check_pair",29),("opened",30),("pair_step",31),("branch_step",32),("item_step",33),("proven",34),("_law_draw",35),("_law_key",36),("_law_value",37),("_law_asked",38),("_law_path",39),("_law_node",40),("_law_spelled",41),("_law_read",42),("_law_headed",43),("_law_written",44),("_law_traced",45),("_law_proof",46),("_law_item",47),("_law_whole",48),("_law_may_be",49),("_law_looked",50),("_law_judged",51),("_law_told",52),("_law_turned",53),("_law_other_rows",54),("_law_is_kept",55),("_law_bent_so",56),("_law_below_it",57),("_law_at_will",58),("_law_made_so",59),("law",60)]
def rc:List (Str×Nat):=Ms.map λe=>(cy e.1,e.2)
def lg(x:Str):Option Nat:=(rc.find? λe=>e.1==x).map (·.2)
noncomputable def re:List ((Str×Str)×Nat):=[(("Trie","__init__"),61),(("Trie","put"),62),(("Trie","root"),63),(("Numbered","__init__"),64),(("Numbered","number"),65),(("Numbered","of"),66)]
def ig(c m:Str):Option Nat:=(re.find? λe=>e.1.1==c && e.1.2==m).map (·.2)
noncomputable def mQ(p:Pos):Bool:=[(15,12),(31,42),(107,12),(207,12),(240,53),(368,12),(388,39),(417,28),(454,12),(569,70),(575,43),(582,78),(582,82),(574,20),(124,11),(561,12)].contains (p.line,p.col)
 ||(p.line==537 && p.col==11 && p.endCol==68)
noncomputable abbrev Call:=Nat->List PV->List av->Option (Except Exc PV×List av)
noncomputable def gY(F:Call)(f:Option Nat)(a:List PV):M PV:=λK=>
 match f with
 |some f=>(match F f a K.objs with
  |some (r,objs)=>D (r,{K with objs:=objs})
  |none=>I)
 |none=>I
noncomputable def excOf(x:Str):Option Exc:=if x=="TrieFault" then D .bU else if x=="RlpFault" then D .co else I
def uY(a:PV):M PV:=match a with
 |.bytes b=>rt (.int b.length)
 |.tup xs=>rt (.int xs.length)
 |.U xs=>rt (.int xs.length)
 |.loc n=>ia n λx=>match x with
  |.list xs=>rt (.int xs.length)
  |.dict cp=>rt (.int cp.length)
  |_=>aC
 |_=>aC
def uZ(a:PV):M PV:=match a with
 |.tup xs=>rt (.tup xs)
 |v=>em v el
def u0(a:PV):M PV:=match a with
 |.bytes b=>rt (.bytes b)
 |v=>em v λF=>a_ (bytesOf F) mkBytes
def u1(a:PV):M PV:=match a with
 |.bool b=>rt (.int (if b then 1 else 0))
 |_=>aC
def u2(a:PV):M PV:=em a λF=>a_ (intsOf F) λF=>rt (.int F.sum)
def jU(mt:Bool)(f:Str)(a:PV):M PV:=
 if f=="len" then uY a
 else if f=="tuple" then uZ a
 else if f=="list" then jO a (bV mt)
 else if f=="bytes" then u0 a
 else if f=="int" then u1 a
 else if f=="sum" then u2 a
 else aC
def ox(a:PV)(t:Str):M PV:=match a with
 |.none=>if t=="list" then rt (.bool V)else aC
 |.bytes _=>if t=="list" then rt (.bool V)else if t=="bytes" then rt (.bool J)else aC
 |v=>em v λF=>if t=="list" then rt (.bool J)else if t=="bytes" then rt (.bool V)else aC
def app(n:Nat)(f:List PV->Option (List PV)):M PV:=λF=>a_ ((F.objs[n]?).bind k9) (λK=>a_ (f K) λK F=>if K.length<=aI then D (.ok .none,{F with objs:=F.objs.set n (.list K)})else I) F
def Mt(m:Str)(x:av):M (Option Nat):=match x with
 |.list _=>if m=="append" ||m=="extend" ||m=="insert" then rt I else aC
 |.dict _=>if m=="get" ||m=="setdefault" then rt I else aC
 |.ck _=>if m=="get" then rt I else aC
 |.inst c fs=>if eF c/\(fs.lookup m).isNone then a_ (ig c m) λi=>rt (D i)else aC
 |.dead=>aC
def eo(m:Str)(o:PV):M (Option Nat):=match o with
 |.int _=>if m=="bit_length" ||m=="to_bytes" then rt I else aC
 |.bytes _=>if m=="find" ||m=="join" then rt I else aC
 |.loc n=>ia n (Mt m)
 |_=>aC
def z8(i:Int)(a b:PV):M PV:=cZ a λk=>onStr b λe=>if 0<=i/\0<=k/\k<=64/\i<256^k.toNat then
  (if e=="big" then rt (.bytes (cT k.toNat i.toNat).reverse)else if e=="little" then rt (.bytes (cT k.toNat i.toNat))else aC)else aC
def getM(n:Nat)(k d:PV):M PV:=match k with
 |.int k=>om n λF=>orM (bR F k) mN (rt d)
 |.tup xs=>uT n λF=>a_ (intsOf xs) λK=>orM (bR F K) rt (rt d)
 |_=>aC
def z_(n:Nat)(k:Int)(d:PV):M PV:=om n λF=>if F.length<aI then orM (bR F k) rt (λK=>D (.ok d,{K with objs:=K.objs.set n (.dict (c5 F k d))}))else aC
def fB(b x:List UInt8):Int:=match lf x b 0 with
 |some i=>(i:Int)
 |none=>-1
def method(m:Str)(o:PV)(c:List PV):M PV:=
 if m=="append" then gu o λn=>dU c λv=>app n λF=>D (F++ [v])
 else if m=="extend" then gu o λn=>dU c λv=>em v λK=>app n λF=>D (F++K)
 else if m=="insert" then gu o λn=>fU c λz v=>cZ z λi=>if i=0 then app n λF=>D (v::F)else aC
 else if m=="bit_length" then cZ o λi=>if 0<=i/\c=[]then rt (.int (ic i.toNat))else aC
 else if m=="to_bytes" then cZ o λi=>fU c (z8 i)
 else if m=="find" then onBytes o λb=>dU c λa=>onBytes a λx=>rt (.int (fB b x))
 else if m=="join" then onBytes o λb=>dU c λv=>if b=[]then em v λF=>a_ (gX F) λF=>mkBytes F.flatten else aC
 else if m=="get" then gu o λn=>fU c (getM n)
 else if m=="setdefault" then gu o λn=>fU c λk d=>cZ k λk=>z_ n k d
 else aC
def fromBytes(b e:PV):M PV:=onBytes b λb=>onStr e λe=>if e=="big"/\b.length<=1048576 then rt (.int (ba b))else aC
def z'(a b:PV):M PV:=i2 a b λi j=>rt (.int (if j<i then j else i))
def Aa(o:PV)(r:PV):M PV:=match r with
 |.none=>rt o
 |_=>aC
def oy(F:Call)(c:Str)(a:List PV):M PV:=
 bd (mkObj (.inst c [])) λo=>bd (gY F (ig c "__init__") (o::a)) (Aa o)
def u3(n:Nat)(v:PV):M (List PV):=jO v λF=>if F.length=n then rt F else aC
noncomputable def mR:Option PV->Option (Option Int)
 |none=>D I
 |some (.int i)=>D (D i)
 |some _=>I
noncomputable def u4(f:Str):Bool:=f=="len" ||f=="tuple" ||f=="list" ||f=="bytes" ||f=="int" ||f=="sum" ||f=="min"
inductive Vw where
 |const (c:mn) (k:Nat) (p:Pos)
 |name (x:Str) (p:Pos)
 |bin (l:aA) (a:mm) (r:aA) (p:Pos)
 |un (a:UnaryOp) (x:aA) (p:Pos)
 |bools (a:mo) (d:List aA) (p:Pos)
 |fC (t b o:aA) (p:Pos)
 |gx (l:aA) (g:List kN) (m:List aA) (p:Pos)
 |tup (h:List aA) (k:Nat) (p:Pos)
 |lst (h:List aA) (p:Pos)
 |dict (j:List (Option aA)) (d:List aA) (p:Pos)
 |attr (o:aA) (x:Str) (p:Pos)
 |sub (o i:aA) (p:Pos)
 |comp (e:aA) (n:List yg) (q:d0) (p:Pos)
 |call (f:aA) (s:List aA) (j:List Keyword) (p:Pos)
 |slice (u v w:Option aA) (p:Pos)
 |star (x:aA) (p:Pos)
 |no
noncomputable def view:aA->Vw
 |.Constant c k p=>.const c k p
 |.Name x p=>.name x p
 |.BinOp l op r p=>.bin l op r p
 |.UnaryOp op x p=>.un op x p
 |.BoolOp op vs p=>.bools op vs p
 |.IfExp t b o p=>.fC t b o p
 |.Compare l ops rs p=>.gx l ops rs p
 |.Tuple es k p=>.tup es k p
 |.List es p=>.lst es p
 |.Dict ks vs p=>.dict ks vs p
 |.Attribute o x p=>.attr o x p
 |.Subscript o i p=>.sub o i p
 |.ListComp e gs sc p=>.comp e gs sc p
 |.Call f as ks p=>.call f as ks p
 |.Slice lo hi st p=>.slice lo hi st p
 |.Starred x p=>.star x p
 |_=>.no
noncomputable def rf:Vw->aA
 |.const c k p=>.Constant c k p
 |.name x p=>.Name x p
 |.bin l op r p=>.BinOp l op r p
 |.un op x p=>.UnaryOp op x p
 |.bools op vs p=>.BoolOp op vs p
 |.fC t b o p=>.IfExp t b o p
 |.gx l ops rs p=>.Compare l ops rs p
 |.tup es k p=>.Tuple es k p
 |.lst es p=>.List es p
 |.dict ks vs p=>.Dict ks vs p
 |.attr o x p=>.Attribute o x p
 |.sub o i p=>.Subscript o i p
 |.comp e gs sc p=>.ListComp e gs sc p
 |.call f as ks p=>.Call f as ks p
 |.slice lo hi st p=>.Slice lo hi st p
 |.star x p=>.Starred x p
 |.no=>.Await (.Name "" default) default
def Mu:∀e:aA,view e=.no\/rf (view e)=e:=λe=>by cases e <;> first |exact .inr rfl |exact .inl rfl
noncomputable def rg{b:Type}(l:List b):Option b:=match l with
 |[]=>I
 |a::r=>match r with
  |[]=>D a
  |_::_=>I
noncomputable def Ab:Vw->Option Str
 |.name x _=>D x
 |_=>I
noncomputable def Ad:Vw->Option mn
 |.const c _ _=>D c
 |_=>I
def gy(e:aA):Option Str:=Ab (view e)
def constOf(e:aA):Option mn:=Ad (view e)
def ns{a:Type}{x:a}(h:I=D x):False:=nomatch h
def rh(h:view e=v)(n:rf v≠rf .no):e=rf v:=by
 subst h;rcases Mu e with q |q
 .rw[q]at n;exact aB rfl n
 .exact q.symm
def Mv(h:Ab v=D x):∃p,v=.name x p:=by
 cases v with
 |name y p=>exact⟨p,cA (Vw.name · p) (aE h)⟩
 |_=>exact z3 h
def Mw(h:Ad v=D c):∃k p,v=.const c k p:=by
 cases v with
 |const y k p=>exact⟨k,p,cA (Vw.const · k p) (aE h)⟩
 |_=>exact z3 h
def lh(h:gy e=D x):∃p,e=.Name x p:=by
 obtain⟨p,e⟩:=Mv h;exact⟨p,rh e nofun⟩
def u5(h:constOf e=D c):∃k p,e=.Constant c k p:=by
 obtain⟨k,p,e⟩:=Mw h;exact⟨k,p,rh e nofun⟩
def u6(h:rg l=D a):l=[a]:=by
 cases l with
 |nil=>exact z3 h
 |cons b r=>
  cases r with
  |nil=>exact cA (λa=>[a]) (aE h)
  |cons=>exact z3 h
def jg(e:aA):Bool:=match view e with
 |.call f _ _ _=>gy f==D "enumerate"
 |_=>V
noncomputable def Ae(e:aA):Option (List aA):=match view e with
 |.tup vs _ _=>D vs
 |_=>I
noncomputable def ii(e:aA):Bool:=(Ae e).isSome
noncomputable def u7(e:aA):Bool:=match view e with
 |.comp _ _ _ _=>J
 |_=>V
noncomputable def oz(t e:aA):Bool:=ii t && ((Ae e).map λF=>F.all (constantsAlone 8) && !F.all (foldedForSure 8)).getD V
def isCall(e:aA):Bool:=match view e with
 |.call f _ _ _=>(gy f).isSome
 |_=>V
noncomputable def isStar(e:aA):Bool:=match view e with
 |.star _ _=>J
 |_=>V
noncomputable def Af:mn->Bool
 |.int i=>i==1
 |_=>V
def Ag(e:aA):Bool:=match view e with
 |.un op x _=>op==.USub && ((constOf x).map Af).getD V
 |_=>V
noncomputable def ri:Vw->Option (aA×List aA×List Keyword×Pos)
 |.call f as ks p=>D (f,as,ks,p)
 |_=>I
noncomputable def u8:Vw->Option (aA×Str×Pos)
 |.attr o m p=>D (o,m,p)
 |_=>I
def Mx(h:ri v=D (f,a,b,p)):v=.call f a b p:=by
 cases v with
 |call F F F F=>exact cA (λq:aA×List _×List _×Pos=>Vw.call q.1 q.2.1 q.2.2.1 q.2.2.2) (aE h)
 |_=>exact z3 h
def Ah(h:ri (view e)=D (f,a,b,p)):e=.Call f a b p:=rh (Mx h) nofun
def My(h:u8 v=D (o,m,p)):v=.attr o m p:=by
 cases v with
 |attr F F F=>exact cA (λq:aA×Str×Pos=>Vw.attr q.1 q.2.1 q.2.2) (aE h)
 |_=>exact z3 h
def Mz(h:u8 (view e)=D (o,m,p)):e=.Attribute o m p:=rh (My h) nofun
def u9(a b:Option aA)(x:aA):Bool:=a.isNone && b.isNone && Ag x
def itemsOf(e:aA):Option aA:=(ri (view e)).bind λc=>(u8 (view c.1)).bind λa=>
 if(gy a.1).isSome && c.2.1.isEmpty && c.2.2.1.isEmpty && a.2.1=="items" && a.2.2.endLine==c.2.2.2.line then D a.1 else I
def u_(o:aA)(m:Str):Bool:=gy o==D "int" && m=="from_bytes"
def va(t:aA)(a:mm):Option Str:=if a==.Add then gy t else I
noncomputable def MA:mn->Bool
 |.str _=>J
 |_=>V
noncomputable def MB:mn->Bool
 |.none=>J
 |_=>V
def raise1(e:aA):Option Str:=(ri (view e)).bind λc=>if c.2.2.1.isEmpty && (((rg c.2.1).bind constOf).map MA).getD V then gy c.1 else I
def oB(e c:Option aA):Option Str:=if c.isNone then e.bind raise1 else I
noncomputable def MC:cP->Option (Option aA×Option aA)
 |.Raise e c _=>D (e,c)
 |_=>I
noncomputable def MD:cP->Option (Option aA)
 |.Return e _=>D e
 |_=>I
def rj(s:cP):Option (Option Str):=match MC s with
 |some (e,c)=>(oB e c).map D
 |none=>(MD s).bind λe=>if((e.bind constOf).map MB).getD V then D I else I
def ME(h:FT):Option (Str×Option Str):=match h with
 |.ExceptHandler t n b _=>if n.isNone then(t.bind gy).bind λc=>((rg b).bind rj).map λr=>(c,r)else I
def rk(a:List FT)(o f:List cP):Option (Str×Option Str):=if o.isEmpty && f.isEmpty then(rg a).bind ME else I
def MF(c:mn):M PV:=match c with
 |.none=>rt .none
 |.bool b=>rt (.bool b)
 |.int i=>rt (.int i)
 |.str s=>rt (.str s)
 |.bytes b=>mkBytes b
 |_=>aC
def MG(a:Cx)(x:Str):M PV:=if x==("__debug__":Str)then aC else match a.ie x with
 |some i=>getL i
 |none=>if a.bL x then jM (rb x)else aC
def vb(a:PV):M PV:=cZ a λi=>rt (.int (-i))
def er(v:PV)(l h:Option PV):M PV:=a_ (mR l) λl=>a_ (mR h) λh=>slice V v l h
def rl(a:List PV):M PV:=fU a fromBytes
def vc(F:Call)(m:Str)(o:PV)(a:List PV)(f:Option Nat):M PV:=match f with
 |some i=>gY F (D i) (o::a)
 |none=>method m o a
def et(mt:Bool)(f:Str)(a:List PV):M PV:=if f=="min" then fU a z' else dU a (jU mt f)
def jV(a:List PV):M It:=jP a λa r=>cZ a λa=>match r with
 |[]=>jM ((fV 0 a 1).map .seq)
 |b::r=>dU r λc=>cZ b λb=>cZ c λc=>jM ((fV a b c).map .seq)
def MH(v:PV):M It:=match v with
 |.tup xs=>rt (.seq (jT xs 0))
 |.U xs=>rt (.seq (jT xs 0))
 |_=>aC
def vd(a:List PV):M It:=dU a MH
def oC(v:PV):M It:=match v with
 |.tup xs=>rt (.seq xs)
 |.U xs=>rt (.seq xs)
 |.bytes b=>rt (.seq (b.map d5))
 |_=>aC
def ve(i:Nat)(a b:PV):M Fl:=i2 a b λa b=>bd (ol i (.int (a+b))) λF=>rt .next
def mS(a:aA->M PV)(b:Option aA->M (Option PV))(o i:aA):M PV:=match view i with
 |.slice lo hi st _=>(match st with
  |none=>bd (a o) λv=>bd (b lo) λl=>bd (b hi) λh=>er v l h
  |some x=>if u9 lo hi x then bd (a o) reversed else aC)
 |_=>bd (a o) λv=>bd (a i) λj=>item v j
def Ai(b:aA->M PV)(c:Cx)(a:List aA):M PV:=fU a λe t=>a_ (gy t) λt=>
 if c.bL t/\(t=="list"\/t=="bytes")/\isStar e=V then bd (b e) λv=>ox v t else aC
def rm(F:Call)(d:aA->M PV)(b:List aA->M (List PV))(g:Cx)(f:Str)(a:List aA)(c:Pos):M PV:=
 if g.bL f then(match lg f with
  |some i=>bd (b a) λK=>gY F (D i) K
  |none=>if f=="isinstance" then Ai d g a
   else if f=="sorted" then dU a λe=>a_ (itemsOf e) λo=>bd (d o) q_
   else if f=="Trie"\/f=="Numbered" then bd (b a) λK=>oy F f K
   else if u4 f then bd (b a) λK=>et (mQ c) f K
   else aC)
 else aC
def rn(F:Call)(d:aA->M PV)(c:List aA->M (List PV))(f:Cx)(o:aA)(m:Str)(g:Pos)(a:List aA)(b:Pos):M PV:=
 if(g.endLine==b.line)=V then aC
 else if u_ o m then(if f.bL "int" then bd (c a) rl else aC)
 else if isCall o=V then bd (d o) λo=>bd (eo m o) λf=>bd (c a) λK=>vc F m o K f else aC
noncomputable def rp(a:mo)(b:Bool):Bool:=match a with
 |.And=>!b
 |.Or=>b
mutual
noncomputable def den(F:Call):Nat->Cx->aA->M PV
 |0,_,_=>aC
 |k+1,cx,e=>match view e with
  |.const c _ _=>MF c
  |.name x _=>MG cx x
  |.bin l K r pos=>bd (den F k cx l) λa=>bd (den F k cx r) λb=>binop K (mQ pos) a b
  |.un K x _=>if K==.USub then bd (den F k cx x) vb else aC
  |.bools K P _=>jP P λa S=>bd (den F k cx a) λv=>li F k cx K v S
  |.fC t b o _=>bd (dK F k cx t) λc=>if c then den F k cx b else den F k cx o
  |.gx l ops rs _=>dU ops λK=>dU rs λr=>if FU K r=V then bd (den F k cx l) λa=>bd (den F k cx r) λb=>cmp K a b else aC
  |.tup es _ _=>bd (cr F k cx es) el
  |.lst es pos=>bd (cr F k cx es) λP=>bV (mQ pos) P
  |.dict ks P pos=>gW ks (gW P (mkObj (if pos.line==575 then .ck []else .dict [])))
  |.attr o x _=>if isCall o=V then bd (den F k cx o) λv=>jS v x else aC
  |.sub o i _=>mS (den F k cx) (jh F k cx) o i
  |.comp elt gs sc _=>dU gs λg=>if mP cx sc=V\/jg g.iter=J\/g.is_async≠0 then aC else bd (fX F k cx g.iter) λK=>
    bd (dp (dJ sc).length (dV K λx=>bd (d6 F k (cx.comp sc) g.target x) λK=>bd (lj F k (cx.comp sc) g.ifs) λc=>
     if c then bd (den F k (cx.comp sc) elt) λv=>rt (D v)else rt I)) λK=>bV V K
  |.call f args ks pos=>gW ks (match view f with
   |.name f _=>rm F (den F k cx) (cr F k cx) cx f args pos
   |.attr o m ap=>rn F (den F k cx) (cr F k cx) cx o m ap args pos
   |_=>aC)
  |_=>aC
noncomputable def li(F:Call):Nat->Cx->mo->PV->List aA->M PV
 |0,_,_,_,_=>aC
 |_+1,_,_,v,[]=>rt v
 |k+1,cx,op,v,e::es=>bd (truth v) λt=>if rp op t then rt v else bd (den F k cx e) λw=>li F k cx op w es
noncomputable def dK(F:Call):Nat->Cx->aA->M Bool
 |0,_,_=>aC
 |k+1,cx,e=>match view e with
  |.un op x _=>if op==.Not then bd (dK F k cx x) λb=>rt (!b)else bd (den F k cx e) truth
  |.bools op vs _=>mT F k cx op vs
  |.fC t b o _=>bd (dK F k cx t) λc=>if c then dK F k cx b else dK F k cx o
  |_=>bd (den F k cx e) truth
noncomputable def mT(F:Call):Nat->Cx->mo->List aA->M Bool
 |0,_,_,_=>aC
 |_+1,_,op,[]=>rt (op==.And)
 |k+1,cx,op,e::es=>bd (dK F k cx e) λb=>if rp op b then rt b else mT F k cx op es
noncomputable def lj(F:Call):Nat->Cx->List aA->M Bool
 |0,_,_=>aC
 |_+1,_,[]=>rt J
 |k+1,cx,e::es=>bd (dK F k cx e) λb=>if b then lj F k cx es else rt V
noncomputable def cr(F:Call):Nat->Cx->List aA->M (List PV)
 |0,_,_=>aC
 |_+1,_,[]=>rt []
 |k+1,cx,e::es=>if(e::es).any isStar\/30<=(e::es).length then aC else bd (den F k cx e) λv=>bd (cr F k cx es) λF=>rt (v::F)
noncomputable def jh(F:Call):Nat->Cx->Option aA->M (Option PV)
 |0,_,_=>aC
 |_+1,_,I=>rt I
 |k+1,cx,D e=>bd (den F k cx e) λv=>rt (D v)
noncomputable def fX(F:Call):Nat->Cx->aA->M It
 |0,_,_=>aC
 |k+1,cx,e=>match view e with
  |.call f args ks _=>gW ks (a_ (gy f) λf=>if cx.bL f/\f=="range" then bd (cr F k cx args) jV
    else if cx.bL f/\f=="enumerate" then bd (cr F k cx args) vd
    else aC)
  |_=>bd (den F k cx e) oC
noncomputable def d6(F:Call):Nat->Cx->aA->PV->M Unit
 |0,_,_,_=>aC
 |k+1,cx,t,v=>match view t with
  |.name x _=>a_ (cx.fW x) λi=>ol i v
  |.tup ts _ _=>if ts.any isStar then aC else bd (u3 ts.length v) λK=>ji F k cx ts K
  |.sub o i _=>bd (den F k cx o) λK=>bd (den F k cx i) λP=>setItem K P v
  |.attr o x _=>bd (den F k cx o) λK=>oq K x v
  |_=>aC
noncomputable def ji(F:Call):Nat->Cx->List aA->List PV->M Unit
 |0,_,_,_=>aC
 |k+1,cx,t::ts,K=>jP K λv K=>bd (d6 F k cx t v) λP=>ji F k cx ts K
 |_+1,_,[],K=>gW K (rt ())
end
def tryD(m:M Fl)(a:Cx)(c:Str)(r:Option Str):M Fl:=match r with
 |some F=>if a.bL c && a.bL F && c=="RlpFault" && F=="TrieFault" then jf m .co (mL .bU)else aC
 |none=>if a.bL c && c=="TrieFault" then jf m .bU (rt (.ret .none))else aC
mutual
noncomputable def ll(F:Call):Nat->Cx->cP->M Fl
 |0,_,_=>aC
 |k+1,cx,s=>match s with
  |.Expr e _=>if u7 e then aC else bd (den F k cx e) λK=>rt .next
  |.Return e _=>a_ e λe=>bd (den F k cx e) λv=>bd (freeze v) λw=>rt (.ret w)
  |.Assign ts e _=>dU ts λt=>if oz t e ||isStar t then aC else bd (den F k cx e) λv=>bd (d6 F k cx t v) λK=>rt .next
  |.AugAssign t op e _=>a_ (va t op) λx=>a_ (cx.fW x) λi=>bd (getL i) λa=>bd (den F k cx e) λb=>ve i a b
  |.If t b o _=>bd (dK F k cx t) λc=>if c then bW F k cx b else bW F k cx o
  |.While t b o _=>gW o (cB (dK F k cx t) (bW F k cx b) gv)
  |.For t it b o _=>gW o (if jg it=J/\ii t=V then aC else bd (fX F k cx it) λP=>forM P λx=>bd (d6 F k cx t x) λK=>bW F k cx b)
  |.Raise e c _=>a_ (oB e c) λc=>if cx.bL c then a_ (excOf c) mL else aC
  |.Try b hs o f _=>a_ (rk hs o f) λr=>tryD (bW F k cx b) cx r.1 r.2
  |_=>aC
noncomputable def bW(F:Call):Nat->Cx->List cP->M Fl
 |0,_,_=>aC
 |_+1,_,[]=>rt .next
 |k+1,cx,s::r=>bd (ll F k cx s) λf=>match f with
  |.next=>bW F k cx r
  |.ret v=>rt (.ret v)
end
structure d7 where
 params:List Str
 body:List cP
 scope:d0
noncomputable def MI:cP->Option (Str×d7)
 |.FunctionDef n a b _ _ _ sc _ _ _=>D (n,⟨a.args.map (·.arg),b,sc⟩)
 |_=>I
def rq(c:Str):List cP->List (Str×d7)
 |[]=>[]
 |.FunctionDef n a b _ _ _ sc _ _ _::r=>(c++n,⟨a.args.map (·.arg),b,sc⟩)::rq c r
 |.ClassDef n _ _ b _ _ _ _ _ _ _::r=>b.filterMap (λs=>(MI s).map λe=>(n++"."++e.1,e.2))++rq c r
 |_::r=>rq c r
def MJ:List (Str×d7):=rq "" abD.main.body
def fnAt(i:Nat):Option d7:=match zZ[i]? with
 |some n=>MJ.lookup n
 |none=>I
def ij(i:Nat):Bool:=match zZ[i]? with
 |some n=>!(["form_of","node_item","root","proof_of","opened","proven","_law_draw","_law_key","_law_value","_law_asked","_law_traced","_law_proof","_law_judged","_law_told","_law_turned","_law_other_rows",
   "_law_is_kept","_law_bent_so","_law_below_it","_law_at_will","_law_made_so","law","Trie.__init__","Trie.put","Trie.root","Numbered.__init__","Numbered.number","Numbered.of"]:List String).any (λs=>cy s==n)
 |none=>V
mutual
noncomputable def aO:PV->Bool
 |.loc _=>V
 |.tup xs=>bX xs
 |.U xs=>bX xs
 |_=>J
noncomputable def bX:List PV->Bool
 |[]=>J
 |x::r=>aO x && bX r
end
noncomputable def e_(b:Cx)(c:List Str)(a:List PV):List (Option PV):=b.slots.map λe=>(c.zip a).lookup e.1
def gZ(F:Call)(c:d7)(a:List PV)(b:List av):Option (Except Exc PV×List av):=
 match bW F 64 (cq c.scope) c.body ⟨e_ (cq c.scope) c.params a,b⟩with
 |some (.ok (.ret v),st)=>D (.ok v,st.objs)
 |some (.ok .next,st)=>D (.ok .none,st.objs)
 |some (.error x,st)=>D (.error x,st.objs)
 |none=>I
def ag:Nat->Call
 |0=>λF F F=>I
 |n+1=>λf F K=>match fnAt f with
  |none=>I
  |some P=>if P.params.length=F.length then
    (if ij f then
     (if bX F then match gZ (ag n) P F []with
      |some (.ok v,_)=>if aO v then D (.ok v,K)else I
      |some (.error x,_)=>D (.error x,K)
      |none=>I
     else I)
    else gZ (ag n) P F K)
   else I
inductive MK(e:aA):Prop |mk
 (den:∀F k P,den F (k+1) P e=aC)
 (X:∀F k P,fX F (k+1) P e=bd (Mine.den F k P e) oC)
 (K:∀F k P v,d6 F (k+1) P e v=aC)
 (t:∀F k P,dK F (k+1) P e=bd (Mine.den F k P e) truth)
 (K:∀K w,isTrue e K w=(do let v <- w;mr e.pos;kP [v] (truthy v)))
 (S:∀K x,FV e K x=pure x)
 (S:∀t l K,swapsWith e t l K=pure V)
 (S:∀S c p K,jA [.Tuple S c p] e K=pure I)
 (S:∀v K,jA [e] v K=pure I)
 (S:∀W S Z a l K,uj [e] (.ListComp W S Z a) l K=pure V)
 (K:∀F k P K S,Mine.den F (k+1) P (.Call e K [] S)=aC)
 (F:∀{P:Prop},Ag e=J->P)
 (F:∀F K o,mS F K o e=bd (F o) λv=>bd (F e) λj=>item v j)
 (F:∀o i,FW e V o i=yh [o,i] (getItem o i))
 (F:∀X v,letOwnedTupleGo e X v=pure ())
inductive dq:aA->Prop where
 |const (c:mn) (k:Nat) (p:Pos):dq (.Constant c k p)
 |name (x:Str) (p:Pos):dq (.Name x p)
 |bin (l:aA) (F:mm) (r:aA) (p:Pos):dq (.BinOp l F r p)
 |un (F:UnaryOp) (x:aA) (p:Pos):dq (.UnaryOp F x p)
 |bools (F:mo) (K:List aA) (p:Pos):dq (.BoolOp F K p)
 |fC (t b o:aA) (p:Pos):dq (.IfExp t b o p)
 |gx (l:aA) (F:List kN) (P:List aA) (p:Pos):dq (.Compare l F P p)
 |tup (F:List aA) (k:Nat) (p:Pos):dq (.Tuple F k p)
 |lst (F:List aA) (p:Pos):dq (.List F p)
 |dict (S:List (Option aA)) (K:List aA) (p:Pos):dq (.Dict S K p)
 |attr (o:aA) (x:Str) (p:Pos):dq (.Attribute o x p)
 |sub (o i:aA) (p:Pos):dq (.Subscript o i p)
 |comp (e:aA) (K:List yg) (P:d0) (p:Pos):dq (.ListComp e K P p)
 |call (f:aA) (W:List aA) (S:List Keyword) (p:Pos):dq (.Call f W S p)
 |slice (S W X:Option aA) (p:Pos):dq (.Slice S W X p)
 |star (x:aA) (p:Pos):dq (.Starred x p)
 |set (F:List aA) (k:Nat) (p:Pos):dq (.Set F k p)
 |Aj (e:aA) (K:List yg) (P:d0) (p:Pos):dq (.SetComp e K P p)
 |Ak (e v:aA) (K:List yg) (P:d0) (p:Pos):dq (.DictComp e v K P p)
 |no (e:aA) (h:MK e):dq e
def fD e:dq e:=by
 cases e with
 |Constant c k p=>exact .const ..
 |Name x p=>exact .name ..
 |BinOp l F r p=>exact .bin ..
 |UnaryOp F x p=>exact .un ..
 |BoolOp F K p=>exact .bools ..
 |IfExp t b o p=>exact .fC ..
 |Compare l F F p=>exact .gx ..
 |Tuple F c p=>exact .tup ..
 |List F p=>exact .lst ..
 |Dict S K p=>exact .dict ..
 |Attribute o x p=>exact .attr ..
 |Subscript o i p=>exact .sub ..
 |ListComp x K P p=>exact .comp ..
 |Call f W S p=>exact .call ..
 |Slice S S S p=>exact .slice ..
 |Starred x p=>exact .star ..
 |Set F k p=>exact .set ..
 |SetComp x K P p=>exact .Aj ..
 |DictComp x v K P p=>exact .Ak ..
 |_=>exact .no _ ⟨λF F F=>rfl,λF F F=>rfl,λF F F F=>rfl,λF F F=>rfl,λF F=>rfl,λF F=>rfl,λF F F=>rfl,λF F F F=>rfl,λF F=>rfl,λF F F F F F=>rfl,λF F F F F=>rfl,λ{P} h=>z1 h,λF F F=>rfl,λF F=>rfl,λF F=>rfl⟩
section
variable {G:aA->Prop} (e:aA)
def Al(one:∀a b c d,G (.ListComp a b c d))(two:∀e,(∀F k g,den F k g e=aC)->G e)(no:∀e,(∀t l f,swapsWith e t l f=pure V)->G e):G e:=by
 induction fD e with
 |comp a b c d=>exact one ..
 |Aj a b c d=>exact two _ λF k g=>by cases k <;> rfl
 |Ak a b c d f=>exact two _ λF k g=>by cases k <;> rfl
 |no e h=>exact no _ h.7
 |_=>exact no _ λF F F=>rfl
def ML(call:∀f a b p,G (.Call f a b p))(no:∀e,(∀F k c,fX F (k+1) c e=bd (den F k c e) oC)->G e):G e:=by
 induction fD e with
 |call f a b p=>exact call ..
 |no e h=>exact no _ h.2
 |_=>exact no _ λF F F=>rfl
def MM(set:∀e,(∀F k b,fX F k b e=aC)->G e)(no:∀e,(∀a x,FV e a x=pure x)->G e):G e:=by
 induction fD e with
 |set K c p=>exact set _ λF k b=>match k with
  |0=>rfl
  |1=>rfl
  |_+2=>rfl
 |no e h=>exact no _ h.6
 |_=>exact no _ λF F=>rfl
def MN(name:∀x p,G (.Name x p))(tup:∀a c p,G (.Tuple a c p))(sub:∀o i p,G (.Subscript o i p))(attr:∀o x p,G (.Attribute o x p))(no:∀e,(∀F k b v,d6 F (k+1) b e v=aC)->G e):G e:=by
 induction fD e with
 |name x p=>exact name ..
 |tup a c p=>exact tup ..
 |sub o i p=>exact sub ..
 |attr o x p=>exact attr ..
 |no e h=>exact no _ h.3
 |_=>exact no _ λF F F F=>rfl
def MO(un:∀x p,G (.UnaryOp .Not x p))(bools:∀a d p,G (.BoolOp a d p))(fC:∀t b o p,G (.IfExp t b o p))(gx:∀l f g p,G (.Compare l f g p))
  (no:∀e,(∀c w,isTrue e c w=(do let v <- w;mr e.pos;kP [v] (truthy v)))->(∀F k h,dK F (k+1) h e=bd (den F k h e) truth)->G e):G e:=by
 induction fD e with
 |un a x p=>cases a with
  |Not=>exact un ..
  |_=>exact no _ (λF F=>rfl) λF F F=>rfl
 |bools a d p=>exact bools ..
 |fC t b o p=>exact fC ..
 |gx l f g p=>exact gx ..
 |no e h=>exact no _ h.5 h.4
 |_=>exact no _ (λF F=>rfl) λF F F=>rfl
def MP(tup:∀a c p,G (.Tuple a c p))(lst:∀e,(∀F k d v,d6 F k d e v=aC)->G e)(no:∀e,(∀v b,jA [e] v b=pure I)->G e):G e:=by
 induction fD e with
 |tup a c p=>exact tup ..
 |lst a p=>exact lst _ λF k d v=>by cases k <;> rfl
 |no e h=>exact no _ h.9
 |_=>exact no _ λF F=>rfl
def MQ(tup:∀a c p,G (.Tuple a c p))(no:∀e,(∀a c p b,jA [.Tuple a c p] e b=pure I)->G e):G e:=by
 induction fD e with
 |tup a c p=>exact tup ..
 |no e h=>exact no _ h.8
 |_=>exact no _ λF F F F=>rfl
def MR(name:∀x p,G (.Name x p))(no:∀e,(∀b a d f l c,uj [e] (.ListComp b a d f) l c=pure V)->G e):G e:=by
 induction fD e with
 |name x p=>exact name ..
 |no e h=>exact no _ h.10
 |_=>exact no _ λF F F F F F=>rfl
def MU(slice:∀b c d p,G (.Slice b c d p))(no:∀e,(∀a f o,mS a f o e=bd (a o) λv=>bd (a e) λj=>item v j)->G e):G e:=by
 induction fD e with
 |slice b c d p=>exact slice ..
 |no e h=>exact no _ h.13
 |_=>exact no _ λF F F=>rfl
def MV(slice:∀a b c p,G (.Slice a b c p))(no:∀e,(∀o i,FW e V o i=yh [o,i] (getItem o i))->G e):G e:=by
 induction fD e with
 |slice a b c p=>exact slice ..
 |no e h=>exact no _ h.14
 |_=>exact no _ λF F=>rfl
def MW(tup:∀e,(∀a v,letOwnedTupleGo e a v=letOwnedTupleGo (.Tuple [] 0 default) a v)->G e)(no:∀e,(∀a v,letOwnedTupleGo e a v=pure ())->G e):G e:=by
 induction fD e with
 |tup K c p=>exact tup _ λF F=>rfl
 |lst K p=>exact tup _ λF F=>rfl
 |no e h=>exact no _ h.15
 |_=>exact no _ λF F=>rfl
def MX(name:∀x p,G (.Name x p))(attr:∀o x p,G (.Attribute o x p))(no:∀e,(∀F k c a b,den F (k+1) c (.Call e a [] b)=aC)->G e):G e:=by
 induction fD e with
 |name x p=>exact name ..
 |attr o x p=>exact attr ..
 |no e h=>exact no _ h.11
 |_=>exact no _ λF F F F F=>rfl
end
inductive g0:cP->Prop where
 |exp (e:aA) (p:Pos):g0 (.Expr e p)
 |ret (e:Option aA) (p:Pos):g0 (.Return e p)
 |asg (F:List aA) (e:aA) (p:Pos):g0 (.Assign F e p)
 |aug (t:aA) (F:mm) (e:aA) (p:Pos):g0 (.AugAssign t F e p)
 |cond (t:aA) (b o:List cP) (p:Pos):g0 (.If t b o p)
 |loop (t:aA) (b o:List cP) (p:Pos):g0 (.While t b o p)
 |each (t i:aA) (b o:List cP) (p:Pos):g0 (.For t i b o p)
 |raise (e c:Option aA) (p:Pos):g0 (.Raise e c p)
 |tries (b:List cP) (F:List FT) (o f:List cP) (p:Pos):g0 (.Try b F o f p)
 |no (s:cP) (h:∀F k K,ll F (k+1) K s=aC) (F:rj s=I):g0 s
def stK s:g0 s:=by
 cases s with
 |Expr e p=>exact .exp ..
 |Return e p=>exact .ret ..
 |Assign F e p=>exact .asg ..
 |AugAssign t F e p=>exact .aug ..
 |If t b o p=>exact .cond ..
 |While t b o p=>exact .loop ..
 |For t i b o p=>exact .each ..
 |Raise e c p=>exact .raise ..
 |Try b F o f p=>exact .tries ..
 |_=>exact .no _ (λF F F=>rfl) rfl
def MY a b x y:aY (a::x) (b::y)=if a=b then aY x y else decide (a<b):=
 iteInduction (motive:=λz=>z=_) (λh=>((iN (Int.ne_of_lt h)).trans (dT h)).symm) λh=>iteInduction (motive:=λz=>z=_) (λk=>((iN λe:a=b=>i0 b (e▸k)).trans (dF h)).symm) λk=>(iP (zu h k)).symm
def eu:aY (a::p) (b::q)=J↔a<b\/(a=b/\aY p q=J):=by
 refine iteInduction (motive:=λx=>x=J↔_) (λh=>⟨λF=>.inl h,λF=>rfl⟩) λF=>iteInduction (motive:=λx=>x=J↔_) (λh=>⟨z1,λz=>z.elim (λz=>aB z F) λz=>aB (z.1▸h) (i0 _)⟩) λK=>⟨λz=>.inr ⟨zu F K,z⟩,λz=>(z.resolve_left F).2⟩
def Am a:∀b,aY a b=J->aY b a=V:=by
 induction a with
 |nil=>exactλb=>by cases b <;> exactλF=>rfl
 |cons a p F=>
  refineλb=>?_;cases b with
  |nil=>exact z1
  |cons b q=>exactλh=>qs.mpr λk=>(eu.mp h).elim (λx=>(eu.mp k).elim (Int.lt_asymm x) λy=>i0 _ (y.1▸x)) λx=>(eu.mp k).elim (λy=>i0 _ (x.1▸y)) λy=>z2 (y.2.symm.trans (F q x.2))
def vf a:∀b,a≠b->aY a b=V->aY b a=J:=by
 induction a with
 |nil=>
  refineλb=>?_;cases b with
  |nil=>exact(aB rfl)
  |cons _ _=>exactλF h=>z2 h
 |cons a p K=>
  refineλb=>?_;cases b with
  |nil=>exactλF F=>rfl
  |cons b q=>exactλF h=>eu.mpr ((Int.lt_trichotomy a b).elim (λx=>z2 ((eu.mpr (.inl x)).symm.trans h)) λx=>x.elim (λx=>.inr ⟨x.symm,K q (λe=>F (x▸e▸rfl)) (qs.mpr λk=>z2 ((eu.mpr (.inr ⟨x,k⟩)).symm.trans h))⟩) .inl)
def vg a:∀b c,aY a b=J->aY b c=J->aY a c=J:=by
 induction a with
 |nil=>
  refineλb c=>?_;cases b with
  |nil=>exact z1
  |cons b q=>cases c with
   |nil=>exactλF h=>z1 h
   |cons c r=>exactλF F=>rfl
 |cons a p K=>
  refineλb c=>?_;cases b with
  |nil=>exact z1
  |cons b q=>cases c with
   |nil=>exactλF h=>z1 h
   |cons c r=>exactλh k=>eu.mpr ((eu.mp h).elim (λx=>.inl ((eu.mp k).elim (Zp x) λy=>y.1▸x)) λx=>(eu.mp k).elim (λy=>.inl (x.1▸y)) λy=>.inr ⟨x.1.trans y.1,K q r x.2 y.2⟩)
def zR{p:Prop}(h:p:=by kernel_rfl):p:=h
inductive bb where
 |o (k:Nat) (x:PV) (a:List av) |l (k:Nat) (r:Except Exc Fl) (b:St)
def Wm(a:Type):Type:=List bb->St->(Except Exc a->List bb->St->Prop)->Prop
def Y0{a:Type}(m:M a)(x:a):Prop:=∀F,m F=D (.ok x,F)
def Y{b:Type}(m:M b)(c:List av)(x:b)(a:List av):Prop:=∀l,m ⟨l,c⟩=D (.ok x,⟨l,a⟩)
noncomputable def wL:PV->Option Bool
 |.bool b=>D b
 |.none=>D V
 |_=>I
noncomputable def bb.O(k:Nat):bb->Option (PV×List av)
 |.o j x os=>cond (qr j k) (D (x,os)) I
 |_=>I
noncomputable def bb.Z(k:Nat):bb->Option (Except Exc Fl×St)
 |.l j r st=>cond (qr j k) (D (r,st)) I
 |_=>I
noncomputable def CJ:PV->List PV
 |.U xs=>xs
 |_=>[]
noncomputable def Tk:PV->Option Nat
 |.int (.ofNat n)=>D n
 |_=>I
noncomputable def Tn:Except Exc Fl->Exc
 |.error e=>e
 |_=>.bU
def bb.B(k:Nat)(a:bb):Option Bool:=(bb.O k a).bind λp=>wL p.1
def bb.V(k:Nat)(a:bb):Option PV:=(bb.O (k+100) a).map (·.1)
def bb.G(a:bb):Option (Exc×List av):=(bb.Z 1 a).map λp=>(Tn p.1,p.2.objs)
def bb.K(a:bb):Option (List PV×List av):=(bb.O 61 a).map λp=>(CJ p.1,p.2)
def bb.R(a:bb):Option (List PV):=(bb.O 62 a).map λp=>CJ p.1
def bb.M(a:bb):Option (Option Nat):=(bb.O 63 a).map λp=>Tk p.1
def bb.U(a:bb):Option (List av):=(bb.O 64 a).map (·.2)
def ask{b:Type}(p:bb->Option b)(s:List bb)(n:Prop)(f:b->List bb->Prop):Prop:=match s with
 |[]=>n
 |a::s=>match p a with
  |none=>n
  |some x=>f x s
def eL{a:Type}(v:Option a)(n:Prop)(f:a->Prop):Prop:=match v with
 |none=>n
 |some x=>f x
def fF(h:ask p s n f){G:Prop}(k:∀x a,f x a->G)(l:n->G):G:=by
 cases s with
 |nil=>exact l h
 |cons a s=>
  have h:(match p a with
   |none=>n
   |some x=>f x s):=h
  cases e:p a with
  |none=>rw[e]at h;exact l h
  |some x=>rw[e]at h;exact k x s h
def fg(h:eL v n f){G:Prop}(k:∀x,v=D x->f x->G)(l:n->G):G:=by
 cases v with
 |none=>exact l h
 |some x=>exact k x rfl h
def wM{a b:Prop}(h:cond c a b){G:Prop}(k:c=J->a->G)(l:c=V->b->G):G:=by
 cases c with
 |true=>exact k rfl h
 |false=>exact l rfl h
def To{a b:Prop}(h:cond c a b){G:Prop}(k:a->G)(l:b->G):G:=by
 cases c with
 |true=>exact k h
 |false=>exact l h
def du{b:Type}(a:b):Wm b:=λs F Q=>Q (.ok a) s F
def aU{b c:Type}(m:Wm b)(f:b->Wm c):Wm c:=λs F Q=>m s F λr s F=>match r with
 |.ok a=>f a s F Q
 |.error x=>Q (.error x) s F
def c1{a:Type}(m:M a):Wm a:=λs F Q=>match m F with
 |some (r,st')=>Q r s st'
 |none=>False
noncomputable def bS{a:Type}:Wm a:=λF F F=>False
def wv(k:Nat)(m:M PV):Wm PV:=λs F Q=>ask (bb.V k) s (ask (bb.O k) s (c1 m s F Q) λp K=>Y m F.objs p.1 p.2/\Q (.ok p.1) K ⟨F.loc,p.2⟩) λx K=>Y0 m x/\Q (.ok x) K F
def tf(P:Prop):Bool->Prop
 |true=>P
 |false=>¬P
def wN(a:kN)(i j:Nat)(c:Bool):Prop:=match a with
 |.Lt=>tf (i<j) c
 |.LtE=>tf (i<=j) c
 |.Gt=>tf (j<i) c
 |.GtE=>tf (j<=i) c
 |.Eq=>tf (i=j) c
 |.NotEq=>tf (i≠j) c
 |_=>False
def CK(a:kN)(x y:List UInt8)(c:Bool):Prop:=match a with
 |.Eq=>tf (x=y) c
 |.NotEq=>tf (x≠y) c
 |_=>False
noncomputable def asNat:Int->Option Nat
 |.ofNat i=>D i
 |_=>I
def Tp(d:kN)(i j:Int)(c:Bool):Prop:=eL (asNat i) (Y0 (cmp d (.int i) (.int j)) (.bool c)) λa=>eL (asNat j) (Y0 (cmp d (.int i) (.int j)) (.bool c)) λb=>wN d a b c
def cF(e:kN)(a b:PV)(d:List av)(c:Bool):Prop:=eL (jb a) (eL (ej a) (Y (cmp e a b) d (.bool c) d) λx=>eL (ej b) (Y (cmp e a b) d (.bool c) d) λy=>CK e x y c) λi=>eL (jb b) (Y (cmp e a b) d (.bool c) d) λj=>Tp e i j c
noncomputable def seen(b:kN)(a:PV):Bool:=match b with
 |.Is=>J
 |.IsNot=>J
 |_=>match a with
  |.none=>J
  |.str _=>J
  |_=>V
def wf(k:Nat)(m:M PV)(w:Wm PV):Wm PV:=λs F Q=>ask (bb.O k) s (w s F Q) λp K=>Y m F.objs p.1 p.2/\Q (.ok p.1) K ⟨F.loc,p.2⟩
def wz(n:Nat)(m:M Fl)(w:Wm Fl):Wm Fl:=λs F Q=>ask (bb.Z (n+10)) s (w s F Q) λp K=>m F=D p/\Q p.1 K p.2
def wc(d:kN)(a b:PV):Wm PV:=wf 40 (cmp d a b) λs F Q=>ask (bb.B 50) s (c1 (cmp d a b) s F Q) λc K=>cond (seen d a) (c1 (cmp d a b) s F Q) (cF d a b F.objs c/\Q (.ok (.bool c)) K F)
def wt(v:PV):Wm Bool:=λs F Q=>ask (bb.B 41) s (eL (wL v) (ask (bb.B 51) s (c1 (truth v) s F Q) λb K=>Y (truth v) F.objs b F.objs/\Q (.ok b) K F) λb=>Q (.ok b) s F) λb K=>Y (truth v) F.objs b F.objs/\Q (.ok b) K F
def sr(F:Call)(i:Nat)(a:List PV):Wm PV:=λs K Q=>ask (bb.O 60) s (ask bb.G s False λp P=>F i a K.objs=D (.error p.1,p.2)/\Q (.error p.1) P ⟨K.loc,p.2⟩) λp P=>F i a K.objs=D (.ok p.1,p.2)/\Q (.ok p.1) P ⟨K.loc,p.2⟩
def wl(m:M Fl):Wm Fl:=λs F Q=>ask (bb.Z 2) s (c1 m s F Q) λp K=>m F=D p/\Q p.1 K p.2
def wk(m:M (List PV)):Wm (List PV):=λs F Q=>ask bb.K s (c1 m s F Q) λp K=>m F=D (.ok p.1,⟨F.loc,p.2⟩)/\Q (.ok p.1) K ⟨F.loc,p.2⟩
def wr(m:M It):Wm It:=λs F Q=>ask bb.R s (c1 m s F Q) λK P=>Y0 m (.seq K)/\Q (.ok (.seq K)) P F
def wm(m:M (Option Nat)):Wm (Option Nat):=λs F Q=>ask bb.M s (c1 m s F Q) λf K=>Y m F.objs f F.objs/\Q (.ok f) K F
def wu(m:M Unit):Wm Unit:=λs F Q=>ask bb.U s (c1 m s F Q) λK P=>Y m F.objs () K/\Q (.ok ()) P ⟨F.loc,K⟩
noncomputable def CL:Exc->Exc->Bool
 |.bU,.bU=>J
 |.co,.co=>J
 |_,_=>V
def wP(m:Wm Fl)(x:Exc)(h:Wm Fl):Wm Fl:=λs F Q=>m s F λr s F=>match r with
 |.error y=>cond (CL x y) (h s F Q) False
 |.ok a=>Q (.ok a) s F
def R{a:Type}(w:Wm a)(m:M a):Prop:=∀s K Q,w s K Q->∀G:Prop,(∀r P F,m K=D (r,F)->Q r P F->G)->G
def dv{b:Type}(a:b):R (du a) (rt a):=λs F F h F k=>k _ s _ rfl h
def Tq(e:m c=D (.ok a,b)):bd m f c=f a b:=by unfold bd;rw[e]
def wQ(e:m b=D (.error x,a)):bd m f b=D (.error x,a):=by unfold bd;rw[e]
def aV(h:R w m)(b:∀a,R (f a) (g a)):R (aU w f) (bd m g):=λF F F q G k=>h _ _ _ q G λr F F e q=>by
 cases r with
 |error x=>exact k _ _ _ (wQ e) q
 |ok a=>exact b a _ _ _ q G λr F F F q=>k r _ _ ((Tq e).trans F) q
def dL{a:Type}(m:M a):R (c1 m) m:=λs F Q q F k=>by
 unfold c1 at q;cases e:m _ with
 |none=>rw[e]at q;exact q.elim
 |some r=>rw[e]at q;exact k _ s _ e q
def bY:R bS m:=λF F F q=>q.elim
def f' k m:R (wv k m) m:=λF K F q F k=>
 fF q (λF F q=>k _ _ _ (q.1 _) q.2) λq=>fF q (λF F q=>k _ _ _ (q.1 _) q.2) λq=>dL m _ _ _ q _ k
def wR[Decidable P](h:tf P c):decide P=c:=by
 cases c with
 |true=>exact dT h
 |false=>exact dF h
def nc[Decidable P][Decidable Q](h:tf P c)(w:Q↔P)(a:St):D (Except.ok (ε:=Exc) (PV.bool (decide Q)),a)=D (.ok (.bool c),a):=cA (λc=>D (Except.ok _,a)) ((decide_eq_decide.mpr w).trans (wR h))
def Ts(h:wN a i j c) st:cmp a (.int (.ofNat i)) (.int (.ofNat j)) st=D (.ok (.bool c),st):=by
 cases a with
 |Lt=>exact nc h ed _
 |LtE=>exact nc h mj _
 |Gt=>exact nc h ed _
 |GtE=>exact nc h mj _
 |Eq=>exact nc h uH _
 |NotEq=>exact(cA (λc=>D (Except.ok _,st)) decide_not.symm).trans (nc h (not_congr uH) _)
 |_=>exact h.elim
def pu{a:Type}[BEq a][LawfulBEq a][DecidableEq a]{x y:a}:(x==y)=decide (x=y):=qy.mpr (bE.trans decide_eq_true_iff.symm)
def Tt(h:CK a x y c) st:cmp a (.bytes x) (.bytes y) st=D (.ok (.bool c),st):=by
 cases a with
 |Eq=>exact cA (λc=>D (Except.ok _,st)) (pu.trans (wR h))
 |NotEq=>exact cA (λc=>D (Except.ok _,st)) (((cA _ pu).trans decide_not.symm).trans (wR h))
 |_=>exact h.elim
def CM(h:asNat i=D a):i=.ofNat a:=by
 cases i with
 |ofNat=>exact cA _ (aE h)
 |negSucc=>exact z3 h
def Tu(h:cF e a b d.objs c):cmp e a b d=D (.ok (.bool c),d):=
 fg h (λi e h=>fg h (λj F h=>by
  rw[jN e,jN F];exact fg h (λx e h=>fg h (λy F h=>by rw[CM e,CM F];exact Ts h _) λh=>h _) λh=>h _) λh=>h _)
  λh=>fg h (λx e h=>fg h (λy F h=>by rw[mM e,mM F];exact Tt h _) λh=>h _) λh=>h _
def CN(h:R w m):R (wf k m w) m:=λF K F q F k=>
 fF q (λF F q=>k _ _ _ (q.1 _) q.2) λq=>h _ _ _ q _ k
def CO(h:R w m):R (wz n m w) m:=λF F F q F k=>
 fF q (λF F q=>k _ _ _ q.1 q.2) λq=>h _ _ _ q _ k
def Tv op a b:R (wc op a b) (cmp op a b):=CN λF F F q F k=>
 fF q (λF F q=>To q (λq=>dL _ _ _ _ q _ k) λq=>k _ _ _ (Tu q.1) q.2) λq=>dL _ _ _ _ q _ k
def Tw(h:wL v=D b) st:truth v st=D (.ok b,st):=by
 cases v with
 |bool=>exact cA (λb=>D (Except.ok b,st)) (aE h)
 |none=>exact cA (λb=>D (Except.ok b,st)) (aE h)
 |_=>exact z3 h
def wS v:R (wt v) (truth v):=λF K F q F k=>fF q (λF F q=>k _ _ _ (q.1 _) q.2) λq=>
 fg q (λF e q=>k _ _ _ (Tw e _) q) λq=>fF q (λF F q=>k _ _ _ (q.1 _) q.2) λq=>dL _ _ _ _ q _ k
def CP{b:List _}(h:F i a c.objs=D (r,b)):gY F (D i) a c=D (r,⟨c.loc,b⟩):=by
 unfold gY;dsimp only;rw[h]
def wT F i args:R (sr F i args) (gY F (D i) args):=λK K K q K k=>
 fF q (λK K q=>k _ _ _ (CP q.1) q.2) λq=>fF q (λK K q=>k _ _ _ (CP q.1) q.2) gN
def CQ m:R (wl m) m:=λF F F q F k=>
 fF q (λF F q=>k _ _ _ q.1 q.2) λq=>dL _ _ _ _ q _ k
def Tx m:R (wk m) m:=λF F F q F k=>
 fF q (λF F q=>k _ _ _ q.1 q.2) λq=>dL _ _ _ _ q _ k
def wU m:R (wr m) m:=λF K F q F k=>
 fF q (λF F q=>k _ _ _ (q.1 _) q.2) λq=>dL _ _ _ _ q _ k
def Tz m:R (wm m) m:=λF K F q F k=>
 fF q (λF F q=>k _ _ _ (q.1 _) q.2) λq=>dL _ _ _ _ q _ k
def CR m:R (wu m) m:=λF K F q F k=>
 fF q (λF F q=>k _ _ _ (q.1 _) q.2) λq=>dL _ _ _ _ q _ k
def TA(e:m c=D (.ok a,b)):jf m x h c=D (.ok a,b):=by unfold jf;rw[e]
def TB(z:CL x y=J)(e:m b=D (.error y,a))(c:h a=r):jf m x h b=r:=by
 unfold jf;rw[e];cases x <;> cases y <;> first |exact c |exact z1 z
def CS(a:R w m)(b:R h c):R (wP w x h) (jf m x c):=λF F F q G k=>a _ _ _ q G λr P K e q=>by
 cases r with
 |ok a=>exact k _ _ _ (TA e) q
 |error y=>exact wM q (λz q=>b _ _ _ q G λr P K K q=>k r _ _ (TB z e K) q) λF q=>q.elim
def cg[Decidable c](h:R a d)(e:R b f):R (if c then a else b) (if c then d else f):=by
 split
 .exact h
 .exact e
def CT(F:Call)(m:Str)(o:PV)(a:List PV)(f:Option Nat):Wm PV:=match f with
 |some i=>sr F i (o::a)
 |none=>wv 8 (method m o a)
def wV(F:Call)(c:Str)(a:List PV):Wm PV:=match ig c "__init__" with
 |some i=>aU (c1 (mkObj (.inst c []))) λo=>aU (sr F i (o::a)) λr=>c1 (Aa o r)
 |none=>bS
noncomputable def TC:mm->Nat
 |.Add=>20
 |.Sub=>21
 |.Mult=>22
 |.FloorDiv=>23
 |.Mod=>24
 |.Pow=>25
 |.RShift=>26
 |.BitAnd=>27
 |_=>28
def plain(c:mm)(a b:PV):Bool:=match c with
 |.Add=>isInt a && isInt b
 |_=>V
def wW(c:mm)(mt:Bool)(a b:PV):Wm PV:=match plain c a b with
 |true=>c1 (binop c mt a b)
 |false=>wv (TC c) (binop c mt a b)
noncomputable def TD(f:Str):Nat:=if f=="len" then 30 else if f=="tuple" then 31 else if f=="list" then 32 else if f=="bytes" then 33 else if f=="int" then 34 else if f=="sum" then 35 else 36
def CU(F:Call)(k:Nat)(a:Cx)(b:aA)(c:List aA)(d:aA)(x:PV):M (Option PV):=bd (d6 F k a b x) λK=>bd (lj F k a c) λc=>
     if c then bd (den F k a d) λv=>rt (D v)else rt I
def CV(F:Call)(k:Nat)(a:Cx)(t:aA)(b:List cP)(x:PV):M Fl:=bd (d6 F k a t x) λK=>bW F k a b
def wO{a b:Type}(v:Option a)(f:a->Wm b):Wm b:=match v with
 |some a=>f a
 |none=>bS
def pw{b c:Type}(l:List b)(f:b->List b->Wm c):Wm c:=match l with
 |[]=>bS
 |a::r=>f a r
def ly{b a:Type}(l:List b)(m:Wm a):Wm a:=match l with
 |[]=>m
 |_::_=>bS
def w1{a b:Type}(l:List a)(f:a->Wm b):Wm b:=pw l λa r=>ly r (f a)
def w2{a b:Type}(l:List a)(f:a->a->Wm b):Wm b:=pw l λa r=>w1 r (f a)
def wX(a:aA->Wm PV)(b:Option aA->Wm (Option PV))(o i:aA):Wm PV:=match view i with
 |.slice lo hi st _=>(match st with
  |none=>aU (a o) λv=>aU (b lo) λl=>aU (b hi) λh=>wv 2 (er v l h)
  |some x=>if u9 lo hi x then aU (a o) λv=>wv 2 (reversed v)else bS)
 |_=>aU (a o) λv=>aU (a i) λj=>wv 1 (item v j)
def TE(b:aA->Wm PV)(c:Cx)(a:List aA):Wm PV:=w2 a λe t=>wO (gy t) λt=>
 if c.bL t/\(t=="list"\/t=="bytes")/\isStar e=V then aU (b e) λv=>wf 42 (ox v t) (c1 (ox v t))else bS
def CW(F:Call)(d:aA->Wm PV)(b:List aA->Wm (List PV))(e:Cx)(f:Str)(a:List aA)(c:Pos):Wm PV:=
 if e.bL f then
  (match lg f with
   |some i=>aU (b a) λK=>sr F i K
   |none=>if f=="isinstance" then TE d e a
     else if f=="sorted" then w1 a λe=>wO (itemsOf e) λo=>aU (d o) λv=>wv 3 (q_ v)
     else if f=="Trie"\/f=="Numbered" then aU (b a) λK=>wV F f K
     else if u4 f then aU (b a) λK=>wv (TD f) (et (mQ c) f K)
     else bS)
 else bS
def CX(F:Call)(d:aA->Wm PV)(c:List aA->Wm (List PV))(e:Cx)(o:aA)(m:Str)(f:Pos)(a:List aA)(b:Pos):Wm PV:=
 if(f.endLine==b.line)=V then bS
 else if u_ o m then(if e.bL "int" then aU (c a) λK=>wv 10 (rl K)else bS)
 else if isCall o=V then aU (d o) λo=>aU (wm (eo m o)) λf=>aU (c a) λK=>CT F m o K f else bS
def wY(F:Call)(c:aA->Wm PV)(d:List aA->Wm (List PV))(e:Cx)(f:aA)(a:List aA)(b:Pos):Wm PV:=match view f with
 |.name f _=>CW F c d e f a b
 |.attr o m ap=>CX F c d e o m ap a b
 |_=>bS
mutual
noncomputable def eW(F:Call):Nat->Cx->aA->Wm PV
 |0,_,_=>bS
 |k+1,cx,e=>match view e with
  |.bin l K r pos=>aU (eW F k cx l) λa=>aU (eW F k cx r) λb=>wW K (mQ pos) a b
  |.un K x _=>if K==.USub then aU (eW F k cx x) λa=>c1 (vb a)else bS
  |.bools K P _=>pw P λa S=>aU (eW F k cx a) λv=>su F k cx K v S
  |.fC t b o _=>aU (tW F k cx t) λc=>if c then eW F k cx b else eW F k cx o
  |.gx l ops rs _=>w1 ops λK=>w1 rs λr=>if FU K r=V then aU (eW F k cx l) λa=>aU (eW F k cx r) λb=>wc K a b else bS
  |.tup es _ _=>aU (lW F k cx es) λP=>wv 4 (el P)
  |.lst es pos=>aU (lW F k cx es) λP=>wv 14 (bV (mQ pos) P)
  |.attr o x _=>if isCall o=V then aU (eW F k cx o) λv=>wv 6 (jS v x)else bS
  |.sub o i _=>wX (eW F k cx) (oW F k cx) o i
  |.comp elt gs sc _=>w1 gs λg=>if mP cx sc=V\/jg g.iter=J\/g.is_async≠0 then bS else aU (sv F k cx g.iter) λK=>
    aU (wk (dp (dJ sc).length (dV K (CU F k (cx.comp sc) g.target g.ifs elt)))) λK=>wv 15 (bV V K)
  |.call f args ks pos=>ly ks (wY F (eW F k cx) (lW F k cx) cx f args pos)
  |_=>c1 (den F (k+1) cx e)
noncomputable def su(F:Call):Nat->Cx->mo->PV->List aA->Wm PV
 |0,_,_,_,_=>bS
 |_+1,_,_,v,[]=>du v
 |k+1,cx,op,v,e::es=>aU (wt v) λt=>if rp op t then du v else aU (eW F k cx e) λw=>su F k cx op w es
noncomputable def tW(F:Call):Nat->Cx->aA->Wm Bool
 |0,_,_=>bS
 |k+1,cx,e=>match view e with
  |.un op x _=>if op==.Not then aU (tW F k cx x) λb=>du (!b)else aU (eW F k cx e) wt
  |.bools op vs _=>sx F k cx op vs
  |.fC t b o _=>aU (tW F k cx t) λc=>if c then tW F k cx b else tW F k cx o
  |_=>aU (eW F k cx e) wt
noncomputable def sx(F:Call):Nat->Cx->mo->List aA->Wm Bool
 |0,_,_,_=>bS
 |_+1,_,op,[]=>du (op==.And)
 |k+1,cx,op,e::es=>aU (tW F k cx e) λb=>if rp op b then du b else sx F k cx op es
noncomputable def lW(F:Call):Nat->Cx->List aA->Wm (List PV)
 |0,_,_=>bS
 |_+1,_,[]=>du []
 |k+1,cx,e::es=>if(e::es).any isStar\/30<=(e::es).length then bS else aU (eW F k cx e) λv=>aU (lW F k cx es) λF=>du (v::F)
noncomputable def oW(F:Call):Nat->Cx->Option aA->Wm (Option PV)
 |0,_,_=>bS
 |_+1,_,I=>du I
 |k+1,cx,D e=>aU (eW F k cx e) λv=>du (D v)
noncomputable def sv(F:Call):Nat->Cx->aA->Wm It
 |0,_,_=>bS
 |k+1,cx,e=>match view e with
  |.call f args ks _=>ly ks (wO (gy f) λf=>if cx.bL f/\f=="range" then aU (lW F k cx args) λK=>wr (jV K)
    else if cx.bL f/\f=="enumerate" then aU (lW F k cx args) λK=>wr (vd K)
    else bS)
  |_=>aU (eW F k cx e) λv=>wr (oC v)
noncomputable def aW(F:Call):Nat->Cx->aA->PV->Wm Unit
 |0,_,_,_=>bS
 |k+1,cx,t,v=>match view t with
  |.name x _=>wO (cx.fW x) λi=>c1 (ol i v)
  |.tup ts _ _=>if ts.any isStar then bS else aU (c1 (u3 ts.length v)) λK=>sy F k cx ts K
  |.sub o i _=>aU (eW F k cx o) λK=>aU (eW F k cx i) λP=>wu (setItem K P v)
  |.attr o x _=>aU (eW F k cx o) λK=>wu (oq K x v)
  |_=>bS
noncomputable def sy(F:Call):Nat->Cx->List aA->List PV->Wm Unit
 |0,_,_,_=>bS
 |k+1,cx,t::ts,K=>pw K λv K=>aU (aW F k cx t v) λP=>sy F k cx ts K
 |_+1,_,[],K=>ly K (du ())
end
def TG(m:Wm Fl)(a:Cx)(c:Str)(r:Option Str):Wm Fl:=match r with
 |some F=>if a.bL c && a.bL F && c=="RlpFault" && F=="TrieFault" then wP m .co (c1 (mL .bU))else bS
 |none=>if a.bL c && c=="TrieFault" then wP m .bU (du (.ret .none))else bS
mutual
noncomputable def sW(F:Call):Nat->Cx->cP->Wm Fl
 |0,_,_=>bS
 |k+1,cx,s=>match s with
  |.Expr e _=>if u7 e then bS else aU (eW F k cx e) λK=>du .next
  |.Return e _=>wO e λe=>aU (eW F k cx e) λv=>aU (wv 5 (freeze v)) λw=>du (.ret w)
  |.Assign ts e _=>w1 ts λt=>if oz t e ||isStar t then bS else aU (eW F k cx e) λv=>aU (aW F k cx t v) λK=>du .next
  |.AugAssign t op e _=>wO (va t op) λx=>wO (cx.fW x) λi=>aU (c1 (getL i)) λa=>aU (eW F k cx e) λb=>c1 (ve i a b)
  |.If t b o _=>aU (tW F k cx t) λc=>if c then fh F k cx b else fh F k cx o
  |.While t b o _=>ly o (wl (cB (dK F k cx t) (bW F k cx b) gv))
  |.For t it b o _=>ly o (if jg it=J/\ii t=V then bS else aU (sv F k cx it) λK=>wl (forM K (CV F k cx t b)))
  |.Try b hs o f _=>wO (rk hs o f) λr=>TG (fh F k cx b) cx r.1 r.2
  |s=>c1 (ll F (k+1) cx s)
noncomputable def fh(F:Call):Nat->Cx->List cP->Wm Fl
 |0,_,_=>bS
 |_+1,_,[]=>du .next
 |k+1,cx,s::r=>wz (r.length+1) (bW F (k+1) cx (s::r)) (aU (sW F k cx s) λf=>(match f with
  |.next=>fh F k cx r
  |.ret v=>du (.ret v)))
end
inductive eM(F:Call)(k:Nat):Prop |mk
 (e:∀K e,R (eW F k K e) (den F k K e))
 (b:∀K S v P,R (su F k K S v P) (li F k K S v P))
 (t:∀K e,R (tW F k K e) (dK F k K e))
 (W:∀K S P,R (sx F k K S P) (mT F k K S P))
 (l:∀K P,R (lW F k K P) (cr F k K P))
 (o:∀K e,R (oW F k K e) (jh F k K e))
 (i:∀K e,R (sv F k K e) (fX F k K e))
 (a:∀K t v,R (aW F k K t v) (d6 F k K t v))
 (P:∀K W P,R (sy F k K W P) (ji F k K W P))
def TH op mt a b:R (wW op mt a b) (binop op mt a b):=by
 unfold wW;cases plain _ a b with
 |true=>exact dL _
 |false=>exact f' _ _
def kb(h:∀a,R (f a) (g a)):R (wO v f) (a_ v g):=by
 cases v with
 |none=>exact bY
 |some a=>exact h a
def sA(h:∀a r,R (f a r) (g a r)):R (pw l f) (jP l g):=by
 cases l with
 |nil=>exact bY
 |cons a r=>exact h a r
def nh(h:R w m):R (ly l w) (gW l m):=by
 cases l with
 |nil=>exact h
 |cons a r=>exact bY
def R_1(h:∀a,R (f a) (g a)):R (w1 l f) (dU l g):=sA λa F=>nh (h a)
def R_2(h:∀a b,R (f a b) (g a b)):R (w2 l f) (fU l g):=sA λa F=>R_1 (h a)
def TJ(A:eM a k) cx o i:R (wX (eW a k cx) (oW a k cx) o i) (mS (den a k cx) (jh a k cx) o i):=by
 unfold wX mS;cases view i with
 |slice F F F q=>
  cases F with
  |some x=>exact cg (aV (A.1 _ _) λv=>f' _ _) bY
  |none=>exact aV (A.1 _ _) λv=>aV (A.6 _ _) λl=>aV (A.6 _ _) λh=>f' _ _
 |_=>exact aV (A.1 _ _) λv=>aV (A.1 _ _) λj=>f' _ _
def TK c vs:R (wV a c vs) (oy a c vs):=by
 unfold wV oy;cases ig c _ with
 |none=>exact bY
 |some i=>exact aV (dL _) λo=>aV (wT _ _ _) λr=>(dL _)
def TL(A:eM a k) cx f args pos:R (CW a (eW a k cx) (lW a k cx) cx f args pos) (rm a (den a k cx) (cr a k cx) cx f args pos):=by
 refine cg ?_ bY;cases lg f with
 |some i=>exact aV (A.5 _ _) λF=>wT _ _ _
 |none=>exact cg (R_2 λe t=>kb λt=>cg (aV (A.1 _ _) λv=>CN (dL _)) bY) (cg (R_1 λe=>kb λo=>aV (A.1 _ _) λv=>f' _ _)
   (cg (aV (A.5 _ _) λF=>TK _ _) (cg (aV (A.5 _ _) λF=>f' _ _) bY)))
def TM m o vs f:R (CT a m o vs f) (vc a m o vs f):=by
 cases f with
 |none=>exact f' _ _
 |some i=>exact wT _ _ _
def TN(A:eM a k) cx o m ap args pos:R (CX a (eW a k cx) (lW a k cx) cx o m ap args pos) (rn a (den a k cx) (cr a k cx) cx o m ap args pos):=
 cg bY (cg (cg (aV (A.5 _ _) λF=>f' _ _) bY) (cg (aV (A.1 _ _) λo=>aV (Tz _) λf=>aV (A.5 _ _) λF=>TM _ _ _ _) bY))
def TO(A:eM a k) cx f args pos:R (wY a (eW a k cx) (lW a k cx) cx f args pos) (match view f with
   |.name f _=>rm a (den a k cx) (cr a k cx) cx f args pos
   |.attr o m ap=>rn a (den a k cx) (cr a k cx) cx o m ap args pos
   |_=>aC):=by
 unfold wY;cases view f with
 |name f p=>exact TL A _ f _ _
 |attr o m p=>exact TN A _ o m p _ _
 |_=>exact bY
def CY(h:w=c1 m):R w m:=h▸dL m
def TP(A:eM a k) cx e:R (eW a (k+1) cx e) (den a (k+1) cx e):=by
 cases e with
 |BinOp l K r F=>exact aV (A.1 _ _) λa=>aV (A.1 _ _) λb=>TH _ _ _ _
 |UnaryOp K x F=>exact cg (aV (A.1 _ _) λa=>dL _) bY
 |BoolOp K P F=>exact sA λa S=>aV (A.1 _ _) λv=>A.2 _ _ _ _
 |IfExp t b o F=>exact aV (A.3 _ _) λc=>cg (A.1 _ _) (A.1 _ _)
 |Compare l S S F=>exact R_1 λK=>R_1 λr=>cg (aV (A.1 _ _) λa=>aV (A.1 _ _) λb=>Tv _ _ _) bY
 |Tuple K c F=>exact aV (A.5 _ _) λP=>f' _ _
 |List K F=>exact aV (A.5 _ _) λP=>f' _ _
 |Attribute o x F=>exact cg (aV (A.1 _ _) λP=>f' _ _) bY
 |Subscript o i F=>exact TJ A _ o i
 |ListComp K K K F=>exact R_1 λg=>cg bY (aV (A.7 _ _) λK=>aV (Tx _) λK=>f' _ _)
 |Call f K K F=>exact nh (TO A _ f _ _)
 |_=>exact CY rfl
def TQ(A:eM a k) cx e:R (tW a (k+1) cx e) (dK a (k+1) cx e):=by
 cases e with
 |UnaryOp K x F=>exact cg (aV (A.3 _ _) λb=>dv _) (aV (A.1 _ _) λv=>wS _)
 |BoolOp K K F=>exact A.4 _ _ _
 |IfExp t b o F=>exact aV (A.3 _ _) λc=>cg (A.3 _ _) (A.3 _ _)
 |_=>exact aV (A.1 _ _) λv=>wS _
def TR(A:eM a k) cx e:R (sv a (k+1) cx e) (fX a (k+1) cx e):=by
 cases e with
 |Call f F F F=>exact nh (kb λf=>cg (aV (A.5 _ _) λF=>wU _) (cg (aV (A.5 _ _) λF=>wU _) bY))
 |_=>exact aV (A.1 _ _) λv=>wU _
def TS(A:eM a k) cx t v:R (aW a (k+1) cx t v) (d6 a (k+1) cx t v):=by
 cases t with
 |Name x p=>exact kb λi=>dL _
 |Tuple F c p=>exact cg bY (aV (dL _) λF=>A.9 _ _ _)
 |Subscript o i p=>exact aV (A.1 _ _) λF=>aV (A.1 _ _) λK=>CR _
 |Attribute o x p=>exact aV (A.1 _ _) λF=>CR _
 |_=>exact bY
def TU(A:eM a k) cx op v b:R (su a (k+1) cx op v b) (li a (k+1) cx op v b):=by
 cases b with
 |nil=>exact dv _
 |cons e b=>
  exact aV (wS _) λt=>cg (dv _) (aV (A.1 _ _) λw=>A.2 _ _ _ _)
def TV(A:eM a k) cx op b:R (sx a (k+1) cx op b) (mT a (k+1) cx op b):=by
 cases b with
 |nil=>exact dv _
 |cons e b=>
  exact aV (A.3 _ _) λt=>cg (dv _) (A.4 _ _ _)
def TW(A:eM a k) cx b:R (lW a (k+1) cx b) (cr a (k+1) cx b):=by
 cases b with
 |nil=>exact dv _
 |cons e b=>exact cg bY (aV (A.1 _ _) λv=>aV (A.5 _ _) λF=>dv _)
def TX(A:eM a k) cx e:R (oW a (k+1) cx e) (jh a (k+1) cx e):=by
 cases e with
 |none=>exact dv _
 |some e=>exact aV (A.1 _ _) λv=>dv _
def TY(A:eM a k) cx b c:R (sy a (k+1) cx b c) (ji a (k+1) cx b c):=by
 cases b with
 |nil=>exact nh (dv _)
 |cons t b=>exact sA λv c=>aV (A.8 _ _ _) λF=>A.9 _ _ _
def TZ(A:eM a k):eM a (k+1):=⟨TP A,TU A,TQ A,TV A,TW A,TX A,TR A,TS A,TY A⟩
def ni a:∀k,eM a k:=by
 intro k
 induction k with
 |zero=>exact⟨λF F=>bY,λF F F F=>bY,λF F=>bY,λF F F=>bY,λF F=>bY,λF F=>bY,λF F=>bY,λF F F=>bY,λF F F=>bY⟩
 |succ k A=>exact TZ A
def T0(d:∀c b,R (fh a k c b) (bW a k c b)) c s:R (sW a (k+1) c s) (ll a (k+1) c s):=by
 have A:=ni a k;cases s with
 |Expr e p=>exact cg bY (aV (A.1 _ _) λF=>dv _)
 |Return e p=>exact kb λe=>aV (A.1 _ _) λv=>aV (f' _ _) λw=>dv _
 |Assign K e p=>exact R_1 λt=>cg bY (aV (A.1 _ _) λv=>aV (A.8 _ _ _) λF=>dv _)
 |AugAssign t F e p=>exact kb λx=>kb λi=>aV (dL _) λa=>aV (A.1 _ _) λb=>dL _
 |If t b o p=>exact aV (A.3 _ _) λc=>cg (d _ _) (d _ _)
 |While t b o p=>exact nh (CQ _)
 |For t F b o p=>exact nh (cg bY (aV (A.7 _ _) λF=>CQ _))
 |Try b F o f p=>
  refine kb λr=>?_;obtain⟨c,F⟩:=r;cases F with
  |none=>exact cg (CS (d _ _) (dv _)) bY
  |some F=>exact cg (CS (d _ _) (dL _)) bY
 |_=>exact CY rfl
def gD a:∀k F b,R (fh a k F b) (bW a k F b)
 |0,_,_=>bY
 |k+1,F,[]=>dv _
 |1,F,s::r=>by
  refine CO (aV bY λf=>?_);cases f with
  |next=>exact gD a 0 _ r
  |ret v=>exact dv _
 |k+2,F,s::r=>by
  refine CO (aV (T0 (gD a k) _ s) λf=>?_);cases f with
  |next=>exact gD a _ _ r
  |ret v=>exact dv _
structure Tl where
 a:bb
 p:Prop
 h:p
def cj:List Tl->Prop->Prop
 |[],z=>z
 |t::l,z=>t.p/\cj l z
def T1 l(h:z):cj l z:=by
 induction l with
 |nil=>exact h
 |cons t l F=>exact⟨t.h,F⟩
noncomputable abbrev g_(l:List Tl):List bb:=l.map Tl.a
def hg{a:Type}{r:a}(e:cj l (r=r)=G):G:=e.mp (T1 l rfl)
noncomputable def tF{d:Call}{i:Nat}{b:List PV}{a c:List av}{x:PV}(h:d i b a=D (.ok x,c)):Tl:=⟨.o 60 x c,_,h⟩
noncomputable def tG{d:Call}{i:Nat}{b:List PV}{a c:List av}{x:Exc}(h:d i b a=D (.error x,c)):Tl:=⟨.l 1 (.error x) ⟨[],c⟩,_,h⟩
noncomputable def tC{a:Prop}(b:Bool)(h:a):Tl:=⟨.o 50 (.bool b) [],_,h⟩
def t1{a:Prop}(h:a):Tl:=tC J h
def t0{a:Prop}(h:a):Tl:=tC V h
noncomputable def tV{x:PV}{m:M PV}(k:Nat)(h:Y0 m x):Tl:=⟨.o (k+100) x [],_,h⟩
noncomputable def tO{a b:List av}{x:PV}{m:M PV}(k:Nat)(h:Y m a x b):Tl:=⟨.o k x b,_,h⟩
noncomputable def tT{a c:List av}{m:M Bool}{b:Bool}(h:Y m a b c):Tl:=⟨.o 41 (.bool b) c,_,h⟩
noncomputable def tB{a c:List av}{m:M Bool}{b:Bool}(h:Y m a b c):Tl:=⟨.o 51 (.bool b) c,_,h⟩
noncomputable def tK{a:List av}{m:M (List PV)}{c:St}{b:List PV}{l:List (Option PV)}(h:m c=D (.ok b,⟨l,a⟩)):Tl:=⟨.o 61 (.U b) a,_,h⟩
noncomputable def tR{m:M It}{a:List PV}(h:Y0 m (.seq a)):Tl:=⟨.o 62 (.U a) [],_,h⟩
noncomputable def tM{a b:List av}{m:M (Option Nat)}{f:Option Nat}(h:Y m a f b):Tl:=⟨.o 63 (f.elim .none λn=>.int (.ofNat n)) [],_,h⟩
noncomputable def tU{a b:List av}{m:M Unit}(h:Y m a () b):Tl:=⟨.o 64 .none b,_,h⟩
noncomputable def tL{m:M Fl}{b a:St}{r:Except Exc Fl}(h:m b=D (r,a)):Tl:=⟨.l 2 r a,_,h⟩
noncomputable def tZ(n:Nat){m:M Fl}{b a:St}{r:Except Exc Fl}(h:m b=D (r,a)):Tl:=⟨.l (n+10) r a,_,h⟩
noncomputable def sB:Except Exc Fl->Except Exc PV
 |.ok (.ret v)=>.ok v
 |.ok .next=>.ok .none
 |.error e=>.error e
def T2(F:Call)(i:Nat)(a:List PV)(s:List bb)(r:Except Exc PV):Prop:=eL (fnAt i) False λK=>cond (qr K.params.length a.length && ij i) (fh F 64 (cq K.scope) K.body s ⟨e_ (cq K.scope) K.params a,[]⟩ λx F F=>r=sB x) False
def T4(F:Call)(i:Nat)(a:List PV)(o:List av)(s:List bb)(r:Except Exc PV×List av):Prop:=eL (fnAt i) False λK=>cond (qr K.params.length a.length && !ij i) (fh F 64 (cq K.scope) K.body s ⟨e_ (cq K.scope) K.params a,o⟩ λx F F=>r=(sB x,F.objs)) False
def nl:Except Exc PV->Bool
 |.ok v=>aO v
 |.error _=>J
def CZ(e:bW F 64 (cq b.scope) b.body ⟨e_ (cq b.scope) b.params a,o⟩=D (x,c)):gZ F b a o=D (sB x,c.objs):=by
 unfold gZ;rw[e];cases x with
 |error x=>rfl
 |ok f=>cases f <;> rfl
def sC n i a o:ag (n+1) i a o=(match fnAt i with
  |none=>I
  |some b=>if b.params.length=a.length then
    (if ij i then
     (if bX a then match gZ (ag n) b a []with
      |some (.ok v,_)=>if aO v then D (.ok v,o)else I
      |some (.error x,_)=>D (.error x,o)
      |none=>I
     else I)
    else gZ (ag n) b a o)
   else I):=rfl
def T5{c:List _}(d:fnAt i=D b)(f:b.params.length=a.length)(g:ij i=J)(h:bX a=J)(e:gZ (ag n) b a []=D (r,c))(j:nl r=J):ag (n+1) i a o=D (r,o):=by
 rw[sC,d];refine(iP f).trans ((iP g).trans ((iP h).trans ?_));rw[e];cases r with
 |error x=>rfl
 |ok v=>exact iP j
def T7{r:Except ..×List _}(c:fnAt i=D b)(d:b.params.length=a.length)(f:(!ij i)=J)(e:gZ (ag n) b a o=D r):ag (n+1) i a o=D r:=by
 rw[sC,c];exact(iP d).trans ((iN (by rw[kZ];exact(uB _).mp f)).trans e)
abbrev T8(n i:Nat)(a:List PV)(r:Except Exc PV)(l:List Tl):Prop:=cj l (r=r)=T2 (ag n) i a (g_ l) r
abbrev T9(n i:Nat)(a:List PV)(o:List av)(r:Except Exc PV×List av)(l:List Tl):Prop:=cj l (r=r)=T4 (ag n) i a o (g_ l) r
def au l(b:bX a=J:=by rfl)(c:nl r=J:=by rfl)(e:T8 n i a r l:=by kernel_rfl):ag (n+1) i a o=D (r,o):=
 fg (hg e) (λF P h=>wM h (λK h=>gD _ _ _ _ _ _ _ h _ λF F F e q=>
  T5 P (FS (cH.mp K).1) (cH.mp K).2 b ((CZ e).trans (cA (λr=>D (r,_)) q.symm)) c) λF h=>h.elim) gN
def aQ l(e:T9 n i a o (r,b) l:=by kernel_rfl):ag (n+1) i a o=D (r,b):=
 fg (hg e) (λF P h=>wM h (λK h=>gD _ _ _ _ _ _ _ h _ λF F F e q=>
  T7 P (FS (cH.mp K).1) (cH.mp K).2 ((CZ e).trans (cA _ q.symm))) λF h=>h.elim) gN
structure Lp where
 c:Nat
 k:Nat
 sc:d0
 t:aA
 b:List cP
 ifs:List aA
 e:aA
noncomputable def eN:Nat->List aA->List Lp
 |k+2,e::es=>(match view e with
  |.bin l _ r _=>eN (k+1) [l]++eN (k+1) [r]
  |.bools _ vs _=>eN (k+1) vs
  |.fC t b o _=>eN (k+1) [t]++eN (k+1) [b]++eN (k+1) [o]
  |.gx l _ rs _=>eN (k+1) [l]++eN (k+1) rs
  |.tup es _ _=>eN (k+1) es
  |.lst es _=>eN (k+1) es
  |.comp elt gs sc _=>gs.map λg=>⟨2,k,sc,g.target,[],g.ifs,elt⟩
  |.call _ args _ _=>eN (k+1) args
  |_=>[])++eN (k+1) es
 |_,_=>[]
noncomputable def lz:Nat->List cP->List Lp
 |k+2,s::r=>(match s with
  |.Return e _=>eN (k+1) e.toList
  |.Assign _ e _=>eN (k+1) [e]
  |.Expr e _=>eN (k+1) [e]
  |.If t b o _=>eN (k+1) [t]++lz k b++lz k o
  |.While t b _ _=>⟨1,k,default,t,b,[],t⟩::lz k b
  |.For t _ b _ _=>⟨0,k,default,t,b,[],t⟩::lz k b
  |.Try b _ _ _ _=>lz k b
  |_=>[])++lz (k+1) r
 |_,_=>[]
def gE(i:Nat):d7:=(fnAt i).getD ⟨[],[],default⟩
def T_(i j:Nat):Option Lp:=(lz 64 (gE i).body)[j]?
def df(i:Nat):Cx:=cq (gE i).scope
def gF(c i j:Nat):Option Lp:=(T_ i j).bind λl=>cond (qr l.c c) (D l) I
abbrev lA{a:Type}(v:Option Lp)(f:Lp->M a):M a:=match v with
 |some l=>f l
 |none=>aC
def cl(F:Call)(i j:Nat)(x:PV):M Fl:=lA (gF 0 i j) λl=>CV F l.k (df i) l.t l.b x
def dw(F:Call)(i j:Nat):M Bool:=lA (gF 1 i j) λl=>dK F l.k (df i) l.t
def cM(F:Call)(i j:Nat):M Fl:=lA (gF 1 i j) λl=>bW F l.k (df i) l.b
def fi(F:Call)(i j:Nat)(x:PV):M (Option PV):=lA (gF 2 i j) λl=>CU F l.k ((df i).comp l.sc) l.t l.ifs l.e x
def wZ(F:Call):Nat->Cx->List aA->Wm Bool
 |0,_,_=>bS
 |_+1,_,[]=>du J
 |k+1,cx,e::es=>aU (tW F k cx e) λb=>if b then wZ F k cx es else du V
def C0 F:∀k K P,R (wZ F k K P) (lj F k K P)
 |0,_,_=>bY
 |_+1,_,[]=>dv _
 |k+1,K,e::P=>aV ((ni F k).3 _ _) λb=>cg (C0 F k _ _) (dv _)
def iD{a:Type}(r:Except Exc a×St):Except Exc a->List bb->St->Prop:=λx F F=>r=(x,F)
def jo(h:R w m)(q:w s a (iD r)):m a=D r:=
 h _ _ _ q _ λF F F e q=>e.trans (cA _ (Eq.symm q))
def T'(F:Call)(i j:Nat)(x:PV)(s:List bb)(a:St)(r:Except Exc Fl×St):Prop:=eL (gF 0 i j) False λl=>aU (aW F l.k (df i) l.t x) (λK=>fh F l.k (df i) l.b) s a (iD r)
def Ua(F:Call)(i j:Nat)(s:List bb)(a:St)(r:Except Exc Bool×St):Prop:=eL (gF 1 i j) False λl=>tW F l.k (df i) l.t s a (iD r)
def Ub(F:Call)(i j:Nat)(s:List bb)(a:St)(r:Except Exc Fl×St):Prop:=eL (gF 1 i j) False λl=>fh F l.k (df i) l.b s a (iD r)
abbrev px(F:Call)(i j m:Nat):M Fl:=lA (gF 1 i j) λl=>bW F (l.k - m) (df i) (l.b.drop m)
def Uc(F:Call)(i j m:Nat)(s:List bb)(a:St)(r:Except Exc Fl×St):Prop:=eL (gF 1 i j) False λl=>fh F (l.k - m) (df i) (l.b.drop m) s a (iD r)
abbrev ga(F:Call)(i m:Nat):M Fl:=bW F (64 - m) (df i) ((gE i).body.drop m)
def Ud(F:Call)(i m:Nat)(s:List bb)(a:St)(r:Except Exc Fl×St):Prop:=fh F (64 - m) (df i) ((gE i).body.drop m) s a (iD r)
noncomputable def bodyOf:cP->List cP
 |.If _ b _ _=>b
 |_=>[]
def C1(i j:Nat):List cP:=(((gE i).body[j]?).map bodyOf).getD []
abbrev pz(F:Call)(i j m:Nat):M Fl:=bW F (62 - j - m) (df i) ((C1 i j).drop m)
def Ue(F:Call)(i j m:Nat)(s:List bb)(a:St)(r:Except Exc Fl×St):Prop:=fh F (62 - j - m) (df i) ((C1 i j).drop m) s a (iD r)
def Uf(F:Call)(i j:Nat)(x:PV)(s:List bb)(a:St)(r:Except Exc (Option PV)×St):Prop:=eL (gF 2 i j) False λl=>aU (aW F l.k ((df i).comp l.sc) l.t x) (λK=>aU (wZ F l.k ((df i).comp l.sc) l.ifs) λc=>
   if c then aU (eW F l.k ((df i).comp l.sc) l.e) λv=>du (D v)else du I) s a (iD r)
def nj(e:v=D a)(h:f a b=r):lA v f b=r:=e▸h
abbrev Ug(F:Call)(i j:Nat)(x:PV)(a:St)(r:Except Exc Fl×St)(l:List Tl):Prop:=cj l (r=r)=T' F i j x (g_ l) a r
abbrev Uh(F:Call)(i j:Nat)(a:St)(r:Except Exc Bool×St)(l:List Tl):Prop:=cj l (r=r)=Ua F i j (g_ l) a r
abbrev Ui(F:Call)(i j:Nat)(a:St)(r:Except Exc Fl×St)(l:List Tl):Prop:=cj l (r=r)=Ub F i j (g_ l) a r
abbrev Uj(F:Call)(i j m:Nat)(a:St)(r:Except Exc Fl×St)(l:List Tl):Prop:=cj l (r=r)=Ue F i j m (g_ l) a r
abbrev Uk(F:Call)(i m:Nat)(a:St)(r:Except Exc Fl×St)(l:List Tl):Prop:=cj l (r=r)=Ud F i m (g_ l) a r
abbrev Ul(F:Call)(i j m:Nat)(a:St)(r:Except Exc Fl×St)(l:List Tl):Prop:=cj l (r=r)=Uc F i j m (g_ l) a r
abbrev Um(F:Call)(i j:Nat)(x:PV)(a:St)(r:Except Exc (Option PV)×St)(l:List Tl):Prop:=cj l (r=r)=Uf F i j x (g_ l) a r
def c7 l(e:Ug a i j x b r l:=by kernel_rfl):cl a i j x b=D r:=
 fg (hg e) (λF e h=>nj e (jo (aV ((ni a _).8 _ _ _) λF=>gD a _ _ _) h)) gN
def ew l(e:Uh b i j a r l:=by kernel_rfl):dw b i j a=D r:=
 fg (hg e) (λF e h=>nj e (jo ((ni b _).3 _ _) h)) gN
def c3 l(e:Ui b i j a r l:=by kernel_rfl):cM b i j a=D r:=
 fg (hg e) (λF e h=>nj e (jo (gD b _ _ _) h)) gN
def lC l(e:Uj b i j m a r l:=by kernel_rfl):pz b i j m a=D r:=jo (gD b _ _ _) (hg e)
def cm l(e:Uk b i m a r l:=by kernel_rfl):ga b i m a=D r:=jo (gD b _ _ _) (hg e)
def sD l(e:Ul b i j m a r l:=by kernel_rfl):px b i j m a=D r:=
 fg (hg e) (λF e h=>nj e (jo (gD b _ _ _) h)) gN
def fj l(e:Um a i j x b r l:=by kernel_rfl):fi a i j x b=D r:=
 fg (hg e) (λF e h=>nj e (jo (aV ((ni a _).8 _ _ _) λF=>aV (C0 a _ _ _) λc=>cg (aV ((ni a _).1 _ _) λv=>dv _) (dv _)) h)) gN
local macro_rules
| `(tactic| rw [$e:term]) => `(tactic| ((first | refine Mine.rwt $e ?_ | rewrite [$e:term]); try with_reducible rfl))
| `(tactic| rw [$r, $rs,*]) => `(tactic| (rw [$r]; rw [$rs,*]))
section
open PySem.W PyProof.Rows PySem.MeetsSeq PySem.AutoSeq1 PySem.SeqAt PySem.Calls
set_option backward.match.sparseCases true
structure LA where
 a:aG
 d:aG
structure Gh where
 ι:List LA
 Y:List aG
 Z:List aG
 P:List aG
mutual
def al(Z:List aG)(ι:List LA)(h:Heap):PV->ay->Prop
 |.none,v=>v=.none
 |.bool b,v=>v=.bool b
 |.int i,v=>∃t,v=.int i t
 |.str s,v=>∃t,v=.str s t
 |.bytes b,v=>(∃t,v=.bytes b.toArray t)/\b.length<=aI
 |.tup xs,v=>E2 λa vs=>A5 (v=.ref a) (IsTup h a vs.toArray) (a∉Z) (xs.length<=aI) (aw Z ι h xs vs)
 |.U xs,v=>E2 λa vs=>A5 (v=.ref a) (h.IsList a vs.toArray) (a∉Z) (xs.length<=aI) (aw Z ι h xs vs)
 |.loc n,v=>∃F,ι[n]?=D F/\v=.ref F.a
def aw(Z:List aG)(ι:List LA)(h:Heap):List PV->List ay->Prop
 |[],vs=>vs=[]
 |x::r,vs=>E2 λv F=>A3 (vs=v::F) (al Z ι h x v) (aw Z ι h r F)
end
inductive cL(Z:List aG)(ι:List LA)(h:Heap)(c:List aG)(a:List LA)(d:Heap):Prop |mk
 (F:∀b∈c,b∈Z\/h.get? b=I)
 (F:∀(n:Nat) (F:LA),ι[n]?=D F->a[n]?=D F)
 (F:∀b o,h.get? b=D o->b∉Z->d.get? b=D o)
def cL.out(m:cL b ι h d e g)(c:h.get? a=D o)(f:a∉b):a∉d:=λq=>by
 rcases m.1 a q with x |x
 .exact f x
 .rw[x]at c;exact Mine.z3 c
def An{M:PV->Prop}(n:M .none)(b:∀x,M (.bool x))(i:∀x,M (.int x))(s:∀x,M (.str x))(y:∀x,M (.bytes x))(t:∀a,(∀x∈a,M x)->M (.tup a))(f:∀a,(∀x∈a,M x)->M (.U a))(l:∀n,M (.loc n)) p:M p:=
 PV.rec n b i s y t f l (λF h=>z7 h) (λx r F K y m=>Mine.me m F (K y)) p
def aw.of(d:∀p∈a,∀v,al b ι h p v->al e c f p v):∀F:List _,aw b ι h a F->aw e c f a F:=by
 induction a with
 |nil=>exactλF e=>e
 |cons x r K=>exactλF e=>e.elim λv F y=>⟨v,F,y.1,d x (.head _) v y.2,K (λp m=>d p (.tail _ m)) _ y.3⟩
def al.mono(m:cL a ι h d b c) p:∀v:ay,al a ι h p v->al d b c p v:=
 An (M:=λp=>∀v,al a _ h p v->al _ _ c p v) (λF e=>e) (λF F e=>e) (λF F e=>e) (λF F e=>e) (λF F e=>e)
  (λK F v e=>e.elim λa vs q=>q.2.elim λo z=>⟨a,vs,q.1,⟨o,m.3 _ _ z.1 q.3,z.2⟩,m.out z.1 q.3,q.4,aw.of F _ q.5⟩)
  (λK F v e=>e.elim λa vs q=>q.2.elim λo z=>⟨a,vs,q.1,⟨o,m.3 _ _ z.1 q.3,z.2⟩,m.out z.1 q.3,q.4,aw.of F _ q.5⟩)
  (λn v e=>e.elim λF q=>⟨F,m.2 _ _ q.1,q.2⟩) p
def aw.mono(m:cL a ι h c b d) ps:∀F:List _,aw a ι h ps F->aw c b d ps F:=aw.of λp F=>al.mono m p
def aw.length:∀{F:List _},aw b ι h a F->F.length=a.length:=by
 induction a with
 |nil=>exact(cA _)
 |cons x r F=>exactλe=>e.elim λv K e=>(cA _ e.1).trans (cA _ (F e.3))
def aw.get:∀{F:List _} {n:Nat} {p:PV},aw a ι h b F->b[n]?=D p->∃v,F[n]?=D v/\al a ι h p v:=by
 induction b with
 |nil=>exactλK q=>z3 (yi.symm.trans q)
 |cons x r K=>
  refineλ{F n p} e q=>e.elim λv F e=>e.1▸?_;cases n with
  |zero=>exact⟨v,rfl,aE q▸e.2⟩
  |succ n=>exact K (n:=n) e.3 q
def aw.Ao:∀{F:List _} {n:Nat} {v:ay},aw a ι h b F->F[n]?=D v->∃p,b[n]?=D p/\al a ι h p v:=by
 induction b with
 |nil=>exactλe q=>z3 (yi.symm.trans (e▸q))
 |cons x r K=>
  refineλ{F n F} e q=>e.elim λv F e=>?_;have q:=e.1▸q;cases n with
  |zero=>exact⟨x,rfl,aE q▸e.2⟩
  |succ n=>exact K e.3 q
def aw.append:∀{F:List _} {K P:List _},aw a ι h b K->aw a ι h F P->aw a ι h (b++F) (K++P):=by
 induction b with
 |nil=>exactλe q=>e▸q
 |cons x r K=>exactλe q=>e.elim λv F e=>⟨v,F++_,cA (·++_) e.1,e.2,K e.3 q⟩
def aw.nil:aw a ι h [] []:=by rfl
def aw.cons(c:al a ι h x v)(d:aw a ι h e b):aw a ι h (x::e) (v::b):=⟨v,b,rfl,c,d⟩
def aw.one(b:al a ι h x v):aw a ι h [x] [v]:=.cons b .nil
def aw.il(e:aw a ι h (x::b) c):E2 λv F=>A3 (c=v::F) (al a ι h x v) (aw a ι h b F):=e
def aw.jW(e:aw a ι h [] b):b=[]:=e
def aw.take:∀{F:List _} n,aw a ι h b F->aw a ι h (b.take n) (F.take n):=by
 induction b with
 |nil=>exactλn e=>by rw[e,FX,FX];rfl
 |cons x r K=>
  intro F n e;cases n with
  |zero=>exact rfl
  |succ n=>exact e.elim λv F e=>⟨v,F.take n,cA _ e.1,e.2,K n e.3⟩
def aw.drop:∀{F:List _} n,aw a ι h b F->aw a ι h (b.drop n) (F.drop n):=by
 induction b with
 |nil=>exactλn e=>by rw[e,Zq,Zq];rfl
 |cons x r K=>
  intro F n e;cases n with
  |zero=>exact e
  |succ n=>exact e.elim λv F e=>e.1▸K n e.3
def aw.set:∀{F:List _} n {x:PV} {v:ay},aw a ι h b F->al a ι h x v->aw a ι h (b.set n x) (F.set n v):=by
 induction b with
 |nil=>exactλn K K e K=>e▸rfl
 |cons y r K=>
  intro F n x v e q;cases n with
  |zero=>exact e.elim λu F e=>⟨v,F,cA (List.set · 0 v) e.1,q,e.3⟩
  |succ n=>exact e.elim λu F e=>⟨u,F.set n v,cA (List.set · _ v) e.1,e.2,K n e.3 q⟩
def aw.reverse:∀{F:List _},aw a ι h b F->aw a ι h b.reverse F.reverse:=by
 induction b with
 |nil=>exact(cA _)
 |cons x r F=>exactλe=>e.elim λv K e=>by rw[e.1,yj,yj];exact(F e.3).append (.one e.2)
def aw.mul(e:aw a ι h b c) n:aw a ι h (bF n b).flatten (bF n c).flatten:=by
 induction n with
 |zero=>exact rfl
 |succ n F=>exact e.append F
section
variable (w:bM) (Z:List aG) (ι:List LA) (h:Heap)
def oK(a:Int×PV)(e:Int×ay):Prop:=a.1=e.1/\al Z ι h a.2 e.2
def oL(a:List Int×PV)(e:List Int×aG×ay):Prop:=A3 (a.1=e.1) (e.2.1∉Z) (al Z ι h a.2 e.2.2)
def oM(f:Str×PV)(e:uk):Prop:=A3 (∃t,e.key=.str f.1 t) (e.hash=Zr w.params f.1) (al Z ι h f.2 e.val)
def bC{a b:Type}(R:a->b->Prop):List a->List b->Prop
 |[],ys=>ys=[]
 |x::r,ys=>E2 λy F=>A3 (ys=y::F) (R x y) (bC R r F)
end
noncomputable def fY(K:bg)(c:Str):Option aG:=match nsIn K mainGlobals c with
 |some (D (.ref C))=>D C
 |_=>I
def im(a:bK)(w:bM)(K:bg)(Z:List aG)(ι:List LA)(h:Heap):av->LA->Prop
 |.list xs,la=>A3 (la.d=la.a) (xs.length<=aI) (∃F:List ay,h.PlainList la.a F.toArray/\aw Z ι h xs F)
 |.dict cp,la=>A4 (la.d=la.a) (cp.length<=aI) ((la.a==FY)=V) (∃F,h.DictOf (eB a w) la.a F/\bC (oK Z ι h) cp F)
 |.ck cp,la=>A4 (la.d=la.a) (cp.length<=aI) ((la.a==FY)=V) (∃F,h.DictOfH (ul (eB a w)) la.a F/\bC (oL Z ι h) cp F)
 |.inst c fs,la=>E3 λC F n=>A5 (fY K c=D C) (h.get? la.a=D (instObj C la.d)) (h.get? la.d=D (dictOf F n)) (la.a≠la.d) (bC (oM w Z ι h) fs F)
 |.dead,_=>True
structure FC where
 cx:Cx
 env:Env
 own:List aG
 fr:List aG
 outer:List Env
 cf:Env
noncomputable def isDead:av->Bool
 |.dead=>J
 |_=>V
def gz(Z:List aG)(ι:List LA)(h:Heap)(a:Env)(m:Str->Option ay)(x:Str):kO->Option PV->Prop
 |.local,I=>m x=I
 |.local,D p=>∃v,m x=D v/\al Z ι h p v
 |.cell,I=>∃c,a.cells.lookup x=D c/\h.IsCell c I
 |.cell,D p=>E2 λc v=>A3 (a.cells.lookup x=D c) (h.IsCell c (D v)) (al Z ι h p v)
 |_,_=>False
def Seen(a:FC)(i:Nat)(x:Str)(k:kO):Prop:=(k=.local->i<a.cx.own)/\(k=.cell->a.cx.scope.names.lookup x=D .cell)
inductive vh(a:FC)(Z:List aG)(ι:List LA)(h:Heap)(b:List (Option PV)):Prop |mk
 (F:b.length=a.cx.slots.length)
 (F:∃m,h.Ns a.env.locals m/\∀(i:Nat) x k p,a.cx.slots[i]?=D (x,k)->b[i]?=D p->Seen a i x k->gz Z ι h a.env m x k p)
inductive MZ(b:FC)(g:Gh)(a:LA):Prop |mk
 (F:a.a∈g.Y)
 (F:a.d∈g.Y)
 (F:a.a∉b.own)
 (F:a.a∉b.fr)
 (F:a.d∉b.own)
 (F:a.d∉b.fr)
 (F:a.a∉g.P)
 (F:a.d∉g.P)
inductive ah(c:bK)(w:bM)(K:bg)(B:Heap)(a:FC)(g:Gh)(d:St)(s:ao):Prop |mk
 (F:B.StaysIn s.heap)
 (F:∀b∈g.Y,b∈g.Z)
 (F:∀b∈g.P,b∈g.Z)
 (F:∀b∈g.Z,B.get? b=I/\∃o,s.heap.get? b=D o)
 (F:∀b∈a.own,b∈g.Y)
 (F:∀b∈a.fr,b∈g.Y)
 (F:g.ι.length=d.objs.length)
 (F:∀(n:Nat) o P,d.objs[n]?=D o->g.ι[n]?=D P->isDead o=V->im c w K g.Z g.ι s.heap o P/\MZ a g P)
 (F:∀(n K:Nat) o S P F,d.objs[n]?=D o->d.objs[K]?=D S->g.ι[n]?=D P->g.ι[K]?=D F->isDead o=V->isDead S=V->n≠K->A4 (P.a≠F.a) (P.a≠F.d) (P.d≠F.a) (P.d≠F.d))
 (F:vh a g.Z g.ι s.heap d.loc)
 (F:s.heap.FunFrames B (a.cf::a.outer))
inductive aP(d:FC)(g:Gh)(s:ao)(a:Gh)(c:ao):Prop |mk
 (F:∀b∈a.Z,b∈g.Z\/s.heap.get? b=I)
 (F:∀(n:Nat) (F:LA),g.ι[n]?=D F->a.ι[n]?=D F)
 (F:a.P=g.P)
 (F:∀b∈a.Y,b∈g.Y\/s.heap.get? b=I)
 (F:∀b o,s.heap.get? b=D o->b∉g.Y->c.heap.get? b=D o)
 (F:∀b o,s.heap.get? b=D o->∃F,c.heap.get? b=D F)
 (F:∀b∈d.fr,∀o,s.heap.get? b=D o->∃sl,c.heap.get? b=D {o with slots:=sl})
 (F:E2 λh t=>c={s with heap:=h,toks:=t})
def aP.refl fc g s:aP fc g s g s:=
 ⟨λF h=>.inl h,λF F h=>h,rfl,λF h=>.inl h,λF F h F=>h,λF o h=>⟨o,h⟩,λF F o h=>⟨o.slots,h⟩,s.heap,s.toks,rfl⟩
def aP.none(x:aP c g s d a)(h:a.heap.get? b=I):s.heap.get? b=I:=by
 cases q:s.heap.get? b with
 |none=>rfl
 |some o=>obtain⟨F,e⟩:=x.6 b o q;rw[h]at e;exact Mine.z3 e
def aP.trans(x:aP e g s a b)(y:aP e a b c d):aP e g s c d:=.mk
 (λb h=>by
  rcases y.1 b h with q |q
  .exact x.1 b q
  .exact .inr (x.none q))
 (λn F h=>y.2 n _ (x.2 n _ h))
 (y.3.trans x.3)
 (λb h=>by
  rcases y.4 b h with q |q
  .exact x.4 b q
  .exact .inr (x.none q))
 (λb o h F=>y.5 b o (x.5 b o h F) λq=>by
  rcases x.4 b q with z |z
  .exact F z
  .rw[z]at h;exact Mine.z3 h)
 (λb o h=>by
  obtain⟨K,e⟩:=x.6 b o h;exact y.6 b _ e)
 (λb F o h=>(x.7 b F o h).elim λK K=>(y.7 b F _ K).elim λF K=>⟨F,K⟩)
 (by
  obtain⟨h,t,rfl⟩:=x.8;obtain⟨F,K,e⟩:=y.8;exact⟨F,K,e⟩)
def aP.mono(x:aP e g s a c)(d:∀b∈g.Y,b∈g.Z):cL g.Z g.ι s.heap a.Z a.ι c.heap:=
 ⟨x.1,x.2,λb o h F=>x.5 b o h λq=>F (d b q)⟩
inductive HB(b:bK)(w:bM)(K:bg)(B:Heap)(p:bK)(a:List Str)(c d:Str->Option ay):Prop |mk
 (F:K.In B)
 (F:TopRead p a c d B)
inductive FC.Ok(B:Heap)(a:FC):Prop |mk
 (F:a.env.scope.kind=.function)
 (F:a.env.scope.names=a.cx.scope.names)
 (F:a.env.globals=mainGlobals)
 (F:a.env.builtins=jB)
 (F:B.objs.size<=a.env.locals)
 (F:a.env.locals∈a.own)
 (F:∀b∈a.own,b∉a.fr)
 (F:a.env.frame=a.cf.frame)
 (F:∀(i j:Nat) x k F,a.cx.slots[i]?=D (x,k)->a.cx.slots[j]?=D (x,F)->i<a.cx.own->j<a.cx.own->i=j)
 (F:∀c∈a.env.cells,c.2≠a.env.locals)
 (F:∀c∈a.env.cells,c.2∈a.own\/c.2∈a.fr)
 (F:a.cx.own=a.cx.slots.length->∀c∈a.env.cells,c.2∈a.own)
 (F:∀(i j:Nat) x,a.cx.slots[i]?=D (x,.cell)->a.cx.slots[j]?=D (x,.cell)->i=j)
 (F:∀x i,a.cx.ie x=D i->a.cx.scope.names.lookup x=D .local->i<a.cx.own)
 (F:∀x y c,a.env.cells.lookup x=D c->a.env.cells.lookup y=D c->x=y)
 (F:∀L∈(a.cf::a.outer).filterMap (·.frame),L∈a.own\/L∈a.fr)
 (F:a.cf.scope.kind=.function)
 (F:a.env.frame≠I)
inductive aJ(A:bQ)(a:FC)(n:Nat):Prop |mk
 (F:A.frames=D (a.cf::a.outer))
 (F:A.handled=I)
 (F:A.depth+2*n+2<=mv)
 (F:A.units+20*n+200<=fw)
inductive mU(A:bQ)(a:FC)(n:Nat):Prop |mk
 (F:A.frames=D (a.cf::a.outer))
 (F:A.handled=I)
 (F:A.depth+2*n+2<=mv+1)
 (F:A.units+20*n+200<=fw+10)
def aJ.c(a:aJ A b n):mU A b n:=⟨a.1,a.2,hW a.3,ak a.4 (bl ..)⟩
noncomputable def eG:Exc->Str
 |.bU=>"TrieFault"
 |.co=>"RlpFault"
def gA(a:FC)(g:Gh)(h:Heap)(e:aG)(b:Array ay):Prop:=
 A4 (e∈g.Y) (e∉a.own) (e∉a.fr) (∃o,h.get? e=D o/\o.data=.fields b)
def oN(K:bg)(a:FC)(g:Gh)(h:Heap)(x:Exc)(e:aG):Prop:=
 E4 λC F P S=>A6 (fY K (eG x)=D C) (gA a g h e F) (h.get? e=D S) (S.cls=.ref C) (F[2]?=D P/\(x=.co->P=.none)) (F[1]?=D .none)
def ExcAt(K:bg)(a:FC)(g:Gh)(h:Heap)(x:Exc)(e:aG)(b:ay->Prop):Prop:=
 E7 λC F P S T W f=>Hu (fY K (eG x)=D C) (gA a g h e F) (h.get? e=D S) (S.cls=.ref C) (F[2]?=D P/\(x=.co->P=.none)) (F[1]?=D (.ref T)) (gA a g h T W) (T≠e) (W[3]?=D f) (b f)
def Here(a:FC)(f:ay):Prop:=∃L,a.env.frame=D L/\f=eC L
def io(K:bg)(B:Heap)(a:FC)(g:Gh)(h:Heap)(x:Exc)(e:aG):Prop:=
 oN K a g h x e\/ExcAt K a g h x e λf=>f=.none\/Here a f
def ae{b f:Type}(c:bK)(w:bM)(K:bg)(B:Heap)(d:FC)(e:Gh->Heap->b->f->Prop)(g:Gh)(s:ao)(r:Option (Except Exc b×St))(Q:f->ao->Prop)(E:ay->ao->Prop):Prop:=
 match r with
 |none=>False
 |some (.ok a,st')=>∀b P F,aP d g s P F->ah c w K B d P st' F->e P F.heap a b->Q b F
 |some (.error x,st')=>∀e P F,aP d g s P F->ah c w K B d P st' F->io K B d P F.heap x e->E (.ref e) F
def VR(g:Gh)(h:Heap)(p:PV)(v:ay):Prop:=al g.Z g.ι h p v
def oO(g:Gh)(h:Heap)(p:List PV)(v:List ay):Prop:=aw g.Z g.ι h p v
def BR(_:Gh)(_:Heap)(p:Bool)(v:Bool):Prop:=p=v
def UR(_:Gh)(_:Heap)(_:Unit)(_:Unit):Prop:=True
def ae.step
  (h:ae a w d B f e g s r Q E)(x:aP f g s b c):ae a w d B f e b c r Q E:=by
 unfold ae at h |-
 split
 .exact h
 .exactλb K P y F q=>h b _ _ (x.trans y) F q
 .exactλb K P y F q=>h b _ _ (x.trans y) F q
def ae.map(h:ae a w c B f d g s r Q E)(k:∀b e,Q b e->i b e):ae a w c B f d g s r i E:=
 match r,h with
 |some (.ok _,_),h=>λb F e S F q=>k b _ (h b _ _ S F q)
 |some (.error _,_),h=>h
def ae.bd{o:St}
  (h:ae i w l B n j g s (bd m f o) Q E)
  (k:∀a b e c d,m o=D (.ok a,c)->aP n g s e d->ah i w l B n e c d->rel₁ e d.heap a b->ae i w l B n j e d (f a c) Q E->Q₁ b d):
  ae i w l B n rel₁ g s (m o) Q₁ E:=by
 unfold Mine.bd at h;cases K:m _ with
 |none=>replace h:=K▸h;exact h
 |some r=>
  obtain⟨r,c⟩:=r;rw[K]at h;cases r with
  |ok a=>exactλb F F x F q=>k a b _ _ _ K x F q (ae.step h x)
  |error x=>exact h
def ae.ok{j:St}
  (h:ae d w e B k f g s (D (.ok a,j)) Q E)(x:aP k g s l i)(c:ah d w e B k l j i)(q:f l i.heap a b):Q b i:=h b _ _ x c q
def ev{d e:Type}(a:bK)(w:bM)(K:bg)(B:Heap)(n:Nat)(b:FC)(c:Gh->Heap->d->e->Prop)(t:Sem e)(m:M d):Prop:=
 ∀A g F s Q E,aJ A b n->ah a w K B b g F s->ae a w K B b c g s (m F) Q E->af (model a w) A t Q E s
noncomputable def jX(B:Heap)(L:aG)(h:Heap):List (aG×Obj):=
 (List.range h.objs.size).filterMap λa=>if a=L\/(B.get? a).isSome=J then I else(h.get? a).map λo=>(a,o)
def ip L h:News B L h (jX B L h):=λp F=>by
 obtain⟨a,K⟩:=yk.mp F;haveI e:=K.2;by_cases q:a=L\/(B.get? a).isSome=J
 .rw[iP q]at e;exact Mine.z3 e
 .replace e:=(iN q).symm.trans e;obtain⟨o,P,e⟩:=dS.mp e;clear F;clear K;subst e;exact⟨P,λz=>q (.inl z),Option.not_isSome_iff_eq_none.mp λz=>q (.inr z)⟩
def jY(c:h.get? a=D o)(d:B.get? a=I)(b:a≠L):(a,o)∈jX B L h:=
 yk.mpr ⟨a,qt.mpr (ca c),by rw[iN (λz=>z.elim b λz=>by replace z:=d▸z;cases z),c];rfl⟩
def gz.mono(M:cL Z f h g b d)
  (e:∀c v,a.cells.lookup x=D c->h.IsCell c v->d.IsCell c v)(r:gz Z f h a m x k p):gz g b d a m x k p:=by
 cases k with
 |«local»=>cases p with
  |none=>exact r
  |some p=>exact r.elim λv y=>⟨v,y.1,y.2.mono M⟩
 |cell=>cases p with
  |none=>exact r.elim λc y=>⟨c,y.1,e _ _ y.1 y.2⟩
  |some p=>exact r.elim λc v y=>⟨c,v,y.1,e _ _ y.1 y.2,y.3.mono M⟩
 |_=>cases p <;> exact gN r
def bC.mono(d:∀a b,f a b->e a b):∀{F:List _},bC f c F->bC e c F:=by
 induction c with
 |nil=>exactλe=>e
 |cons x r K=>exactλe=>e.elim λy F e=>⟨y,F,e.1,d _ _ e.2,K e.3⟩
def bC.get:∀{F:List _},bC b a F->∀y∈F,∃x∈a,b x y:=by
 induction a with
 |nil=>exactλe y F=>z7 (e▸F)
 |cons x r K=>exactλe y F=>e.elim λS S e=>me (P:=λy=>∃z∈x::r,b z y) (e.1▸F) ⟨x,.head _,e.2⟩ λh=>(K e.3 y h).elim λz m=>⟨z,.tail _ m.1,m.2⟩
def bC.length:∀{F:List _},bC b a F->F.length=a.length:=by
 induction a with
 |nil=>exact(cA _)
 |cons x r F=>exactλe=>e.elim λy K e=>(cA _ e.1).trans (cA _ (F e.3))
def bC.M0:∀{F:List _},(∀a,∀b∈F,e a b->d a b)->bC e c F->bC d c F:=by
 induction c with
 |nil=>exactλF e=>e
 |cons x r P=>exactλK e=>e.elim λy F e=>⟨y,F,e.1,K _ _ (e.1▸.head _) e.2,P (λa b F=>K a b (e.1▸.tail _ F)) e.3⟩
def im.mono(M:cL Z i h j e f)(d:∀a,h.get? b.a=D a->f.get? b.a=D a)(k:∀a,h.get? b.d=D a->f.get? b.d=D a)
  (r:im c w g Z i h o b):im c w g j e f o b:=by
 refine aH λG K=>?_;cases o with
 |list F=>obtain⟨P,F⟩:=r.3;exact K ⟨r.1,r.2,P,F.1.at d,aw.mono M _ _ F.2⟩
 |dict F=>obtain⟨S,P⟩:=r.4;exact K ⟨r.1,r.2,r.3,S,P.1.at d,P.2.mono λW W q=>⟨q.1,q.2.mono M⟩⟩
 |ck F=>
  obtain⟨S,F⟩:=r.4;obtain⟨o,P⟩:=F.1;obtain⟨X,Z⟩:=P;obtain⟨b,P⟩:=Z;refine K ⟨r.1,r.2,r.3,S,⟨o,X,b,d _ P.1,P.2.1,P.2.2.1,P.2.2.2.1,λx X=>?_,P.2.2.2.2.2⟩,F.2.M0 λW x X q=>⟨q.1,?_,q.3.mono M⟩⟩
  .refine aH λG K=>?_;obtain⟨Z,b⟩:=F.2.get x X;obtain⟨a,Z⟩:=P.2.2.2.2.1 x X;obtain⟨F,c⟩:=Z;obtain⟨n,Z⟩:=c;exact K ⟨a,F,n,M.3 _ _ Z.1 b.2.2,Z.2.1,Z.2.2.1,Z.2.2.2⟩
  .refine aH λG K=>?_;obtain⟨a,Z⟩:=P.2.2.2.2.1 x X;obtain⟨F,F⟩:=Z;obtain⟨n,P⟩:=F;exact K (M.out P.1 q.2)
 |inst c F=>exact r.elim λC S n F=>K ⟨C,S,n,F.1,d _ F.2,k _ F.3,F.4,F.5.mono λW W q=>⟨q.1,q.2,q.3.mono M⟩⟩
 |dead=>refine K ?_;trivial
def M4{h a:Heap}(x:h.IsCell c v)(k:∀o,h.get? c=D o->∃b,a.get? c=D {o with slots:=b}):a.IsCell c v:=by
 refine x.elim λo F=>?_;obtain⟨b,K⟩:=k o F.1;exact⟨_,K,F.2⟩
def ah.fr(e:FC.Ok B c)(a:ah d w f B c g b s):∃m,Fr B c.env.locals s.heap m/\
  ∀i x k p,c.cx.slots[i]?=D (x,k)->b.loc[i]?=D p->Seen c i x k->gz g.Z g.ι s.heap c.env m x k p:=bi a.10.2 λm F=>⟨m,⟨F.1,a.1,e.5⟩,F.2⟩
def g3{a b:Type}[BEq a][LawfulBEq a]{x y:a}{d:b}{r:List _}{P:Option _->Prop}(h:x=y->P (D d))(n:x≠y->P (r.lookup x)):P (((y,d)::r).lookup x):=by
 rw[yl];cases e:x==y with
 |true=>exact h (bE.mp e)
 |false=>exact n (beq_eq_false_iff_ne.mp e)
def lookup_at{a b:Type}[BEq a][LawfulBEq a]{x:a}{d:b}{r:List _}:((x,d)::r).lookup x=D d:=g3 (P:=(·=D d)) (λF=>rfl) (aB rfl)
def Ap{a b:Type}[BEq a][LawfulBEq a]{x y:a}{d:b}{r:List _}(h:x≠y):((y,d)::r).lookup x=r.lookup x:=g3 (P:=(·=r.lookup x)) (λe=>aB e h) λF=>rfl
def mem_of_lookup{a b:Type}[BEq a][LawfulBEq a]{x:a}{c:b}{l:List _}:l.lookup x=D c->(x,c)∈l:=by
 induction l with
 |nil=>exact z3
 |cons p r F=>exact g3 (P:=λo=>o=D c->(x,c)∈p::r) (λe h=>e▸aE h▸.head _) λK h=>.tail _ (F h)
def jZ{a h e:Heap}(k:∀b o,h.get? b=D o->(∀d,o.data≠.fields d)->∃c,e.get? b=D c/\∀d,c.data≠.fields d):h.FunFrames a l->e.FunFrames a l:=by
 induction l with
 |nil=>exactλF=>trivial
 |cons F r K=>exactλy=>⟨y.1,y.2.1.elim λL z=>z.elim λo q=>(k L o q.2.2.1 q.2.2.2).elim λc F=>⟨L,c,q.1,q.2.1,F.1,F.2⟩,K y.2.2⟩
def oP(s:ao) h t:E2 λF K=>({s with heap:=h,toks:=t})={s with heap:=F,toks:=K}:=⟨h,t,rfl⟩
def ah.after(e:FC.Ok B d)(a:ah f w h B d g c s)(l:∀i x k p,d.cx.slots[i]?=D (x,k)->c.loc[i]?=D p->Seen d i x k->gz g.Z g.ι s.heap d.env m x k p)
   (F:Fr B d.env.locals j m)(n:∀b o,s.heap.get? b=D o->B.get? b=I->b≠d.env.locals->j.get? b=D o):
  aP d g s g {s with heap:=j,toks:=t}/\ah f w h B d g c {s with heap:=j,toks:=t}:=by
 haveI Z:=a.5 _ e.6;have K:=λb o S W=>by
  refine Mine.oe (B.get? b) (λP=>?_) λf P=>?_
  .exact n b o S P W
  .
   haveI X:=a.1 b _ P;replace X:=S▸X;rw[aE X];exact F.keep b _ P
 haveI M:cL _ _ _ _ g.ι _:=⟨λW h=>.inl h,λW W h=>h,λb o S P=>K b o S λq=>P (q▸a.2 _ Z)⟩;haveI g:∀b∈d.fr,b≠d.env.locals:=λb P q=>e.7 _ e.6 (q▸P);have c:∀b o,s.heap.get? b=D o->∃f,j.get? b=D _:=λb o S=>by
  by_cases P:b=d.env.locals
  .refine aH λG j=>F.ns.elim λf n=>?_;obtain⟨s,r⟩:=n;obtain⟨t,n⟩:=r;exact j ⟨f,P▸n.1⟩
  .exact⟨o,K b o S P⟩
 refine⟨⟨λW h=>.inl h,λW W h=>h,rfl,λW h=>.inl h,λb o S P=>K b o S λq=>P (q▸Z),c,λb P o S=>⟨o.slots,K b o S (g b P)⟩,oP ..⟩,F.keep,a.2,a.3,λb P=>⟨(a.4 b P).1,((a.4 b P).2).elim λW q=>c _ _ q⟩,a.5,a.6,a.7,λn o W X Z c=>?_,a.9,⟨a.10.1,m,F.ns,λi x k p X Z c=>?_⟩,?_⟩
 .have W:=a.8 n o _ X Z c;exact⟨W.1.mono M (λg q=>K _ _ q λz=>W.2.3 (z▸e.6)) (λg q=>K _ _ q λz=>W.2.5 (z▸e.6)),W.2.1,W.2.2,W.2.3,W.2.4,W.2.5,W.2.6,W.2.7,W.2.8⟩
 .exact(l i x k p X Z c).mono M λc v q r=>r.elim λo W=>⟨o,K _ _ W.1 (e.10 _ (mem_of_lookup q)),W.2⟩
 .refine jZ (λb o S W=>?_) a.11;by_cases P:b=d.env.locals
  .refine F.ns.elim λf F=>F.elim λs X=>?_;obtain⟨t,F⟩:=X;exact⟨f,P▸F.1,λX q=>by replace q:=F.2.1▸q;cases q⟩
  .exact⟨o,K b o S P,W⟩
def ah.toks(f:FC.Ok B d)(a:ah c w e B d g b s) t:aP d g s g {s with toks:=t}/\ah c w e B d g b {s with toks:=t}:=bi (a.fr f) λm F=>a.after f F.2 F.1 (λF F q F F=>q)
def ah.rr(j:FC.Ok B c)(a:ah d w f B c g b s)(l:∀i x k p,c.cx.slots[i]?=D (x,k)->b.loc[i]?=D p->Seen c i x k->gz g.Z g.ι s.heap c.env m x k p)
    (F:Fr B c.env.locals h m)(N:News B c.env.locals h e)(n:∀p∈jX B c.env.locals s.heap,p∈e):
  aP c g s g {s with heap:=h,toks:=t}/\ah d w f B c g b {s with heap:=h,toks:=t}:=
 a.after j l F (λb o F K P=>(N _ (n _ (jY F K P))).1)
def ah.upd(y:FC.Ok B h)(a:ah e w k B h g c s)(p:c.objs[n]?=D o)(l:g.ι[n]?=D q)(r:isDead o=V)(i:j=q.a\/j=q.d)
  (f:∀b d,s.heap.get? b=D d->b≠j->m.get? b=D d)(x:im e w k g.Z g.ι m v q)(u:∃d,m.get? j=D d/\∀z,d.data≠.fields z):
  aP h g s g {s with heap:=m,toks:=t}/\ah e w k B h g {c with objs:=c.objs.set n v} {s with heap:=m,toks:=t}:=by
 obtain⟨F,t,w,A,B,C,E,G,H⟩:=a.8 n o _ p l r;have k:j∈g.Y:=by rcases i with rfl |rfl <;> assumption
 have F:j∉h.own:=by rcases i with rfl |rfl <;> assumption
 have S:j∉h.fr:=by rcases i with rfl |rfl <;> assumption
 have W:∀b o,s.heap.get? b=D o->∃v,m.get? b=D _:=λb o q=>by
  by_cases K:b=j
  .refine u.elim λd P=>?_;exact⟨d,K▸P.1⟩
  .exact⟨o,f b o q K⟩
 have M:cL _ _ _ _ g.ι _:=⟨λP h=>.inl h,λP P h=>h,λb d q z=>f b _ q λe=>z (e▸a.2 _ k)⟩;refine⟨⟨λP h=>.inl h,λP P h=>h,rfl,λP h=>.inl h,λb d q z=>f b _ q λe=>z (e▸k),W,λb K d q=>⟨d.slots,f b d q λe=>S (e▸K)⟩,oP ..⟩,?_⟩;refine⟨λb d q=>f b _ (a.1 b _ q) λe=>?_,a.2,a.3,λb K=>⟨(a.4 b K).1,((a.4 b K).2).elim λP q=>W _ _ q⟩,a.5,a.6,by rw[dD];exact a.7,?_,?_,⟨a.10.1,?_⟩,?_⟩
 .have:=(a.4 _ (a.2 _ k)).1;rw[<- e,q]at this;exact Mine.z4 this
 .intro W g K P X Z;by_cases e:W=n
  .clear p;subst e;rw[l]at X;rw[<- aE X];replace P:=(gn (a.7▸((cQ.mp l).1)))▸P;rw[<- aE P];exact⟨x,t,w,A,B,C,E,G,H⟩
  .replace P:=(bm (Ne.symm e))▸P;have W:=a.8 _ _ _ P X Z;have h:=a.9 _ n _ o _ _ P p X l Z r e;refine⟨W.1.mono M (λd q=>f _ _ q λe=>?_) (λd q=>f _ _ q λe=>?_),W.2.1,W.2.2,W.2.3,W.2.4,W.2.5,W.2.6,W.2.7,W.2.8⟩
   .clear f u k F S;rcases i with rfl |rfl
    .exact h.1 e
    .exact h.2 e
   .clear f u k F S;rcases i with rfl |rfl
    .exact h.3 e
    .exact h.4 e
 .have h:∀(k:Nat) W,(c.objs.set n v)[k]?=D _->isDead W=V->∃i,c.objs[k]?=D i/\isDead i=V:=λk W s t=>by
   by_cases e:k=n
   .clear l s;subst e;exact⟨o,p,r⟩
   .rw[bm (Ne.symm e)]at s;exact⟨W,s,t⟩
  intro c i g W K W P X Z m l n o;obtain⟨p,g⟩:=h _ _ P l;obtain⟨r,l⟩:=h _ _ X n;exact a.9 c i p r K W g.1 l.1 Z m g.2 l.2 o
 .obtain⟨m,K⟩:=a.10.2;refine⟨m,?_,λi x k p P X Z=>(K.2 i x k p P X Z).mono M λc v q r=>?_⟩
  .obtain⟨d,P⟩:=K.1;obtain⟨W,K⟩:=P;refine bi K λP K=>?_;exact⟨d,W,P,f _ d K.1 λe=>F (e▸y.6),K.2⟩
  .refine r.elim λd K=>?_;refine⟨d,f _ d K.1 λe=>?_,K.2⟩;rcases y.11 _ (mem_of_lookup q)with z |z
   .exact F (e▸z)
   .exact S (e▸z)
 .refine jZ (λb d s t=>?_) a.11;by_cases e:b=j
  .exact e▸u
  .exact⟨d,f b d s e,t⟩
def ah.Aq(E:FC.Ok B e)(a:ah m w o B e g c s){v:ay}(H:e.cx.slots[i]?=D (x,k))(L:c.loc[i]?≠I)
    (f:n∈e.own)(l:∀b d,s.heap.get? b=D d->b≠n->h.get? b=D d)(A:∃d,h.get? n=D d/\∀z,d.data≠.fields z)
   (r:h.Ns e.env.locals C)
  (G:∀j y u q,e.cx.slots[j]?=D (y,u)->(c.loc.set i (D p))[j]?=D q->Seen e j y u->gz g.Z g.ι h e.env C y u q):
  aP e g s g {s with heap:=h,toks:=t}/\ah m w o B e g {c with loc:=c.loc.set i (D p)} {s with heap:=h,toks:=t}:=by
 have S:=a.5 _ f;have P:∀b o,s.heap.get? b=D o->∃F,h.get? b=D _:=λb o q=>by
  by_cases F:b=n
  .exact A.elim λd K=>⟨d,F▸K.1⟩
  .exact⟨o,l b o q F⟩
 haveI M:cL _ _ _ _ g.ι _:=⟨λK h=>.inl h,λK K h=>h,λb d q z=>l b _ q λe=>z (e▸a.2 _ S)⟩;refine⟨⟨λK h=>.inl h,λK K h=>h,rfl,λK h=>.inl h,λb d q z=>l b _ q λe=>z (e▸S),P,λb F d q=>⟨d.slots,l b d q λe=>(E.7 _ f) (e▸F)⟩,oP ..⟩,⟨λb d q=>l b _ (a.1 b _ q) λe=>?_,a.2,a.3,λb F=>⟨(a.4 b F).1,((a.4 b F).2).elim λK q=>P _ _ q⟩,a.5,a.6,a.7,?_,a.9,⟨dD.trans a.10.1,C,r,G⟩,?_⟩⟩
 .have:=(a.4 _ (a.2 _ S)).1;rw[<- e,q]at this;exact Mine.z4 this
 .intro F F F K P S;haveI F:=a.8 _ _ _ K P S;exact⟨F.1.mono M (λd q=>l _ _ q λe=>F.2.3 (e▸f)) (λd q=>l _ _ q λe=>F.2.5 (e▸f)),F.2.1,F.2.2,F.2.3,F.2.4,F.2.5,F.2.6,F.2.7,F.2.8⟩
 .refine jZ (λb d F K=>?_) a.11;by_cases e:b=n
  .exact e▸A
  .exact⟨d,l b _ F e,K⟩
def slot_get{a:Cx}(e:a.ie x=D i):∃k,A3 (a.scope.names.lookup x=D k) (k=.local\/k=.cell) (a.slots[i]?=D (x,k)):=by
 refine aH λG K=>?_;obtain⟨k,h,e⟩:=b0.mp e;obtain⟨P,e⟩:=mO e;obtain⟨F,S⟩:=Zs.mp e;haveI q:=S.1;refine K ⟨k,h,Mp P,?_⟩;rw[bI F];haveI q:=cH.mp q;rw[<- bE.mp q.1,<- bE.mp q.2]
def vi(d:FC.Ok B l)(a:ah n w g4 B l g f s)(hs:l.cx.fW x=D i)(hv:al g.Z g.ι s.heap p v)
  (h:ae n w g4 B l UR g s (ol i p f) Q E):af (model n w) A (storeName l.env x v) Q E s:=by
 refine aH λG κ=>?_;have C:=ra hs;obtain⟨k,hk,ru,W⟩:=slot_get C;have T:l.env.kindOf x=D k:=by unfold jC;rw[d.2];exact hk
 have X:f.loc[i]?≠I:=by
  have:=(cQ.mp W).1;rw[<- a.10.1]at this;simp[Zt];exact this
 have o:=a.10.1▸((cQ.mp W).1);obtain⟨m,F,hm⟩:=a.fr d;rcases ru with rfl |rfl
 .refine κ (wpAny_storeName_local T F.ns (λh' hn H=>?_) (by rw[d.1];rfl));have Z:∀b K,s.heap.get? b=D _->b≠l.env.locals->h'.get? b=D K:=λb K q z=>(H.2 b z).trans q;have M:cL _ _ _ _ g.ι _:=⟨λO h=>.inl h,λO O h=>h,λb K q z=>Z b _ q λe=>z (e▸a.2 _ (a.5 _ d.6))⟩;have Ar:=d.14 x i C hk;have y0:=a.Aq d (p:=p) (v:=v) (t:=s.toks+1) W X d.6 Z (by obtain⟨K,y1⟩:=hn;obtain⟨es,y2⟩:=y1;obtain⟨ep,y3⟩:=y2;exact⟨K,y3.1,λvs z=>by replace z:=y3.2.1▸z;cases z⟩) hn (λj y k' q S P h3=>by
   by_cases e:j=i
   .clear hs h C X Ar;subst e;replace S:=W▸S;clear h3;obtain⟨rfl,rfl⟩:=ym (aE S);replace P:=(gn o)▸P;obtain rfl:=aE P;exact⟨v,iP rfl,hv.mono M⟩
   .replace P:=(bm (Ne.symm e))▸P;have r':=(hm j y _ q S P h3).mono M (λc v q oQ=>oQ.elim λK u=>⟨K,Z _ _ u.1 (d.10 _ (mem_of_lookup q)),u.2⟩);cases k' with
    |«local»=>
     have:y≠x:=λz=>e (d.9 j i x _ _ (z▸S) W (h3.1 rfl) Ar);cases q with
     |none=>exact(iN this).trans r'
     |some q=>exact r'.elim λv y=>⟨v,(iN this).trans y.1,y.2⟩
    |cell=>cases q <;> exact r'
    |_=>cases q <;> exact gN r')
  exact h.ok y0.1 y0.2 trivial
 .obtain⟨q,hq⟩:∃q,f.loc[i]?=D q:=yn.mp X;have r:=hm i x _ q W hq ⟨λz=>(by cases z),λO=>hk⟩;obtain⟨c,v0,hc,L⟩:E2 λc v0=>l.env.cells.lookup x=D c/\s.heap.IsCell c v0:=by
   cases q with
   |none=>obtain⟨c,y5⟩:=r;exact⟨c,_,y5.1,y5.2⟩
   |some p=>obtain⟨c,v,y6⟩:=r;exact⟨c,_,y6.1,y6.2⟩
  have As:=d.12 (Mq hs hk) _ (mem_of_lookup hc);refine κ (wpAny_storeName_cell d.1 T hc L (λh' rv H=>?_));have Z:∀b K,s.heap.get? b=D _->b≠c->h'.get? b=D K:=λb K q z=>(H.2 b z).trans q;have M:cL _ _ _ g.Z g.ι h':=⟨λO h=>.inl h,λO O h=>h,λb K q z=>Z b K q λe=>z (e▸a.2 _ (a.5 _ As))⟩;have y4:=a.Aq d (v:=v) (t:=s.toks) W X As Z (by obtain⟨K,q1,q2⟩:=rv;exact⟨K,q1,λvs z=>by rw[q2]at z;cases z⟩)
    (by obtain⟨K,es,ep,q1,q2⟩:=F.ns;exact⟨K,es,ep,Z _ _ q1 (λe=>d.10 _ (mem_of_lookup hc) e.symm),q2⟩) (λj y k' q S P h3=>by
   by_cases e:j=i
   .subst e;rw[W]at S;cases S;rw[gn o]at P;cases P;exact⟨c,v,hc,rv,hv.mono M⟩
   .rw[bm (Ne.symm e)]at P;have r:=hm j y k' q S P h3;cases k' with
    |«local»=>cases q with
     |none=>exact r
     |some q=>exact r.elim λv y=>⟨v,y.1,y.2.mono M⟩
    |cell=>
     have rx:∀N,l.env.cells.lookup y=D N->N≠c:=λN z1 z2=>by
      have:=d.15 y x c (z2▸z1) hc;subst this;exact e (d.13 j i y S W)
     cases q with
     |none=>obtain⟨N,y7⟩:=r;obtain⟨K,y8⟩:=y7.2;exact⟨N,y7.1,K,Z _ _ y8.1 (rx _ y7.1),y8.2⟩
     |some p=>obtain⟨N,v',y9⟩:=r;obtain⟨K,ln⟩:=y9.2;exact⟨N,v',y9.1,⟨K,Z _ _ ln.1 (rx _ y9.1),ln.2⟩,y9.3.mono M⟩
    |_=>cases q <;> exact gN r)
  exact h.ok y4.1 y4.2 trivial
noncomputable def Gh.push(g:Gh)(a:LA):Gh:=⟨g.ι++ [a],a.a::a.d::g.Y,a.a::a.d::g.Z,g.P⟩
def ah.alloc(ok:FC.Ok B E)(d:ah L w g4 B E g f s)(hm:∀i x k p,E.cx.slots[i]?=D (x,k)->f.loc[i]?=D p->Seen E i x k->gz g.Z g.ι s.heap E.env m x k p)(G:s.heap.get? la.a=I)(hd:s.heap.get? la.d=I)(M5:∃h,H.get? la.a=D h)(M6:∃h,H.get? la.d=D h)
  (F:Fr B E.env.locals H m)(j:∀b h,s.heap.get? b=D h->b≠E.env.locals->H.get? b=D h)(hr:im L w g4 (g.push la).Z (g.push la).ι H o la):
  aP E g s (g.push la) {s with heap:=H,toks:=t}/\ah L w g4 B E (g.push la) {f with objs:=f.objs++ [o]} {s with heap:=H,toks:=t}:=by
 have hk:∀b h,s.heap.get? b=D h->b∉g.Y->H.get? b=D h:=λb h q z=>j b h q λe=>z (e▸(d.5 _ ok.6));have hex:∀b o,s.heap.get? b=D o->∃o',H.get? b=D o':=λb o ho=>by
  by_cases P:b=E.env.locals
  .obtain⟨o',y0⟩:=F.ns;obtain⟨es,y3⟩:=y0;obtain⟨ep,y4⟩:=y3;exact⟨o',P▸y4.1⟩
  .exact⟨o,j b o ho P⟩
 have pre:∀n T,g.ι[n]?=D T->(g.push la).ι[n]?=D T:=λn T q=>(cX ((cQ.mp q).1)).trans q;have sub:∀b∈(g.push la).Z,b∈g.Z\/s.heap.get? b=I:=λb P=>by
  rcases bD.mp P with rfl |P
  .exact .inr G
  .rcases bD.mp P with rfl |P
   .exact .inr hd
   .exact .inl P
 have M:cL g.Z g.ι s.heap (g.push la).Z (g.push la).ι H:=⟨sub,pre,λb h q z=>hk b h q λy=>z (d.2 _ y)⟩;have Z:∀b,s.heap.get? b=I->B.get? b=I:=λb P=>by
  cases q:B.get? b with
  |none=>rfl
  |some h=>have:=d.1 b h q;rw[P]at this;exact Mine.z3 this
 have At:∀b,s.heap.get? b=I->b∉g.P:=λb P q=>by obtain⟨o,e⟩:=(d.4 b (d.3 b q)).2;rw[P]at e;exact Mine.z3 e
 have u:∀b,s.heap.get? b=I->b∉g.Y:=λb P q=>by obtain⟨o,e⟩:=(λb P=>(d.4 b (d.2 b P)).2) b q;rw[P]at e;exact Mine.z3 e
 refine⟨⟨sub,pre,rfl,λb P=>?_,hk,hex,λb P h q=>⟨h.slots,j b h q λe=>ok.7 _ ok.6 (e▸P)⟩,oP ..⟩,?_⟩
 .rcases bD.mp P with rfl |P
  .exact .inr G
  .rcases bD.mp P with rfl |P
   .exact .inr hd
   .exact .inl P
 refine⟨F.keep,λb P=>?_,λb P=>.tail _ (.tail _ (d.3 b P)),λb P=>?_,λb P=>.tail _ (.tail _ (d.5 b P)),λb P=>.tail _ (.tail _ (d.6 b P)),?_,?_,?_,⟨d.10.1,?_⟩,?_⟩
 .rcases bD.mp P with rfl |P
  .exact .head _
  .rcases bD.mp P with rfl |P
   .exact .tail _ (.head _)
   .exact .tail _ (.tail _ (d.2 b P))
 .rcases bD.mp P with rfl |P
  .exact⟨Z _ G,M5⟩
  .rcases bD.mp P with rfl |P
   .exact⟨Z _ hd,M6⟩
   .exact⟨(d.4 b P).1,((d.4 b P).2).elim λψ q=>hex _ _ q⟩
 .rw[az,az,d.7];rfl
 .intro n S K X l N;by_cases e:n<f.objs.length
  .rw[cX e]at X;have W:=by
    have:(g.ι++ [la])[n]?=D K:=l
    rwa[cX (by rw[d.7];exact e)]at this
   have A:=d.8 n S K X W N;exact⟨A.1.mono M (λh q=>j _ _ q λe=>A.2.3 (e▸ok.6)) (λh q=>j _ _ q λe=>A.2.5 (e▸ok.6)),.tail _ (.tail _ A.2.1),.tail _ (.tail _ A.2.2),A.2.3,A.2.4,A.2.5,A.2.6,A.2.7,A.2.8⟩
  .replace X:=(mw (ar.mp e))▸X;have W:=by
    have:(g.ι++ [la])[n]?=D K:=l
    rwa[mw (by rw[d.7];exact ar.mp e)]at this
   replace W:=d.7▸W;clear l N e;cases hn:n - f.objs.length with
   |zero=>
    rw[hn]at X W;obtain rfl:=aE X;obtain rfl:=aE W;exact⟨hr,.head _,.tail _ (.head _),λq=>u _ G (d.5 _ q),λq=>u _ G (d.6 _ q),λq=>u _ hd (d.5 _ q),λq=>u _ hd (d.6 _ q),At _ G,At _ hd⟩
   |succ k=>rw[hn]at X;simp at X
 .have key:∀n S K,(f.objs++ [o])[n]?=D S->(g.push la).ι[n]?=D K->isDead S=V->(A4 (f.objs[n]?=D S) (g.ι[n]?=D K) (K.a∈g.Y) (K.d∈g.Y))\/(n=f.objs.length/\K=la):=λn S K X l N=>by
   by_cases e:n<f.objs.length
   .rw[cX e]at X;have W:=by
     have:(g.ι++ [la])[n]?=D K:=l
     rwa[cX (by rw[d.7];exact e)]at this
    have y5:=d.8 n S K X W N;exact .inl ⟨X,W,y5.2.1,y5.2.2⟩
   .have W: [la][n - g.ι.length]?=D K:=by
     have:(g.ι++ [la])[n]?=D K:=l
     rwa[mw (by rw[d.7];exact ar.mp e)]at this
    rw[d.7]at W;cases hn:n - f.objs.length with
    |zero=>rw[hn]at W;cases W;exact .inr ⟨by exact b8 (ug hn) (ml e),rfl⟩
    |succ k=>rw[hn]at W;simp at W
  intro n n' S O K C X l N h4 h5 h6 h7;have Q:∀a b:aG,a∈g.Y->s.heap.get? b=I->a≠b:=λa b x y z=>u b y (z▸x);rcases key n S K X N h5 with⟨p1,p2,p3,p4⟩ |⟨p1,rfl⟩ <;> rcases key n' O C l h4 h6 with⟨q1,q2,q3,q4⟩ |⟨q1,rfl⟩
  .exact d.9 n n' S O K C p1 q1 p2 q2 h5 h6 h7
  .exact⟨Q _ _ p3 G,Q _ _ p3 hd,Q _ _ p4 G,Q _ _ p4 hd⟩
  .exact⟨(Q _ _ q3 G).symm,(Q _ _ q4 G).symm,(Q _ _ q3 hd).symm,(Q _ _ q4 hd).symm⟩
  .exact aB (p1.trans q1.symm) h7
 .refine⟨m,F.ns,λi x k p X l N=>(hm i x k p X l N).mono M λc v q r=>?_⟩;obtain⟨h,y1⟩:=r;exact⟨h,j _ h y1.1 (ok.10 _ (mem_of_lookup q)),y1.2⟩
 .refine jZ (λb h q1 q2=>?_) d.11;by_cases P:b=E.env.locals
  .obtain⟨o',es,ep,X,l,_⟩:=F.ns;exact⟨o',P▸X,λvs q=>by rw[l]at q;cases q⟩
  .exact⟨h,j b h q1 P,q2⟩
def ah.new(j:FC.Ok B f)(c:ah d w h B f g a s)(i:∀b e,s.heap.get? b=D e->h'.get? b=D e):
  aP f g s g {s with heap:=h',toks:=t}/\ah d w h B f g a {s with heap:=h',toks:=t}:=by
 refine bi (c.fr j) λm F=>?_;haveI K:Fr B _ _ m:=by
  obtain⟨⟨e,P,S,W,X⟩,k,a⟩:=F.1;exact⟨⟨e,P,S,i _ _ W,X⟩,λb o q=>i _ _ (k b o q),a⟩
 exact c.after j F.2 K (λb o q F F=>i b o q)
section
open Builtin
def ae.val(i:FC.Ok B e)(a:ah c w d B e g b s)(h:ae c w d B e VR g s (D (.ok p,b)) Q E)(f:al g.Z g.ι s.heap p v):Q v s:=
 h.ok (aP.refl ..) a f
def ae.iq(f:FC.Ok B e)(a:ah c w d B e g b s)(h:ae c w d B e VR g s (D (.ok p,b)) Q E)(i:al g.Z g.ι s.heap p v):Q v {s with toks:=t}:=by
 haveI F:=a.toks f t;exact h.ok F.1 F.2 (i.mono (F.1.mono a.2))
def ae.int(f:FC.Ok B e)(a:ah c w d B e g b s)(h:ae c w d B e VR g s (D (.ok (.int i),b)) Q E):Q (.int i u) {s with toks:=t}:=
 h.iq f a ⟨_,rfl⟩
def ae.bool(i:FC.Ok B f)(a:ah d w e B f g c s)(h:ae d w e B f VR g s (D (.ok (.bool b),c)) Q E):Q (.bool b) {s with toks:=t}:=
 h.iq i a (by rfl)
def ae.bytes(k:FC.Ok B j)(a:ah f w i B j g d s)(h:ae f w i B j VR g s (D (.ok (.bytes b),d)) Q E)(e:c=b.toArray)(l:b.length<=aI):Q (.bytes c u) {s with toks:=t}:=
 h.iq k a (by subst e;exact⟨⟨_,rfl⟩,l⟩)
def al.toInt(r:al Z a h (.int i) v):∃t,v=.int i t:=r
def al.toBool(r:al Z a h (.bool i) v):v=.bool i:=r
def al.jj(r:al Z a h .none v):v=.none:=r
def al.toStr(r:al Z a h (.str i) v):∃t,v=.str i t:=r
def al.toBytes(r:al Z a h (.bytes i) v):∃t,v=.bytes i.toArray t:=r.1
def al.oR(r:al Z a h (.bytes i) v):i.length<=aI:=r.2
def al.dr(r:al Z c h (.tup b) v):E2 λa vs=>A5 (v=.ref a) (IsTup h a vs.toArray) (a∉Z) (aw Z c h b vs) (b.length<=aI):=r.elim λa vs F=>⟨a,vs,F.1,F.2,F.3,F.5,F.4⟩
def al.mV(r:al Z c h (.U b) v):E2 λa vs=>A5 (v=.ref a) (h.IsList a vs.toArray) (a∉Z) (aw Z c h b vs) (b.length<=aI):=r.elim λa vs F=>⟨a,vs,F.1,F.2,F.3,F.5,F.4⟩
def al.ir(r:al Z a h (.loc n) v):∃F,a[n]?=D F/\v=.ref F.a:=r
def al.el(c:IsTup h a vs.toArray)(d:a∉Z)(e:aw Z f h b vs)(g:b.length<=aI):al Z f h (.tup b) (.ref a):=⟨a,vs,rfl,c,d,g,e⟩
def al.oS(c:h.IsList a vs.toArray)(d:a∉Z)(e:aw Z f h b vs)(g:b.length<=aI):al Z f h (.U b) (.ref a):=⟨a,vs,rfl,c,d,g,e⟩
def iu(b:ah d w h B i g a s)(c:d4 a p=D e)(f:al g.Z g.ι s.heap p v):E2 λa F=>A4 (v=.ref a) (s.heap.IsList a F.toArray) (aw g.Z g.ι s.heap e F) (e.length<=aI):=by
 refine aH λG P=>?_;cases p with
 |U K=>
  cases c;obtain⟨a,F,rfl,K,_,S,W⟩:=f.mV;exact P ⟨a,F,rfl,K,S,W⟩
 |loc n=>
  obtain⟨o,W,c⟩:=b0.mp c;cases uS c;obtain⟨X,K,rfl⟩:=f.ir;have S:=(b.8 n _ _ W K rfl).1;obtain⟨F,K⟩:=S.3;exact P ⟨X.a,F,rfl,K.1.isList,K.2,S.2⟩
 |_=>cases c
def Au{s:ao}(a:B.StaysIn s.heap)(d:Fr B L c m)(e:News B L c (f::jX B L s.heap)):
  ∀b F,s.heap.get? b=D F->b≠L->c.get? b=D F:=λb F q K=>by
 refine Mine.oe (B.get? b) (λF=>?_) λf F=>?_
 .exact(e _ (.tail _ (jY q F K))).1
 .
  haveI K:=a b _ F;replace K:=q▸K;rw[aE K];exact d.keep b _ F
def fZ(h:Heap):h.get? h.objs.size=I:=by
 cases q:h.get? _ with
 |none=>rfl
 |some o=>exact((d1 _) (ca q)).elim
def ry{j:bK}{w:bM}{l:bg}{B:Heap}{f:FC}{g:Gh}{d:St}{s:ao}{E Q:ay->ao->Prop}{mt:Bool}(y:FC.Ok B f)(a:ah j w l B f g d s)
  (A:∀i x k p,f.cx.slots[i]?=D (x,k)->d.loc[i]?=D p->Seen f i x k->gz g.Z g.ι s.heap f.env m x k p)
  (u:Fr B f.env.locals C m)(v:News B f.env.locals C ((c,listOf G.toArray n)::jX B f.env.locals s.heap))(r:s.heap.get? c=I)
  (H:aw g.Z g.ι s.heap L G)(h:ae j w l B f VR g s (bV mt L d) Q E):Q (.ref c) {s with heap:=C,toks:=t}:=by
 haveI F:=(v _ (.head _)).1;unfold bV at h
 split at h
 .rename_i K;cases mt with
  |false=>
   haveI S:=a.rr (t:=t) y A u v (λp X=>.tail _ X);refine h.ok S.1 S.2 (al.oS ⟨_,F,rfl,n,rfl⟩ (λq=>?_) (aw.mono (S.1.mono a.2) _ _ H) K);obtain⟨o,e⟩:=(a.4 _ q).2;rw[r]at e;exact Mine.z3 e
  |true=>
   haveI M:cL _ g.ι _ (g.push ⟨c,c⟩).Z (g.push ⟨c,c⟩).ι _:=by
    refine⟨λb P=>?_,λn Z q=>?_,λb N q z=>Au a.1 u v b _ q λe=>z (e▸a.2 _ (a.5 _ y.6))⟩
    .refine Mine.me P ?_ λP=>?_
     .exact .inr r
     .refine Mine.me P ?_ λP=>?_
      .exact .inr r
      .exact .inl P
    .rw[cX ((cQ.mp q).1)];exact q
   haveI W:=a.alloc (t:=t) (o:=.list _) y A r r ⟨_,F⟩ ⟨_,F⟩ u (Au a.1 u v) ⟨rfl,K,G,⟨n,F⟩,aw.mono M _ _ H⟩;refine h.ok W.1 W.2 ?_;refine⟨⟨c,c⟩,?_,rfl⟩;rw[<- a.7,mw (aL _),qu];rfl
 .exact h.elim
def Av(r:FC.Ok B d)(a:ah e w f B d g c s)
  (u:∀i x k p,d.cx.slots[i]?=D (x,k)->c.loc[i]?=D p->Seen d i x k->gz g.Z g.ι s.heap d.env m x k p)
  (v:Fr B d.env.locals l m)(o:News B d.env.locals l ((b,{cls:=.type "tuple",data:=.seq y.toArray n})::jX B d.env.locals s.heap))(z:s.heap.get? b=I)
  (A:aw g.Z g.ι s.heap q y)(j:q.length<=aI)(h:ae e w f B d VR g s (D (.ok (.tup q),c)) Q E):Q (.ref b) {s with heap:=l,toks:=t}:=by
 haveI F:=a.rr (t:=t) r u v o (λp K=>.tail _ K);refine h.ok F.1 F.2 (al.el ⟨_,((o _ (.head _)).1),rfl,n,rfl⟩ (λq=>?_) (aw.mono (F.1.mono a.2) _ _ A) j);obtain⟨o,e⟩:=(a.4 _ q).2;rw[z]at e;exact Mine.z3 e
def rz{s:ao}(b:a≠L)(c:B.get? a=I)(d:∀p∈jX B L s.heap,p.1<a):s.heap.get? a=I:=by
 cases q:s.heap.get? a with
 |none=>rfl
 |some o=>exact aB (d _ (jY q c b)) (d1 _)
def Aw{a b:Int}(h:0<b):a.fdiv b=a / b:=Int.fdiv_eq_ediv_of_nonneg a (qo h)
def M7{a b:Int}(h:0<b):a.fmod b=a% b:=Int.fmod_eq_emod_of_nonneg a (qo h)
def M8(a:0<=i)(b:i<256):Zu i 15=i% 16:=by
 obtain⟨n,rfl⟩:=qw a;have F:∀k:Fin 256,Zu k.val 15=k.val% 16:=by decide+kernel
 exact F ⟨n,(Ik b)⟩
def log2_lt_of{y:Int}(h:y.natAbs<2^512):y.natAbs.log2<9000:=by
 by_cases F:y.natAbs=0
 .rw[F];decide+kernel
 .have:=(FZ F).mpr h;exact a1 this rfl
def M9(h:a.natAbs<2^64\/b.natAbs<2^64):IntMulOk a b:=by
 rcases h with h |h
 .exact IntMulOk.of_left (intBits_le_64 (zl h) (zm h))
 .have:=intBits_le_64 (zl h) (zm h);unfold IntMulOk;rw[dF (ar.mpr this)];simp
def M_:fillsNumberSlot (.type "tuple") "mul"=pure V:=
 PySem.fillsNumberSlot_seq Zv.lookup zK F.slot_tuple_rmul.lookup zK
def M':seqRepeat? (.type "tuple")=pure (D (.builtin "tuple.__mul__")):=by
 rfl
def Na l items n d sl(x:Int) u
  (b:¬((decide (x < -(2^63)) ||decide (x >= 2^63))=J))(c:¬((items.isEmpty ||x==1)=J))(e:¬((decide (x<=0) ||items.isEmpty)=J))(f:¬(items.size*x > (2^63 - 1) / 8))(i:¬(Tuple.tupleTooMany (items.size*x)=J))(a:((bF x.toNat items).foldl (·++·) #[]).size<=gp):
  kQ (Builtin.«tuple.__mul__» ⟨[.ref l,.int x u],[]⟩) (λF R s=>s.heap.get? l=D {cls:=.type "tuple",dict:=d,data:=.seq items n,slots:=sl}/\R (.ok (.ret (Value.ref s.heap.objs.size))) {s with heap:=s.heap.push {cls:=Value.type "tuple",data:=Data.seq ((bF x.toNat items).foldl (·++·) #[])}}):=
 .of_wp λF w A R s h=>by
  obtain⟨F,g,d,F,F⟩:=s
  wp_walk
  rw[iN b];refine ac (F0 h.1 rfl ?_);dsimp only;rw[iN c,iN e,iN f,iN i];exact ac (fO (ax ⟨_,rfl,h.2⟩) a)
def Nb a t l items n d sl:
  kQ (Builtin.«int.__rmul__» ⟨[.int a t,.ref l],[]⟩) (λF R s=>s.heap.get? l=D {cls:=.type "tuple",dict:=d,data:=.seq items n,slots:=sl}/\R (.ok (.ret Value.notImplemented)) s):=
 .of_wp λF w A R s h=>by obtain⟨F,h⟩:=h;obtain⟨F,g,d,F,F⟩:=s;wp_walk;exact⟨_,rfl,h⟩
def Nc(v:ay) n:∀F:Array _,(bF n #[v]).foldl (·++·) F=F++(bF n v).toArray:=by
 induction n with
 |zero=>exactλF=>Zw.symm
 |succ n K=>exactλF=>(K _).trans (F1.mp (by simp[F5]))
def Ax(v:ay):(bF (16:Int).toNat #[v]).foldl (·++·) #[]=(bF 16 v).toArray:=by
 rw[show(16:Int).toNat=16 from rfl,Nc,Array.empty_append]
def Nf(b:IsTup s.heap l #[v])
  (h:Q (.ref s.heap.objs.size) {s with heap:=s.heap.push {cls:=.type "tuple",data:=.seq (bF 16 v).toArray}}):af (model a w) A (binaryOp .Mult (.ref l) (.int 16 u)) Q E s:=by
 refine aH λG W=>?_;obtain⟨⟨cls,d,data,K⟩,K,P,k,S⟩:=id b;simp only at P S;subst P S;refine W (wpAny_binaryOp_repeat_ref rfl ⟨_,K,rfl⟩ (λP=>qx _ _ u) M_ F.fills_int_mul Zx M' F.slot_int_index.lookup
  (mx Zx (qx s _ u) F.entry_int_rmul (F.args_int_rmul_2 ..) (Nb _ u l _ k d _)
   ⟨K,rfl,⟨_,K,rfl⟩,mx Zv ⟨_,K,rfl⟩ F.entry_tuple_mul (F.args_tuple_mul_2 ..)
    (Na l _ k d _ _ u zD zS zS zS (by unfold Tuple.tupleTooMany;rw[jD];simp) (by rw[Ax,cS,fx,jD];exact cG ..))
    ⟨K,?_⟩⟩))
 rw[Ax];exact h
def bG{Q:i->ao->Prop}[Decidable c](h:ae b w d B f e g s ((if c then m else aC) a) Q E):c/\ae b w d B f e g s (m a) Q E:=by
 by_cases q:c
 .rw[iP q]at h;exact⟨q,h⟩
 .rw[iN q]at h;exact h.elim
def bJ{Q:a->ao->Prop}(h:ae c w d B i e g s (a_ v f b) Q E):∃a,v=D a/\ae c w d B i e g s (f a b) Q E:=by
 cases v with
 |some a=>exact⟨a,rfl,h⟩
 |none=>exact h.elim
def vj{Q:a->ao->Prop}(h:ae c w d B i e g s (jP l f b) Q E):E2 λa r=>l=a::r/\ae c w d B i e g s (f a r b) Q E:=by
 cases l with
 |cons a r=>exact⟨a,r,rfl,h⟩
 |nil=>exact h.elim
def mW{Q:f->ao->Prop}(h:ae b w c B e d g s (gW l m a) Q E):l=[]/\ae b w c B e d g s (m a) Q E:=by
 cases l with
 |cons a r=>exact h.elim
 |nil=>exact⟨rfl,h⟩
def lq{Q:a->ao->Prop}(h:ae c w d B i e g s (dU l f b) Q E):∃a,l=[a]/\ae c w d B i e g s (f a b) Q E:=by
 refine(vj h).elim λa F F=>?_;haveI K:=mW F.2;exact⟨a,K.1▸F.1,K.2⟩
def Ay{Q:a->ao->Prop}(h:ae d w e B j i g s (fU l f c) Q E):E2 λa b=>l=[a,b]/\ae d w e B j i g s (f a b c) Q E:=(vj h).elim λa F F=>bi (lq F.2) λb K=>⟨a,b,K.1▸F.1,K.2⟩
def vk{Q:a->ao->Prop}(h:ae c w d B i e g s (bd (dU l f) k b) Q E):∃a,l=[a]/\ae c w d B i e g s (bd (f a) k b) Q E:=by
 cases l with
 |nil=>exact h.elim
 |cons a r=>cases r with
  |nil=>exact⟨a,rfl,h⟩
  |cons _ _=>exact h.elim
def Az{Q:i->ao->Prop}[Decidable c](h:ae b w d B f e g s (bd (if c then m else aC) k a) Q E):c/\ae b w d B f e g s (bd m k a) Q E:=by
 by_cases q:c
 .rw[iP q]at h;exact⟨q,h⟩
 .rw[iN q]at h;exact h.elim
def j0{Q:i->ao->Prop}[Decidable c](h:ae b w d B f e g s ((if c then aC else m) a) Q E):¬c/\ae b w d B f e g s (m a) Q E:=by
 by_cases q:c
 .rw[iP q]at h;exact h.elim
 .rw[iN q]at h;exact⟨q,h⟩
def AA{Q:i->ao->Prop}[Decidable c](h:ae b w d B f e g s (bd (if c then aC else m) k a) Q E):¬c/\ae b w d B f e g s (bd m k a) Q E:=by
 by_cases q:c
 .rw[iP q]at h;exact h.elim
 .rw[iN q]at h;exact⟨q,h⟩
def fE{Q:i->ao->Prop}(r:al g.Z g.ι s.heap v e)(h:ae b w c B j d g s (cZ v f a) Q E):E2 λi t=>A3 (e=.int i t) (v=.int i) (ae b w c B j d g s (f i a) Q E):=by
 refine bi (bJ h) λi F=>?_;haveI e:=F.1;have e:=jN e;exact bi (al.toInt (e▸r)) λt K=>⟨i,t,K,e,F.2⟩
def f0{Q:i->ao->Prop}(l:al g.Z g.ι s.heap a m)(n:al g.Z g.ι s.heap b o)(h:ae d w e B p k g s (i2 a b f c) Q E):E4 λi t j u=>A3 (m=.int i t) (o=.int j u) (ae d w e B p k g s (f i j c) Q E):=(fE l h).elim λi t F=>(fE n F.3).elim λj u K=>⟨i,t,j,u,F.1,K.1,K.3⟩
def oT{Q:i->ao->Prop}(r:al g.Z g.ι s.heap v e)(h:ae b w c B j d g s (onBytes v f a) Q E):E2 λi t=>A3 (e=.bytes i.toArray t) (v=.bytes i) (ae b w c B j d g s (f i a) Q E):=by
 refine bi (bJ h) λi F=>?_;haveI e:=F.1;have e:=mM e;exact bi (al.toBytes (e▸r)) λt K=>⟨i,t,K,e,F.2⟩
def vl{Q:i->ao->Prop}(h:ae b w c B e d g s (jO v f a) Q E):∃i,v=.tup i/\ae b w c B e d g s (f i a) Q E:=bi (bJ h) λi F=>⟨i,zT F.1,F.2⟩
def jk{Q:j->ao->Prop}(r:al g.Z g.ι s.heap v e)(h:ae b w c B i d g s (gu v f a) Q E):E2 λn F=>A4 (g.ι[n]?=D F) (e=.ref F.a) (v=.loc n) (ae b w c B i d g s (f n a) Q E):=by
 refine aH λG P=>?_;obtain⟨n,e,h⟩:=bJ h;have e:=Mh e;obtain⟨F,K⟩:=al.ir (e▸r);exact P ⟨n,F,K.1,K.2,e,h⟩
def fits_str{Q:i->ao->Prop}(r:al g.Z g.ι s.heap v e)(h:ae b w c B j d g s (onStr v f a) Q E):E2 λi t=>A3 (e=.str i t) (v=.str i) (ae b w c B j d g s (f i a) Q E):=by
 refine bi (bJ h) λi F=>?_;haveI e:=F.1;have e:=zQ e;exact bi (al.toStr (e▸r)) λt K=>⟨i,t,K,e,F.2⟩
def vm{Q:i->ao->Prop}(h:ae b w c B e d g s (om n f a) Q E):∃x,a.objs[n]?=D (.dict x)/\ae b w c B e d g s (f x a) Q E:=by
 refine(bJ h).elim λF F=>?_;obtain⟨x,K⟩:=bJ F.2;exact⟨x,Mi K.1▸F.1,K.2⟩
def AB{Q:i->ao->Prop}(h:ae b w c B e d g s (uT n f a) Q E):∃x,a.objs[n]?=D (.ck x)/\ae b w c B e d g s (f x a) Q E:=by
 refine(bJ h).elim λF F=>?_;obtain⟨x,K⟩:=bJ F.2;exact⟨x,Mj K.1▸F.1,K.2⟩
def fits_1{Q:l->ao->Prop}(j:aw g.Z g.ι s.heap a c)(h:ae d w e B k i g s (dU a f b) Q E):E2 λa v=>A3 (c=[v]) (al g.Z g.ι s.heap a v) (ae d w e B k i g s (f a b) Q E):=by
 refine bi (lq h) λa K=>?_;obtain⟨v,_,F⟩:=(K.1▸j).il;exact⟨a,v,F.3.jW▸F.1,F.2,K.2⟩
def fits_2{Q:b->ao->Prop}(k:aw g.Z g.ι s.heap a d)(h:ae e w i B l j g s (fU a f c) Q E):E4 λa b v u=>A4 (d=[v,u]) (al g.Z g.ι s.heap a v) (al g.Z g.ι s.heap b u) (ae e w i B l j g s (f a b c) Q E):=by
 refine aH λG S=>?_;obtain⟨a,b,P⟩:=Ay h;obtain⟨v,_,F⟩:=(P.1▸k).il;obtain⟨u,_,K⟩:=F.3.il;exact S ⟨a,b,v,u,by rw[F.1,K.1,K.3.jW],F.2,K.2,P.2⟩
def lr{Q:a->ao->Prop}(b:ah d w e B j g c s)(r:al g.Z g.ι s.heap v k)(h:ae d w e B j i g s (em v f c) Q E):E3 λF a K=>A5 (k=.ref a) (s.heap.IsList a K.toArray) (aw g.Z g.ι s.heap F K) (F.length<=aI) (ae d w e B j i g s (f F c) Q E):=by
 refine aH λG W=>?_;obtain⟨F,S⟩:=bJ h;obtain⟨a,K,P⟩:=iu b S.1 r;exact W ⟨F,a,K,P.1,P.2,P.3,P.4,S.2⟩
def Ng{mt:Bool}(i:FC.Ok B j)(c:ah e w f B j g d s)(k:al g.Z g.ι s.heap a l)(n:al g.Z g.ι s.heap b m)
  (h:ae e w f B j VR g s (jc mt a b d) Q E):af (model e w) A (binaryOp .Add l m) Q E s:=by
 refine aH λG X=>?_;obtain⟨m,F,Z⟩:=c.fr i;unfold jc at h;refine Mine.oe (d4 d a) (λK=>?_) λx K=>?_
 .replace h:=K▸h;exact h.elim
 .
  refine Mine.oe (d4 d b) (λP=>?_) λy P=>?_
  .rw[K,P]at h;exact h.elim
  .
   replace h:=P▸K▸h;obtain⟨S,S,rfl,a,S,_⟩:=iu c K k;obtain⟨K,K,rfl,b,W,_⟩:=iu c P n;by_cases K:(x++y).length<=aI
   .exact X (abE F (ip _ _) a b (λF F P=>ry i c Z F P (fZ _) (S.append W) h) (by rw[az]at K;rw[S.length,W.length];exact K))
   .unfold bV at h;dsimp only at h;rw[iN K]at h;exact h.elim
def Nh{d:bK}{w:bM}{e:bg}{B:Heap}{f:FC}{g:Gh}{c:St}{s:ao}{A:bQ}{E Q:ay->ao->Prop}{mt:Bool}(i:FC.Ok B f)(b:ah d w e B f g c s)(j:al g.Z g.ι s.heap a k)
  (h:ae d w e B f VR g s (lb mt a n c) Q E):af (model d w) A (binaryOp .Mult k (.int n u)) Q E s:=by
 refine bi (b.fr i) λm S=>?_;unfold lb at h;refine Mine.oe (d4 c a) (λF=>?_) λx F=>?_
 .replace h:=F▸h;exact h.elim
 .
  replace h:=F▸h;by_cases K:0<=n/\(n<=64/\x.length*n.toNat<=256)
  .dsimp only at h;replace h:=(iP K)▸h;refine(iu b F j).elim λF F P=>?_;rw[P.1];exact KMa.mul S.1 (ip _ _) P.2 (gk (ql zD) K.1) (nY K.2.1 zD) (by rw[P.3.length];exact K.2.2) rfl λF F W F X=>ry i b S.2 W F (rz (F _ (.head _)).2.1 (F _ (.head _)).2.2 X) (P.3.mul _) h
  .dsimp only at h;replace h:=(iN K)▸h;exact h.elim
def Ni{mt:Bool}{a b:PV}{e i:ay}(d:FC.Ok B q)(c:ah o w r B q g p s)(f:al g.Z g.ι s.heap a e)(l:al g.Z g.ι s.heap b i)
  (h:ae o w r B q VR g s (binop j mt a b p) Q E):af (model o w) A (binaryOp j e i) Q E s:=by
 cases j with
 |Add=>
  have S:=h;clear h;cases a with
  |int i=>
   obtain⟨t,rfl⟩:=f.toInt;obtain⟨j,u,rfl,rfl,S⟩:=fE l S;exact P.add_int (S.int d c)
  |bytes x=>
   obtain⟨t,rfl⟩:=f.toBytes;obtain⟨y,u,rfl,rfl,S⟩:=oT l S;obtain⟨K,S⟩:=bG S;exact KBy.add_bytes (by rw[cS,cS,<- az];exact K) λF k=>S.bytes d c zS K
  |tup x=>
   obtain⟨y,rfl,S⟩:=vl S;obtain⟨m,n⟩:=c.fr d;have N:=ip (B:=B) q.env.locals s.heap;obtain⟨G,H,rfl,X,v,W,z⟩:=f.dr;obtain⟨F,F,rfl,A,L,F,O⟩:=l.dr;obtain⟨K,S⟩:=bG S;refine abF n.1 N X A (λe=>?_) (λZ C=>?_) (λZ C k T k=>Av (t:=s.toks) d c n.2 T k (fZ _) (W.append F) K S) (by rw[W.length,F.length,<- az];exact K)
   .have:x=[]:=n0.mp (by rw[<- W.length,e];rfl);subst this;exact S.val d c (al.el A L (by simpa using F) (by simpa using O))
   .have:y=[]:=n0.mp (by rw[<- F.length,C];rfl);subst this;exact S.val d c (al.el X v (by simpa using W) (by simpa using z))
  |_=>exact Ng (mt:=mt) d c f l S
 |Mult=>
  obtain⟨n,u,rfl,rfl,S⟩:=fE l (show ae o w r B q VR g s (cZ b (mulM mt a) p) Q E from h);cases a with
  |int i=>
   obtain⟨t,rfl⟩:=f.toInt;have F:=bG S;exact P.mul_int (F.2.int d c) (M9 F.1)
  |tup x=>
   obtain⟨K,S⟩:=bG S;obtain⟨m,F,a⟩:=c.fr d;have N:=ip (B:=B) q.env.locals s.heap;obtain⟨G,H,rfl,X,v,W,z⟩:=f.dr;obtain⟨b,rfl⟩:=K;obtain⟨y,rfl⟩:∃y,x=[y]:=fP.mp b;obtain⟨v,b,rfl,b,b⟩:=W.il;have:=b.jW;subst this;refine Nf X ?_;have k:=N.push F {cls:=Value.type "tuple",data:=Data.seq (bF 16 v).toArray};have Z:(bF (16:Int).toNat [y]).flatten=bF 16 y:=by simp
   rw[Z]at S;refine Av (t:=s.toks) d c a (F.push _) k (fZ _) ?_ (by simp[aI]) S;have:=W.mul 16
   simpa using this
  |_=>exact Nh (mt:=mt) d c f S
 |Sub=>
  obtain⟨i,t,j,u,rfl,rfl,h⟩:=f0 f l h;exact P.sub_int (h.int d c)
 |FloorDiv=>
  obtain⟨i,t,j,u,rfl,rfl,h⟩:=f0 f l h;obtain⟨K,h⟩:=bG h;refine abG (by exact uf K.1) ?_ (.inl (PyProof.noPylong_of_log2 (log2_lt_of (by exact Il K))));rw[Aw K.1];exact h.int d c
 |Mod=>
  obtain⟨i,t,j,u,rfl,rfl,h⟩:=f0 f l h;obtain⟨K,h⟩:=bG h;refine abH (by exact uf K) ?_;rw[M7 K];exact h.int d c
 |Pow=>
  obtain⟨i,t,j,u,rfl,rfl,h⟩:=f0 f l h;obtain⟨K,h⟩:=bG h;exact abI K.2.1 (by have:=K.2.2;exact gk K.2.2 zD) K.1 (h.int d c)
 |RShift=>
  obtain⟨i,t,j,u,rfl,rfl,h⟩:=f0 f l h;obtain⟨K,h⟩:=bG h;rw[K.2.2];refine abJ zD ?_;rw[show(2:Int) ^ (4:Int).toNat=16 from rfl,Aw zD];exact h.int d c
 |LShift=>
  obtain⟨i,t,j,u,rfl,rfl,h⟩:=f0 f l h;obtain⟨K,h⟩:=bG h;rw[K.1,K.2];exact abK zD zD zD (h.int d c)
 |BitAnd=>
  obtain⟨i,t,j,u,rfl,rfl,h⟩:=f0 f l h;obtain⟨K,h⟩:=bG h;rw[K.2.2];refine abL ?_;rw[M8 K.1 K.2.1];exact h.int d c
 |_=>exact h.elim
end
def sub_bytes_NoneType:um (.type "bytes") (.type "NoneType")=pure V:=by kernel_rfl
def sub_NoneType_bytes:um (.type "NoneType") (.type "bytes")=pure V:=by kernel_rfl
def sub_bytes_list:um (.type "bytes") (.type "list")=pure V:=by kernel_rfl
def sub_list_bytes:um (.type "list") (.type "bytes")=pure V:=by kernel_rfl
def rA:Slot "bytes" (cmpInfo .Eq).2.2 "bytes.__eq__":=F6
def rB:Slot "bytes" (cmpInfo .NotEq).2.2 "bytes.__ne__":=F7
def AC b u:Gives (Builtin.«NoneType.__eq__» ⟨[.none,.bytes b u],[]⟩) (.val .notImplemented):=
 .of_wp λM A E s Q h=>by wp_walk;exact⟨_,rfl,h⟩
def AD b u:Gives (Builtin.«NoneType.__ne__» ⟨[.none,.bytes b u],[]⟩) (.val .notImplemented):=
 .of_wp λM A E s Q h=>by wp_walk;exact⟨_,rfl,h⟩
def AE b u:Gives (Builtin.«bytes.__eq__» ⟨[.bytes b u,.none],[]⟩) (.val .notImplemented):=by
 refine .of_wp λM A E s Q F=>?_;haveI e:Builtin.«bytes.__eq__» ⟨[.bytes b u,.none],[]⟩=(do rule "bytes.__eq__.declined";ret .notImplemented):=by kernel_rfl
 exact e▸(ac (hX (ax ⟨_,rfl,F⟩)))
def AF b u:Gives (Builtin.«bytes.__ne__» ⟨[.bytes b u,.none],[]⟩) (.val .notImplemented):=by
 refine .of_wp λM A E s Q F=>?_;haveI e:Builtin.«bytes.__ne__» ⟨[.bytes b u,.none],[]⟩=(do rule "bytes.__ne__.declined";ret .notImplemented):=by kernel_rfl
 exact e▸(ac (hX (ax ⟨_,rfl,F⟩)))
def Nj b u l items n dd sl:
  kQ (Builtin.«bytes.__eq__» ⟨[.bytes b u,.ref l],[]⟩) (λF R s=>s.heap.get? l=D {cls:=.type "list",dict:=dd,data:=.seq items n,slots:=sl}/\R (.ok (.ret .notImplemented)) s):=
 .of_wp λF w A R s h=>by
  show af _ _ (yo .. >>=λr=>_) _ _ s;exact ac (yp ⟨_,h.1,rfl⟩ sub_list_bytes (ac (hX (ax ⟨_,rfl,h.2⟩))))
def Nk b u l items n dd sl:
  kQ (Builtin.«bytes.__ne__» ⟨[.bytes b u,.ref l],[]⟩) (λF R s=>s.heap.get? l=D {cls:=.type "list",dict:=dd,data:=.seq items n,slots:=sl}/\R (.ok (.ret .notImplemented)) s):=
 .of_wp λF w A R s h=>by
  show af _ _ (yo .. >>=λr=>_) _ _ s;exact ac (yp ⟨_,h.1,rfl⟩ sub_list_bytes (ac (hX (ax ⟨_,rfl,h.2⟩))))
def Nm l items n dd sl b u:
  kQ (Builtin.«list.__eq__» ⟨[.ref l,.bytes b u],[]⟩) (λF R s=>s.heap.get? l=D {cls:=.type "list",dict:=dd,data:=.seq items n,slots:=sl}/\R (.ok (.ret .notImplemented)) s):=
 .of_wp λF w A R s h=>by obtain⟨F,g,d,F,F⟩:=s;haveI F:=sub_bytes_list;wp_walk using wpAny_loadPart' h.1;exact⟨_,rfl,h.2⟩
def Nn l items n dd sl b u:
  kQ (Builtin.«list.__ne__» ⟨[.ref l,.bytes b u],[]⟩) (λF R s=>s.heap.get? l=D {cls:=.type "list",dict:=dd,data:=.seq items n,slots:=sl}/\R (.ok (.ret .notImplemented)) s):=
 .of_wp λF w A R s h=>by obtain⟨F,g,d,F,F⟩:=s;haveI F:=sub_bytes_list;wp_walk using wpAny_loadPart' h.1;exact⟨_,rfl,h.2⟩
def Np b u:RcAt A s .none (.bytes b u) V:=λK w E Q h=>
 F8 rfl (dE s b u) rfl sub_bytes_NoneType Zy rA
  (λP K=>kR Zy rfl Zz (ZA ..) (AC b u) K)
  (λP K=>kR rA (dE s b u) F9 (F_ ..) (AE b u) K)
  (λP K=>ce rfl K) (.inl rfl) h
def Nq b u:RcNeAt A s .none (.bytes b u) J:=λK w E Q h=>
 F' rfl (dE s b u) rfl sub_bytes_NoneType ZB rB
  (λP K=>kR ZB rfl ZC (ZD ..) (AD b u) K)
  (λP K=>kR rB (dE s b u) Ga (Gb ..) (AF b u) K)
  (λP K=>ce rfl K) (.inl rfl) h
def Nr b u:RcAt A s (.bytes b u) .none V:=λK w E Q h=>
 F8 (dE s b u) rfl rfl sub_NoneType_bytes F6 ZE
  (λP K=>kR F6 (dE s b u) F9 (F_ ..) (AE b u) K)
  (λP K=>kR ZE rfl Zz (ZA ..) (AC b u) K)
  (λP K=>ce rfl K) (.inl rfl) h
def Nt b u:RcNeAt A s (.bytes b u) .none J:=λK w E Q h=>
 F' (dE s b u) rfl rfl sub_NoneType_bytes F7 ZF
  (λP K=>kR F7 (dE s b u) Ga (Gb ..) (AF b u) K)
  (λP K=>kR ZF rfl ZC (ZD ..) (AD b u) K)
  (λP K=>ce rfl K) (.inl rfl) h
def Nu b u(c:s.heap.IsList l a)(d:A.units<fw):RcAt A s (.ref l) (.bytes b u) V:=λK w E Q h=>by
 refine aH λG W=>?_;obtain⟨⟨K,K,K,K⟩,P,K,n,S⟩:=id c;simp only at K S;subst K S;exact W (F8 ⟨_,P,rfl⟩ (dE s b u) rfl sub_bytes_list ZG rA
  (λS K=>mx ZG ⟨_,P,rfl⟩ F.entry_list_eq (F.args_list_eq_2 ..) (Nm l _ n _ _ b u) ⟨P,K⟩)
  (λS K=>mx rA (dE s b u) F9 (F_ ..) (Nj b u l _ n _ _) ⟨P,K⟩)
  (λS K=>ce rfl K) (.inr d) h)
def Nv b u(c:s.heap.IsList l a)(d:A.units<fw):RcNeAt A s (.ref l) (.bytes b u) J:=λK w E Q h=>by
 refine aH λG W=>?_;obtain⟨⟨K,K,K,K⟩,P,K,n,S⟩:=id c;simp only at K S;subst K S;exact W (F' ⟨_,P,rfl⟩ (dE s b u) rfl sub_bytes_list ZH rB
  (λS K=>mx ZH ⟨_,P,rfl⟩ F.entry_list_ne (F.args_list_ne_2 ..) (Nn l _ n _ _ b u) ⟨P,K⟩)
  (λS K=>mx rB (dE s b u) Ga (Gb ..) (Nk b u l _ n _ _) ⟨P,K⟩)
  (λS K=>ce rfl K) (.inr d) h)
def Nw b c t u:EqAt A s (.bytes b t) (.bytes c u) (b.toList==c.toList):=λF w E Q h=>by
 refine ZI (λK=>?_) (λP=>?_)
 .injection (eq_of_beq K)with h1 h2
  clear K;subst h1;rw[BEq.rfl]at h;exact ax (M:=model F w) (E:=E) h
 .exact ac (eq_bytes (ZJ h))
def AG:∀{F:List _},gX a=D F->a=F.map .bytes:=by
 induction a with
 |nil=>exactλe=>aE e▸rfl
 |cons x r F=>exactλe=>(b0.mp e).elim λb q=>(dS.mp q.2).elim λl y=>y.2▸mM q.1▸cA _ (F y.1)
def mX:∀{F:List _},intsOf a=D F->a=F.map .int:=by
 induction a with
 |nil=>exactλe=>aE e▸rfl
 |cons x r F=>exactλe=>(b0.mp e).elim λb q=>(dS.mp q.2).elim λl y=>y.2▸jN q.1▸cA _ (F y.1)
def rC[BEq a]{x y:Option a}(h:jd x y=D c):E2 λa b=>A3 (x=D a) (y=D b) ((a==b)=c):=bi (b0.mp h) λa F=>(b0.mp F.2).elim λb K=>⟨a,b,F.1,K.1,aE K.2⟩
def AH{b:Type}[BEq b][LawfulBEq b](a c:List b)(h:a.length=c.length):(List.range a.length).all (λj=>a[j]?==c[j]?)=(a==c):=by
 refine qy.mpr (i1.trans ⟨λk=>bE.mpr (uo λi=>?_),λk x F=>bE.mpr (by rw[bE.mp k])⟩);by_cases F:i<a.length
 .exact bE.mp (k i (qt.mpr F))
 .rw[kS (ar.mp F),kS (h▸ar.mp F)]
def all_min{c:Type}[BEq c][LawfulBEq c](a b:List c):((List.range (min a.length b.length)).all (λj=>a[j]?==b[j]?) && a.length==b.length)=(a==b):=by
 by_cases h:a.length=b.length
 .rw[h,Nat.min_self,<- h,AH _ _ h,beq_self_eq_true,Gc]
 .rw[beq_eq_false_iff_ne.mpr h,Gd];exact(beq_eq_false_iff_ne.mpr λe=>h (cA _ e)).symm
def AI{g:Gh}{A:bQ}[BEq d]{f:d->PV}{a b:List _}(e:∀x y v w,al g.Z g.ι s.heap (f x) v->al g.Z g.ι s.heap (f y) w->EqAt A.in1 s v w (x==y))
  (h:aw g.Z g.ι s.heap (a.map f) i)(q:aw g.Z g.ι s.heap (b.map f) c) j z1(k:j<c.toArray.size):EqAt A.in1 s i.toArray[j] c.toArray[j] (a[j]?==b[j]?):=by
 refine aH λG P=>?_;obtain⟨p,F,S⟩:=h.Ao (bI z1);obtain⟨K,K,W⟩:=q.Ao (bI k);rw[dG]at F K;obtain⟨x,X,rfl⟩:=dS.mp F;obtain⟨y,F,rfl⟩:=dS.mp K;refine P ?_;rw[X,F];exact e x y _ _ S W
def map_len{g:Gh}{s:ao}{b:Type}{f:b->PV}{a:List _}(h:aw g.Z g.ι s.heap (a.map f) c):c.toArray.size=a.length:=h.length.trans (bN _)
def Ny{g:Gh}{A:bQ} x y v w(h:al g.Z g.ι s.heap (.bytes x) v)(k:al g.Z g.ι s.heap (.bytes y) w):EqAt A.in1 s v w (x==y):=by
 obtain⟨t,rfl⟩:=h.toBytes;obtain⟨u,rfl⟩:=k.toBytes;exact Nw _ _ _ _
def Nz{g:Gh}{A:bQ} x y v w(h:al g.Z g.ι s.heap (.int x) v)(k:al g.Z g.ι s.heap (.int y) w):EqAt A.in1 s v w (x==y):=by
 obtain⟨u,rfl⟩:=k.toInt;obtain⟨t,rfl⟩:=h.toInt;exact(EqGives.int x y t u).at _ _
def mY(A:bQ)(s:ao)(v w:ay)(c:Bool):Prop:=RcAt A s v w c/\RcNeAt A s v w !c
def NA{g:Gh}(d:al g.Z g.ι s.heap (.bytes x) v)(h:zV x b=D c)(a:al g.Z g.ι s.heap b e):mY A s v e c:=by
 obtain⟨t,rfl⟩:=d.toBytes;cases b with
 |none=>rw[<- aE h];rw[a.jj];exact⟨Nr _ _,Nt _ _⟩
 |bytes y=>obtain⟨u,rfl⟩:=a.toBytes;rw[<- aE h];exact⟨λF w E Q h=>eq_bytes h,λF w E Q h=>ne_bytes h⟩
 |_=>cases h
def NB{g:Gh}(h:zU b=D c)(a:al g.Z g.ι s.heap b d):mY A s .none d c:=by
 cases b with
 |none=>rw[<- aE h];rw[a.jj];exact⟨RcAt.none_none,RcNeAt.none_none⟩
 |bytes y=>rw[<- aE h];obtain⟨u,rfl⟩:=a.toBytes;exact⟨Np _ _,Nq _ _⟩
 |_=>cases h
def NC{g:Gh}{s:ao}{A:bQ}(f:A.units<fw)(d:al g.Z g.ι s.heap (.tup i) v)(h:((k8 b).bind λe=>jd (intsOf i) (intsOf e))=D c)(a:al g.Z g.ι s.heap b j):mY A s v j c:=by
 obtain⟨e,e,h⟩:=b0.mp h;rw[zT e]at a;obtain⟨F,F,F,K,rfl⟩:=rC h;replace d:=(mX F)▸d;replace a:=(mX K)▸a;obtain⟨F,F,F⟩:=d.dr;rw[F.1];obtain⟨K,K,K⟩:=a.dr;rw[K.1];haveI P:=AI (A:=A) Nz F.4 K.4;rw[<- all_min,<- map_len F.4,<- map_len K.4];exact⟨RcAt.tuples F.2 K.2 f P,RcNeAt.tuples F.2 K.2 f P⟩
def ND{g:Gh}(f:A.units<fw)(h:zW a b=D c)(e:al g.Z g.ι s.heap a i)(d:al g.Z g.ι s.heap b j):mY A s i j c:=by
 cases a with
 |none=>rw[e.jj];exact NB h d
 |bytes x=>exact NA e h d
 |tup F=>exact NC f e h d
 |int i=>
  obtain⟨i,j,F,K,rfl⟩:=rC h;rw[<- aE F];obtain⟨t,rfl⟩:=e.toInt;replace d:=(jN K)▸d;obtain⟨u,rfl⟩:=d.toInt;exact⟨RcAt.int_int _ _ _ _,RcNeAt.int_int _ _ _ _⟩
 |str i=>
  obtain⟨i,j,F,K,rfl⟩:=rC h;rw[<- aE F];rw[zQ K]at d;obtain⟨t,rfl⟩:=e.toStr;obtain⟨u,rfl⟩:=d.toStr;exact⟨RcAt.str_str _ _ _ _,RcNeAt.str_str _ _ _ _⟩
 |_=>cases h
def NE{g:Gh}{s:ao}{A:bQ}{k l:aG}(b:A.units<fw)(d:s.heap.IsList k m.toArray)(a:aw g.Z g.ι s.heap e m)(f:s.heap.IsList l n.toArray)(i:aw g.Z g.ι s.heap j n)
  (h:(if e.length=j.length then jd (gX e) (gX j)else D V)=D c):mY A s (.ref k) (.ref l) c:=by
 by_cases F:e.length=j.length
 .replace h:=(iP F)▸h;obtain⟨K,K,K,P,rfl⟩:=rC h;rw[AG K]at F a;rw[AG P]at F i;rw[bN,bN]at F;haveI K:=AI (A:=A) Ny a i;haveI P:=(map_len a).trans (F.trans (map_len i).symm);rw[<- AH _ _ F,<- map_len a];exact⟨RcAt.lists d f P b K,RcNeAt.lists d f P b K⟩
 .replace h:=(iN F)▸h;rw[<- aE h];have P:=bne_iff_ne.mpr λe=>F (a.length.symm.trans (e.trans i.length));exact⟨RcAt.lists_lengths d f P b,RcNeAt.lists_lengths d f P b⟩
def AJ(h:A.units<fw)(d:ah j w l B o g e s)(f:lc e a b=D c)(k:al g.Z g.ι s.heap a m)(i:al g.Z g.ι s.heap b n):mY A s m n c:=by
 unfold lc at f;refine Mine.oe (d4 e a) (λF=>?_) λK F=>?_
 .rw[F]at f;exact ND h f k i
 .
  obtain⟨K,K,rfl,K,P,_⟩:=iu d F k;replace f:=F▸f;refine Mine.oe (d4 e b) (λF=>?_) λS F=>?_
  .
   replace f:=F▸f;obtain⟨y,e,rfl⟩:=dS.mp f;rw[mM e]at i;obtain⟨t,rfl⟩:=i.toBytes;exact⟨Nu _ _ K h,Nv _ _ K h⟩
  .
   obtain⟨S,S,rfl,S,W,_⟩:=iu d F i;rw[F]at f;exact NE h K P S W f
def NF(a:aJ A b n):A.units<fw:=Im (a.4)
def NG(r:al Z b h p v)(a:p≠.none):(v==.none)=V:=by
 cases p with
 |none=>exact(a rfl).elim
 |bool b=>rw[r.toBool];rfl
 |int i=>obtain⟨t,rfl⟩:=r.toInt;rfl
 |str i=>obtain⟨t,rfl⟩:=r.toStr;rfl
 |bytes i=>obtain⟨t,rfl⟩:=r.toBytes;rfl
 |tup F=>obtain⟨a,_,rfl,_⟩:=r.dr;rfl
 |U F=>obtain⟨a,_,rfl,_⟩:=r.mV;rfl
 |loc n=>obtain⟨a,_,rfl⟩:=r.ir;rfl
def bC.ind{M:List _->List _->Prop}(c:M [] [])(d:∀x y a b,e x y->bC e a b->M a b->M (x::a) (y::b)):∀{b:List _},bC e a b->M a b:=by
 induction a with
 |nil=>exactλe=>e▸c
 |cons x r F=>exactλe=>e.elim λy K e=>e.1▸d x y r _ e.2 e.3 (F e.3)
def find_2{M:Option _->Option _->Prop}(e:∀a b,i a b->p a=q b)(f:M I I)(g:∀a b,i a b->M (D a) (D b))(h:bC i c d):M (c.find? p) (d.find? q):=
 h.ind (M:=λc d=>M (c.find? p) (d.find? q)) f λx y c d h F F=>(show M (match p x with |true=>D x |false=>c.find? p) (match q y with |true=>D y |false=>d.find? q)from(e x y h).symm▸(by
  cases q y with
  |true=>exact g _ _ h
  |false=>exact F))
def vn k:bC (oK Z c h) a b->
  match bR a k with
  |none=>yq b k=I
  |some p=>∃v,yq b k=D v/\al Z c h p v:=
 find_2 (M:=λa b=>match a.map _ with |none=>b.map _=I |some p=>∃v,b.map _=D v/\al Z _ h p v) (λa b h=>cA (λz=>decide (z=k)) h.1) rfl λa b h=>⟨_,rfl,h.2⟩
noncomputable def intOf:ay->Int
 |.int i _=>i
 |_=>0
def NH k(r:bC (oK Z c h) a b):(yq b k).isSome=(bR a k).isSome:=
 find_2 (M:=λa b=>(b.map _).isSome=(a.map _).isSome) (λa b h=>cA (λz=>decide (z=k)) h.1) rfl (λF F F=>rfl) r
def NI(r:al Z a h p v):(v==.none)=isNone p:=by
 cases p with
 |none=>rw[r.jj];rfl
 |_=>exact NG r nofun
def NJ(k:FC.Ok B e)(a:ah b w d B e g c s)(j:al g.Z g.ι s.heap (.tup l) v)
  (h:ae b w d B e VR g s (a_ (intsOf l) (λf=>rt (.bool (!f.contains i))) c) Q E):af (model b w) A (compareOp .NotIn (.int i t) v) Q E s:=by
 refine(bJ h).elim λf e=>((mX e.1▸j).dr).elim λF S y=>y.1▸?_;haveI F:∀{K:List _} {P:List _},aw g.Z g.ι s.heap (K.map .int) P->P.map intOf=K/\∀u∈P,E2 λj t=>u=.int j t:=λ{K}=>by
  induction K with
  |nil=>exactλq=>q▸⟨rfl,λP h=>z7 h⟩
  |cons n K K=>exactλq=>q.elim λu P q=>q.1▸q.2.elim λt e=>e▸⟨cA _ (K q.3).1,dH.mpr ⟨⟨n,t,rfl⟩,(K q.3).2⟩⟩
 refine notIn_tupleAt (λy=>intOf y==i) y.2 (λu K=>((F y.4).2 u (List.mem_toArray.mp K)).elim λj t e=>e▸(EqGives.int j i t _).at _ _) ?_;haveI K:S.toArray.any (λy=>intOf y==i)=f.contains i:=by
  rw[List.any_toArray,<- (F y.4).1,List.contains_eq_any_beq,ZK];exact cA _ (funext λy=>ZL)
 exact K.symm▸e.2.bool k a
def NK(j:FC.Ok B f)(a:ah b w e B f g c s)(l:al g.Z g.ι s.heap (.loc m) v)
  (h:ae b w e B f VR g s (om m (λd=>rt (.bool !(bR d i).isSome)) c) Q E):af (model b w) A (compareOp .NotIn (.int i t) v) Q E s:=by
 obtain⟨F,P,rfl⟩:=l.ir;obtain⟨d,F⟩:=vm h;have K:=(a.8 _ _ _ F.1 P rfl).1;obtain⟨P,P⟩:=K.4;refine(wpAny_notIn_of (k:=i) (by simp[eB,n4]) K.3 P.1.mapOf ?_);rw[NH i P.2];exact F.2.bool j a
def NL(f:aJ A j n)(k:FC.Ok B j)(d:ah i w e B j g c s)(m:al g.Z g.ι s.heap a o)(l:al g.Z g.ι s.heap b p)
  (h:ae i w e B j VR g s (cmp q a b c) Q E):af (model i w) A (compareOp q o p) Q E s:=by
 haveI K:=NF f;have F:∀{f:Bool->Bool},ae i w e B j VR g s (uV f a b c) Q E->p=.none/\∀{t},Q (.bool (f (o==.none))) {s with toks:=t}:=λ{f} h=>by
  cases b with
  |none=>rw[NI m];exact⟨l.jj,h.bool k d⟩
  |_=>exact h.elim
 cases q with
 |Eq=>obtain⟨c,e,h⟩:=bJ h;exact(AJ K d e m l).1 i w E Q (h.bool k d)
 |NotEq=>obtain⟨c,e,h⟩:=bJ h;exact(AJ K d e m l).2 i w E Q (h.bool k d)
 |Lt=>obtain⟨i,t,j,u,rfl,rfl,h⟩:=f0 m l h;exact P.lt_int (h.bool k d)
 |LtE=>obtain⟨i,t,j,u,rfl,rfl,h⟩:=f0 m l h;exact P.le_int (h.bool k d)
 |Gt=>obtain⟨i,t,j,u,rfl,rfl,h⟩:=f0 m l h;exact P.gt_int (h.bool k d)
 |GtE=>obtain⟨i,t,j,u,rfl,rfl,h⟩:=f0 m l h;exact P.ge_int (h.bool k d)
 |Is=>obtain⟨rfl,h⟩:=F h;exact PySem.is_none h
 |IsNot=>obtain⟨rfl,h⟩:=F h;exact isnot_none_gen h
 |In=>exact h.elim
 |NotIn=>
  clear F;obtain⟨i,t,rfl,rfl,h⟩:=fE m h;cases b with
  |tup F=>exact NJ k d l h
  |loc F=>exact NK k d l h
  |_=>exact h.elim
def iv(h:n<=aI):(n:Int) <2^63:=Io h
def eK(h:n<=aI):n<=gp:=h
def vo(u:aJ A k n)(p:FC.Ok B k)(c:ah d w f B k g e s)(j:al g.Z g.ι s.heap a m)
  (h:ae d w f B k BR g s (truth a e) Q E):af (model d w) A (truthy m) Q E s:=by
 have F:∀b t,ae d w f B k BR g s (D (.ok b,e)) Q E->Q b {s with toks:=t}:=λb t h=>by
  have o:=c.toks p t;exact h.ok o.1 o.2 rfl
 have X:∀{K:List PV} {W:List ay},aw g.Z g.ι s.heap K W->(!W.toArray.isEmpty)= !K.isEmpty:=λ{K W} l=>by
  cases W <;> cases K <;> first |rfl |cases l.length
 have S:ae d w f B k BR g s (em a (λK=>rt (!K.isEmpty)) e) Q E->af (model d w) A (truthy m) Q E s:=λh=>by
  obtain⟨K,a1,W,rfl,q,l,r,h⟩:=lr c j h;refine wpAny_truthy_list q (iv (by rw[cS,l.length];exact r)) ?_;rw[X l];exact F _ _ h
 cases a with
 |none=>rw[j.jj];exact truthy_none (F _ s.toks h)
 |bool b=>rw[j.toBool];exact ZJ (F _ s.toks h)
 |int i=>clear S;obtain⟨t,rfl⟩:=j.toInt;exact P.truthy_int (F _ s.toks h)
 |bytes b=>
  clear S;obtain⟨t,rfl⟩:=j.toBytes;refine truthy_bytes (by simp;exact a1 j.oR rfl) ?_;have:((b.toArray.size:Int) !=0)= !b.isEmpty:=by cases b <;> simp;exact Ip
  rw[this];exact F _ _ h
 |tup K=>
  obtain⟨a1,W,Z⟩:=j.dr;obtain rfl:=Z.1;refine truthy_tuple Z.2 (iv (by rw[cS,Z.4.length];exact Z.5)) ?_;rw[X Z.4];exact F _ _ h
 |_=>exact S h
def NM(k:aJ A f n)(l:FC.Ok B f)(c:ah d w i B f g e s)(m:al g.Z g.ι s.heap a j)(o:al g.Z g.ι s.heap b p)
  (h:ae d w i B f VR g s (z' a b e) Q E):af (model d w) A (call (.builtin "min") [j,p]) Q E s:=by
 obtain⟨i,t,j,u,rfl,rfl,h⟩:=f0 m o h;refine min_two_ints k.2 λF K P=>?_;haveI F:=c.new (t:=K) l P;refine h.ok F.1 F.2 ?_
 split <;> exact⟨_,rfl⟩
def NN:∀{b:List _},bytesOf a=D b->∃F:List _,A3 (a=F.map .int) (∀n∈F,0<=n/\n<256) (byteArr F=b.toArray):=by
 induction a with
 |nil=>exactλe=>aE e▸⟨[],rfl,λK h=>z7 h,rfl⟩
 |cons x r K=>
  refineλ{b} e=>(b0.mp e).elim λc q=>(b0.mp q.2).elim λP P=>(b0.mp q.1).elim λi y=>(K P.1).elim λF z=>?_;by_cases K:0<=i/\i<256
  .exact⟨i::F,(cA (·::r) (jN y.1)).trans (cA _ z.1),λn F=>Mine.me F K (z.2 n),aE P.2▸aE ((iP K).symm.trans y.2)▸cA (λa:Array _=>(i.toNat.toUInt8::a.toList).toArray) z.3⟩
  .exact z3 ((iN K).symm.trans y.2)
def intsAre_of{a:List _}:∀{F:List _},aw Z b h (a.map .int) F->IntsAre F a:=by
 induction a with
 |nil=>exactλ{F} q=>q▸.nil
 |cons n r F=>exactλq=>q.elim λv K y=>y.1▸y.2.elim λt e=>e▸.cons _ _ (F y.3)
def NO{mt:Bool}:jU mt "len" a=uY a:=iP rfl
def NP{mt:Bool}:jU mt "tuple" a=uZ a:=(iN zD).trans (iP rfl)
def NQ{mt:Bool}:jU mt "list" a=jO a (bV mt):=(iN zD).trans ((iN zD).trans (iP rfl))
def NR{mt:Bool}:jU mt "bytes" a=u0 a:=(iN zD).trans ((iN zD).trans ((iN zD).trans (iP rfl)))
def NS{mt:Bool}:jU mt "int" a=u1 a:=(iN zD).trans ((iN zD).trans ((iN zD).trans ((iN zD).trans (iP rfl))))
def NT{mt:Bool}:jU mt "sum" a=u2 a:=(iN zD).trans ((iN zD).trans ((iN zD).trans ((iN zD).trans ((iN zD).trans (iP rfl)))))
def NU(u:aJ A k n)(j:FC.Ok B k)(c:ah d w l B k g f s)(i:al g.Z g.ι s.heap a p)
  (h:ae d w l B k VR g s (uY a f) Q E):af (model d w) A (call (.builtin "len") [p]) Q E s:=by
 refine aH λG F=>?_;cases a with
 |bytes b=>
  obtain⟨t,rfl⟩:=i.toBytes;exact F (len_bytes (a1 i.oR rfl) (h.int j c))
 |tup W=>
  obtain⟨a1,X,rfl,K,_,P,S⟩:=i.dr;have e:X.toArray.size=W.length:=by rw[cS,P.length]
  exact F (len_tuple K (iv (by rw[e];exact S)) (by rw[e];exact h.int j c))
 |U W=>
  obtain⟨a1,X,rfl,K,_,P,S⟩:=i.mV;have e:X.toArray.size=W.length:=by rw[cS,P.length]
  exact F (call_len_list K (iv (by rw[e];exact S)) (by rw[e];exact h.int j c))
 |loc v=>
  obtain⟨x,o,h⟩:=bJ h;cases x with
  |list W=>
   obtain⟨a1,X,rfl,K,P,S⟩:=iu c (k_ o) i;haveI e:=cS.trans P.length;exact F (call_len_list K (iv (by rw[e];exact S)) (by rw[e];exact h.int j c))
  |dict q=>
   obtain⟨y,r,rfl⟩:=i.ir;have Z:=(c.8 _ _ _ o r rfl).1;obtain⟨z,m⟩:=Z.4;exact F (call_len_dict Z.3 m.1 (iv (by rw[m.2.length];exact Z.2)) (by rw[m.2.length];exact h.int j c))
  |_=>exact h.elim
 |_=>exact h.elim
def NV(i:aJ A e n)(j:FC.Ok B e)(b:ah c w f B e g d s)(k:al g.Z g.ι s.heap a l)
  (h:ae c w f B e VR g s (u2 a d) Q E):af (model c w) A (call (.builtin "sum") [l]) Q E s:=by
 obtain⟨xs,F,F,rfl,K,P,S,h⟩:=lr b k h;obtain⟨F,F,W⟩:=bJ h;have:=mX F;clear S h F;subst this;have F:=intsAre_of P;refine bi F.allInts.items λS P=>?_;rw[P]at K;refine sum_intListG i.2 K λW W X Z=>?_;haveI K:=b.new (t:=W) j Z;refine ae.ok zA K.1 K.2 ?_;refine⟨X,?_⟩;rw[preSum_eq,yr zS];haveI K:=nums_intItems (xs:=S);rw[<- P,F.numsOf]at K;rw[K]
def NW(l:aJ A f n)(j:FC.Ok B f)(c:ah b w e B f g d s)(i:al g.Z g.ι s.heap a k)
  (h:ae b w e B f VR g s (uZ a d) Q E):af (model b w) A (call (.type "tuple") [k]) Q E s:=by
 have F:ae _ w e B _ VR g s (em a el _) Q E->af (model b w) A (call _ [k]) Q E s:=λh=>by
  obtain⟨Z,d,P,rfl,K,S,W,h⟩:=lr c i h;refine call_tuple_list K (λK X=>?_) (by rw[cS,S.length];exact eK W);haveI K:=c.new (t:=s.toks) j (λb e q=>bA {cls:=.type "tuple",data:=.seq P.toArray} (X b _ q));refine(bG h).2.ok K.1 K.2 (al.el ⟨_,cI _ rfl,rfl,0,rfl⟩ (λq=>?_) (aw.mono (K.1.mono c.2) _ _ S) W);obtain⟨o,e⟩:=(c.4 _ q).2;exact((d1 _) (ca (X _ _ e))).elim
 cases a with
 |tup Z=>
  clear F;obtain⟨d,P,K⟩:=i.dr;obtain rfl:=K.1;exact call_tuple_same K.2 (h.val j c i)
 |_=>exact F h
def NX{mt:Bool}(l:aJ A e n)(i:FC.Ok B e)(b:ah c w f B e g d s)(j:al g.Z g.ι s.heap a k)
  (h:ae c w f B e VR g s (jO a (bV mt) d) Q E):af (model c w) A (call (.type "list") [k]) Q E s:=by
 refine aH λG K=>?_;obtain⟨F,rfl,h⟩:=vl h;obtain⟨F,F,rfl,⟨o,S,W,k,X⟩,_,P,Z⟩:=j.dr;obtain⟨m,F,a⟩:=b.fr i;refine K (call_list_seq _ (.inr rfl) S W X (λK K S W=>ry (n:=K) i b a (F.keeps S) (λq K=>Mine.me K ?_ λK=>?_) (fZ _) P h) (by rw[cS,P.length];exact eK Z))
 .refine⟨W,λe=>by have:=F.ns.lt;rw[<- e]at this;exact d1 _ this,?_⟩;cases z:B.get? _ with
  |none=>rfl
  |some F=>exact aB (ca (b.1 _ _ z)) (d1 _)
 .haveI F:=ip _ _ q K;exact⟨S _ _ F.1,F.2.1,F.2.2⟩
def NY b t:kQ (Builtin.«bytes.__new__» ⟨[.type "bytes",.bytes b t],[]⟩) (λF R s=>R (.ok (.ret (.bytes b t))) s):=
 .of_wp λF w A R s h=>by
  haveI e:Builtin.«bytes.__new__» ⟨[.type "bytes",.bytes b t],[]⟩=(do rule "bytes.__new__.of-bytes";ret (.bytes b t)):=by kernel_rfl
  exact e▸(ac (hX (ax ⟨_,rfl,h⟩)))
def NZ(h:Q (.bytes b t) s):af (model a w) A (call (.type "bytes") [.bytes b t]) Q E s:=
 callType_new F.bm_called rfl (F.bm_typeCall _) (F.bm_newCall _) (λK=>ZM ..) F.bm_entry (NY b t) ⟨dE ..,h⟩
def N8(l:aJ A f n)(j:FC.Ok B f)(c:ah b w e B f g d s)(i:al g.Z g.ι s.heap a k)
  (h:ae b w e B f VR g s (u0 a d) Q E):af (model b w) A (call (.type "bytes") [k]) Q E s:=by
 have F:ae _ w e B _ VR g s (em a (λK=>a_ (bytesOf K) mkBytes) _) Q E->af (model b w) A (call _ [k]) Q E s:=λh=>by
  obtain⟨K,K,K,rfl,S,K,W,h⟩:=lr c i h;refine aH λG X=>?_;obtain⟨b,Z,h⟩:=bJ h;haveI P:=bG h;obtain⟨d,rfl,d,e⟩:=NN Z;refine X (call_bytes_ints S (intsAre_of K) d (by rw[K.length];exact eK W) l.2 λK t k S=>?_);haveI K:=c.new (t:=k) j S;exact P.2.ok K.1 K.2 ⟨⟨t,by rw[e]⟩,P.1⟩
 cases a with
 |bytes b=>
  clear F;obtain⟨t,rfl⟩:=i.toBytes;exact NZ (h.val j c i)
 |_=>exact F h
def N9(l:aJ A e n)(i:FC.Ok B e)(c:ah b w f B e g d s)(j:al g.Z g.ι s.heap a k)
  (h:ae b w f B e VR g s (u1 a d) Q E):af (model b w) A (call (.type "int") [k]) Q E s:=by
 cases a with
 |bool b=>rw[j.toBool];exact call_int_bool (h.int i c)
 |_=>exact h.elim
def N_(h:Q (.bool V) {s with toks:=s.toks+1}):af (model a w) A (call (.builtin "isinstance") [.bytes b t,.type "list"]) Q E s:=
 ZN (S:=λK R s=>R _ {s with toks:=s.toks+1}) (λK K K K s K=>by
  obtain⟨h,g,d,t,P⟩:=s;exact isinstance_outer (isinstance_nested_false_bytes zK F.isi_meta_list sub_bytes_list K)) h
def Oa(h:Q (.bool J) s):af (model a w) A (call (.builtin "isinstance") [.bytes b t,.type "bytes"]) Q E s:=
 ZN (isinstance_true F.isi_meta_bytes F.sub_bytes_bytes) ⟨rfl,h⟩
def AK(m:t=cy T)(o:aJ A j n)(f:FC.Ok B j)(c:ah b w i B j g d s)(k:al g.Z g.ι s.heap a l)
  (h:ae b w i B j VR g s (ox a t d) Q E)(e:T="list"\/T="bytes"):af (model b w) A (call (.builtin "isinstance") [l,.type T]) Q E s:=by
 subst m;have F:ae _ w i B _ VR g s (em a (λP=>if cy T=="list" then rt (.bool J)else if cy T=="bytes" then rt (.bool V)else aC) _) Q E->af (model b w) A (call (.builtin "isinstance") [l,.type T]) Q E s:=λh=>by
  refine(lr c k h).elim λK K K K=>?_;rw[K.1];clear h;clear h;rcases e with rfl |rfl
  .exact IsiPair.isList_list K.2 (λP P q=>q) (K.5.bool f c)
  .exact IsiPair.isList_bytes K.2 (λP P q=>q) (K.5.bool f c)
 cases a with
 |none=>
  haveI K:=bG h;clear F;clear h;rcases e with rfl |rfl
  .rw[k.jj];exact IsiPair.NoneType_list (K.2.bool f c)
  .exact aB K.1 zD
 |bytes b=>
  clear F;obtain⟨t,rfl⟩:=k.toBytes;rcases e with rfl |rfl
  .exact N_ (h.bool f c)
  .exact Oa (h.bool f c)
 |_=>exact F h
inductive j8(a:d0)(b:List Str):Prop |mk
 (F:a.kind=.function)
 (F:a.isGenerator=V)
 (F:a.isCoroutine=V)
 (F:(a.names.map (·.1)).Nodup)
 (F:b.Nodup)
 (F:∀x∈b,a.names.lookup x=D .local\/a.names.lookup x=D .cell)
inductive FnAt(h:Heap)(a:aG)(b:d7):Prop |mk
 (F:E2 λo K=>A9 (h.get? a=D o) (o.data=.func K) (K.body=.stmts b.body) (K.scope=b.scope) (K.closure=[]) (K.globals=mainGlobals) (K.builtins=jB) (h.CodeRec K.code K.qualname) (∀F:List ay,F.length=b.params.length->bindArgs K ⟨F,[]⟩=pure (b.params.zip F)))
 (F:j8 b.scope b.params)
def rD:∀{m:Str->Option _} {x:Str},(a.map (·.1)).Nodup->
  bindL k a m x=if k x=D .local then(match a.lookup x with |some v=>D v |none=>m x)else m x:=by
 induction a with
 |nil=>exactλ{m x} _=>(iteInduction (λP=>rfl) λP=>rfl)
 |cons p r F=>
  intro m x K;have K:=ef.mp K;refine(F K.2).trans ?_;by_cases F:x=p.1
  .rw[show(p::r).lookup x=D p.2 from F▸lookup_at,(oe _ id λv h=>aB (ch.mpr ⟨_,mem_of_lookup h,F⟩) K.1)];by_cases K:k x=D .local
   .rw[iP K,iP K,iP (F▸K),iP F]
   .rw[iN K,iN K,iN (F▸K)]
  .rw[(Ap F)];haveI e:(if k p.1=D .local then λy=>if y=p.1 then D p.2 else m y else m) x=m x:=iteInduction (motive:=λf:Str->Option _=>f x=m x) (λP=>iN F) λP=>rfl;rw[e]
def Ob:∀{m:Str->Option _} {x:Str},(a.map (·.1)).Nodup->
  bindC k a m x=if k x=D .local then m x else(match a.lookup x with |some v=>D v |none=>m x):=by
 induction a with
 |nil=>exactλ{m x} _=>(ite_self _).symm
 |cons e r F=>
  refineλ{m x} K=>(F (ef.mp K).2).trans (g3 (P:=λo=>_=if k x=D _ then m x else(match o with |some v=>D v |none=>m x)) (λF=>?_) λF=>?_)
  .rw[(Mine.oe _ id λv q=>aB (ch.mpr ⟨_,mem_of_lookup q,F⟩) (ef.mp K).1)];by_cases K:k x=D .local
   .rw[iP K,iP K,iP (F▸K)]
   .rw[iN K,iN K,iN (F▸K)];exact iP F
  .rw[(iteInduction (motive:=λf:Str->Option _=>f x=m x) (λK=>rfl) λK=>iN F)]
def Oc{x:Str}{ps:List _}:∀{F:List _} {K:List _},aw b a h F K->
  match (ps.zip F).lookup x with
  |none=>(ps.zip K).lookup x=I
  |some p=>∃v,(ps.zip K).lookup x=D v/\al b a h p v:=by
 induction ps with
 |nil=>exactλS=>rfl
 |cons y ps S=>
  intro F K r;cases F with
  |nil=>exact r.jW▸rfl
  |cons a F=>
   refine r.il.elim λv F q=>?_;rw[q.1];exact g3 (P:=λo=>match o with
    |none=>((y,v)::ps.zip _).lookup x=I
    |some p=>∃u,((y,v)::ps.zip _).lookup x=D u/\al b _ h p u) (λe=>⟨v,e▸lookup_at,q.2⟩) λe=>Ap (r:=ps.zip F) e▸S q.3
def rE{a b:Type}[BEq a][LawfulBEq a]{x:a}{k:b}{l:List _}:(l.map (·.1)).Nodup->(x,k)∈l->l.lookup x=D k:=by
 induction l with
 |nil=>exactλS=>z7
 |cons p r W=>
  intro F K;haveI F:=ef.mp F;exact(bD.mp K).elim (λe=>e▸lookup_at) λK=>g3 (P:=(·=D k)) (λe=>aB (ch.mpr ⟨_,K,e⟩) F.1) λS=>W F.2 K
def Od:∀{n:Nat} {acc:List _},(acc.lookup x).isSome=J->((kT n a acc).lookup x).isSome=J:=by
 induction a with
 |nil=>exactλh=>h
 |cons e r K=>exactλ{n acc} h=>iteInduction (motive:=λl:List _=>(l.lookup x).isSome=J) (λF=>K (g3 (P:=λy:Option _=>y.isSome=J) (λF=>rfl) λF=>h)) λF=>K h
def cellsFrom_some:∀{n:Nat} {acc:List _},(a.map (·.1)).Nodup->(x,Ge)∈a->((kT n a acc).lookup x).isSome=J:=by
 induction a with
 |nil=>exactλK h=>z7 h
 |cons e r P=>
  exactλ{n acc} S F=>(bD.mp F).elim (λq=>q▸Od (acc:=(x,n)::acc) (cA _ lookup_at)) λF=>iteInduction (motive:=λl:List _=>(l.lookup x).isSome=J) (λK=>P (ef.mp S).2 F) λK=>P (ef.mp S).2 F
def Oe:∀{n:Nat} {F:List _},(a.map (·.1)).Nodup->(F.map (·.1)).Nodup->(∀x∈F.map (·.1),x∉a.map (·.1))->
  ((kT n a F).map (·.1)).Nodup:=by
 induction a with
 |nil=>exactλK h K=>h
 |cons e r W=>
  exactλ{n F} P X S=>iteInduction (motive:=λl:List _=>(l.map _).Nodup) (λK=>W (ef.mp P).2 (ef.mpr ⟨λq=>S _ q (.head _),X⟩) λx F=>Mine.me F (ef.mp P).1 λF q=>S x F (.tail _ q)) λK=>W (ef.mp P).2 X λx F q=>S x F (.tail _ q)
def fb(a:FC)(fr:d7)(env:Env):FC where
 cx:=cq fr.scope
 env:=env
 own:=env.locals::env.cells.map (·.2)
 fr:=a.own++a.fr
 outer:=a.cf::a.outer
 cf:=env
def AL{x y:Str}{c:aG}{l:List _}:l.Pairwise (λa b=>a.2≠b.2)->l.lookup x=D c->l.lookup y=D c->x=y:=by
 induction l with
 |nil=>exactλS=>z3
 |cons p r Z=>
  intro F;haveI F:=i3.mp F;exact g3 (P:=λo=>o=D c->(p::r).lookup y=D c->x=y)
   (λK W=>g3 (P:=λo=>o=D c->x=y) (λX S=>K.trans X.symm) λS K=>aB (aE W) (F.1 _ (mem_of_lookup K)))
   λS W=>g3 (P:=λo=>o=D c->x=y) (λX K=>aB (aE K) (F.1 _ (mem_of_lookup W))) λS K=>Z F.2 W K
def Of{i:Nat}(e:(cq a).slots[i]?=D (x,k)):(x,k)∈a.names/\(k=.local\/k=.cell):=by
 refine eD (λK F=>⟨K,?_⟩) (dj.mp (eZ e));dsimp only[uX]at F;simp only[gq,bE]at F;exact F
def rF(b:(a.names.map (·.1)).Nodup){i j:Nat}(c:(cq a).slots[i]?=D (x,k))(d:(cq a).slots[j]?=D (x,e)):i=j:=by
 haveI X:((cq _).slots.map _).Nodup:=ZO (List.Sublist.map _ Gf) b;haveI P:((cq _).slots.map (·.1))[i]?=D x:=by rw[dG,c];rfl
 haveI W:((cq _).slots.map (·.1))[j]?=D x:=by rw[dG,d];rfl
 obtain⟨F,K⟩:=cQ.mp P;obtain⟨P,S⟩:=cQ.mp W;have W:=yt.mp X;rcases yu i j with h |h |h
 .exact aB (K.trans S.symm) (W i j F P h)
 .exact h
 .exact aB (S.trans K.symm) (W j i P F h)
def Og(p:FC.Ok B e)(d:ah j w n B e g i s)(l:j8 c.scope c.params){b:ay}
  (h:f=qz c.scope s.heap.objs.size mainGlobals (kT (s.heap.objs.size+1) c.scope.names []) k (D a) b I jB)
  (X:qA s f.locals m f.cells o q):FC.Ok B (fb e c f):=by
 have W:f.locals=s.heap.objs.size:=by rw[h];rfl
 haveI K:f.scope=c.scope:=by rw[h];rfl
 have Z:∀b∈(fb e c _).own,s.heap.objs.size<=b:=λb P=>by
  refine Mine.me P ?_ λP=>?_
  .exact aq W.symm
  .obtain⟨⟨n,c⟩,S,rfl⟩:=ch.mp P;have:=X.above n c S;rw[W]at this;exact bj this
 have F:∀b,b∈e.own\/b∈e.fr->b<s.heap.objs.size:=λb P=>by
  obtain⟨o,e⟩:=(d.4 b (d.2 _ (P.elim (d.5 b) (d.6 b)))).2;exact ca e
 refine⟨?_,?_,?_,?_,?_,.head _,?_,rfl,?_,?_,?_,?_,?_,?_,?_,?_,?_,?_⟩
 .rw[K];exact l.1
 .rw[K];rfl
 .rw[h];rfl
 .rw[h];rfl
 .exact W▸bj (aT p.5 (F _ (.inl p.6)))
 .exactλb P W=>aB (Z b P) (aM.mpr (F b (aZ.mp W)))
 .exactλi j x k F F P W W=>rF l.4 F P
 .intro c S e;have:=X.above _ _ S;rw[e]at this;exact d1 _ this
 .exactλc S=>.inl (.tail _ (ch.mpr ⟨c,S,rfl⟩))
 .exactλW c S=>.tail _ (ch.mpr ⟨c,S,rfl⟩)
 .exactλi j x F P=>rF l.4 F P
 .intro x i F P;obtain⟨k,S⟩:=slot_get F;exact(cQ.mp S.3).1
 .exactλx y c F P=>AL X.apart F P
 .intro L P;haveI F:=P;rw[hY]at F;haveI P:f.frame=D f.locals:=by rw[h];rfl
  replace F:=P▸F;refine Mine.me F ?_ λF=>?_
  .exact .inl (.head _)
  .exact .inr (aZ.mpr (p.16 L F))
 .rw[K];exact l.1
 .rw[h];exact x5 _
def vp{h a:Heap}(x:h.IsCell c v)(k:∀o,h.get? c=D o->∃b,a.get? c=D {o with slots:=b}):a.IsCell c v:=M4 x k
def vq{h a:Heap}(x:h.Ns c m)(k:∀o,h.get? c=D o->∃b,a.get? c=D {o with slots:=b}):a.Ns c m:=by
 refine x.elim λo F=>?_;obtain⟨K,P⟩:=F;obtain⟨S,F⟩:=P;obtain⟨b,P⟩:=k o F.1;exact⟨_,K,S,P,F.2.1,F.2.2⟩
noncomputable def Gh.vr(g:Gh)(a:List aG):Gh:=⟨g.ι,a++g.Y,a++g.Z,g.P⟩
noncomputable def Gh.vt(g:Gh)(b:FC)(a:List aG):Gh:=⟨[],a++b.own++b.fr,a++g.Z,g.Z⟩
noncomputable def Gh.j9(g a:Gh):Gh:=⟨g.ι,a.Y++g.Y,a.Z,g.P⟩
def aw.nl(c:∀p∈a,∀v,Mine.aO p=J->al Z d h p v->al Z b h p v):∀F:List _,Mine.bX a=J->aw Z d h a F->aw Z b h a F:=by
 induction a with
 |nil=>exactλF F e=>e
 |cons x r K=>exactλF n e=>e.elim λv F y=>⟨v,F,y.1,c x (.head _) v (cH.mp n).1 y.2,K (λp m=>c p (.tail _ m)) _ (cH.mp n).2 y.3⟩
def al.aO p:∀v:ay,Mine.aO p=J->al Z b h p v->al Z a h p v:=
 An (M:=λp=>∀v,Mine.aO p=J->al Z b h p v->al Z a h p v) (λF F e=>e) (λF F F e=>e) (λF F F e=>e) (λF F F e=>e) (λF F F e=>e)
  (λP K v n e=>e.elim λa vs q=>⟨a,vs,q.1,q.2,q.3,q.4,aw.nl K _ n q.5⟩)
  (λP K v n e=>e.elim λa vs q=>⟨a,vs,q.1,q.2,q.3,q.4,aw.nl K _ n q.5⟩)
  (λF F n=>z1 n) p
def aw.aO ps:∀F:List _,Mine.bX ps=J->aw Z b h ps F->aw Z a h ps F:=aw.nl λp F=>al.aO p
def vu{gc:Gh}(h:j8 d.scope d.params){e:ay}
  (j:b=qz d.scope s.heap.objs.size mainGlobals (kT (s.heap.objs.size+1) d.scope.names []) i (D a) e I jB)
  (X:qA s b.locals (bindL b.kindOf (d.params.zip c) λl=>I) b.cells (bindC b.kindOf (d.params.zip c) λl=>I) k)
  (f:c.length=d.params.length)(m:aw gc.Z gc.ι k.heap g c):vh (fb fc d b) gc.Z gc.ι k.heap (e_ (cq d.scope) d.params g):=by
 refine⟨by unfold e_;rw[bN];rfl,_,X.toInCall.ns,λi x k p K F a=>?_⟩;haveI P:=Of K;haveI S:b.kindOf x=D k:=by
  rw[j];exact rE h.4 P.1
 have W:((d.params.zip c).map (·.1)).Nodup:=by
  rw[Gg (aq f.symm)];exact h.5
 haveI c:p=(d.params.zip _).lookup x:=by
  unfold e_ at F;haveI Z:(cq _).slots[i]?=D _:=K;rw[dG,Z]at F;exact(aE F).symm
 haveI z:=Oc (x:=x) (ps:=d.params) m;clear F;subst c;clear K a;rcases P.2 with rfl |rfl
 .cases q:(d.params.zip _).lookup x with
  |none=>
   rw[q]at z;show _=I;rw[rD W,iP S,z]
  |some p=>
   rw[q]at z;obtain⟨v,F⟩:=z;exact⟨v,by rw[rD W,iP S,F.1],F.2⟩
 .obtain⟨c,K⟩:∃c,b.cells.lookup x=D c:=by
   rw[j];exact n5.mp (cellsFrom_some h.4 P.1)
  haveI F:=X.cell x c K;rw[Ob W,iN (by rw[S];decide)]at F;cases q:(d.params.zip _).lookup x with
  |none=>
   replace z:=q▸z;rw[z]at F;exact⟨c,K,F⟩
  |some p=>
   rw[q]at z;obtain⟨v,P⟩:=z;rw[P.1]at F;exact⟨c,v,K,F,P.2⟩
inductive ls(b:FC)(s:ao)(a:Env)(c:ao):Prop |mk
 (F:∀b∈a.locals::a.cells.map (·.2),s.heap.get? b=I/\∃o,c.heap.get? b=D o)
 (F:∀b o,s.heap.get? b=D o->c.heap.get? b=D o)
 (F:E2 λh t=>c={s with heap:=h,toks:=t})
def rG{d:d7}(f:j8 d.scope d.params)(g:c=qz d.scope s.heap.objs.size mainGlobals (kT (s.heap.objs.size+1) d.scope.names []) e (D a) b I jB)
  (X:qA s c.locals m c.cells i h):ls fc s c h:=by
 have F:∀b,s.heap.objs.size<=b->s.heap.get? b=I:=λb K=>by
  cases q:s.heap.get? b with
  |none=>rfl
  |some o=>exact((ar.mpr K) (ca q)).elim
 haveI S:(c.cells.map _).Nodup:=by rw[g];exact Oe f.4 uq (λP h=>Mine.z7 h)
 refine⟨λb K=>?_,X.toInCall.keep,?_⟩
 .refine Mine.me K ?_ λK=>?_
  .obtain⟨o,_,_,q,_⟩:=X.toInCall.ns;exact⟨F _ X.toInCall.fresh,o,q⟩
  .obtain⟨⟨n,c⟩,P,rfl⟩:=ch.mp K;exact⟨F _ (bj (aT X.toInCall.fresh (X.above n c P))),(bi (X.cell n c (rE S P)) λo F=>⟨o,F.1⟩)⟩
 .obtain⟨h,t,e⟩:=X.toInCall.same;exact⟨h,t,e⟩
def ah.gC(a:ah d w e B h g c s)(f:s.heap.get? b=I):B.get? b=I:=by
 cases q:B.get? b with
 |none=>rfl
 |some F=>have:=a.1 b _ q;rw[f]at this;exact Mine.z3 this
def Oh(u:FC.Ok B n)(c:ah i w o B n g f s)(p:j8 e.scope e.params)
  (l:d=qz e.scope s.heap.objs.size mainGlobals (kT (s.heap.objs.size+1) e.scope.names []) q (D a) h I jB)
  (X:qA s d.locals (bindL d.kindOf (e.params.zip b) λm=>I) d.cells (bindC d.kindOf (e.params.zip b) λm=>I) r)
  (j:b.length=e.params.length)(t:aw g.Z g.ι s.heap k b):
  ah i w o B (fb n e d) (g.vr (d.locals::d.cells.map (·.2))) ⟨e_ (cq e.scope) e.params k,f.objs⟩ r:=by
 have N:ls n s ..:=rG p l X;have M:cL _ _ _ (g.vr _).Z g.ι _:=⟨λb F=>(aZ.mp F).elim (λq=>.inr (N.1 b q).1) .inl,λm m h=>h,λb o q m=>N.2 b o q⟩;have K:=λb F=>(c.4 b F).2;have P:∀b∈g.Z,b∉d.locals::d.cells.map _:=λb F q=>by obtain⟨o,e⟩:=K b F;rw[(N.1 b q).1]at e;exact Mine.z3 e
 refine⟨λb o q=>N.2 b o (c.1 b o q),λb F=>?_,λb F=>bB _ (c.3 b F),λb F=>?_,λb F=>dc _ F,λb F=>bB _ ((λb F=>(aZ.mp F).elim (c.5 b) (c.6 b)) b F),c.7,?_,c.9,vu p l X j (aw.mono M _ _ t),?_⟩
 .exact(aZ.mp F).elim (dc _) (λq=>bB _ (c.2 b q))
 .rcases aZ.mp F with q |q
  .exact⟨c.gC (N.1 b q).1,(N.1 b q).2⟩
  .exact(K b q).elim λo e=>⟨(c.4 b q).1,o,N.2 b o e⟩
 .intro n o F K S W;haveI F:=c.8 n o _ K S W;exact⟨F.1.mono M (λK q=>N.2 _ _ q) (λK q=>N.2 _ _ q),bB _ F.2.1,bB _ F.2.2,P _ (c.2 _ F.2.1),λq=>(aZ.mp q).elim F.2.3 F.2.4,
   P _ (c.2 _ F.2.2),λq=>(aZ.mp q).elim F.2.5 F.2.6,F.2.7,F.2.8⟩
 .exact Gi (by rw[l];rw[p.1];decide) (by rw[l];rfl) X.toInCall.ns (c.gC (N.1 _ (.head _)).1) (jZ (λb o F K=>⟨o,N.2 b o F,K⟩) c.11)
def Oi(v:FC.Ok B f)(c:ah j w n B f g o s)(p:j8 e.scope e.params)
  (l:d=qz e.scope s.heap.objs.size mainGlobals (kT (s.heap.objs.size+1) e.scope.names []) q (D a) i I jB)
  (X:qA s d.locals (bindL d.kindOf (e.params.zip b) λm=>I) d.cells (bindC d.kindOf (e.params.zip b) λm=>I) t)
  (k:b.length=e.params.length)(r:bX h=J)(u:aw g.Z g.ι s.heap h b):
  ah j w n B (fb f e d) (g.vt f (d.locals::d.cells.map (·.2))) ⟨e_ (cq e.scope) e.params h,[]⟩ t:=by
 have N:ls f s ..:=rG p l X;haveI M:cL _ _ _ (g.vt f _).Z [] _:=⟨λb F=>(aZ.mp F).elim (λq=>.inr (N.1 b q).1) .inl,λm m h=>h,λb o q m=>N.2 b o q⟩;haveI K:∀b∈(d.locals::d.cells.map _)++f.own++f.fr,b∈(d.locals::d.cells.map (·.2))\/b∈f.own++f.fr:=λb F=>by
  rw[cz]at F;exact aZ.mp F
 refine⟨λb o q=>N.2 b o (c.1 b o q),λb F=>?_,λb F=>bB _ F,λb F=>?_,λb F=>?_,λb F=>?_,rfl,?_,?_,vu p l X k (aw.mono M _ _ (aw.aO _ _ r u)),?_⟩
 .exact(K b F).elim (dc _) (λq=>bB _ (c.2 b ((λb F=>(aZ.mp F).elim (c.5 b) (c.6 b)) b q)))
 .rcases aZ.mp F with q |q
  .exact⟨c.gC (N.1 b q).1,(N.1 b q).2⟩
  .exact bi ((λb F=>(c.4 b F).2) b q) λo e=>⟨(c.4 b q).1,o,N.2 b o e⟩
 .show b∈(d.locals::d.cells.map _)++f.own++f.fr;rw[cz];exact dc _ F
 .show b∈(d.locals::d.cells.map _)++f.own++f.fr;rw[cz];exact bB _ F
 .intro n o K F;simp at F
 .intro n P o P K K F;simp at F
 .exact Gi (by rw[l];rw[p.1];decide) (by rw[l];rfl) X.toInCall.ns (c.gC (N.1 _ (.head _)).1) (jZ (λb o F K=>⟨o,N.2 b o F,K⟩) c.11)
def AM{e:Gh}{c:ao}(f:FC.Ok B d)(a:ah h w k B d g stst9 s)(N:ls d s l m)
  (r:∀b∈e.Z,b∈g.Z\/s.heap.get? b=I)(t:∀(n:Nat) i,g.ι[n]?=D i->e.ι[n]?=D i)(u:∀b o,s.heap.get? b=D o->b∉g.Z->c.heap.get? b=D o)
  (j:∀b∈d.own++d.fr,∀o,m.heap.get? b=D o->∃p,c.heap.get? b=D {o with slots:=p}):vh d e.Z e.ι c.heap stst9.loc:=bi a.10.2 λm F=>⟨a.10.1,m,vq F.1 λo q=>j _ (dc _ f.6) o (N.2 _ _ q),λi x k p K P S=>(F.2 i x k p K P S).mono ⟨r,t,u⟩ λc v q r=>vp r λo z=>j c (aZ.mpr (f.11 _ (mem_of_lookup q))) o (N.2 _ _ z)⟩
def AO(r:FC.Ok B l)(a:ah j w m B l g stst9 s)(N:ls l s i p)
  (S:aP (fb l u i) (g.vr (i.locals::i.cells.map (·.2))) p d f)(c:ah j w m B (fb l u i) d k f):
  aP l g s d f/\ah j w m B l d {stst9 with objs:=k.objs} f:=by
 have K:∀b,p.heap.get? b=I->s.heap.get? b=I:=λb F=>by
  cases q:s.heap.get? b with
  |none=>rfl
  |some o=>rw[N.2 b o q]at F;exact Mine.z4 F
 haveI X:∀b∈d.Z,b∈g.Z\/s.heap.get? b=I:=λb F=>by
  rcases S.1 b F with q |q
  .exact(aZ.mp q).elim (λq=>.inr (N.1 b q).1) .inl
  .exact .inr (K b q)
 have Z:=λb o q F=>S.5 b o (N.2 b o q) λz=>(aZ.mp z).elim (λz=>by rw[(N.1 b z).1]at q;exact Mine.z3 q) F;refine⟨⟨X,S.2,S.3,λb F=>?_,Z,λb o q=>S.6 b o (N.2 b o q),λb F o q=>S.7 b (bB _ F) o (N.2 b o q),?_⟩,?_⟩
 .rcases S.4 b F with q |q
  .exact(aZ.mp q).elim (λq=>.inr (N.1 b q).1) .inl
  .exact .inr (K b q)
 .clear K;obtain⟨h,t,rfl⟩:=N.3;obtain⟨v,x,e⟩:=S.8;exact⟨v,x,e⟩
 .haveI W:=c.6;refine⟨c.1,c.2,c.3,c.4,λb F=>W b (dc _ F),λb F=>W b (bB _ F),c.7,λn o E y A C=>?_,c.9,
   AM (stst9:=stst9) r a N X S.2 (λb o q F=>Z b o q λz=>F (a.2 b z)) S.7,c.11.2.2⟩
  haveI P:=c.8 n o _ y A C;exact⟨P.1,P.2.1,P.2.2,λq=>P.2.4 (dc _ q),λq=>P.2.4 (bB _ q),λq=>P.2.6 (dc _ q),λq=>P.2.6 (bB _ q),P.2.7,P.2.8⟩
def AP(m:FC.Ok B e)(a:ah h w j B e g i s)(N:ls e s c l)
  (S:aP (fb e n c) (g.vt e (c.locals::c.cells.map (·.2))) l d b)(f:ah h w j B (fb e n c) d k b):
  aP e g s (g.j9 d) b/\ah h w j B e (g.j9 d) i b:=by
 have K:∀b,l.heap.get? b=I->s.heap.get? b=I:=λb F=>by
  cases q:s.heap.get? b with
  |none=>rfl
  |some o=>rw[N.2 b o q]at F;exact Mine.z4 F
 have Z:∀b∈d.Z,b∈g.Z\/s.heap.get? b=I:=λb F=>by
  rcases S.1 b F with q |q
  .exact(aZ.mp q).elim (λq=>.inr (N.1 b q).1) .inl
  .exact .inr (K b q)
 haveI i:=λb F=>f.3 b (by rw[S.3];exact F);have P:=λb F=>(aZ.mp F).elim (a.5 b) (a.6 b);haveI j:∀b∈(c.locals::c.cells.map _)++e.own++e.fr,b∈(c.locals::c.cells.map (·.2))\/b∈e.own++e.fr:=λb F=>by
  rw[cz]at F;exact aZ.mp F
 have W:=λb o q F=>S.5 b o (N.2 b o q) λz=>(j b z).elim (λz=>by rw[(N.1 b z).1]at q;exact Mine.z3 q) F;haveI M:cL _ _ _ _ (g.j9 d).ι _:=⟨Z,λX X h=>h,λb o q F=>W b o q λz=>F (a.2 b (P b z))⟩;refine⟨⟨Z,λX X h=>h,rfl,λb F=>?_,λb o q F=>W b o q λz=>F (P b z),λb o q=>S.6 b o (N.2 b o q),λb F o q=>S.7 b (bB _ F) o (N.2 b o q),?_⟩,?_⟩
 .rcases aZ.mp F with F |F
  .rcases S.4 b F with q |q
   .rcases j b q with q |q
    .exact .inr (N.1 b q).1
    .exact .inl (P b q)
   .exact .inr (K b q)
  .exact .inl F
 .clear K;obtain⟨h,t,rfl⟩:=N.3;obtain⟨K,c,e⟩:=S.8;exact⟨K,c,e⟩
 .refine⟨f.1,λb F=>?_,λb F=>i b (a.3 b F),f.4,λb F=>bB _ (a.5 b F),λb F=>bB _ (a.6 b F),a.7,λn o K K c d=>?_,a.9,
   AM m a N Z (λX X h=>h) (λb o q F=>W b o q λz=>F (a.2 b (P b z))) S.7,f.11.2.2⟩
  .exact(aZ.mp F).elim (f.2 b) (λq=>i b (a.2 b q))
  haveI F:=a.8 n o _ K c d;exact⟨F.1.mono M (λK q=>W _ _ q λz=>(aZ.mp z).elim F.2.3 F.2.4) (λK q=>W _ _ q λz=>(aZ.mp z).elim F.2.5 F.2.6),bB _ F.2.1,bB _ F.2.2,F.2.3,F.2.4,F.2.5,F.2.6,F.2.7,F.2.8⟩
noncomputable def Gh.more(g:Gh)(N:List aG):Gh:=⟨g.ι,N++g.Y,N++g.Z,g.P⟩
noncomputable def rH(a:FC):List aG:=(a.cf::a.outer).filterMap (·.frame)
def im.AQ(r:im b w e Z i h o d)(f:isDead o=V)(g:c.data=.fields a):
  h.get? d.a≠D c/\h.get? d.d≠D c:=by
 refine aH λG S=>?_;have F:∀{b:aG} {o:Obj},h.get? b=D o->(∀a,o.data≠.fields a)->h.get? b≠D c:=λK W q=>by replace K:=q▸K;obtain rfl:=aE K;exact W _ g
 cases o with
 |list P=>
  obtain⟨P,P⟩:=r.3;obtain⟨n,K⟩:=P.1;have:=F K (λa q=>by cases q);exact S ⟨this,r.1▸this⟩
 |dict X=>
  obtain⟨e,z,c,b,⟨o,Z,d,K,W,P,_⟩,g⟩:=r;have:=F K (λa q=>by rw[P]at q;cases q);exact S ⟨this,e▸this⟩
 |ck X=>
  obtain⟨e,z,c,b,⟨o,Z,d,K,W,P,_⟩,g⟩:=r;have:=F K (λa q=>by rw[P]at q;cases q);exact S ⟨this,e▸this⟩
 |inst c K=>exact r.elim λC b n K=>S ⟨F K.2 (λa q=>by cases q),F K.3 (λa q=>by cases q)⟩
 |dead=>cases f
def AR{a h b:Heap}:(∀L∈l.filterMap (·.frame),∀o,h.get? L=D o->(∀K,o.data≠.fields K)->∃F,b.get? L=D F/\∀K,F.data≠.fields K)->h.FunFrames a l->b.FunFrames a l:=by
 induction l with
 |nil=>exactλK K=>trivial
 |cons K r P=>
  refineλk y=>y.2.1.elim λL q=>q.elim λo q=>?_;rw[show(K::r).filterMap _=L::r.filterMap _ by rw[hY,q.1]]at k;exact(k L (.head _) o q.2.2.1 q.2.2.2).elim λF z=>⟨y.1,⟨L,F,q.1,q.2.1,z.1,z.2⟩,P (λF F=>k _ (.tail _ F)) y.2.2⟩
def ah.oU(j:FC.Ok B c)(a:ah e w h B c g d s)(W N:List _)(m:∀b∈W,∃f,gA c g s.heap b f)(k:∀b∈N,s.heap.get? b=I/\∃o,i.get? b=D o)
  (l:∀b o,s.heap.get? b=D o->b∉W->b∉rH c->i.get? b=D o)(n:∀b∈rH c,∀o,s.heap.get? b=D o->b∉W->∃t,i.get? b=D {o with slots:=t})
  (p:∀b∈W,∃o,i.get? b=D o):aP c g s (g.more N) {s with heap:=i}/\ah e w h B c (g.more N) d {s with heap:=i}:=by
 have P:=λb o q F=>by
  by_cases K:b∈rH c
  .exact n b K o q F
  .exact⟨o.slots,l b o q F K⟩
 have S:=λb o q=>by
  by_cases F:b∈W
  .exact p b F
  .obtain⟨t,e⟩:=P b o q F;exact⟨_,e⟩
 have K:∀b o,s.heap.get? b=D o->b∉g.Y->i.get? b=D o:=λb o q F=>l b o q (λz=>F ((λb F=>(m b F).choose_spec.1) b z)) λz=>F ((λb F=>(j.16 b F).elim (a.5 b) (a.6 b)) b z);have M:cL _ _ _ _ (g.more N).ι _:=⟨λb F=>(aZ.mp F).elim (λq=>.inr (k b q).1) .inl,λX X h=>h,λb o q F=>K b o q λz=>F (a.2 b z)⟩;have Z:∀b,(b∈c.own\/b∈c.fr)->b∉W:=λb F q=>by
  obtain⟨f,c⟩:=m b q;exact F.elim c.2 c.3
 refine⟨⟨λb F=>(aZ.mp F).elim (λq=>.inr (k b q).1) .inl,λX X h=>h,rfl,λb F=>(aZ.mp F).elim (λq=>.inr (k b q).1) .inl,K,S,
  λb F o q=>P b o q (Z b (.inr F)),i,s.toks,rfl⟩,λb o q=>K b o (a.1 b o q) λz=>(by have:=(a.4 b (a.2 b z)).1;rw[q]at this;exact Mine.z4 this),λb F=>(aZ.mp F).elim (dc _) (λq=>bB _ (a.2 b q)),
  λb F=>bB _ (a.3 b F),λb F=>(aZ.mp F).elim (λq=>⟨a.gC (k b q).1,(k b q).2⟩) (λq=>⟨(a.4 b q).1,((a.4 b q).2).elim λX z=>S _ _ z⟩),
  λb F=>bB _ (a.5 b F),λb F=>bB _ (a.6 b F),a.7,λn o K c d S=>?_,a.9,?_,?_⟩
 .have K:=a.8 n o _ c d S;have g:∀b X,b∈W->s.heap.get? b=D X->∃f,X.data=.fields _:=λb X F q=>by
   obtain⟨f,h⟩:=m b F;obtain⟨F,W⟩:=h.4;haveI F:=W.1;replace F:=q▸F;rw[aE F];exact⟨f,W.2⟩
  refine⟨K.1.mono M (λX q=>l _ _ q (λz=>?_) λz=>(j.16 _ z).elim K.2.3 K.2.4) (λX q=>l _ _ q (λz=>?_) λz=>(j.16 _ z).elim K.2.5 K.2.6),bB _ K.2.1,bB _ K.2.2,K.2.3,K.2.4,K.2.5,K.2.6,K.2.7,K.2.8⟩
  .obtain⟨f,e⟩:=g _ _ z q;exact(K.1.AQ S e).1 q
  .obtain⟨f,e⟩:=g _ _ z q;exact(K.1.AQ S e).2 q
 .refine bi a.10.2 λm F=>⟨a.10.1,m,vq F.1 λo q=>P _ o q (Z _ (.inl j.6)),λi x k p c d S=>(F.2 i x k p c d S).mono M λc v q r=>vp r λo z=>P c o z (Z c (j.11 _ (mem_of_lookup q)))⟩
 .refine AR (λL F o z K=>?_) a.11;obtain⟨t,e⟩:=P L o z (Z L (j.16 L F));exact⟨_,e,K⟩
def Oj{s:ao}(c:FC.Ok B a)(r:gA a g s.heap b d):b∉rH a:=λq=>(c.16 b q).elim r.2 r.3
def gA.fresh(i:FC.Ok B c)(a:ah e w f B c g d s)(h:s.heap.get? b=I):b∉c.own/\b∉c.fr:=by
 have:∀y∈g.Y,y≠b:=λy F e=>by obtain⟨o,q⟩:=(a.4 y (a.2 y F)).2;rw[e,h]at q;exact Mine.z3 q
 exact⟨λq=>this b (a.5 b q) rfl,λq=>this b (a.6 b q) rfl⟩
def AS{n:Obj}(p:FC.Ok B b)(q:A.frames=D (b.cf::b.outer))(c:ah a w d B b g f s)
  (H:fY d (eG x)=D C)(r:gA b g s.heap e l)(u:s.heap.get? e=D n)(t:n.cls=.ref C)(v:l[2]?=D y/\(x=.co->y=.none))(G:1<l.size)(h:b.env=b.cf)(i:b.env.frame=D L)
  (N:∀o m,aP b g s o m->ah a w d B b o f m->ExcAt d b o m.heap x e (Here b)->Q () m):
  af (model a w) A (do let a <- frameOf b.env;let S <- entryPlaceOf L j;let b <- EntryCells.newEntry k a .none (eC L) .none S;setField (.ref e) 1 b) Q E s:=by
 have m:n.data=.fields l:=by refine r.4.elim λo K=>?_;haveI F:=K.1;replace F:=u▸F;rw[aE F];exact K.2
 rw[h]at i |-
 refine ac (wpAny_frameOf_fun q c.11 i λF K=>?_);refine ac (wpAny_entryPlaceOf λS d=>?_);refine ac (fO ?_ (d.sizeOk5 _ _ _ _ _));have P:=(K.2.1 e (Oj p r)).trans u;generalize f:({cls:=.type "traceback",dict:=I,data:=.fields ([k,.ref L,.none,eC L,.none]++(if S.isEmpty then bF 6 Value.none else S)).toArray}:Obj)=Z;haveI S:=bA Z P;have g:=bf (ca P);haveI W:=mA m (·.setIfInBounds 1 (Value.ref F.objs.size));haveI P:=hZ _ S (ur W);haveI X:=(kU (F.push Z) (n6 (·.setIfInBounds 1 (Value.ref F.objs.size))) (Ne.symm g)).trans (cI F (by rw[<- f];rfl));have j:s.heap.get? F.objs.size=I:=by
  cases q:s.heap.get? F.objs.size with
  |none=>rfl
  |some o=>obtain⟨n,a⟩:=K.2.2 _ o q;exact((d1 _) (ca a)).elim
 have a:∀b o,b≠e->F.get? b=D o->((F.push Z).update e (n6 (·.setIfInBounds 1 (Value.ref F.objs.size)))).get? b=D o:=λb o k Z=>(kU _ _ (Ne.symm k)).trans (bA _ Z);haveI k:=c.oU p [e] [F.objs.size] (λb Z=>by cases bq.mp Z;exact⟨l,r⟩) (λb Z=>by cases bq.mp Z;exact⟨j,_,X⟩)
  (λb o q Z i=>a b o (λz=>Z (z▸.head _)) ((K.2.1 b i).trans q)) (λb Z o q e=>by
   obtain⟨n,z⟩:=K.2.2 b o q;exact⟨n,a b _ (λz=>e (z▸.head _)) z⟩) (λb Z=>by cases bq.mp Z;exact⟨_,P⟩)
 haveI K:=gA.fresh p c j;refine qB S m G (N _ _ k.1 k.2 ⟨C,_,y,_,F.objs.size,_,eC L,H,⟨.tail _ r.1,r.2,r.3,_,P,W⟩,P,(Gj _ _).trans t,?_,?_,⟨.head _,K.1,K.2,_,X,by rw[<- f]⟩,g,?_,L,h▸i,rfl⟩)
 .exact⟨(ZP zD).trans v.1,v.2⟩
 .simp[G]
 .first |(simp) |(rcases d with rfl |⟨_,_,_,_,_,_,_,rfl⟩ <;> simp)
def rI(m:FC.Ok B i)(c:ah b w d B i g h s)(r:ExcAt d i g s.heap x e P)
  (n:∀k j,aP i g s k j->ah b w d B i k h j->ExcAt d i k j.heap x e (λf=>f=l.elim .none λa=>eC a)->Q () j):af (model b w) A (setFlight (.ref e) l) Q E s:=by
 refine r.elim λC k p h T q f P=>?_;haveI d:=P.2;haveI g:=P.3;haveI i:=P.6;haveI W:=P.7;haveI X:=P.8;obtain⟨r,Z⟩:=W.4;haveI j:h.data=.fields _:=by obtain⟨o,K⟩:=d.4;haveI F:=K.1;replace F:=g▸F;rw[aE F];exact K.2
 haveI S:=(n7.mp P.9).1;have F:∀b,b≠T->(s.heap.update T (n6 (·.setIfInBounds 3 (l.elim Value.none λf=>eC f)))).get? b=s.heap.get? b:=λb K=>kU _ _ (Ne.symm K);haveI a:=hZ (n6 (·.setIfInBounds 3 (l.elim Value.none λf=>eC f))) Z.1 (ur (mA Z.2 _));haveI f:=c.oU m [T] [] (λb K=>by cases bq.mp K;exact⟨q,W.1,W.2,W.3,r,Z.1,Z.2⟩) (λb K=>Mine.z7 K)
  (λb o q K c=>(F b λz=>K (z▸.head _)).trans q) (λb K o q c=>⟨o.slots,(F b λz=>c (z▸.head _)).trans q⟩) (λb K=>by cases bq.mp K;exact⟨_,a⟩)
 refine(ac (eg g j i ?_));refine qB Z.1 Z.2 S (n _ _ f.1 f.2 ⟨C,k,p,h,T,_,_,P.1,⟨d.1,d.2,d.3,h,(F e (Ne.symm X)).trans g,j⟩,(F e (Ne.symm X)).trans g,P.4,P.5,i,
  ⟨W.1,W.2,W.3,_,a,mA Z.2 _⟩,X,?_,rfl⟩)
 simp[S]
def vw(n:FC.Ok B b)(k:A.frames=D (b.cf::b.outer))(a:ah c w d B b g i s)(r:io d B b g s.heap x e)(l:b.env=b.cf)
  (u:∀m j,aP b g s m j->ah c w d B b m i j->ExcAt d b m j.heap x e (Here b)->Q () j):af (model c w) A (Gk (.ref e) b.env) Q E s:=by
 obtain⟨L,Z⟩:∃L,b.env.frame=D L:=yn.mp n.18;unfold Gk;rw[Z];refine aH λG b=>?_;rcases r with⟨C,P,q,d,p,X,S,W,r,K⟩ |⟨C,P,q,d,T,ts,f,p,X,S,W,r,K,rT,vx,h3,oV⟩
 .haveI t:d.data=.fields P:=by obtain⟨o,c⟩:=X.4;haveI F:=c.1;replace F:=S▸F;rw[aE F];exact c.2
  refine b (ac (eg S t K ?_));exact AS n k a p X S W r (n7.mp K).1 l Z u
 .have t:d.data=.fields P:=by obtain⟨o,c⟩:=X.4;haveI F:=c.1;replace F:=S▸F;rw[aE F];exact c.2
  haveI i:=rT;obtain⟨F,c⟩:=rT.4;refine b (ac (eg S t K ?_));refine ac (eg c.1 c.2 h3 ?_);by_cases F:f=eC L
  .clear oV;subst F;rw[iP zS];exact ax (u g s (.refl ..) a ⟨C,P,q,d,T,ts,_,p,X,S,W,r,K,i,vx,h3,L,Z,rfl⟩)
  haveI P:f=.none:=by
   rcases oV with h |⟨L',K,h2⟩
   .exact h
   .replace K:=Z▸K;obtain rfl:=aE K;exact(F h2).elim
  clear oV F;subst P;haveI F:∀b,b≠T->(s.heap.update T (n6 (·.setIfInBounds 3 Value.none))).get? b=s.heap.get? b:=λb P=>kU _ _ (Ne.symm P);have g:=a.oU n [T] [] (λb P=>by cases bq.mp P;exact⟨ts,i⟩) (λb P=>Mine.z7 P)
   (λb o q P Z=>(F b λz=>P (z▸.head _)).trans q) (λb P o q a=>⟨o.slots,(F b λz=>a (z▸.head _)).trans q⟩) (λb P=>by cases bq.mp P;exact⟨_,(hZ _ c.1 (ur (mA c.2 _)))⟩)
  refine ac (qB c.1 c.2 (n7.mp h3).1 ?_);exact AS n k g.2 p ⟨X.1,X.2,X.3,d,(F e (Ne.symm vx)).trans S,t⟩ ((F e (Ne.symm vx)).trans S) W r (n7.mp K).1 l Z λm j K F P=>u m j (g.1.trans K) F P
def AT(m:FC.Ok B b)(j:A.frames=D (b.cf::b.outer))(a:ah c w d B b g h s)(r:io d B b g s.heap x e)(k:b.env=b.cf)
  (n:∀l i,aP b g s l i->ah c w d B b l h i->ExcAt d b l i.heap x e (λf=>f=.none)->Q () i):af (model c w) A (leaving b.env (.ref e)) Q E s:=ac (vw m j a r k λF F F K P=>rI m K P λK K K P S=>n _ _ (F.trans K) P S)
def Ol(m:FC.Ok B d)(a:ah f w b B d g h s)(r:io b B d g s.heap x e)(n:∀C c j i,¬(A6 (fY b (eG x)=D C) (gA d g s.heap e c) (s.heap.get? e=D i) (i.cls=.ref C) (c[2]?=D j/\(x=.co->j=.none)) (c[1]?=D .none)))
  (p:∀l k,aP d g s l k->ah f w b B d l h k->io b B d l k.heap x e->o (.ref e) k):i4 (model f w) A d.env o (.ref e) s:=by
 rcases r with⟨C,c,j,i,h⟩ |r
 .exact((n C c j i) h).elim
 .refine r.elim λC c j i T X f F=>?_;haveI P:=F.3;haveI W:i.data=.fields c:=by refine F.2.4.elim λo S=>?_;haveI K:=S.1;replace K:=P▸K;rw[aE K];exact S.2
  refine ac (eg P W F.6 ?_);refine rI m a r λF K P S W=>p F K P S (.inr ?_);refine W.elim λC c j i T X f h=>?_;haveI F:=h.10;refine⟨C,c,j,i,T,X,f,h.1,h.2,h.3,h.4,h.5,h.6,h.7,h.8,h.9,?_⟩;obtain⟨L,K⟩:∃L,d.env.frame=D L:=yn.mp m.18;rw[K]at F;exact .inr ⟨L,K,F⟩
def AU(l:FC.Ok B b)(i:A.frames=D (b.cf::b.outer))(a:ah c w d B b g f s)(r:io d B b g s.heap x e)(j:b.env=b.cf)
  (m:∀k h,aP b g s k h->ah c w d B b k f h->io d B b k h.heap x e->E (.ref e) h):fQ (model c w) A b.env (i4 (model c w) n b.env E) (.ref e) s:=
 vw l i a r j λF F K P F=>F.elim λC S W X T Z f F=>
  Ol l P (.inr ⟨C,S,W,X,T,Z,f,F.1,F.2,F.3,F.4,F.5,F.6,F.7,F.8,F.9,.inr F.10⟩) (λP P P P q=>by
   refine F.2.4.elim λo S=>q.2.4.elim λP P=>?_;obtain rfl:=aE (S.1.symm.trans P.1);have W:=S.2.symm.trans P.2;clear P;cases W;have P:=F.6.symm.trans q.6;cases P) λF F F P S=>m _ _ (K.trans F) P S
def cU(g:Gh)(h:Heap):Fl->Flow->Prop
 |.next,f=>f=.next
 |.ret p,f=>∃v,f=.ret v/\al g.Z g.ι h p v
def RQ(Q:ay->ao->Prop)(E:ay->ao->Prop):Result->ao->Prop:=λr F=>match r with
 |.ok (.ret v)=>Q v F
 |.ok _=>False
 |.error e=>E e F
def AV(i:∀b∈a.Y,b∈j.Y)(r:ExcAt c (fb g k d) a h x e λf=>f=.none):io c B g j h x e:=by
 refine r.elim λC S W X T Z f F=>?_;haveI K:∀{b S},gA (fb _ k d) _ h b _->gA g _ h b S:=λP=>⟨i _ P.1,λz=>P.3 (dc _ z),λz=>P.3 (bB _ z),P.4⟩;exact .inr ⟨C,S,W,X,T,Z,f,F.1,K F.2,F.3,F.4,F.5,F.6,K F.7,F.8,F.9,.inl F.10⟩
def mU.deeper(a:mU A c (n+1)):aJ (A.deeper b) (fb c d b) n:=by
 refine⟨ZQ a.1,a.2,?_,?_⟩
 .exact Hz (a.3)
 .exact HA (a.4)
def Om(v:B.NoLimit)(t:FC.Ok B y)(p:mU A y (n+1))(c:ah e w o B y g k s)(r:fnAt f=D d)(m:FnAt B a d)(G:aw g.Z g.ι s.heap i l)
  (u:∀b,FC.Ok B b->b.cx=cq d.scope->b.env=b.cf->ev e w o B n b cU (execs d.body b.env) (bW (ag n) 64 (cq d.scope) d.body))
  (h:ae e w o B y VR g s (gY (ag (n+1)) (D f) i k) Q E):gO (model e w) A (.call (.ref a) ⟨l,[]⟩) (RQ Q E) s:=by
 refine m.1.elim λo F F=>?_;have K:d.params.length=i.length:=by
  unfold gY ag at h;simp only[r]at h;by_cases q:d.params.length=i.length
  .exact q
  .rw[iN q]at h;exact h.elim
 have o:l.length=d.params.length:=by rw[G.length,K]
 refine Gl (HC (p.3)) (c.1 _ _ F.1) F.2 (by rw[F.4];exact m.2.3) (by rw[F.4];exact m.2.2) F.3 (F.8.keeps c.1) ?_;rw[F.9 l o,F.5,F.6,F.7,F.4];refine ax (Gm m.2.1 (λx F=>?_) λj E P X=>⟨(v.keeps c.1).keeps X.toInCall.keep,Gq ?_⟩)
 .have S:x.1∈d.params:=by
   obtain⟨W,W⟩:=x;exact(Gr F).1
  rcases m.2.6 x.1 S with q |q
  .exact .inl q
  .exact .inr ⟨q,cellsFrom_some m.2.4 (mem_of_lookup q)⟩
 have N:ls y s j P:=rG m.2 E X;have g:=Og t c m.2 E X;have P:aJ (A.deeper j) (fb y d j) n:=p.deeper;unfold gY ag at h;simp only[r,iP K]at h;by_cases Q:ij f=J
 .replace h:=(iP Q)▸h;by_cases l:bX i=J
  .rw[iP l]at h;unfold gZ at h;refine u (fb y d j) g rfl rfl (A.deeper j) _ _ _ _ _ P (Oi t c m.2 E X o l G) ?_;cases z:bW (ag n) 64 (cq d.scope) d.body ⟨e_ (cq d.scope) d.params i,[]⟩with
   |none=>rw[z]at h;exact h
   |some r=>
    obtain⟨r,q⟩:=r;rw[z]at h;cases r with
    |ok H=>
     intro b S W F K Z;have a:=AP t c N F K;cases H with
     |next=>
      cases Z;exact h.ok a.1 a.2 (by rfl)
     |ret p=>
      obtain⟨v,rfl,s⟩:=Z;dsimp only at h;by_cases e:Mine.aO p=J
      .rw[iP e]at h;exact h.ok a.1 a.2 (al.aO _ _ e s)
      .rw[iN e]at h;exact h.elim
    |error x=>
     refineλe S W F K L=>AT g P.1 K L rfl λB C a f w=>?_;have O:=AP t c N (F.trans a) f;exact h e _ _ O.1 O.2 (AV (λb O=>dc _ O) w)
  .rw[iN l]at h;exact h.elim
 .replace h:=(iN Q)▸h;unfold gZ at h;have l:=Oh t c m.2 E X o G;refine u (fb y d j) g rfl rfl (A.deeper j) _ _ _ _ _ P l ?_;cases z:bW (ag n) 64 (cq d.scope) d.body ⟨e_ (cq d.scope) d.params i,k.objs⟩with
  |none=>rw[z]at h;exact h
  |some r=>
   obtain⟨r,q⟩:=r;rw[z]at h;cases r with
   |ok H=>
    intro b S W F K Z;have X:=AO t c N F K;cases H with
    |next=>
     cases Z;exact h.ok X.1 X.2 (by rfl)
    |ret p=>
     obtain⟨v,rfl,s⟩:=Z;exact h.ok X.1 X.2 s
   |error x=>
    refineλe S W F K L=>AT g P.1 K L rfl λB C a f w=>?_;have K:=AO t c N (F.trans a) f;exact h e _ _ K.1 K.2 (AV (λb O=>O) w)
def vy{d:Type}[Decidable c]{a:d}{b:d}(h:(if c then D a else I)=D b):c/\a=b:=by
 by_cases q:c
 .rw[iP q]at h;exact⟨q,aE h⟩
 .rw[iN q]at h;exact Mine.z3 h
def vz n t:(eB a w).is n (.int n t):=by show n4 n (.int n t)=J;simp[n4]
def vA(h:place n k=D j):j<n/\((k=j)\/(k<0/\k+n=j)):=by
 refine eD (λF h=>?_) (vy h);rw[de,decide_eq_true_eq,decide_eq_true_eq]at F;by_cases c:k<0
 .rw[iP c]at h F;cases h;exact⟨(ZR F.1).mpr F.2,.inr ⟨c,(jz F.1).symm⟩⟩
 .rw[iN c]at h F;cases h;exact⟨(ZR F.1).mpr F.2,.inl (jz F.1).symm⟩
def vB{b a:aA}(h:kV (model c w) A E o i Q s):af (model c w) A (subscriptTail b a o i) Q E s:=by
 refine bi h λT F=>?_;obtain⟨id,K⟩:=F;refine ac (ac (wpAny_specialOf K.2.1 K.1 ?_));haveI P:af _ A (FW a V o i) _ E s:=by
  haveI t:∀r F,Q r _->af (model c w) A (letTemporaryGo b o r >>=λS=>pure r) Q E F:=λr F F=>ac (ZS (ax F));have k:∀l,af _ A (yh l _) _ E s:=λl=>wpAny_operating (eh K.2.2 t λS S x=>x)
  induction a using MV with
  |slice F F F p=>
   cases F with
   |none=>exact k _
   |some x=>exact k _
  |no e q=>rw[q];exact k _
 first
  |exact ax (ac P)
  |exact ac _
  |exact ac _
def vC{c:List _}(h:ae b w d B e VR g s (a_ ((place c.length k).bind (c[·]?)) f a) Q E):E2 λj v=>A3 (place c.length k=D j) (c[j]?=D v) (ae b w d B e VR g s (f v a) Q E):=bi (bJ h) λv F=>bi (b0.mp F.1) λj K=>⟨j,v,K.1,K.2,F.2⟩
def AW{n j:Nat}{k:Int}(h:k+n=j): -n<=k:=HD h
def On(h:n<=aI):(-(2^63))<= -(n:Int):=Int.neg_le_neg (qo (iv h))
def AX(m:FC.Ok B i)(b:ah d w f B i g c s)(e:d4 c a=D l)(j:al g.Z g.ι s.heap a n)(h:ae d w f B i VR g s (jQ l k c) Q E):kV (model d w) A E n (.int k u) Q s:=by
 obtain⟨F,Z,rfl,P,S,W⟩:=iu b e j;obtain⟨j,v,F⟩:=vC h;obtain⟨x,K⟩:=S.get F.2;obtain⟨a,c⟩:=vA F.1;haveI d:∀{i:Int},i<=l.length->i<2^63:=λq=>nY q (iv W);haveI X:(Z.toArray.size:Int)=l.length:=cA _ S.length;refine⟨_,_,Gs.lookup,P.typeIs,?_⟩;rcases c with rfl |⟨q1,q2⟩
 .exact wpAny_getItem_list P (da j) (d (mj.mpr (bj a))) (jE.trans K.1) (F.3.val m b K.2)
 .exact wpAny_getItem_list_neg P q1 (by rw[X];exact AW q2) (gk (On W) (AW q2)) (by rw[X,q2];exact jE.trans K.1) (F.3.val m b K.2)
def item_tup(f:FC.Ok B e)(a:ah b w d B e g c s)(i:al g.Z g.ι s.heap (.tup j) l)(h:ae b w d B e VR g s (jQ j k c) Q E):kV (model b w) A E l (.int k u) Q s:=by
 obtain⟨F,F,rfl,S,_,W,F⟩:=i.dr;obtain⟨j,v,K⟩:=vC h;obtain⟨x,X⟩:=W.get K.2;haveI P:=vA K.1;haveI F:=iv F;exact⟨_,_,yv.lookup,S.typeIs,getItem_tuple S (HF F P.2) (HG F P.1 P.2) (by rw[cS,W.length];exact K.1) (jE.trans X.1) (K.3.val f a X.2)⟩
def Oo(l:FC.Ok B f)(a:ah b w d B f g c s)(i:al g.Z g.ι s.heap (.bytes e) j)(h:ae b w d B f VR g s (a_ ((place e.length k).bind (e[·]?)) (λv=>rt (.int v.toNat)) c) Q E):kV (model b w) A E j (.int k u) Q s:=by
 obtain⟨t,rfl⟩:=i.toBytes;obtain⟨j,v,F⟩:=vC h;haveI K:=vA F.1;refine⟨_,_,yw.lookup,dE s _ t,getItem_gives (dE s _ t) rfl yw ZT (ZU ..) (gives_bytes_getitem _ k t u v ?_ ?_) (F.3.int l a)⟩
 .simp only[abM,de,decide_eq_true_eq];exact HH (iv i.oR) K.1 K.2
 .show(place e.length k).bind _=_;rw[F.1];exact jE.trans F.2
def item_dict(i:FC.Ok B f)(a:ah c w d B f g b s)(j:b.objs[l]?=D (.dict e))(m:al g.Z g.ι s.heap (.loc l) n)(h:ae c w d B f VR g s (a_ (bR e k) rt b) Q E):kV (model c w) A E n (.int k u) Q s:=by
 refine bi (bJ h) λv K=>?_;obtain⟨F,P,rfl⟩:=m.ir;obtain⟨F,F⟩:=((a.8 _ _ _ j P rfl).1).4;haveI z:=vn k F.2;rw[K.1]at z;obtain⟨x,P⟩:=z;exact⟨_,_,slot_dict_getitem.lookup,F.1.typeIs,wpAny_getItem_of (vz k u) F.1.mapOf P.1 (K.2.iq i a P.2)⟩
def Op(e:FC.Ok B k)(b:ah c w j B k g d s)(f:al g.Z g.ι s.heap a l)(m:al g.Z g.ι s.heap i n)
  (h:ae c w j B k VR g s (item a i d) Q E):kV (model c w) A E l n Q s:=by
 refine aH λG F=>?_;obtain⟨k,u,rfl,_,h⟩:=fE m h;cases a with
 |tup K=>exact F (item_tup e b f h)
 |U K=>exact F (AX e b rfl f h)
 |bytes K=>exact F (Oo e b f h)
 |loc P=>
  obtain⟨x,P,h⟩:=bJ h;cases x with
  |list K=>exact F (AX e b (k_ P) f h)
  |dict K=>exact F (item_dict e b P f h)
  |_=>exact h.elim
 |_=>exact h.elim
def vD(a:List b) lo hi:(a.drop (lo.elim 0 (i5 a.length))).take (hi.elim a.length (i5 a.length) - lo.elim 0 (i5 a.length))=cut a lo hi:=qC.symm
def vE(a:List b) lo hi:(cut a lo hi).length<=a.length:=by unfold cut;simp;exact yf (eY ..)
def aw.cut(r:aw Z a h b c) lo hi:aw Z a h (Mine.cut b lo hi) (Mine.cut c lo hi):=by
 unfold Mine.cut;rw[r.length];exact(r.take _).drop _
def part_of{p:Option _}(a:mR p=D o)(b:match p with |none=>v=.none |some q=>al Z ι h q v):kW v o:=by
 cases p with
 |none=>exact aE a▸b▸.none
 |some q=>cases q with
  |int i=>exact aE a▸b.toInt.elim λt e=>e▸.int ..
  |_=>exact z3 a
def Oq{a b:Option Int}{Q:Int×Int×Nat->ao->Prop}(f:s.heap.IsSliceOf g d e .none)(j:kW d a)(k:kW e b)
  (h:Q ((a.elim 0 (i5 n):Nat),1,b.elim n (i5 n) - a.elim 0 (i5 n)) s):
  af (model c w) A (abN (.ref g) (pure n)) Q E s:=by
 refine bi (id f) λF K=>?_;haveI F:∀{v:ay} {o:Option Int} {Q:Option Int->ao->Prop},kW v o->Q o s->af (model c w) A (abO v) Q E s:=λP h=>by
  cases P with
  |none=>exact slicePart_none h
  |int i t=>exact slicePart_int h
 haveI P:ZV a b 1 n=(((a.elim 0 (i5 n):Nat):Int),((b.elim n (i5 n):Nat):Int)):=by
  unfold ZV;haveI S:¬((1:Int) <0):=by decide
  simp only[S,if_false];have W:∀v:Int,(if v<0 then max _ 0 else min v n)=((i5 n v:Nat):Int):=λv=>by
   rw[clipAt_cast]
   split <;> (first |exact HI zA |exact HJ zA)
  cases a <;> cases b <;> simp only[Option.elim,W] <;> rfl
 haveI W:∀a b:Nat,Gu (a:Int) (b:Int) 1=b - a:=λa b=>by
  unfold Gu;haveI S:(1:Int) > 0:=by decide
  simp only[S,if_true,yd]
  split <;> (first |exact HL |exact HM zA)
 refine ac (ac (eg K.1 K.2.2 (x:=d) rfl (ac (eg K.1 K.2.2 (x:=e) rfl (ac (eg K.1 K.2.2 (x:=.none) rfl (ax ?_)))))));refine ac (slicePart_none ?_);refine ac (F j (ac (F k (ac (ax ?_)))));rw[P];show af _ _ (pure (_,(1:Int),Gu _ _ 1)) _ _ s;rw[W];exact ax h
def Ot{f g:Option _}(i:IsTup s.heap t c.toArray)(e:s.heap.IsSliceOf j l m .none)(n:kW l f)(o:kW m g)
  (h:∀a d,(A3 (d=s.heap) (a=t) (cut c f g=c)\/a=s.heap.objs.size/\d=s.heap.push {cls:=.type "tuple",data:=.seq (cut c f g).toArray})->Q (.ref a) {s with heap:=d})
  (b:c.length<=gp):af (model k w) A (getItem (.ref t) (.ref j)) Q E s:=by
 haveI F:sizeOk (.seq (cut c f g).toArray):=ak (vE ..) b;refine bi (id e) λS P=>?_;haveI K:s.TypeIs (.ref j) "slice":=⟨S,P.1,P.2.1⟩;unfold getItem
 try with_reducible refine cJ ?_
 refine ac (ZW i.typeIs rfl ?_);refine ac (qD i.typeIs yv
  (gP yv i.typeIs entry_tuple_getitem ?_ (args_tuple_getitem ..)))
 show af _ _ (abP _ >>=_) _ _ s;refine ac (tupleItemsOf_ i ?_);refine ac (us K ?_);refine ac (Oq e n o ?_);haveI K:=vD c f g;generalize W:f.elim 0 (i5 c.length)=a at K;generalize P:g.elim c.length (i5 c.length)=b at K;by_cases P:((a:Int)==0 && (1:Int)==1 && (b - a)==c.length)=J
 .show af _ _ (if((a:Int)==0 && 1==1 && (b - a)==c.length)=J then _ else _) _ _ s;rw[iP P];simp only[de,bE]at P;haveI S:=P.1.1;have:=HO S;clear W S;subst this;haveI e:cut c f g=c:=by rw[<- K,P.2];simp
  have d:=h _ _ (.inl ⟨rfl,rfl,e⟩);refine ac (ac (us i.typeIs (ax ?_)));refine ac (hX ?_)
  first
   |exact ax ⟨_,rfl,ax d⟩
   |exact ac (ax (ax ⟨_,rfl,ax d⟩))
 .show af _ _ (if((a:Int)==0 && 1==1 && (b - a)==c.length)=J then _ else _) _ _ s;rw[iN P];have e:((List.range (b - a)).filterMap λ(k:Nat)=>c.toArray[(a+(k:Int)*1).toNat]?).toArray=(cut c f g).toArray:=by
   haveI P:(λ(k:Nat)=>c.toArray[(a+(k:Int)*1).toNat]?)=λk=>c.toArray[a+k]?:=by
    funext k
    have:(a+(k:Int)*1).toNat=a+k:=(c_ ..).symm;exact cA _ this
   rw[P];have:=pick_run c.toArray a (b - a);rw[ZX]at this;rw[this,<- K]
  rw[e];have d:=h _ _ (.inr ⟨rfl,rfl⟩)
  first
   |exact ac (fO (ax ⟨_,rfl,ax d⟩) F)
   |exact ac (fO (ac (ax (ax ⟨_,rfl,ax d⟩))) F)
   |exact ac (ac (fO (ax (ax ⟨_,rfl,ax d⟩)) F))
   |exact ac (ac (fO (ax ⟨_,rfl,ax d⟩) F))
def IsSliceOf.AY(h:Heap) l u a:(h.push {cls:=.type "slice",data:=.fields #[l,u,a]}).IsSliceOf h.objs.size l u a:=Heap.IsSliceOf.new ..
def AZ{a:aG}(m:FC.Ok B i)(c:ah e w f B i g d s)(n:∀b j,s.heap.get? b=D j->k.get? b=D j)(p:s.heap.get? a=I)
  (o:k.get? a=D {cls:=.type "tuple",data:=.seq q.toArray})(r:aw g.Z g.ι s.heap l q)(u:l.length<=aI) t(h:ae e w f B i VR g s (D (.ok (.tup l),d)) Q E):Q (.ref a) {s with heap:=k,toks:=t}:=by
 haveI F:=c.new (t:=t) m n;exact h.ok F.1 F.2 (al.el ⟨_,o,rfl,0,rfl⟩ (λq=>by obtain⟨o,e⟩:=(c.4 _ q).2;rw[p]at e;exact Mine.z3 e) (aw.mono (F.1.mono c.2) _ _ r) u)
def A0{a:aG}(p:FC.Ok B k)(c:ah f w i B k g d s)(r:∀b l,s.heap.get? b=D l->m.get? b=D l)(u:s.heap.get? a=I)
  (j:∃n,m.get? a=D (listOf v.toArray n))(x:aw g.Z g.ι s.heap y v) t(h:ae f w i B k VR g s (bV V y d) Q E):Q (.ref a) {s with heap:=m,toks:=t}:=by
 refine bi j λn j=>?_;haveI F:=c.new (t:=t) p r;unfold bV at h
 split at h
 .rename_i K;exact h.ok F.1 F.2 (al.oS ⟨_,j,rfl,n,rfl⟩ (λq=>by obtain⟨o,e⟩:=(c.4 _ q).2;rw[u]at e;exact Mine.z3 e) (aw.mono (F.1.mono c.2) _ _ x) K)
 .exact h.elim
def Ou{e f:Option Int}(l:FC.Ok B n)(c:ah d w j B n g i s)(k:al g.Z g.ι s.heap a t)(p:kW b e)(r:kW o f)
  (h:ae d w j B n VR g s (slice V a e f i) Q E):kV (model d w) A E t (.ref s.heap.objs.size) Q {s with heap:=s.heap.push {cls:=.type "slice",data:=.fields #[b,o,.none]}}:=by
 have m:=IsSliceOf.AY s.heap b o .none;generalize F:({cls:=.type "slice",data:=.fields #[b,o,.none]}:Obj)=K at m |-
 have S:∀b F,s.heap.get? b=D F->(s.heap.push K).get? b=D F:=λb F q=>bA _ q;have u:s.heap.get? (s.heap.push K).objs.size=I:=by
  cases q:s.heap.get? (s.heap.push K).objs.size with
  |none=>rfl
  |some o=>have:=ca q;rw[kX]at this;exact aB this (ar.mpr (fy _))
 have W:∀P b F,s.heap.get? b=D F->((s.heap.push K).push P).get? b=D F:=λP b F q=>bA _ (S b F q);have P:ae d w j B n VR g s (em a (λZ=>bV V (cut Z e f)) i) Q E->kV (model d w) A E t (.ref s.heap.objs.size) Q {s with heap:=s.heap.push K}:=λh=>by
  obtain⟨Z,i,K,rfl,d,X,g,h⟩:=lr c k h;have F:=Heap.IsList.at d (S _);refine⟨_,_,Gs.lookup,F.typeIs,ZY F m p r .none zS (A0 l c (W _) u ⟨0,?_⟩ (X.cut e f) s.toks h) (by rw[cS,X.length];exact eK g)⟩;rw[slicePick_plain,cS,vD K e f];exact cI _ rfl
 cases a with
 |tup Z=>
  clear P;obtain⟨i,K,K⟩:=k.dr;obtain rfl:=K.1;have d:=K.2;have F:=d.keeps S;refine⟨_,_,yv.lookup,F.typeIs,Ot F m p r (λa X a=>?_) (by exact K.4.length▸eK K.5)⟩;have X:(cut Z e f).length<=aI:=ak (vE ..) K.5;clear d k;rcases a with⟨rfl,rfl,a⟩ |⟨rfl,rfl⟩
  .have d:=c.new (t:=s.toks) l S;have Z:=aw.mono (d.1.mono c.2) _ _ (K.4.cut e f);rw[a]at Z;exact h.ok d.1 d.2 (al.el F K.3 Z X)
  .exact AZ l c (W _) u (cI _ rfl) (K.4.cut e f) X s.toks h
 |bytes b=>
  have g:=k.oR;clear P;obtain⟨t,rfl⟩:=k.toBytes;have F:KBy.picked b.toArray e f=(cut b e f).toArray:=by
   rw[KBc.picked_eq];rw[(vD b e f)]
  have K:=vE b e f;refine⟨_,_,yw.lookup,dE ..,getItem_meets (dE ..) (rfl) yw ZT (ZU ..) (KBc.meets_slice2 b.toArray t _ p r)
   ⟨m,?_,λX k=>?_⟩⟩
  .rw[F,cS];exact ak K (eK g)
  .have W:=c.new (t:=k) l S;refine h.ok W.1 W.2 ?_;exact F▸And.intro ⟨X,rfl⟩ (ak K g)
 |_=>exact P h
def Ov{a b:Type} f(g:a->b)(l:List _):(∀x∈l,f x=D (g x))->l.filterMap f=l.map g:=by
 induction l with
 |nil=>exactλF=>rfl
 |cons x r F=>exactλh=>(ZZ (h x (.head _))).trans (cA _ (F λy F=>h y (.tail _ F)))
def Ow(a:List _):slicePick a.toArray I I (D (-1))=a.reverse.toArray:=by
 unfold slicePick sliceBounds sliceRange;simp only[Z0,show¬((-1) > 0)by decide,if_false,cS]
 congr 1
 haveI F:(if(a.length:Int) - 1 > -1 then((a.length:Int) - 1 - -1 - -1 - 1) / (- -1)else 0)=a.length:=by
  rw[show(- -1)=1 by decide,yd]
  split <;> (first |exact HP |exact zb zA)
 rw[F,e0];refine uo λi=>?_;haveI K:(List.map (λ(k:Nat)=>(a.length - 1+ -1*(k:Int)).toNat) _).filterMap (a.toArray[·]?)=(List.range _).map λk=>a.getD _ .none:=by
  rw[ZX];refine Ov _ _ _ λk P=>?_;have F:=qt.mp P;haveI e:(a.length - 1+ -1*(k:Int)).toNat=a.length - 1 - k:=HQ;rw[Function.comp_apply,e,jE];rw[bI (aT (b_ ..) (qp F)),h0,bI (aT (b_ ..) (qp F))];rfl
 rw[K,dG];by_cases F:i<a.length
 .rw[yx F,List.getElem?_reverse F];simp only[yy];rw[h0,bI (aT (b_ ..) (qp F))];rfl
 .rw[kS (by simp;exact ar.mp F),kS (by simp;exact ar.mp F)];rfl
def Ox(i:FC.Ok B f)(c:ah b w e B f g d s)(j:al g.Z g.ι s.heap a k)
  (h:ae b w e B f VR g s (reversed a d) Q E):kV (model b w) A E k (.ref s.heap.objs.size) Q {s with heap:=s.heap.push {cls:=.type "slice",data:=.fields #[.none,.none,.int (-1) t]}}:=by
 haveI S:=IsSliceOf.AY s.heap .none .none (.int (-1) t);generalize F:({cls:=.type _,data:=.fields _}:Obj)=K at S |-
 have W:∀b F,s.heap.get? b=D _->(s.heap.push K).get? b=D F:=λb F q=>bA _ q;haveI X:s.heap.get? _=I:=by
  cases q:s.heap.get? (s.heap.push K).objs.size with
  |none=>rfl
  |some o=>have:=ca q;rw[kX]at this;exact aB this (ar.mpr (fy _))
 haveI P:∀K b F,s.heap.get? b=D _->((s.heap.push _).push K).get? b=D _:=λK b F q=>bA _ (W b F q);obtain⟨F,F,F,F⟩:=lr c j h;rw[F.1];haveI K:=Heap.IsList.at F.2 (W _);refine⟨_,_,Gs.lookup,K.typeIs,ZY K S .none .none (.int _ t) zS (A0 i c (P _) X ⟨0,?_⟩ F.3.reverse _ F.5) (by rw[cS,F.3.length];exact eK F.4)⟩;rw[Ow];exact cI _ rfl
def ah.updF(y:FC.Ok B f)(a:ah e w q B f g c s)(A:c.objs[n]?=D o)(r:g.ι[n]?=D v)(E:isDead o=V)(j:u=v.a\/u=v.d)
   (G:∀i x k p,f.cx.slots[i]?=D (x,k)->c.loc[i]?=D p->Seen f i x k->gz g.Z g.ι s.heap f.env m x k p)(F:Fr B f.env.locals h m)
  (l:∀b d,s.heap.get? b=D d->b≠u->b≠f.env.locals->h.get? b=D d)(H:im e w q g.Z g.ι h o' v)(C:∃d,h.get? u=D d/\∀z,d.data≠.fields z):
  aP f g s g {s with heap:=h,toks:=t}/\ah e w q B f g {c with objs:=c.objs.set n o'} {s with heap:=h,toks:=t}:=by
 obtain⟨K,L,N,O,Q,T,d2,p1,p2⟩:=a.8 n o v A r E;have t:u∈g.Y:=by rcases j with rfl |rfl <;> assumption
 have P:u∉f.own:=by rcases j with rfl |rfl <;> assumption
 have Z:u∉f.fr:=by rcases j with rfl |rfl <;> assumption
 have B:∃d,h.get? f.env.locals=D d/\∀z,d.data≠.fields z:=by refine bi F.ns λd K=>?_;obtain⟨S,S⟩:=K;obtain⟨K,K⟩:=S;exact⟨d,K.1,λz z=>by replace z:=K.2.1▸z;cases z⟩
 have W:∀b o,s.heap.get? b=D o->∃o',h.get? b=D o':=λb o q=>by
  by_cases K:b=u
  .obtain⟨d,S⟩:=C;exact⟨d,K▸S.1⟩
  .by_cases S:b=f.env.locals
   .obtain⟨d,X⟩:=B;exact⟨d,S▸X.1⟩
   .exact⟨o,l b o q K S⟩
 have X:∀b d,s.heap.get? b=D d->b∉g.Y->h.get? b=D d:=λb d q z=>l b d q (λe=>z (e▸t)) λe=>z (e▸(a.5 _ y.6));have M:cL g.Z g.ι s.heap g.Z g.ι h:=⟨λS h=>.inl h,λS S h=>h,λb d q z=>X b d q λe=>z (a.2 _ e)⟩;refine⟨⟨λS h=>.inl h,λS S h=>h,rfl,λS h=>.inl h,X,W,λb K d q=>⟨d.slots,l b d q (λe=>Z (e▸K)) λe=>y.7 _ y.6 (e▸K)⟩,oP ..⟩,?_⟩;refine⟨F.keep,a.2,a.3,λb K=>⟨(a.4 b K).1,((a.4 b K).2).elim λS q=>W _ _ q⟩,a.5,a.6,by rw[dD];exact a.7,?_,?_,⟨a.10.1,?_⟩,?_⟩
 .intro w S K W g h;by_cases e:w=n
  .clear A;subst e;replace g:=r▸g;rw[<- aE g];replace W:=(gn (a.7▸((cQ.mp r).1)))▸W;exact(aE W)▸⟨H,L,N,O,Q,T,d2,p1,p2⟩
  .replace W:=(bm (Ne.symm e))▸W;have X:=a.8 w S K W g h;have s:=a.9 w n S o K v W A g r h E e;refine⟨X.1.mono M (λd q=>l _ _ q (λe=>?_) λe=>X.2.3 (e▸y.6)) (λd q=>l _ _ q (λe=>?_) λe=>X.2.5 (e▸y.6)),X.2.1,X.2.2,X.2.3,X.2.4,X.2.5,X.2.6,X.2.7,X.2.8⟩
   .clear l C t P Z;rcases j with rfl |rfl
    .exact s.1 e
    .exact s.2 e
   .clear l C t P Z;rcases j with rfl |rfl
    .exact s.3 e
    .exact s.4 e
 .have X:∀(k:Nat) s,(c.objs.set n o')[k]?=D s->isDead s=V->∃j,c.objs[k]?=D j/\isDead j=V:=λk s j t=>by
   by_cases e:k=n
   .clear r j;subst e;exact⟨o,A,E⟩
   .rw[bm (Ne.symm e)]at j;exact⟨s,j,t⟩
  intro c n S S K S W g h s r v w;obtain⟨A,o⟩:=X _ _ W r;obtain⟨E,r⟩:=X _ _ g v;exact a.9 c n A E K S o.1 r.1 h s o.2 r.2 w
 .refine⟨m,F.ns,λi x k p W g h=>(G i x k p W g h).mono M λc v q r=>?_⟩;refine bi r λd F=>?_;refine⟨d,l _ d F.1 (λe=>?_) (y.10 _ (mem_of_lookup q)),F.2⟩;rcases y.11 _ (mem_of_lookup q)with z |z
  .exact P (e▸z)
  .exact Z (e▸z)
 .refine jZ (λb d j t=>?_) a.11;by_cases e:b=u
  .exact e▸C
  .by_cases F:b=f.env.locals
   .exact F▸B
   .exact⟨d,l b d j e F,t⟩
def ah.oX(j:FC.Ok B f)(a:ah c w d B f g b s)(k:b.objs[n]?=D o)(l:g.ι[n]?=D h)(m:isDead o=V)(p:h8 h.a s.heap e)
  (r:im c w d g.Z g.ι e o' h)(u:∃i,e.get? h.a=D i/\∀q,i.data≠.fields q):
  aP f g s g {s with heap:=e,toks:=t}/\ah c w d B f g {b with objs:=b.objs.set n o'} {s with heap:=e,toks:=t}:=
 a.upd j k l m (.inl rfl) (λb i q F=>(p.2 b F).trans q) r u
def ah.oY(a:ah c w d B l g b s){n:Nat}(f:b.objs[n]?=D o)(i:g.ι[n]?=D e)(j:isDead o=V)(k:h8 e.a s.heap h):cL g.Z g.ι s.heap g.Z g.ι h:=
 ⟨λF h=>.inl h,λF F h=>h,λb F q z=>(k.2 b λe=>z (e▸a.2 _ (a.8 n o _ f i j).2.1)).trans q⟩
def Oy A1 n j v:∃F,i6 (·.setIfInBounds j v) {cls:=.type "list",data:=.seq A1 n}={cls:=.type "list",data:=.seq (A1.setIfInBounds j v) F}:=by
 simp[i6]
def Oz{k:Int}(c:s.heap.PlainList l a)
  (e:0<=k)(b:k<2^63)(h:k<a.size)
  (f:∀d,d.PlainList l (a.setIfInBounds k.toNat v)->h8 l s.heap d->Q () {s with heap:=d}):
  af (model g w) A (qE (.ref l) (.int k t) v) Q E s:=by
 refine bi c λn K=>?_;haveI c:s.heap.IsList l a:=⟨_,K,rfl,n,rfl⟩;unfold qE
 try with_reducible refine cJ ?_
 refine ac (ZW c.typeIs zD ?_);refine ac (qD c.typeIs Z1
  (gP Z1 c.typeIs entry_list_setitem ?_ (args_list_setitem _ _ _)))
 show af _ _ (abQ _ >>=_) _ _ s;refine ac (wpAny_listSubscript_int (fitsIndex_of e b) ?_);clear b;obtain⟨j,rfl⟩:=qw e;have S:=HR h;refine bi (Oy a n j v) λW P=>?_;haveI F:(s.heap.update l (i6 _)).PlainList l _:=
  ⟨W,by rw[hZ _ K (by rfl),P]⟩
 refine ac (ac (wpAny_seqItemAt K rfl (ax ?_)));rw[(Gv S)];refine ac (wpAny_setSeqItemAt K rfl ?_)
 first
  |exact ac (ax (ax ⟨.none,rfl,ax (f _ F (kY ..))⟩))
  |exact ax ⟨.none,rfl,ax (f _ F (kY ..))⟩
def A2{i j e:Type}[DecidableEq e]{R:i->j->Prop}{f:i->e}{g:j->e}(l:∀a b,R a b->f a=g b) k{c:List _}{d:List _}(h:bC R c d):c.any (λe=>f e=k)=d.any (λe=>g e=k):=
 h.ind (M:=λc d=>c.any (λe=>f e=k)=d.any (λe=>g e=k)) rfl λx y c d h F F=>show(decide _ ||c.any _)=(decide _ ||d.any _)from l x y h▸F▸rfl
def bC.map(e:∀a b,j a b->g (f a) (i b))(h:bC j c d):bC g (c.map f) (d.map i):=
 h.ind (M:=λc d=>bC _ (c.map f) (d.map _)) rfl λx y c d h F F=>⟨_,_,rfl,e _ _ h,F⟩
def bC.snoc(h:d a b):∀{F:List _},bC d c F->bC d (c++ [a]) (F++ [b]):=by
 induction c with
 |nil=>exactλ{F} e=>by cases e;exact⟨b,[],rfl,h,rfl⟩
 |cons x r F=>exactλe=>e.elim λy K e=>e.1▸⟨y,_,rfl,e.2,F e.3⟩
def A_(r:bC (oK Z b h) a d)(c:al Z b h p v):bC (oK Z b h) (c5 a k p) (stored d k v):=by
 delta c5 stored;rw[A2 (λF F h=>h.1) k r]at |-
 split
 .refine r.map λa b q=>?_;have:=q.1;by_cases F:a.1=k
  .rw[iP F,iP (this▸F)];exact⟨q.1,c⟩
  .rw[iN F,iN (λz=>F (this.trans z))]at |-;exact q
 .exact r.snoc ⟨rfl,c⟩
def OA k:bC (oL Z c h) a b->
  match bR a k with
  |none=>atKey b k=I
  |some p=>∃e,atKey b k=D e/\al Z c h p e.2:=
 find_2 (M:=λa (b:Option (List _×aG×ay))=>match a.map _ with |none=>b.map _=I |some p=>∃e,b.map (·.2)=D e/\al Z _ h p e.2) (λa b h=>cA (λz=>decide (z=k)) h.1) rfl λa b h=>⟨_,rfl,h.3⟩
def OB(r:bC (oL Z c h) b e)(f:a∉Z)(d:al Z c h p v):
  bC (oL Z c h) (c5 b k p) (storedH e k a v):=by
 delta c5 storedH;haveI e:(b.any λe=>e.1=k)=(atKey _ k).isSome:=by
  rw[A2 (λF F h=>h.1) k r]at |-
  rw[Option.isSome_map,qy,Z2,yz]
 rw[e]
 split
 .refine r.map λa b q=>?_;have:=q.1;unfold putAt;by_cases F:a.1=k
  .rw[iP F,iP (this▸F)];exact⟨q.1,q.2,d⟩
  .rw[iN F,iN (λz=>F (this.trans z))];exact q
 .exact r.snoc ⟨rfl,f,d⟩
def A'{a:List _}:∀{F:List _},aw Z c h (a.map .int) F->ItemsAre (eB b w) a F:=by
 induction a with
 |nil=>exactλ{F} q=>q▸.nil
 |cons n r F=>exactλq=>q.elim λv K y=>y.1▸y.2.elim λt e=>e▸.cons (vz n t) (F y.3)
def vH{K:Type}[DecidableEq K] cp(k:K) v:(c5 cp k v).length<=cp.length+1:=by
 unfold c5
 split <;> simp
def OC(o:FC.Ok B j)(a:ah c w d B j g b s)(e:g.ι[l]?=D p)(f:b.objs[l]?=D (.list m))(n:al g.Z g.ι s.heap i q)(r:al g.Z g.ι s.heap v u)
  (h:ae c w d B j UR g s (cZ i (λk=>if 0<=k/\k<m.length then ib l (.list (m.set k.toNat v))else aC) b) Q E):af (model c w) A (qE (.ref p.a) q u) Q E s:=by
 obtain⟨k,u,rfl,_,h⟩:=fE n h;obtain⟨F,h⟩:=bG h;have K:=(a.8 _ _ _ f e rfl).1;obtain⟨X,P⟩:=K.3;clear n;obtain⟨j,rfl⟩:=qw F.1;refine(Oz P.1 (da j) (qn F.2 (mj.mpr (a1 K.2 rfl))) (by rw[cS,P.2.length];exact F.2) λF F S=>?_);haveI M:=a.oY f e rfl S;rw[List.setIfInBounds_toArray]at F;haveI W:=a.oX (t:=s.toks) (o':=.list _) o f e rfl S ⟨K.1,by rw[dD];exact K.2,X.set j _,F,(aw.mono M _ _ P.2).set j (r.mono M)⟩
  (by obtain⟨K,q⟩:=F;exact⟨_,q,nofun⟩)
 exact h.ok W.1 W.2 trivial
def OD(n:FC.Ok B l)(a:ah c w e B l g b s)(f:g.ι[m]?=D o)(j:b.objs[m]?=D (.dict d))(p:al g.Z g.ι s.heap i q)(r:al g.Z g.ι s.heap v u)
  (h:ae c w e B l UR g s (cZ i (λk=>if d.length<aI then ib m (.dict (c5 d k v))else aC) b) Q E):af (model c w) A (qE (.ref o.a) q u) Q E s:=by
 refine(fE p h).elim λk u F=>?_;rw[F.1];haveI S:=bG F.3;have K:=(a.8 _ _ _ j f rfl).1;refine K.4.elim λF P=>?_;refine(wpAny_setItem_pairs (vz k u) P.1 (λF F W=>?_) (by rw[P.2.length];exact eK K.2));have M:=a.oY j f rfl W;haveI X:=a.oX (t:=s.toks+1) (o':=.dict _) n j f rfl W ⟨K.1,ak (vH ..) S.1,K.3,_,F,A_ (P.2.mono λK K q=>⟨q.1,q.2.mono M⟩) (r.mono M)⟩
  (by obtain⟨K,P⟩:=F;obtain⟨F,W⟩:=P;obtain⟨F,F⟩:=W;exact⟨K,F.1,λK z=>by replace z:=F.2.2.1▸z;cases z⟩)
 exact S.2.ok X.1 X.2 trivial
def OE(q:aJ A e n)(r:FC.Ok B e)(a:ah b w f B e g c s)(j:g.ι[m]?=D u)(k:c.objs[m]?=D (.ck d))(o:al g.Z g.ι s.heap i x)(y:al g.Z g.ι s.heap v z)
  (h:ae b w f B e UR g s (jO i (λp=>a_ (intsOf p) λl=>if d.length<aI then ib m (.ck (c5 d l v))else aC) c) Q E):af (model b w) A (qE (.ref u.a) x z) Q E s:=by
 refine aH λG X=>?_;obtain⟨p,rfl,K⟩:=vl h;obtain⟨l,F,P⟩:=bJ K;haveI W:=bG P;clear K h;cases mX F;obtain⟨F,c,K⟩:=o.dr;clear o;obtain rfl:=K.1;obtain⟨Z,F⟩:=K.2;obtain⟨d,e⟩:=F.2.2;have P:=(a.8 _ _ _ k j rfl).1;obtain⟨S,S⟩:=P.4;refine X (wpAny_setItem_heap (knd:=ul _) (show A.units+1<fw by exact zc (q.4)) ⟨Z,_,d,F.1,F.2.1,e,A' K.4⟩ S.1 (λF F X=>?_) (by rw[S.2.length];exact eK P.2));have M:=a.oY k j rfl X;haveI Z:=a.oX (t:=s.toks+(ul (eB b w)).draws l) (o':=.ck _) r k j rfl X
  ⟨P.1,ak (vH ..) W.1,P.3,_,F,OB (S.2.mono λP P q=>⟨q.1,q.2,q.3.mono M⟩) K.3 (y.mono M)⟩
  (by obtain⟨K,P⟩:=F;obtain⟨F,S⟩:=P;obtain⟨F,F⟩:=S;exact⟨K,F.1,λc z=>by replace z:=F.2.2.1▸z;cases z⟩)
 exact W.2.ok Z.1 Z.2 trivial
def OF(l:aJ A d n)(e:FC.Ok B d)(a:ah b w f B d g c s)(m:al g.Z g.ι s.heap o p)(j:al g.Z g.ι s.heap i q)(k:al g.Z g.ι s.heap v r)
  (h:ae b w f B d UR g s (Mine.setItem o i v c) Q E):af (model b w) A (qE p q r) Q E s:=by
 refine aH λG F=>?_;obtain⟨K,K,K,rfl,rfl,h⟩:=jk m h;obtain⟨x,P,h⟩:=bJ h;cases x with
 |list S=>exact F (OC e a K P j k h)
 |dict S=>exact F (OD e a K P j k h)
 |ck S=>exact F (OE l e a K P j k h)
 |_=>exact h.elim
inductive Ba(K:bg)(B:Heap)(c:Str)(C:aG):Prop |mk
 (F:hasDictIn K C=J)
 (F:plainGet K C ""=J)
 (F:findIn K (.ref C) "__setattr__"=D (D (.builtin "object.__setattr__")))
 (F:plainOver K C=J)
 (F:∀x,jR x=J->findIn K (.ref C) x=D I)
 (F:∀m i,ig c m=D i->E2 λf F=>A5 (findIn K (.ref C) m=D (D (.ref f))) (isFn K (.ref f)=J) (keepIn K (.ref f)=J) (fnAt i=D F) (FnAt B f F))
 (F:makesIn K C=J)
def oZ(K:bg)(B:Heap):Prop:=∀c C,eF c=J->fY K c=D C->Ba K B c C
def al.handed(r:al Z a h p v):handedIn v=J:=by
 cases p with
 |none=>rw[r.jj];rfl
 |bool b=>rw[r.toBool];rfl
 |int i=>obtain⟨t,rfl⟩:=r.toInt;rfl
 |str x=>obtain⟨t,rfl⟩:=r.toStr;rfl
 |bytes b=>obtain⟨t,rfl⟩:=r.toBytes;rfl
 |tup F=>obtain⟨_,_,rfl,_⟩:=r.dr;rfl
 |U F=>obtain⟨_,_,rfl,_⟩:=r.mV;rfl
 |loc n=>obtain⟨_,_,rfl⟩:=r.ir;rfl
def vI(r:bC (oM w Z a h) d c):
  match d.lookup x with
  |none=>qF x c=D I
  |some p=>∃v,qF x c=D (D v)/\al Z a h p v:=by
 refine r.ind (M:=λd c=>match d.lookup x with
  |none=>qF x c=D _
  |some p=>∃v,qF x c=D (D v)/\al Z _ h p v) rfl λa b d c h F F=>?_
 unfold qF at F |-
 rw[i7,Z3,show b.key.isStr x=(x==a.1)from h.1.elim λt e=>by rw[e];exact ZL,show b.refKey=V from h.1.elim λt e=>by unfold DictEntry.refKey;rw[e]];show match (match x==a.1 with |true=>D _ |false=>d.lookup x)with |none=>_ |some p=>_
 cases x==a.1 with
 |true=>exact⟨_,rfl,h.3⟩
 |false=>exact F
def OG(r:bC (oM w Z c h) a b):(qF x b).isSome=J:=by
 haveI z:=vI (x:=x) r;revert z;cases a.lookup x with
 |none=>exactλz=>z▸rfl
 |some p=>exactλz=>z.elim λv y=>y.1▸rfl
def Bb{Q:c->ao->Prop}(h:ae b w d B i e g s (ia n (λy=>uW y f) a) Q E):E2 λc F=>a.objs[n]?=D (.inst c F)/\ae b w d B i e g s (f c F a) Q E:=by
 refine aH λG K=>?_;obtain⟨x,e,h⟩:=bJ h;cases x with
 |inst c F=>exact K ⟨c,F,e,h⟩
 |_=>exact h.elim
def OH(j:c.In B)(k:oZ c B)(e:FC.Ok B f)(a:ah b w c B f g d s)(l:al g.Z g.ι s.heap o m)
  (h:ae b w c B f VR g s (jS o x d) Q E):af (model b w) A (getAttr m x i) Q E s:=by
 refine aH λG X=>?_;obtain⟨F,F,F,rfl,_,h⟩:=jk l h;obtain⟨c,K,P,h⟩:=Bb h;obtain⟨S,h⟩:=bG h;obtain⟨p,W⟩:=bJ h;obtain⟨C,K,n,K⟩:=(a.8 _ _ _ P F rfl).1;haveI F:=k c C S.1 K.1;haveI z:=vI (x:=x) K.5;rw[W.1]at z;obtain⟨v,P⟩:=z;obtain⟨m,Z⟩:=a.fr e;exact X (get_own Z.1 j ⟨K.2,rfl,rfl,K.3⟩ F.2 F.1 (F.5 x S.2) rfl P.1 P.2.handed (W.2.iq e a P.2))
def rJ(B:Heap)(L d:aG)(h:Heap):List (aG×Obj):=(jX B L h).filter λp=>p.1 !=d
def news_but L d h:News B L h (rJ B L d h):=λp F=>ip L h p (dj.mp F).1
def rK(a:p∈rJ B L d h):p.1≠d:=by simpa using (dj.mp a).2
def OI(f:al Z a h p v)(r:bC (oM w Z a h) c d):
  bC (oM w Z a h) (oo c x p) (putL x (Zr w.params x) (.str x t) v d):=
 r.ind (M:=λc d=>bC _ (oo c x p) (putL x _ _ v d)) ⟨_,[],rfl,⟨⟨t,rfl⟩,rfl,f⟩,rfl⟩ λa b c d h q F=>by
  show bC _ (if a.1==x then _ else _) (if b.key.isStr x=J then _ else _);rw[h.1.elim λt e=>(by rw[e];rfl:b.key.isStr x=(a.1==x))];cases a.1==x with
  |true=>exact⟨_,_,rfl,⟨h.1,h.2,f⟩,q⟩
  |false=>exact⟨_,_,rfl,h,F⟩
def OJ x OK k v es:(putL x OK k v es).length<=es.length+1:=by
 induction es with
 |nil=>exact aL _
 |cons e r F=>exact iteInduction (motive:=λl:List _=>l.length<=r.length+1+1) (λK=>fy _) λK=>dA F
def OL{Q:Unit->ao->Prop}(k:c.In B)(e:oZ c B)(f:FC.Ok B i)(a:ah b w c B i g d s)(j:al g.Z g.ι s.heap o l)(r:al g.Z g.ι s.heap p v)
  (h:ae b w c B i UR g s (oq o x p d) Q E):af (model b w) A (setAttr l x v) Q E s:=by
 refine aH λG b=>?_;obtain⟨F,S,Z,rfl,_,h⟩:=jk j h;obtain⟨c,F,d,h⟩:=Bb h;obtain⟨W,h⟩:=bG h;have P:=a.8 _ _ _ d Z rfl;obtain⟨C,F,n,F⟩:=P.1;haveI K:=e c C W.1 F.1;obtain⟨m,j⟩:=a.fr f;have X:S.d≠i.env.locals:=λe=>P.2.5 (e▸f.6);haveI l:News B _ _ ((S.d,dictOf _ n)::rJ B _ S.d _):=dH.mpr ⟨⟨F.3,X,(a.4 _ (a.2 _ P.2.2)).1⟩,news_but _ _ _⟩;refine b (set_dict j.1 k l ⟨F.2,rfl,rfl,F.3⟩ rfl K.3 K.4 (by unfold takerIn;rw[K.5 x W.2.1];rfl) K.1 (OG F.5) rfl (.head λq K=>rK K)
  (ak (OJ x _ _ v _) (by rw[F.5.length];exact Mine.a1 W.2.2 rfl)) λK k l=>?_)
 have W:∀b X,s.heap.get? b=D _->b≠S.d->b≠i.env.locals->K.get? b=D X:=λb X q S i=>by
  refine Mine.oe (B.get? b) (λK=>?_) λo' K=>?_
  .exact(l _ (.tail _ (dj.mpr ⟨jY q K i,bne_iff_ne.mpr S⟩))).1
  .
   haveI S:=a.1 b _ K;replace S:=q▸S;rw[aE S];exact k.keep b _ K
 haveI K:=(l _ (.head _)).1;have M:cL _ _ _ _ g.ι _:=⟨λS h=>.inl h,λS S h=>h,λb X q z=>W b _ q (λe=>z (e▸a.2 _ P.2.2)) λe=>z (e▸a.2 _ (a.5 _ f.6))⟩;haveI X:=a.updF (t:=s.toks+2) (o':=.inst c _) f d Z rfl (.inr rfl) j.2 k W
  ⟨C,_,_,F.1,W _ _ F.2 F.4 (λe=>P.2.3 (e▸f.6)),K,F.4,OI (r.mono M) (F.5.mono λS S q=>⟨q.1,q.2,q.3.mono M⟩)⟩ ⟨_,K,nofun⟩
 exact h.ok X.1 X.2 trivial
noncomputable def Gh.drop(g:Gh)(a:aG):Gh:=⟨g.ι,g.Y.filter (· !=a),g.Z.filter (· !=a),g.P⟩
def f8{l:List _}{a b:aG}:b∈l.filter (· !=a)↔b∈l/\b≠a:=by simp
def ah.freeze(h:FC.Ok B e)(a:ah b w f B e g c s)(i:c.objs[n]?=D (.list k))(j:g.ι[n]?=D d):
  aP e g s (g.drop d.a) s/\ah b w f B e (g.drop d.a) {c with objs:=c.objs.set n .dead} s:=by
 haveI W:=a.8 n _ _ i j rfl;haveI M:cL _ _ _ (g.drop d.a).Z (g.drop d.a).ι s.heap:=⟨λb F=>.inl (f8.mp F).1,λK K h=>h,λK K q K=>q⟩;refine⟨⟨λb F=>.inl (f8.mp F).1,λK K h=>h,rfl,λb F=>.inl (f8.mp F).1,λK K q K=>q,λK o q=>⟨o,q⟩,λK K o q=>⟨o.slots,q⟩,s.heap,s.toks,rfl⟩,?_⟩;have P:∀k S,(c.objs.set n .dead)[k]?=D S->isDead S=V->c.objs[k]?=D S/\k≠n:=λk S S X=>by
  by_cases e:k=n
  .clear i;subst e;replace S:=(gn (by rw[<- a.7];exact(cQ.mp j).1))▸S;obtain rfl:=aE S;cases X
  .rw[bm (Ne.symm e)]at S;exact⟨S,e⟩
 refine⟨a.1,λb F=>f8.mpr ⟨a.2 b (f8.mp F).1,(f8.mp F).2⟩,λb F=>f8.mpr ⟨a.3 b F,λe=>W.2.7 (e▸F)⟩,λb F=>a.4 b (f8.mp F).1,λb F=>f8.mpr ⟨a.5 b F,λe=>W.2.3 (e▸F)⟩,
  λb F=>f8.mpr ⟨a.6 b F,λe=>W.2.4 (e▸F)⟩,by rw[dD];exact a.7,?_,?_,⟨a.10.1,?_⟩,a.11⟩
 .refineλk o Z X W S=>aH λG d=>?_;have b:=P k o X S;haveI F:=a.8 k o _ b.1 W S;haveI c:=a.9 k n o _ _ _ b.1 i W j S rfl b.2;exact d ⟨F.1.mono M (λK q=>q) (λK q=>q),f8.mpr ⟨F.2.1,c.1⟩,f8.mpr ⟨F.2.2,c.3⟩,F.2.3,F.2.4,F.2.5,F.2.6,F.2.7,F.2.8⟩
 .exactλk F o F Z F X W S b F Z c=>a.9 k _ o _ _ _ (P k o X F).1 (P _ _ W Z).1 S b F Z c
 .obtain⟨m,F⟩:=a.10.2;exact⟨m,F.1,λi x k p X W S=>(F.2 i x k p X W S).mono M λK K K r=>r⟩
def vJ(f:FC.Ok B e)(a:ah c w d B e g b s)(i:al g.Z g.ι s.heap p v)(h:ae c w d B e VR g s (mN p b) Q E):Q v s:=by
 cases p with
 |loc n=>
  haveI F:ae _ w d B _ _ g s (q7 n ..) Q E:=h;refine Mine.oe ((b.objs[n]?).bind k9) (λe=>?_) λK e=>?_
  .rw[e]at F;exact F.val f a i
  .
   replace F:=e▸F;obtain⟨o,P,q⟩:=b0.mp e;cases uS q;obtain⟨K,S,rfl⟩:=i.ir;have W:=(a.8 n _ _ P S rfl).1;obtain⟨K,X⟩:=W.3;haveI K:=a.freeze f P S;exact F.ok K.1 K.2 (al.oS X.1.isList (λq=>(f8.mp q).2 rfl) (aw.mono (K.1.mono a.2) _ _ X.2) W.2)
 |_=>exact h.val f a i
def OM(e:FC.Ok B d) ps:∀{Q:List _->ao->Prop} K g a,ah b w c B d g a s->aw g.Z g.ι s.heap ps K->ae b w c B d oO g s (q8 ps a) Q E->Q K s:=by
 induction ps with
 |nil=>exactλK g a F P h=>h.ok (.refl ..) F P
 |cons p r c=>
  exactλ{Q} K g a F P h=>P.elim λv K y=>y.1▸vJ e F y.2 (ae.bd (Q₁:=λv X=>s=X->Q (v::K) s) h λa b K K K e S K P W Z=>by
   subst Z;exact c _ _ _ K (aw.mono (S.mono F.2) _ _ y.3) (ae.bd (Q₁:=λF X=>s=X->Q (b::F) s) W λF F F F F F F S W X Z=>by
    subst Z;exact X.ok (.refl ..) S (aw.cons (al.mono (F.mono K.2) _ _ P) W)) rfl) rfl
def ON(f:FC.Ok B e)(c:ah b w d B e g a s)(i:al g.Z g.ι s.heap p v)(h:ae b w d B e VR g s (freeze p a) Q E):Q v s:=by
 cases p with
 |tup F=>
  obtain⟨F,K,rfl,W,Z,X,d⟩:=i.dr;haveI k:=ae.bd (rel₁:=oO) (Q₁:=λF P=>s=P->F=K->Q _ s) h (λa b F F F e S K F P=>by
   intro a b;subst a;subst b;refine P.ok (.refl ..) K (al.el W (λq=>?_) F ?_)
   .rcases S.1 _ q with q |q
    .exact Z q
    .obtain⟨o,P⟩:=W;haveI K:=P.1;rw[q]at K;exact Mine.z3 K
   .rw[<- aw.length F,X.length];exact d)
  exact OM f _ _ g _ c X k rfl rfl
 |_=>exact vJ f c i h
def Bc:Slot "bytes" "find" "bytes.find":=
 .of (owner:="bytes") (n:="find") (by kernel_rfl) zK zK zK
  (by first |exact .inl _ |exact .inr zK) (by kernel_rfl)
def OO:typeOf (.builtin "bytes.find")=pure (.type "method_descriptor"):=by kernel_rfl
def OP:entryFor table "bytes.find"=D Builtin.«bytes.find»:=Gw (by kernel_rfl)
def OQ a b:argsOk "bytes.find" ⟨[a,b],[]⟩:=by kernel_rfl
def Bd:Slot "bytes" "join" "bytes.join":=
 .of (owner:="bytes") (n:="join") (by kernel_rfl) zK zK zK
  (by first |exact .inl _ |exact .inr zK) (by kernel_rfl)
def OS:typeOf (.builtin "bytes.join")=pure (.type "method_descriptor"):=by kernel_rfl
def OT:entryFor table "bytes.join"=D Builtin.«bytes.join»:=Gw (by kernel_rfl)
def OU a b:argsOk "bytes.join" ⟨[a,b],[]⟩:=by kernel_rfl
noncomputable def ff(m:Str):String:=
 if m=="append" then "list.append" else if m=="extend" then "list.extend" else if m=="insert" then "list.insert" else if m=="bit_length" then "int.bit_length"
 else if m=="to_bytes" then "int.to_bytes" else if m=="find" then "bytes.find" else if m=="join" then "bytes.join" else if m=="get" then "dict.get" else "dict.setdefault"
def Be:ff (cy "append")="list.append":=by decide+kernel
def Bf:ff (cy "extend")="list.extend":=by decide+kernel
def Bg:ff (cy "insert")="list.insert":=by decide+kernel
def Bh:ff (cy "bit_length")="int.bit_length":=by decide+kernel
def Bj:ff (cy "to_bytes")="int.to_bytes":=by decide+kernel
def Bk:ff (cy "find")="bytes.find":=by decide+kernel
def Bl:ff (cy "join")="bytes.join":=by decide+kernel
def Bm:ff (cy "get")="dict.get":=by decide+kernel
def Bn:ff (cy "setdefault")="dict.setdefault":=by decide+kernel
def OV(b:Q (.builtin "int.bit_length",[.int i t]) s):af (model a w) A (getMethod (.int i t) "bit_length" c) Q E s:=by
 refine jF (T:="int") (id:="int.bit_length") ?_ ?_ ?_ ?_ ?_ ?_
 .exact qx ..
 .exact Z4
 .exact PySem.F.slot_int_bit_length
 .exact PySem.F.type_int_bit_length
 .exactλa e=>nomatch e
 .exact b
def OW(b:Q (.builtin "int.to_bytes",[.int i t]) s):af (model a w) A (getMethod (.int i t) "to_bytes" c) Q E s:=by
 refine jF (T:="int") (id:="int.to_bytes") ?_ ?_ ?_ ?_ ?_ ?_
 .exact qx ..
 .exact Z4
 .exact PySem.F.slot_int_to_bytes
 .exact PySem.F.type_int_to_bytes
 .exactλa e=>nomatch e
 .exact b
def OX(c:Q (.builtin "bytes.find",[.bytes b t]) s):af (model a w) A (getMethod (.bytes b t) "find" d) Q E s:=by
 refine jF (T:="bytes") (id:="bytes.find") ?_ ?_ ?_ ?_ ?_ ?_
 .exact dE ..
 .exact Z5
 .exact Bc
 .exact OO
 .exactλa e=>nomatch e
 .exact c
def OY(c:Q (.builtin "bytes.join",[.bytes b t]) s):af (model a w) A (getMethod (.bytes b t) "join" d) Q E s:=by
 refine jF (T:="bytes") (id:="bytes.join") ?_ ?_ ?_ ?_ ?_ ?_
 .exact dE ..
 .exact Z5
 .exact Bd
 .exact OS
 .exactλa e=>nomatch e
 .exact c
def OZ(c:s.heap.PlainList a b)(f:Q (.builtin "list.append",[.ref a]) s):af (model d w) A (getMethod (.ref a) "append" e) Q E s:=by
 refine jF (T:="list") (id:="list.append") ?_ ?_ ?_ ?_ ?_ ?_
 .exact c.isList.typeIs
 .exact Gx
 .exact PySem.F.slot_list_append
 .exact PySem.F.type_list_append
 .intro b e;cases e;exact c.elim λk q=>⟨_,q,rfl⟩
 .exact f
def O0(c:s.heap.PlainList a b)(f:Q (.builtin "list.extend",[.ref a]) s):af (model d w) A (getMethod (.ref a) "extend" e) Q E s:=by
 refine jF (T:="list") (id:="list.extend") ?_ ?_ ?_ ?_ ?_ ?_
 .exact c.isList.typeIs
 .exact Gx
 .exact Z6
 .exact PySem.F.type_list_extend
 .intro b e;cases e;exact c.elim λk q=>⟨_,q,rfl⟩
 .exact f
def O1(c:s.heap.PlainList a b)(f:Q (.builtin "list.insert",[.ref a]) s):af (model d w) A (getMethod (.ref a) "insert" e) Q E s:=by
 refine jF (T:="list") (id:="list.insert") ?_ ?_ ?_ ?_ ?_ ?_
 .exact c.isList.typeIs
 .exact Gx
 .exact Z7
 .exact PySem.F.type_list_insert
 .intro b e;cases e;exact c.elim λk q=>⟨_,q,rfl⟩
 .exact f
def O2(c:s.heap.get? a=D o)(d:o.ExactDict)(f:Q (.builtin "dict.get",[.ref a]) s):af (model b w) A (getMethod (.ref a) "get" e) Q E s:=by
 refine jF (T:="dict") (id:="dict.get") ?_ ?_ ?_ ?_ ?_ ?_
 .exact⟨o,c,d.1⟩
 .exact Gy
 .exact Gz
 .exact PySem.F.type_dict_get
 .intro b e;cases e;exact⟨_,c,d.2.1⟩
 .exact f
def O3(c:s.heap.get? a=D o)(d:o.ExactDict)(f:Q (.builtin "dict.setdefault",[.ref a]) s):af (model b w) A (getMethod (.ref a) "setdefault" e) Q E s:=by
 refine jF (T:="dict") (id:="dict.setdefault") ?_ ?_ ?_ ?_ ?_ ?_
 .exact⟨o,c,d.1⟩
 .exact Gy
 .exact Z8
 .exact PySem.F.type_dict_setdefault
 .intro b e;cases e;exact⟨_,c,d.2.1⟩
 .exact f
def mZ[Decidable c](h:(if c then rt a else aC) b=D (.ok r,d)):c/\(a=r/\d=b):=by
 by_cases q:c
 .replace h:=(iP q)▸h;obtain⟨rfl,rfl⟩:=Mine.mI h;exact⟨q,rfl,rfl⟩
 .replace h:=(iN q)▸h;cases h
def rL[Decidable c](h:(if c then m else aC) a=D x):c/\m a=D x:=by
 by_cases q:c
 .replace h:=(iP q)▸h;exact⟨q,h⟩
 .replace h:=(iN q)▸h;cases h
def m3(h:a_ v f b=D x):∃a,v=D a/\f a b=D x:=by
 cases v with
 |some a=>exact⟨a,rfl,h⟩
 |none=>cases h
def o0{a b m:Str}(h:(m==a ||m==b)=J):m=a\/m=b:=((gq ..).mp h).imp bE.mp bE.mp
def O4{a:bK}{w:bM}{s:ao}{A:bQ}{E:ay->ao->Prop}{m:Str}{c:Sem Bool}{Q:ay×List ay->ao->Prop}(d:(m=="bit_length" ||m=="to_bytes")=J)(b:Q (.builtin (ff m),[.int i t]) s):af (model a w) A (getMethod (.int i t) m c) Q E s:=by
 rcases o0 d with rfl |rfl
 .exact OV (Bh▸b)
 .exact OW (Bj▸b)
def O5{a:bK}{w:bM}{s:ao}{A:bQ}{E:ay->ao->Prop}{m:Str}{c:Sem Bool}{Q:ay×List ay->ao->Prop}(d:(m=="find" ||m=="join")=J)(b:Q (.builtin (ff m),[.bytes i t]) s):af (model a w) A (getMethod (.bytes i t) m c) Q E s:=by
 rcases o0 d with rfl |rfl
 .exact OX (Bk▸b)
 .exact OY (Bl▸b)
def O6{b:bK}{w:bM}{s:ao}{A:bQ}{E:ay->ao->Prop}{m:Str}{h:Sem Bool}{Q:ay×List ay->ao->Prop}(c:s.heap.PlainList a d)(f:(m=="append" ||m=="extend" ||m=="insert")=J)(g:Q (.builtin (ff m),[.ref a]) s):af (model b w) A (getMethod (.ref a) m h) Q E s:=by
 rcases(gq ..).mp f with f |e
 .rcases o0 f with rfl |rfl
  .exact OZ c (Be▸g)
  .exact O0 c (Bf▸g)
 .cases bE.mp e;exact O1 c (Bg▸g)
def Bo{b:bK}{w:bM}{s:ao}{A:bQ}{E:ay->ao->Prop}{m:Str}{f:Sem Bool}{Q:ay×List ay->ao->Prop}(c:s.heap.get? a=D o)(d:o.ExactDict)(g:(m=="get" ||m=="setdefault")=J)(e:Q (.builtin (ff m),[.ref a]) s):af (model b w) A (getMethod (.ref a) m f) Q E s:=by
 rcases o0 g with rfl |rfl
 .exact O2 c d (Bm▸e)
 .exact O3 c d (Bn▸e)
def O7{c:bK}{w:bM}{e:bg}{B:Heap}{k:FC}{g:Gh}{b:St}{s:ao}{A:bQ}{E:ay->ao->Prop}{m:Str}{l:Sem Bool}{Q:ay×List ay->ao->Prop}(a:ah c w e B k g b s)(f:al g.Z g.ι s.heap o j)(h:eo m o b=D (.ok I,i))
  (d:Q (.builtin (ff m),[j]) s):i=b/\af (model c w) A (getMethod j m l) Q E s:=by
 refine aH λG F=>?_;cases o with
 |int i=>obtain⟨t,rfl⟩:=f.toInt;obtain⟨K,_,e⟩:=mZ h;exact F ⟨e,O4 K d⟩
 |bytes i=>obtain⟨t,rfl⟩:=f.toBytes;obtain⟨K,_,e⟩:=mZ h;exact F ⟨e,O5 K d⟩
 |loc K=>
  obtain⟨x,P,h⟩:=m3 h;obtain⟨S,W,rfl⟩:=f.ir;cases x with
  |list X=>obtain⟨_,Z⟩:=((a.8 K _ S P W rfl).1).3;have X:=mZ h;exact F ⟨X.2.2,O6 Z.1 X.1 d⟩
  |dict X=>have Z:=(a.8 K _ S P W rfl).1;obtain⟨_,b⟩:=Z.4;obtain⟨_,Z⟩:=b.1;obtain⟨_,b⟩:=Z;obtain⟨_,Z⟩:=b;have b:=mZ h;exact F ⟨b.2.2,Bo Z.1 Z.2.1 b.1 d⟩
  |ck X=>have X:=(a.8 K _ S P W rfl).1;obtain⟨_,K⟩:=X.4;obtain⟨_,P⟩:=K.1;obtain⟨_,S⟩:=P;obtain⟨_,K⟩:=S;have P:=mZ h;exact F ⟨P.2.2,Bo K.1 K.2.1 (Bool.or_eq_true_iff.mpr (.inl P.1)) d⟩
  |inst c F=>
   obtain⟨_,h⟩:=rL h;obtain⟨_,_,h⟩:=m3 h;cases h
  |dead=>cases h
 |_=>cases h
def O8{j i:Nat}(l:b.In B)(o:oZ b B)(p:FC.Ok B n)(a:ah e w b B n g d s)(q:g.ι[j]?=D k)(r:d.objs[j]?=D (.inst c t))(u:eF c=J)(v:t.lookup m=I)(y:ig c m=D i)
  (G:∀f h,keepIn b (.ref f)=J->fnAt i=D h->FnAt B f h->Q (.ref f,[.ref k.a]) s):af (model e w) A (getMethod (.ref k.a) m z) Q E s:=by
 refine((a.8 _ _ _ r q rfl).1).elim λC F n P=>?_;have F:=o c C u P.1;obtain⟨f,h,K⟩:=F.6 m i y;haveI z:=vI (x:=m) P.5;rw[v]at z;obtain⟨S,S⟩:=a.fr p;exact(method_inst S.1 l ⟨P.2,rfl,rfl,P.3⟩ F.2 K.1 K.2 z (G f _ K.3 K.4 K.5))
def O9(l:c.In B)(n:oZ c B)(r:FC.Ok B p)(a:ah d w c B p g b s)(q:al g.Z g.ι s.heap o j)(h:eo m o b=D (.ok (D i),e))
  (t:∀f k,keepIn c (.ref f)=J->fnAt i=D k->FnAt B f k->Q (.ref f,[j]) s):e=b/\af (model d w) A (getMethod j m u) Q E s:=by
 refine aH λG F=>?_;have K:∀{c:Prop} [Decidable c] {p:Prop},(if c then rt I else aC) b=D (.ok (D i),e)->p:=λh=>nomatch (mZ h).2.1;cases o with
 |int i=>exact F (K h)
 |bytes i=>exact F (K h)
 |loc P=>
  obtain⟨x,S,h⟩:=m3 h;obtain⟨P,W,rfl⟩:=q.ir;cases x with
  |list P=>exact F (K h)
  |dict P=>exact F (K h)
  |ck P=>exact F (K h)
  |inst c P=>
   obtain⟨q,h⟩:=rL h;obtain⟨j,P,h⟩:=m3 h;clear K;cases h;exact F ⟨rfl,O8 l n r a W S q.1 (ut.mp q.2) P t⟩
  |dead=>cases h
 |_=>cases h
def O_ l items n b rM n2 dd sl(c:¬(!items.isEmpty && Z9 (items.size+rM.size))=J)(a:items.size<=gp)(d:items.size+rM.size<=gp+1):
  kQ (Builtin.«list.extend» ⟨[.ref l,.ref b],[]⟩) (λF R s=>A3 (s.heap.get? l=D {cls:=.type "list",dict:=I,data:=.seq items n,slots:=#[]}) (s.heap.get? b=D {cls:=.type "list",dict:=dd,data:=.seq rM n2,slots:=sl}) (R (.ok (.ret Value.none)) {s with heap:=s.heap.update l (i6 λx=>x++rM),toks:=s.toks})):=
 .of_wp λF w A R s h=>by
  obtain⟨F,g,d,F,F⟩:=s;haveI F:=h.1;haveI K:=h.2;haveI h:=h.3;wp_walk using (yA F rfl (hz:=a)),wpAny_loadPart' F,wpAny_loadPart' K;exact⟨_,rfl,h⟩
section
def Bp{h:Heap}(c:h.get? l=D {cls:=.type "list",data:=.seq b n})(e:f b=a):(h.update l (i6 f)).PlainList l a:=by
 subst e;exact⟨_,hZ _ c rfl⟩
def rN(h:ae b w c B d VR g s (app n f a) Q E):E2 λK F=>A4 (a.objs[n]?=D (.list K)) (f K=D F) (F.length<=aI) (ae b w c B d VR g s (D (.ok .none,{a with objs:=a.objs.set n (.list F)})) Q E):=by
 refine aH λG X=>?_;obtain⟨K,e,h⟩:=bJ h;obtain⟨o,S⟩:=b0.mp e;obtain⟨F,W⟩:=bJ h;haveI h:=W.2;by_cases P:F.length<=aI
 .rw[iP P]at h;exact X ⟨K,F,by rw[S.1,uS S.2],W.1,P,h⟩
 .rw[iN P]at h;exact h.elim
def vK(q:FC.Ok B j)(a:ah c w e B j g b s)(d:b.objs[n]?=D (.list r))(i:g.ι[n]?=D k)(l:h8 k.a s.heap m)(o:m.PlainList k.a p.toArray)
  (u:aw g.Z g.ι s.heap v p)(x:f r=D v)(h:ae c w e B j VR g s (app n f b) Q E):Q .none {s with heap:=m,toks:=t}:=by
 refine(rN h).elim λF F P=>?_;haveI K:=P.1;haveI F:=P.2;haveI S:=P.3;haveI h:=P.4;rw[d]at K;replace F:=x▸(aE (cA k9 (aE K)))▸F;rw[<- aE F]at S h;haveI F:=a.oX (t:=t) (o':=.list _) q d i rfl l ⟨((a.8 n _ _ d i rfl).1).1,S,p,o,aw.mono (a.oY d i rfl l) _ _ u⟩ (by obtain⟨k,q⟩:=o;exact⟨_,q,λK z=>by cases z⟩);exact h.ok F.1 F.2 (by rfl)
def O'(j:FC.Ok B e)(a:ah b w d B e g c s)(f:g.ι[n]?=D k)(l:al g.Z g.ι s.heap v m)
  (h:ae b w d B e VR g s (app n (λi=>D (i++ [v])) c) Q E):af (model b w) A (call (.builtin "list.append") [.ref k.a,m]) Q E s:=by
 refine(rN h).elim λi F P=>?_;have S:=(a.8 n _ _ P.1 f rfl).1;obtain⟨F,F⟩:=S.3;exact(wpAny_list_append_plain F.1 (λK K W=>vK j a P.1 f W (by simpa using K) (F.2.append (.one l)) rfl h) (by rw[cS,F.2.length];exact eK S.2))
def Pa(j:FC.Ok B e)(a:ah c w d B e g b s)(f:g.ι[n]?=D k)(l:al g.Z g.ι s.heap v m)(o:d4 b v=D p)
  (h:ae c w d B e VR g s (app n (λi=>D (i++p)) b) Q E):af (model c w) A (call (.builtin "list.extend") [.ref k.a,m]) Q E s:=by
 refine aH λG Z=>?_;obtain⟨F,b,rfl,⟨⟨c,F,d,F⟩,c,S,F,W⟩,X,F⟩:=iu a o l;obtain⟨i,F,F⟩:=rN h;obtain⟨d,K⟩:=((a.8 n _ _ F.1 f rfl).1).3;obtain⟨k,P⟩:=K.1;dsimp only at S W;subst S W;haveI W:d.length+b.length<=aI:=by rw[K.2.length,X.length,<- az];exact(aE F.2▸F.3)
 have S:=eK W;refine Z (mx Z6 ⟨_,P,rfl⟩ PySem.F.entry_list_extend (PySem.F.args_list_extend_2 ..) (O_ _ _ k _ _ _ _ _ ?_ ?_ ?_) ⟨P,c,?_⟩)
 .intro q;have:=(cH.mp q).2;unfold Z9 at this;simp only[decide_eq_true_eq]at this;exact aB this (FN S)
 .exact a4 S rfl
 .exact b6 S
 .exact vK j a F.1 f (kY ..) (Bp P zS) (K.2.append X) rfl h
def Pb(j:FC.Ok B e)(a:ah b w d B e g c s)(f:g.ι[n]?=D k)(l:al g.Z g.ι s.heap v m)
  (h:ae b w d B e VR g s (app n (λi=>D (v::i)) c) Q E):af (model b w) A (call (.builtin "list.insert") [.ref k.a,.int 0 t,m]) Q E s:=by
 refine aH λG W=>?_;obtain⟨i,F,P⟩:=rN h;have S:=(a.8 n _ _ P.1 f rfl).1;obtain⟨F,F⟩:=S.3;obtain⟨k,K⟩:=F.1;exact W (mx Z7 ⟨_,K,rfl⟩ PySem.F.entry_list_insert (PySem.F.args_list_insert_3 ..) (AutoSeq1.list_insert_list_int_val_1 _ _ k 0 t _ zD (by rw[cS,F.2.length];exact eK S.2)) ⟨K,(vK j a P.1 f (kY ..) (Bp K zS) (.cons l F.2) rfl h)⟩)
def Pc(h:0<=i):(Z_ i)=(ic i.toNat:Int):=by
 obtain⟨j,rfl⟩:=qw h;unfold Z_ ic;by_cases F:j=0
 .subst F;rfl
 .have:(j==0)=V:=by simp;exact F
  simp[this,F]
def Bq:∀k X,(cT k X).map (λc=>(c.toNat:Int))=KTBy.little k X
 |0,_=>rfl
 |k+1,X=>by
  rw[i8,Bq k _]
  congr 1
  exact HS
def Pd:∀{b:List UInt8},a.map (λc=>c.toNat)=b.map (λc=>(c.toNat:Int))->a=b:=
 λ{b} h=>List.map_inj_right (λx y e=>uu.mp (Zm e)) |>.mp h
def Br{k X:Nat}(h:X<256^k):uv X k=cT k X:=by
 refine Pd ?_;rw[Bq,KTBy.low_ints (da _) (ed.mpr h),<- KTBy.little_eq]
def Bs:∀k X,(cT k X).length=k
 |0,_=>rfl
 |k+1,X=>by rw[b4,Bs k]
open PySem.Builtin.Int (intBits)in
def to_big{x:Int}{k:Nat}{t u v:Tok}{Q:ay->ao->Prop}(b:k<=64)(c:0<=x)(e:x<256^k)(h:∀f g,Q (.bytes (uv x k).reverse.toArray f) {s with toks:=g}):
  af (model d w) A (call (.builtin "int.to_bytes") [.int x t,.int k u,.str (cy "big") v]) Q E s:=by
 refine gP KTBy.slot (qx s x t) KTBy.entry ?_ (KTBy.args ..);refine ac (ce rfl ?_);refine ac (ce (a:=[D (.int k u),D (.str (cy "big") v),I]) (by kernel_rfl) ?_);refine ac (ce rfl ?_);refine jG (by rw[dF (show¬(k < -(2^63:Int))by exact zd),dF (show¬((k:Int) >= 2^63)by exact ze b)];rfl) ?_;refine ac (ce (a:=cy "big") (by kernel_rfl) ?_);refine ac (ce rfl ?_);refine ac (ce (a:=V) (by kernel_rfl) ?_);refine qG (dF (show¬((k:Int) <0)by exact kL (da _))) ?_;refine qG (dF (show¬((k:Int) > 2^63 - 1 - 33)by exact zf b)) ?_;refine qG (dF (show¬(k > (gp:Int))by exact zg b)) ?_;refine jG (by rw[dF (show¬x<0 by exact kL c)];rfl) ?_;refine jG (by rw[dF (show¬((intBits x) > 8*(k:Int))by exact zh (Z' rfl c e)),Gd]) ?_;exact ac (yB (ax ⟨_,rfl,h ..⟩) (by show(List.reverse (uv x _)).length<=gp;rw[qH,aaa,e0,jD];exact a1 b rfl))
open PySem.Builtin.Int (intBits)in
def to_little{x:Int}{k:Nat}{t u v:Tok}{Q:ay->ao->Prop}(b:k<=64)(c:0<=x)(e:x<256^k)(h:∀f g,Q (.bytes (uv x k).toArray f) {s with toks:=g}):
  af (model d w) A (call (.builtin "int.to_bytes") [.int x t,.int k u,.str (cy "little") v]) Q E s:=by
 refine gP KTBy.slot (qx s x t) KTBy.entry ?_ (KTBy.args ..);refine ac (ce rfl ?_);refine ac (ce (a:=[D (.int k u),D (.str (cy "little") v),I]) (by kernel_rfl) ?_);refine ac (ce rfl ?_);refine jG (by rw[dF (show¬(k < -(2^63:Int))by exact zd),dF (show¬((k:Int) >= 2^63)by exact ze b)];rfl) ?_;refine ac (ce (a:=cy "little") (by kernel_rfl) ?_);refine ac (ce rfl ?_);refine ac (ce (a:=J) (by kernel_rfl) ?_);refine qG (dF (show¬((k:Int) <0)by exact kL (da _))) ?_;refine qG (dF (show¬((k:Int) > 2^63 - 1 - 33)by exact zf b)) ?_;refine qG (dF (show¬(k > (gp:Int))by exact zg b)) ?_;refine jG (by rw[dF (show¬x<0 by exact kL c)];rfl) ?_;refine jG (by rw[dF (show¬((intBits x) > 8*(k:Int))by exact zh (Z' rfl c e)),Gd]) ?_;exact ac (yB (ax ⟨_,rfl,h ..⟩) (by show(uv x _).length<=gp;rw[aaa,e0,jD];exact a1 b rfl))
end
def Pe(x l:List UInt8):x.isPrefixOf l=(l.take x.length==x):=
 qy.mpr (aab.trans (List.prefix_iff_eq_take.trans (eq_comm.trans bE.symm)))
def Bt:∀{i:Nat},l.length<x.length->lf x l i=I:=by
 have F:∀{l:List _},l.length<x.length->¬x.isPrefixOf l=J:=λh q=>d1 _ (bc h (aab.mp q).length_le)
 induction l with
 |nil=>exactλh=>iN (F h)
 |cons c r K=>exactλh=>(iN (F h)).trans (K (yC h))
def Pg{x b:List _} k:∀i,i+k=b.length+1 - x.length->x.length<=b.length->i<=b.length->lf x (b.drop i) i=(uw i k).find? λj=>(b.drop j).take x.length==x:=by
 induction k with
 |zero=>exactλi h P F=>Bt (aT (aq cY) (HT h F))
 |succ k S=>
  intro i h P F;rw[aac,i7,<- Pe];cases F:b.drop i with
  |nil=>
   have K:x=[]:=by
    cases x with
    |nil=>rfl
    |cons a x=>exact(HU (h.trans (aad _ 1 _)) (aae.mp F)).elim
   rw[K];rfl
  |cons c r=>
   have W:r=b.drop _:=(cA _ F.symm).trans List.tail_drop;cases K:x.isPrefixOf _ with
   |true=>exact iP K
   |false=>exact(iN (by rw[K];exact ei)).trans (W▸S _ (HV h) P (kM λz=>z6 (F.symm.trans (qI z))))
def find_eq b x:(if(b.size:Int) - 0<x.size then I else D ((0:Int).toNat,(b.size:Int).toNat)).bind (λp=>GA b x p.1 p.2)=lf x.toList b.toList 0:=by
 by_cases h:b.size<x.size
 .rw[iP (HW h),Bt (by simpa using h)];rfl
 .rw[iN (HX h)];have:=Pg (b.toList.length+1 - x.toList.length) 0 zS (ar.mp h) (bn _);rw[this];simp only[qJ];unfold GA;rw[List.range_eq_range'];simp only[e0,Int.toNat_zero,ee,yD,List.map_id',GB]
  congr 1
  funext i
  rw[qy,bE,bE];constructor
  .intro e;have:=cA Array.toList e;rw[aaf,aag]at this;exact(show i+x.size - i=x.size by exact gQ ..)▸this
  .intro e;apply F1.mp;rw[aaf,aag,show i+x.size - i=x.size by exact gQ ..];exact e
def Ph b x t u:Gives (Builtin.«bytes.find» ⟨[.bytes b t,.bytes x u],[]⟩) (.int (match lf x.toList b.toList 0 with |some i=>i |none=>-1)):=by
 refine .of_wp λM A E s Q F=>?_;refine ac (ac (ce (a:=(.bytes b t,[.bytes x u])) (by kernel_rfl) ?_));refine ac (ce rfl ?_);refine ac (ce rfl ?_);refine ac (ce KBy.buffer_eq ?_);refine ac (ax ?_);refine ac (ce rfl ?_);haveI K:aah b.size I I=(0,(b.size:Int)):=by
  unfold aah;simp;exact HY
 rw[K];refine ax ?_;show af M A (match (if(b.size:Int) - 0<x.size then I else D ((0:Int).toNat,(b.size:Int).toNat)).bind (λp=>GA b x p.1 p.2)with
  |some i=>retInt i
  |none=>_) _ E s
 rw[find_eq];cases K:lf x.toList b.toList 0 with
 |some i=>rw[K]at F;exact aai F
 |none=>rw[K]at F;exact ac (hX (aai F))
def Pj{id:String}:abR id (.bytes b t) a=pure (D b):=by
 kernel_rfl
def Pk{id:String}:aaj id (.bytes b t) 0=pure (D (b,I)):=by
 unfold aaj abS;rw[KBy.special_eq KBy.look_buffer,KBy.own_buffer];rw[Pj];rfl
def Pl(l:List _):∀n (F:List UInt8),((l.map qK).zipIdx n).foldl (λF x=>(if x.2 > 0 then F++#[]else F)++x.1) F.toArray=(F++l.flatten).toArray:=by
 induction l with
 |nil=>exactλK F=>cA _ (ci F).symm
 |cons x r P=>
  intro n F;have e:(if n > 0 then F.toArray++(#[])else F.toArray)=F.toArray:=iteInduction (motive:=λa=>a=F.toArray) (λK=>Zw) λK=>rfl;rw[i8,List.zipIdx_cons,qL,e,List.append_toArray,P,cz];rfl
def Bu{M:fz}(h:Q () s) l:(∀p∈l,p.2=I)->af M A (abT l a) Q E s:=by
 induction l with
 |nil=>exactλF=>ax h
 |cons p r K=>
  intro F;obtain⟨x,w⟩:=p;rw[show w=I from F _ (.head _)];exact ac (wpAny_letGo (K λp K=>F p (.tail _ K)))
def Bw(a:List _):abU #[] (a.map qK).toArray.toList=a.flatten.toArray:=Pl _ 0 _
def Pm(c:List (List UInt8)):∀n,(c.map qK).toArray.foldl (λa b=>a+b.size) n=n+c.flatten.length:=by
 induction c with
 |nil=>exactλF=>rfl
 |cons x r F=>
  intro n;have i:=F (n+x.length);rw[List.foldl_toArray]at i |-
  exact i.trans ((c_ ..).trans (cA _ az.symm))
def Pn(h:x::a=uw i (n - i)):A3 (i<n) (x=i) (a=uw (i+1) (n - (i+1))):=by
 have F:=kM λz=>z6 (h.trans (by rw[x_ z];rfl));rw[HZ F,aac]at h;exact⟨F,(dk h).1,(dk h).2⟩
def Po(h: []=uw i (n - i))(a:i<=n):i=n:=b8 a (ug (List.length_range'.symm.trans (cA _ h.symm)))
def Pp{l:List (ay×Option ay)}(h:∀p∈l,p.2=I/\p.1.onHeap=V):(Builtin.Bytes.Kind.bytes==abV ||l.any λp=>p.1.onHeap)=V:=
 mB.mpr ⟨rfl,GC.mpr λp F=>by rw[(h p F).2];exact ei⟩
def Pq{a:List (List UInt8)}(h:i<a.length):((a.take i).map qK).toArray.push (a.getD i []).toArray=((a.take (i+1)).map qK).toArray:=by
 rw[List.take_add_one,h0,bI h,jH];exact aak ..
abbrev Ps(c:List (List UInt8))(n:Nat)(s:ao)(b:List Nat)(a:Array (Array UInt8))(l:List (ay×Option ay))(d:ao):Prop:=∃i,A5 (d=s) (b=uw i (n - i)) (i<=n) (a=((c.take i).map qK).toArray) (∀p∈l,p.2=I/\p.1.onHeap=V)
def Pt{M:fz}{A:bQ}{E:ay->ao->Prop} t a o(c:List _)(d:List _)(n:Nat)(s:ao)(f:s.heap.get? a=D o)(l:o.cls=.type "list")(g:o.data=.seq c.toArray n)
  (b:c.length=d.length)(e:∀(i:Nat),i<d.length->∃t,c[i]?=D (.bytes (d.getD i []).toArray t))(j:d.flatten.length<=16777216)
  (h:∀m k,P (.done (.ret (.bytes d.flatten.toArray m))) {s with toks:=k}):
  af M A (Builtin.«bytes.join» ⟨[.bytes #[] t,.ref a],[]⟩) P E s:=by
 refine ac (ce (a:=(.bytes #[] t,.ref a)) (by kernel_rfl) ?_);refine ac ?_;refine ac (us ⟨o,f,l⟩ ?_);refine ax ?_;refine ac (ux f g (wpAny_ite_true zD ?_));rcases c with _ |⟨x,_ |⟨y,r⟩⟩
 .have F:=n0.mp b.symm;subst F;refine ac ?_;rw[aal];refine ax ?_;refine ac (ce rfl ?_);refine jG (aam zS) ?_;refine ac (yB ?_ zD);refine ac (cJ (wpAny_point ?_));exact ac (Bu (ax (h _ _)) _ λp=>z7)
 .k_node
  obtain⟨p,rfl⟩:=fP.mp b.symm;refine(e 0 mC).elim λu P=>?_;rw[(aE P)];refine ac (us (dE _ _ _) ?_);refine ac (hX (ax ?_));exact((ci p))▸h u s.toks
 .k_node
  generalize x::y::r=c at g b e |-
  refine ac ?_;rw[aal];refine aan _ (λF K S=>Ps d c.length s F K.1 K.2 S) _ (λx F K S y=>y.elim λi y=>?_) (λK S y=>y.elim λi y=>?_) _ _ ⟨0,rfl,by simp[Std.Legacy.Range.size],bn _,rfl,λp=>z7⟩
  .have c:=Pn y.2;rw[y.1,c.2];refine(e i (b▸c.1)).elim λu P=>?_;refine ac (ux f g (jG (Pp y.5) ?_));rw[((Array.getD_eq_getD_getElem? ..).trans (cA (aao · _) (jE.trans P)))];refine ac (cJ (ce Pk ?_));refine ac (ux f g (jG zS ?_));exact ax ⟨i+1,rfl,c.3,c.1,(cA (Array.push · _) y.4).trans (Pq (b▸c.1)),λp F=>(aZ.mp F).elim (y.5 p) λF=>bq.mp F▸⟨rfl,rfl⟩⟩
  .have e:=y.4;rw[Po y.2 y.3,b,uy]at e;rw[y.1];refine ac (ce rfl ?_);obtain⟨P,P⟩:=K;have K:=y.5;clear y;cases e;refine jG (aam ?_) ?_
   .rw[Pm];show 0*_+_<=_;exact H0 j
   refine ac (yB ?_ (by rw[Bw,cS,jD];exact j));refine ac (cJ (wpAny_point ?_));exact ac (Bu (ax (Bw d▸h s.toks (s.toks+1))) _ λp F=>(K p F).1)
def Pu:∀{F:List _} {K:List _},gX a=D F->aw Z b h a K->K.length=F.length/\∀i,i<F.length->∃t,K[i]?=D (.bytes (F.getD i []).toArray t):=by
 induction a with
 |nil=>exactλ{F K} e r=>aE e▸r▸⟨rfl,λi P=>aB P (eX i)⟩
 |cons x a S=>
  refineλ{F K} e r=>(b0.mp e).elim λb q=>(dS.mp q.2).elim λl F=>F.2▸r.elim λv K y=>y.1▸?_;haveI z:=S F.1 y.3;refine⟨cA _ z.1,λi=>?_⟩;cases i with
  |zero=>exactλF=>((mM q.1▸y.2).1).elim λt e=>⟨t,cA _ e⟩
  |succ i=>exactλP=>z.2 i (nZ P)
def Pw(m:FC.Ok B k)(c:ah d w j B k g e s)(n:al g.Z g.ι s.heap o p)(l:aw g.Z g.ι s.heap f i)
  (h:ae d w j B k VR g s (onBytes o (λb=>dU f λa=>onBytes a λx=>rt (.int (fB b x))) e) Q E):af (model d w) A (call (.builtin "bytes.find") (p::i)) Q E s:=by
 obtain⟨b,t,rfl,_,h⟩:=oT n h;obtain⟨a,v,rfl,F,h⟩:=fits_1 l h;clear l;obtain⟨x,u,rfl,_,h⟩:=oT F h;exact kR Bc (dE ..) OP (OQ ..) (Ph _ _ t u) (h.int m c)
def Px(j:FC.Ok B k)(c:ah a w f B k g b s)(l:al g.Z g.ι s.heap o n)(m:aw g.Z g.ι s.heap d e)
  (h:ae a w f B k VR g s (cZ o (λi=>fU d (z8 i)) b) Q E):af (model a w) A (call (.builtin "int.to_bytes") (n::e)) Q E s:=by
 obtain⟨i,t,rfl,_,h⟩:=fE l h;obtain⟨a,b,v,u,rfl,F,K,h⟩:=fits_2 m h;clear m;obtain⟨k,X,rfl,_,h⟩:=fE F h;obtain⟨e,P,rfl,_,h⟩:=fits_str K h;obtain⟨⟨P,W,K,S⟩,h⟩:=bG h;clear F;obtain⟨k,rfl⟩:=qw W;clear l;obtain⟨i,rfl⟩:=qw P;haveI F:=ed.mp S;have Z:=Bs k i;by_cases W:(e=="big")=J
 .replace h:=(iP W)▸h;rw[bE.mp W];refine to_big (zi K) P S λX a=>?_;rw[Br F];exact h.bytes j c rfl (by rw[qH];exact ak (aq Z) (zj K))
 .rw[iN W]at h;have W:=bG h;rw[bE.mp W.1];refine to_little (zi K) P S λX a=>?_;rw[Br F];exact W.2.bytes j c rfl (ak (aq Z) (zj K))
def Py{a:bK}{w:bM}{e:bg}{B:Heap}{j:FC}{g:Gh}{d:St}{s:ao}{A:bQ}{E Q:ay->ao->Prop}(p:FC.Ok B j)(c:ah a w e B j g d s)(k:al g.Z g.ι s.heap o q)(l:aw g.Z g.ι s.heap f i)
  (h:ae a w e B j VR g s (onBytes o (λb=>dU f λv=>if b=[]then em v λm=>a_ (gX m) λn=>mkBytes n.flatten else aC) d) Q E):af (model a w) A (call (.builtin "bytes.join") (q::i)) Q E s:=by
 refine aH λG S=>?_;obtain⟨b,t,rfl,_,h⟩:=oT k h;obtain⟨a,v,rfl,K,h⟩:=fits_1 l h;clear k;obtain⟨rfl,h⟩:=bG h;obtain⟨m,P,h⟩:=bJ h;clear l;obtain⟨n,F,h⟩:=bJ h;obtain⟨W,W,rfl,⟨W,W,X,Z,Z⟩,a,b⟩:=iu c P K;obtain⟨K,h⟩:=bG h;haveI P:=Pu F a;exact S (gP Bd (dE ..) OT (Pt t _ _ _ _ _ s W X Z P.1 P.2 K λF F=>⟨_,rfl,h.bytes p c rfl K⟩) (OU ..))
def Pz(l:aJ A i n)(d:FC.Ok B i)(c:ah a w j B i g b s)(m:al g.Z g.ι s.heap o p)(k:aw g.Z g.ι s.heap e f)
  (h:ae a w j B i VR g s (gu o (λn=>fU e (getM n)) b) Q E):af (model a w) A (call (.builtin "dict.get") (p::f)) Q E s:=by
 refine aH λG K=>?_;obtain⟨F,F,e,rfl,_,h⟩:=jk m h;obtain⟨a,b,v,u,rfl,W,b,h⟩:=fits_2 k h;clear k;cases a with
 |int k=>
  obtain⟨P,X,h⟩:=vm h;obtain⟨a,rfl⟩:=W.toInt;have S:=(c.8 _ _ _ X e rfl).1;obtain⟨f,F⟩:=S.4;have z:=vn k F.2;haveI Z:=c.toks d (s.toks+1);refine K (GD Gz F.1.typeIs aap (aaq ..) (meets_dict_get_default _ _ (by show n4 k (.int k a)=J;simp[n4]) S.3 u) ⟨yq _,F.1.mapOf,?_⟩);refine Mine.oe (bR P k) (λF=>?_) λp F=>?_
  .
   rw[F]at z h;exact z▸(h.iq d c b)
  .
   rw[F]at z h;obtain⟨S,S⟩:=z;exact S.1▸vJ d Z.2 S.2 (h.step Z.1)
 |tup S=>
  obtain⟨P,X,h⟩:=AB h;obtain⟨Z,P,S⟩:=bJ h;have:=mX P;clear h P;clear h;subst this;obtain⟨P,P,a⟩:=W.dr;clear W;obtain rfl:=a.1;obtain⟨i,W⟩:=a.2;obtain⟨j,k⟩:=W.2.2;have g:=(c.8 _ _ _ X e rfl).1;obtain⟨f,X⟩:=g.4;haveI z:=OA Z X.2;refine K (GD Gz (by obtain⟨e,P⟩:=X.1;obtain⟨m,m⟩:=P;obtain⟨P,P⟩:=m;exact⟨e,P.1,P.2.1.1⟩) aap (aaq ..) (meetsH_dict_get_default (ul _) _ _ g.3 u)
   ⟨show A.in1.units<fw by exact zc (l.4),Z,f,⟨i,_,j,W.1,W.2.1,k,A' a.4⟩,X.1,?_⟩)
  refine aH λG K=>?_;cases F:bR _ Z with
  |some p=>
   rw[F]at z S;obtain⟨P,P⟩:=z;refine K ?_;rw[P.1];exact S.iq d c P.2
  |none=>
   rw[F]at z S;refine K ?_;rw[z];exact S.iq d c b
 |_=>exact h.elim
def PA(j:FC.Ok B l)(b:ah a w i B l g c s)(p:al g.Z g.ι s.heap o q)(m:aw g.Z g.ι s.heap e f)
  (h:ae a w i B l VR g s (gu o (λn=>fU e λk d=>cZ k λk=>z_ n k d) c) Q E):af (model a w) A (call (.builtin "dict.setdefault") (q::f)) Q E s:=by
 refine aH λG Z=>?_;obtain⟨F,F,c,rfl,_,h⟩:=jk p h;obtain⟨a,d,v,u,rfl,F,f,h⟩:=fits_2 m h;clear m;obtain⟨k,K,rfl,_,h⟩:=fE F h;obtain⟨a,d,h⟩:=vm h;obtain⟨i,h⟩:=bG h;have P:=(b.8 _ _ _ d c rfl).1;obtain⟨F,S⟩:=P.4;haveI z:=vn k S.2;refine Z (GD Z8 S.1.typeIs PySem.F.entry_dict_setdefault (PySem.F.args_dict_setdefault_3 ..) (kt_meets_setdefault _ _ (by show n4 k (.int k K)=J;simp[n4]) P.3 u)
  ⟨F,S.1,by rw[S.2.length];exact eK P.2,λF W=>?_,λe F X g=>?_⟩)
 .refine aH λG Z=>?_;cases K:bR _ k with
  |some p=>
   rw[K]at z h;obtain⟨l,F,m⟩:=z;replace F:=W▸F;obtain rfl:=aE F;exact Z (h.iq j b m)
  |none=>replace z:=W▸K▸z;exact Mine.z4 z
 .refine Mine.oe (bR a k) (λK=>?_) λp K=>?_
  .
   replace h:=K▸h;have M:=b.oY d c rfl g;haveI W:=b.oX (t:=s.toks+1) (o':=.dict _) j d c rfl g ⟨P.1,ak (vH ..) i,P.3,_,X,A_ (S.2.mono λP P q=>⟨q.1,q.2.mono M⟩) (f.mono M)⟩
    (by obtain⟨S,P⟩:=X;obtain⟨X,X⟩:=P;obtain⟨P,P⟩:=X;exact⟨S,P.1,λS z=>by replace z:=P.2.2.1▸z;cases z⟩)
   exact h.ok W.1 W.2 (f.mono M)
  .
   replace z:=K▸z;refine z.elim λl K=>?_;haveI F:=K.1;replace F:=e▸F;exact Mine.z3 F
def PB(p:aJ A k n)(e:FC.Ok B k)(c:ah a w l B k g b s)(f:al g.Z g.ι s.heap o q)(d:aw g.Z g.ι s.heap i j)
  (h:ae a w l B k VR g s (method m o i b) Q E):af (model a w) A (call (.builtin (ff m)) (q::j)) Q E s:=by
 unfold method at h;by_cases F:(m=="append")=J
 .replace h:=(iP F)▸h;obtain⟨S,W,P,rfl,_,h⟩:=jk f h;rw[bE.mp F,Be];obtain⟨a,v,rfl,K,h⟩:=fits_1 d h;exact O' e c P K h
 rw[iN F]at h;by_cases F:(m=="extend")=J
 .rw[iP F]at h;obtain⟨S,W,P,rfl,_,h⟩:=jk f h;rw[bE.mp F,Bf];obtain⟨a,v,rfl,K,h⟩:=fits_1 d h;obtain⟨X,X⟩:=bJ h;exact Pa e c P K X.1 X.2
 replace h:=(iN F)▸h;by_cases F:(m=="insert")=J
 .replace h:=(iP F)▸h;obtain⟨S,W,P⟩:=jk f h;rw[P.2];haveI h:=P.4;rw[bE.mp F,Bg];obtain⟨a,b,v,u,rfl,S,K,h⟩:=fits_2 d h;clear d;obtain⟨k,t,rfl,_,h⟩:=fE S h;clear S;obtain⟨rfl,h⟩:=bG h;exact Pb e c P.1 K h
 replace h:=(iN F)▸h;by_cases F:(m=="bit_length")=J
 .replace h:=(iP F)▸h;rw[bE.mp F,Bh];obtain⟨i,t,P⟩:=fE f h;rw[P.1];have K:=bG P.3;rw[K.1.2]at d;rw[d.jW];refine call_int_bit_length ?_;rw[Pc K.1.1];exact K.2.int e c
 replace h:=(iN F)▸h;by_cases F:(m=="to_bytes")=J
 .replace h:=(iP F)▸h;rw[bE.mp F,Bj];exact Px e c f d h
 rw[iN F]at h;by_cases F:(m=="find")=J
 .rw[iP F]at h;rw[bE.mp F,Bk];exact Pw e c f d h
 replace h:=(iN F)▸h;by_cases F:(m=="join")=J
 .replace h:=(iP F)▸h;rw[bE.mp F,Bl];exact Py e c f d h
 rw[iN F]at h;by_cases F:(m=="get")=J
 .rw[iP F]at h;rw[bE.mp F,Bm];exact Pz p e c f d h
 rw[iN F]at h;have F:=bG h;rw[bE.mp F.1,Bn];exact PA e c f d F.2
noncomputable def lu:List (Str×ay):=[("len",.builtin "len"),("tuple",.type "tuple"),("list",.type "list"),("bytes",.type "bytes"),("int",.type "int"),("sum",.builtin "sum"),("min",.builtin "min"),
 ("isinstance",.builtin "isinstance"),("sorted",.builtin "sorted"),("range",.type "range"),("enumerate",.type "enumerate"),("Exception",.type "Exception")]
def vL x v(h:(x,v)∈lu):bootBuiltins x=D v/\x≠"__name__":=
 have k:=i1.mp (show lu.all (λe=>bootBuiltins e.1==D e.2 && e.1 !="__name__")=J by decide+kernel) _ h
 ⟨bE.mp (cH.mp k).1,bne_iff_ne.mp (cH.mp k).2⟩
inductive iy(a:List ay):Prop |mk
 (F:a.contains (.type "Exception")=J)
 (F:a.contains (.type "BaseException")=J)
 (F:a.contains (.type "object")=J)
 (F:a.contains (.type "AttributeError")=V)
 (F:a.contains (.type "NameError")=V)
 (F:∀F:ay,yE F "__setattr__" a=pure ())
noncomputable def iz:d7 where
 params:=["self","word"]
 body:=[.Expr (.Call (.Attribute (.Name "Exception" ⟨5,8,5,17⟩) "__init__" ⟨5,8,5,26⟩) [.Name "self" ⟨5,27,5,31⟩,.Name "word" ⟨5,33,5,37⟩] [] ⟨5,8,5,38⟩) ⟨5,8,5,38⟩,
  .Assign [.Attribute (.Name "self" ⟨6,8,6,12⟩) "word" ⟨6,8,6,17⟩] (.Name "word" ⟨6,20,6,24⟩) ⟨6,8,6,24⟩]
 scope:={kind:=.function,names:=[("self",.local),("word",.local),("Exception",.globalImplicit)],isGenerator:=V,isCoroutine:=V}
inductive rO(K:bg)(B:Heap)(C:aG):Prop |mk
 (F:uM λW q N X S Z F a P b c d e f g=>K.lookup C=D (excClassObj W q C N X S J Z F a P b c d e f g "Exception.__new__")/\iy S)
 (F:∃f,A3 (findIn K (.ref C) "__init__"=D (D (.ref f))) (typeIn K (.ref f)=D (.type "function")) (FnAt B f iz))
 (F:findIn K (.ref C) "__setattr__"=D (D (.builtin "object.__setattr__")))
 (F:findIn K (.ref C) "word"=D I)
 (F:keepIn K (.ref C)=J)
 (F:mD K (.type "Exception") (.type "type") "__init__"=D (.val (.builtin "Exception.__init__")))
inductive bt(a:bK)(w:bM)(K:bg)(B:Heap):Prop |mk
 (F:E4 λp F P S=>HB a w K B p F P S)
 (F:oZ K B)
 (F:∀x i,lg x=D i->E2 λf F=>A4 (nsIn K mainGlobals x=D (D (.ref f))) (fnAt i=D F) (FnAt B f F) (keepIn K (.ref f)=J))
 (F:∀x p,rb x=D p->∃v,nsIn K mainGlobals x=D (D v)/\al [] [] B p v)
 (F:∀x v,(x,v)∈lu->nsIn K mainGlobals x=D I)
 (F:mD K (.type "int") (.type "type") (cy "from_bytes")=D (.get (.builtin "classmethod_descriptor.__get__") (.builtin "int.from_bytes") .none (.type "int")))
 (F:∀x,∃C,nsIn K mainGlobals (eG x)=D (D (.ref C))/\rO K B C)
 (F:∀c,eF c=J->∃C,nsIn K mainGlobals c=D (D (.ref C))/\keepIn K (.ref C)=J)
def bt.nolimit(W:bt a w b B):B.NoLimit:=W.1.elim λp l F F H=>H.2.nolimit
def bt.ds(W:bt b w a B):a.In B:=W.1.elim λp l F F H=>H.1
def Bx{a:Cx}(h:a.bL x=J):a.scope.names.lookup x=D .globalImplicit/\(x=="__debug__")=V:=by
 unfold Cx.bL at h;rw[de]at h;exact⟨bE.mp h.1,by simpa using h.2⟩
def o2(W:bt b w c B)(d:FC.Ok B f)(a:ah b w c B f g i s)(j:f.cx.bL x=J)(e:nsIn c mainGlobals x=D (D v))(h:Q v s):
  af (model b w) A (eval (.Name x k) f.env) Q E s:=by
 refine W.1.elim λp l F F H=>?_;haveI F:=Bx j;refine GF d.1 (by unfold jC;rw[d.2];exact F.1) (loadGlobal_global (by rw[d.3];exact(H.2.keeps a.1).g) (mg_of H.1 H.2.g e) h) F.2
def jl(W:bt b w d B)(c:FC.Ok B f)(a:ah b w d B f g i s)(j:f.cx.bL x=J)(e:(x,v)∈lu)(h:Q v s):
  af (model b w) A (eval (.Name x k) f.env) Q E s:=by
 refine W.1.elim λp l F F H=>?_;haveI F:=Bx j;haveI K:=vL x v e;refine GF c.1 (by unfold jC;rw[c.2];exact F.1)
  (aar (by rw[c.3];exact(H.2.keeps a.1).g) (mg_none_of H.1 H.2.g (W.5 x v e)) (by rw[c.4];exact(H.2.keeps a.1).b) ((H.2.builtins x K.2).trans K.1) h) F.2
def ah.PC(a:ah c w d B e g b s):cL [] [] B g.Z g.ι s.heap:=⟨λb F=>.inr (a.4 b F).1,λF F h=>by simp at h,λb o q F=>a.1 b o q⟩
def Bz(d:FC.Ok B e)(a:ah b w f B e g c s)(j:e.cx.ie x=D i)(h:ae b w f B e VR g s (Mine.getL i c) Q E):af (model b w) A (loadName e.env x) Q E s:=by
 refine aH λG W=>?_;obtain⟨p,S,h⟩:=bJ h;obtain⟨k,K⟩:=slot_get j;haveI P:e.env.kindOf x=D k:=by unfold jC;rw[d.2];exact K.1
 obtain⟨m,F,X⟩:=a.fr d;have S:=Option.join_eq_some_iff.mp S;rcases K.2 with rfl |rfl
 .obtain⟨v,Z⟩:=X i x _ _ K.3 S ⟨λb=>d.14 x i j K.1,nofun⟩;exact W (GG d.1 P F.ns Z.1 (h.val d a Z.2))
 .obtain⟨c,v,F⟩:=X i x _ _ K.3 S ⟨nofun,λb=>K.1⟩;exact W (wpAny_loadName_cell d.1 P F.1 F.2 (h.val d a F.3))
structure AllE(prog:bK)(w:bM)(K:bg)(B:Heap)(n:Nat)(F:Call)(k:Nat):Prop where
 e:∀fc,FC.Ok B fc->∀e,ev prog w K B n fc VR (eval e fc.env) (den F k fc.cx e)
 t:∀fc,FC.Ok B fc->∀e,ev prog w K B n fc BR (isTrue e fc.env (eval e fc.env)) (dK F k fc.cx e)
 ts:∀fc,FC.Ok B fc->∀op es,ev prog w K B n fc BR (allTrue op es fc.env) (mT F k fc.cx op es)
 l:∀fc,FC.Ok B fc->∀es pos,ev prog w K B n fc oO (spliced (backTo pos (starEach es fc.env))) (cr F k fc.cx es)
def rP(h:isStar e=V):starEach (e::b) a=(V,eval e a)::starEach b a:=by
 cases e <;> first |rfl |cases h
def PD(h:¬(e::a).any isStar=J):isStar e=V/\a.any isStar=V:=mB.mp (kZ _▸h)
def BA(h:a.any isStar=J\/30<=a.length):cr c k d a b=I:=by
 cases k with
 |zero=>rfl
 |succ k=>
  cases a with
  |nil=>rcases h with h |h <;> cases h
  |cons e a=>
   show(if(e::a).any _\/30<=(e::a).length then aC else _) _=I;rw[iP h];rfl
def vM{rel:Gh->Heap->PV->ay->Prop}(h:ae c w e B i d g s (bd (cr j k i.cx a) f b) l E):a.any isStar=V/\a.length<30:=by
 by_cases q:a.any isStar=J\/30<=a.length
 .unfold Mine.bd at h;rw[BA q]at h;exact h.elim
 .exact⟨qs.mpr λe=>q (.inl e),kM λe=>q (.inr e)⟩
def rQ{rel:Gh->Heap->PV->ay->Prop}(h:ae b w d B e c g s (bd (cr i k e.cx j) f a) l E):j.any isStar=V:=(vM (rel:=rel) h).1
def o8(h:a.any isStar=V):(backTo pos (starEach a env)).any (·.1)=V:=by
 induction a with
 |nil=>rfl
 |cons e a F=>
  haveI h:=mB.mp h;rw[rP h.1];exact F h.2
def PE(X:AllE a w c B n d k):∀b,FC.Ok B b->∀K F,ev a w c B n b oO (spliced (backTo F (starEach K b.env))) (cr d (k+1) b.cx K):=by
 intro b W K F A g F s Q E P F h;cases K with
 |nil=>exact n8 (h.ok (.refl ..) F .nil)
 |cons e K=>
  haveI K:=h;refine eD (λS K=>?_) (j0 K);rw[rP (PD (not_or.mp S).1).1];exact mE (X.e _ W e A g _ s _ _ P F (ae.bd K λa b F F F Z S F K S=>X.l _ W _ _ A _ _ _ _ _ P F (ae.bd S λP P P P P Z P S W X=>X.ok (.refl ..) S (.cons (al.mono (P.mono F.2) _ _ K) W))))
def PF(X:AllE b w d B n f k)(j:FC.Ok B e)(i:aJ A e n)(a:ah b w d B e g c s)
  (h:ae b w d B e VR g s ((bd (cr f k e.cx l) λm=>el m) c) Q E):af (model b w) A (eval (.Tuple l o p) e.env) Q E s:=by
 refine Tuple_ (X.l _ j _ _ A g _ s _ _ i a (ae.bd h λF F F F F F S K F P=>?_));haveI S:=bG P;exact GH (AZ j K (λb K q=>bA _ q) (fZ _) (cI _ rfl) F S.1 _ S.2) (by rw[aw.length F];exact eK S.1)
def PG{h':Heap}{mt:Bool}(e:FC.Ok B f)(a:ah c w d B f g b s)(i:aw g.Z g.ι s.heap j k) t(h:ae c w d B f VR g s (bV mt j b) Q E):
  Q (.ref s.heap.objs.size) {s with heap:=s.heap.push {cls:=.type "list",data:=.seq k.toArray},toks:=t}:=by
 refine bi (a.fr e) λm F=>ry (n:=0) e a F.2 (F.1.push _) (λp K=>Mine.me K ?_ λK=>?_) (fZ _) i h
 .refine⟨cI _ rfl,λe=>?_,a.gC (fZ _)⟩;have:=F.1.ns.lt;rw[<- e]at this;exact d1 _ this
 .haveI F:=ip _ _ p K;exact⟨bA _ F.1,F.2.1,F.2.2⟩
def PH(X:AllE b w d B n f k)(j:FC.Ok B e){mt:Bool}(i:aJ A e n)(a:ah b w d B e g c s)
  (h:ae b w d B e VR g s ((bd (cr f k e.cx l) λm=>bV mt m) c) Q E):af (model b w) A (eval (.List l o) e.env) Q E s:=by
 refine List_ (X.l _ j _ _ A g _ s _ _ i a (ae.bd h λW F F F P F S S K F=>?_));have X:W.length<=aI:=by
  unfold bV at F
  split at F
  .assumption
  .exact F.elim
 exact GK (PG (h':=P.heap) j S K _ F) (by rw[aw.length K];exact eK X)
def PI(W:bt c w e B)(i:FC.Ok B f){b:Bool}(a:ah c w e B f g d s)
  (h:ae c w e B f VR g s (mkObj (if b then .ck []else .dict []) d) Q E):af (model c w) A (eval (.Dict [] [] j) f.env) Q E s:=by
 rw[eval_Dict_empty];refine ac (e7 ?_);refine fO ?_;obtain⟨m,P⟩:=a.fr i;haveI S:=fZ s.heap;haveI K:=beq_eq_false_iff_ne.mpr (bf (modules_low (W.nolimit.keeps a.1)));haveI F:(s.heap.push _).get? _=D {cls:=.type "dict",data:=.dict #[]}:=cI _ rfl;haveI W:=a.alloc (t:=s.toks) (la:=⟨s.heap.objs.size,s.heap.objs.size⟩) (o:=if b then .ck []else .dict []) i P.2 S S ⟨_,F⟩ ⟨_,F⟩ (P.1.push _) (λP P q P=>bA _ q) (by
  clear h;cases b
  .exact⟨rfl,bn _,K,[],⟨_,_,_,F,⟨rfl,rfl,rfl⟩,rfl,(by intro e P;simp at P),.nil,uq⟩,rfl⟩
  .exact⟨rfl,bn _,K,[],⟨_,_,_,F,⟨rfl,rfl,rfl⟩,rfl,rfl,(by intro e P;exact Mine.z7 P),uq⟩,rfl⟩)
 refine h.ok W.1 W.2 ⟨⟨s.heap.objs.size,s.heap.objs.size⟩,?_,rfl⟩;rw[<- a.7,mw (aL _),qu];rfl
def PJ(e:FC.Ok B f)(a:ah b w i B f g d s)(h:ae b w i B f VR g s (den l (k+1) f.cx (.Constant c m j) d) Q E):af (model b w) A (eval (.Constant c m j) f.env) Q E s:=by
 cases c with
 |none=>exact Constant_none (h.val e a (by rfl))
 |bool b=>exact Constant_bool (h.val e a (by rfl))
 |int i=>exact(λF F F=>h.int e a)
 |str x=>exact Constant_str (h.iq e a ⟨_,rfl⟩)
 |bytes x=>
  haveI F:=bG h;exact Constant_bytes (F.2.bytes e a rfl F.1)
 |_=>exact h.elim
noncomputable def BB(a:Pos)(d:mo)(c:ay)(b:List (Sem ay)):Sem ay:=do
 mr a
 let t <- kP [c] (truthy c)
 match d,t with
 |.And,V |.Or,J=>pure c
 |_,_=>boolOp a d b
def OR(g:Gh)(h:Heap)(p:Option PV)(v:ay):Prop:=match p with
 |none=>v=.none
 |some q=>al g.Z g.ι h q v
structure AllX(prog:bK)(w:bM)(K:bg)(B:Heap)(n:Nat)(F:Call)(k:Nat):Prop extends AllE prog w K B n F k where
 b:∀fc,FC.Ok B fc->∀pos op e es v vv A g st s (Q:ay->ao->Prop) E,aJ A fc n->ah prog w K B fc g st s->al g.Z g.ι s.heap v vv->ae prog w K B fc VR g s (li F k fc.cx op v (e::es) st) Q E->
  af (model prog w) A (BB pos op vv (evalEach (e::es) fc.env)) Q E s
 o:∀fc,FC.Ok B fc->∀o,ev prog w K B n fc OR (evalPart o fc.env) (jh F k fc.cx o)
def vN(X:AllX a w i B n j k)(l:FC.Ok B f)(d:aJ A f n)(c:ah a w i B f g b s)
  (h:ae a w i B f VR g s ((bd (den j k f.cx e) λv=>li j k f.cx o v m) b) Q E):af (model a w) A (boolOp p o (evalEach (e::m) f.env)) Q E s:=by
 cases m with
 |nil=>
  refine X.e _ l e A g _ s _ _ d c (ae.bd h λa b Z W f i S K P F=>?_);clear X h;cases k with
  |zero=>exact F.elim
  |succ k=>exact F.val l K P
 |cons j m=>
  exact ac (X.e _ l e A g _ s _ _ d c (ae.bd h λa b Z W f i S K P F=>X.b _ l _ _ _ _ a b A _ _ _ Q E d K P F))
def PK(X:AllX d w i B n p k):∀f,FC.Ok B f->∀Z o e q v r A g c s Q E,aJ A f n->ah d w i B f g c s->al g.Z g.ι s.heap v r->ae d w i B f VR g s (li p (k+1) f.cx o v (e::q) c) Q E->
  af (model d w) A (BB Z o r (evalEach (e::q) f.env)) Q E s:=by
 refineλf j Z o e q v r A g c s Q E W F u h=>ac (e7 (ac (cJ (vo W j F u (ae.bd h λa b x t y z S K l P=>?_)))));subst l;haveI m:=al.mono (S.mono F.2) _ _ u;cases o <;> cases a
 .exact ax (P.val j K m)
 .exact vN X j W K P
 .exact vN X j W K P
 .exact ax (P.val j K m)
def PL(X:AllX a w c B n d k):∀b,FC.Ok B b->∀o,ev a w c B n b OR (evalPart o b.env) (jh d (k+1) b.cx o):=by
 intro b P o A g F s Q E K F h;cases o with
 |none=>exact ax (h.ok (.refl ..) F rfl)
 |some e=>
  exact X.e _ P e A g _ s _ _ K F (ae.bd h λa b F F F F S F K P=>P.ok (.refl ..) F K)
def PM(X:AllX c w j B n l k):∀d,FC.Ok B d->∀i Z,ev c w j B n d BR (allTrue i Z d.env) (mT l (k+1) d.cx i Z):=by
 intro d m i Z A g o s Q E W F h;cases Z with
 |nil=>exact ax (h.ok (.refl ..) F rfl)
 |cons e Z=>
  refine ac (X.t _ m e A g _ s _ _ W F (ae.bd h λa b q p r t S K f P=>?_));subst f;cases i <;> cases a
  .exact ax (P.ok (.refl ..) K rfl)
  .exact X.ts _ m _ _ A _ _ _ _ _ W K P
  .exact X.ts _ m _ _ A _ _ _ _ _ W K P
  .exact ax (P.ok (.refl ..) K rfl)
def PN(X:AllX d w j B n m k)(o:FC.Ok B i)(e:aJ A i n)(c:ah d w j B i g f s)(q:FU p r=V)
  (h:ae d w j B i VR g s ((bd (den m k i.cx l) λa=>bd (den m k i.cx r) λb=>cmp p a b) f) Q E):af (model d w) A (eval (.Compare l [p] [r] t) i.env) Q E s:=wpAny_Compare1 (X.e _ o l A g _ s _ _ e c (ae.bd h λa F F F F W S F K P=>X.e _ o r A _ _ _ _ _ e F (ae.bd P λb P P P P W P S W X=>NL e o S (al.mono (P.mono F.2) _ _ K) W X))) q
def PO(l op r pos):isTrue (.Compare l [op] [r] pos) a b=(eval (.Compare l [op] [r] pos) a >>=λc=>kP [c] (truthy c)):=by
 rw[isTrue_Compare1];show _=((do let a <- eval l _;let b <- kP ..;mr _;yh [a,b] (compareOp _ a b)) >>=λc=>kP ..);simp only[bind_assoc]
def PP(X:AllX b w c B n d k):∀a,FC.Ok B a->∀e,ev b w c B n a BR (isTrue e a.env (eval e a.env)) (dK d (k+1) a.cx e):=by
 intro a j e A g F s Q E Z F h
 induction e using MO with
 |un x p=>
  refine wpAny_isTrue_Not (X.t _ j x A g _ s _ _ Z F (ae.bd h λa b f d i m S K W P=>?_));subst W;exact P.ok (.refl ..) K rfl
 |bools n c p=>
  exact wpAny_isTrue_BoolOp (X.ts _ j _ _ A g _ s _ _ Z F h)
 |fC t b o p=>
  refine isTrue_IfExp (X.t _ j t A g _ s _ _ Z F (ae.bd h λa c f d i m S K W P=>?_));subst W;cases a
  .exact X.t _ j o A _ _ _ _ _ Z K P
  .exact X.t _ j b A _ _ _ _ _ Z K P
 |gx l b b p=>
  haveI b:=h;clear h;cases k with
  |zero=>exact b.elim
  |succ k=>
   obtain⟨n,rfl,c⟩:=vk b;obtain⟨r,rfl,_⟩:=vk c;rw[PO];exact ac (X.e _ j _ A g _ s _ _ Z F (ae.bd b λa b f d i m S K W P=>cJ (vo Z j K W P)))
 |no e c k=>
  rw[c];rw[k]at h;exact ac (X.e _ j e A g _ s _ _ Z F (ae.bd h λa b f d i m S K W P=>ac (e7 (cJ (vo Z j K W P)))))
def BC(h:isCall o=V):GL o b c a=a:=by
 cases o with
 |Call f F F p=>cases f <;> first |rfl |cases h
 |_=>rfl
def PQ(W:bt b w c B)(X:AllX b w c B n f k)(j:FC.Ok B e)(i:aJ A e n)(a:ah b w c B e g d s)(l:isCall o=V)
  (h:ae b w c B e VR g s ((bd (den f k e.cx o) λv=>jS v x) d) Q E):af (model b w) A (eval (.Attribute o x m) e.env) Q E s:=by
 show af _ A (do
  let F <- GL o x ..
  mr _
  let r <- kP ..
  letTemporaryGo o _ r
  pure r) Q E s
 rw[BC l];exact ac (X.e _ j o A g _ s _ _ i a (ae.bd h λa F F F F F S F K P=>ac (e7 (ac (cJ (OH W.ds W.2 j F K (P.map λr F q=>ac (ZS (ax q)))))))))
def PS(X:AllX b w e B n f k)(m:FC.Ok B d)(l:aJ A d n)(a:ah b w e B d g c s)
  (h:ae b w e B d VR g s ((bd (den f k d.cx o) λv=>bd (den f k d.cx i) λj=>item v j) c) Q E):af (model b w) A (eval (.Subscript o i p) d.env) Q E s:=GN (X.e _ m o A g _ s _ _ l a (ae.bd h λa F F F F W S F K P=>X.e _ m i A _ _ _ _ _ l F (ae.bd P λb P P P P W P S W X=>vB (Op m S (al.mono (P.mono F.2) _ _ K) W X))))
def BD(a:mR p=D o)(b:OR g h p v):kW v o:=by
 refine part_of (Z:=g.Z) (ι:=g.ι) (h:=h) a ?_;cases p <;> exact b
def PT(X:AllX b w i B n c k)(j:FC.Ok B d){m q:Option _}(e:aJ A d n)(a:ah b w i B d g f s)
  (h:ae b w i B d VR g s ((bd (den c k d.cx o) λv=>bd (jh c k d.cx m) λl=>bd (jh c k d.cx q) λh=>er v l h) f) Q E):af (model b w) A (eval (.Subscript o (.Slice m q I p) r) d.env) Q E s:=by
 refine GN (X.e _ j o A g _ s _ _ e a (ae.bd h λa F F F F Z S F a K=>wpAny_Slice (X.o _ j _ A _ _ _ _ _ e F (ae.bd K λl g K K K Z b K P S=>X.o _ j _ A _ _ _ _ _ e K (ae.bd S λu W c W d Z W e f X=>ax ?_)))));have Z:OR c d.heap l g:=by
  clear S X;cases l with
  |none=>exact P
  |some q=>exact al.mono (W.mono K.2) _ _ P
 obtain⟨x,K⟩:=bJ X;obtain⟨y,P⟩:=bJ K.2;exact(vB (Ou j e (al.mono ((b.trans W).mono F.2) _ _ a) (BD K.1 Z) (BD P.1 f) P.2))
def const_int(h:Q (.int i s.toks) {s with toks:=s.toks+1}):af (model a w) A (eval (.Constant (.int i) d b) c) Q E s:=λF F F=>h
def PU(X:AllX b w e B n f k)(i:FC.Ok B d)(j:aJ A d n)(a:ah b w e B d g c s)
  (h:ae b w e B d VR g s (bd (den f k d.cx o) reversed c) Q E):af (model b w) A (eval (.Subscript o (.Slice I I (D (.UnaryOp .USub (.Constant (.int 1) m q) r)) p) l) d.env) Q E s:=by
 refine GN (X.e d i o A g c s _ _ j a (ae.bd h λa F F F K F S F P S=>?_));refine wpAny_Slice ?_;refine ax ?_;refine ax ?_;refine UnaryOp_ ?_;refine const_int ?_;refine neg_int ?_;refine eD (λW X=>?_) (F.toks i (K.toks+1+1));exact vB (Ox i X (al.mono (W.mono F.2) _ _ P) (S.step W))
def PW(X:AllX b w f B n i k)(l:FC.Ok B d)(j:aJ A d n)(a:ah b w f B d g c s)
  (h:ae b w f B d VR g s (bd (den i k d.cx e) vb c) Q E):af (model b w) A (eval (.UnaryOp .USub e m) d.env) Q E s:=by
 refine UnaryOp_ (X.e d l e A g c s _ _ j a (ae.bd h λa F F F F F S K P F=>?_));obtain⟨i,t,rfl,_,F⟩:=fE P F;exact neg_int (F.int l K)
def PX(X:AllX d w i B n j k)(o:FC.Ok B f){mt:Bool}(m:aJ A f n)(c:ah d w i B f g e s)
  (h:ae d w i B f VR g s ((bd (den j k f.cx l) λa=>bd (den j k f.cx r) λb=>binop p mt a b) e) Q E):af (model d w) A (eval (.BinOp l p r q) f.env) Q E s:=wpAny_BinOp (X.e _ o l A g _ s _ _ m c (ae.bd h λa F F F F W S F K P=>X.e _ o r A _ _ _ _ _ m F (ae.bd P λb P P P P W P S W X=>Ni o S (al.mono (P.mono F.2) _ _ K) W X)))
def PY(X:AllX e w m B n f k)(p:FC.Ok B i)(j:aJ A i n)(d:ah e w m B i g l s)
  (h:ae e w m B i VR g s ((bd (dK f k i.cx t) λc=>if c then den f k i.cx b else den f k i.cx o) l) Q E):af (model e w) A (eval (.IfExp t b o r) i.env) Q E s:=by
 refine wpAny_IfExp (X.t _ p t A g _ s _ _ j d (ae.bd h λa c Z W q u S F P K=>?_));subst P;cases a
 .exact X.e _ p o A _ _ _ _ _ j F K
 .exact X.e _ p b A _ _ _ _ _ j F K
def PZ(W:bt b w d B)(f:FC.Ok B e)(a:ah b w d B e g c s)
  (h:ae b w d B e VR g s (den j (k+1) e.cx (.Name x i) c) Q E):af (model b w) A (eval (.Name x i) e.env) Q E s:=by
 refine eD (λX F=>Mine.oe (e.cx.ie x) (λK=>?_) λi K=>?_) (j0 h)
 .
  rw[K]at F;obtain⟨Z,F⟩:=bG F;refine Mine.oe (rb x) (λP=>?_) λp P=>?_
  .rw[P]at F;exact F.elim
  .
   rw[P]at F;obtain⟨v,S⟩:=W.4 x p P;exact(o2 W f a Z S.1 (F.val f a (al.mono a.PC _ _ S.2)))
 .
  rw[K]at F;exact(GO (Bz f a K F) (kZ _▸X))
def rR{M:fz}{Q:Args->ao->Prop}(g:a.any isStar=V)
  (h:af M A (spliced (backTo b (starEach a c))) (λd e=>Q ⟨d,[]⟩ e) E s):af M A (evalArgs f J (backTo b (starEach a c)) []) Q E s:=by
 cases a with
 |nil=>
  exact ac (eh h (λd e F=>ac (ax (cJ (ac (ax (ac (ax (ax F)))))))) λF F x=>x)
 |cons e a=>
  rw[rP (mB.mp g).1]at h |-
  exact evalArgs_plain h
def m4{M:fz}{id:String}(d:es.any isStar=V)
  (h:af M A (spliced (backTo a (starEach es c))) (λe b=>af M A (call (.builtin id) (first++e)) Q E b) E s):af M A (callWith a (.builtin id) first (backTo a (starEach es c)) []) Q E s:=
 callWith_builtin (o8 d) (rR d h)
def vO{M:fz}(d:e.any isStar=V)
  (h:af M A (spliced (backTo a (starEach e c))) (λf b=>af M A (call (.type T) (first++f)) Q E b) E s):af M A (callWith a (.type T) first (backTo a (starEach e c)) []) Q E s:=
 abW (o8 d) (rR d h)
def rS{M:fz}(i:keepIn c f=J)(e:g.any isStar=V)
  (h:af M A (spliced (backTo b (starEach g d))) (λj a=>c.In a.heap/\af M A (call f (first++j)) Q E a) E s):af M A (callWith b f first (backTo b (starEach g d)) []) Q E s:=
 callWith_of (by rw[o8 e];rfl) (keeps_K i) (rR e h)
def iA(b:bK)(w:bM)(K:bg)(B:Heap)(n:Nat)(F:Call):Prop:=
 ∀(i:Nat) (P:d7) (a:aG),fnAt i=D P->FnAt B a P->∀(X:FC) (A:bQ) (g:Gh) (P:St) (s:ao) (S:List PV) (W:List ay) (Q:ay->ao->Prop) (E:ay->ao->Prop),
  FC.Ok B X->mU A X n->ah b w K B X g P s->aw g.Z g.ι s.heap S W->ae b w K B X VR g s (gY F (D i) S P) Q E->gO (model b w) A (.call (.ref a) ⟨W,[]⟩) (RQ Q E) s
def bt.o9(W:bt b w c B)(a:ah b w c B e g d s):c.In s.heap:=W.ds.keeps a.1
def jm{M:fz}(h:af M A (eval (.Name x p) a) (λf b=>af M A (callWith c f [] (backTo c (starEach d a)) []) Q E b) E s):
  af M A (eval (.Call (.Name x p) d [] c) a) Q E s:=ac h
def P2(W:bt b w c B)(C:iA b w c B n d)(X:AllX b w c B n d k)(m:FC.Ok B f)(j:aJ A f n)(a:ah b w c B f g e s)
  (q:f.cx.bL x=J)(r:lg x=D i)(h:ae b w c B f VR g s ((bd (cr d k f.cx l) λo=>gY d (D i) o) e) Q E):af (model b w) A (eval (.Call (.Name x p) l [] t) f.env) Q E s:=(W.3 x i r).elim λf F Z=>jm (o2 W m a q Z.1 (rS Z.4 (rQ (rel:=VR) h) (X.l _ m _ _ A g _ s _ _ j a (ae.bd h λF o F F F F S F K P=>⟨W.o9 F,(n9 (C i _ f Z.2 Z.3 _ A _ _ _ _ _ Q E m j.c F K P))⟩))))
def P4(a:aJ A c n):mU (A.under (.builtin "type.__call__" ⟨.ref C::b,d⟩)) c n:=by
 refine⟨a.1,a.2,?_,?_⟩
 .exact H1 (a.3)
 .exact H2 (a.4)
def P5(h:eF c=J):∃i,ig c "__init__"=D i:=by
 rcases(gq ..).mp h with e |e
 .have e:=bE.mp e;subst e;exact⟨61,by decide+kernel⟩
 .have e:=bE.mp e;subst e;exact⟨64,by decide+kernel⟩
def P6(W:bt b w j B)(C:iA b w j B n m)(k:FC.Ok B l)(p:aJ A l n)(a:ah b w j B l g d s)(o:eF c=J)(q:nsIn j mainGlobals c=D (D (.ref r)))
  (G:aw g.Z g.ι s.heap f i)(h:ae b w j B l VR g s (oy m c f d) Q E):af (model b w) A (call (.ref r) i) Q E s:=by
 have K:fY j c=D r:=by unfold fY;rw[q]
 have F:=W.2 c _ o K;obtain⟨i,n⟩:=P5 o;obtain⟨f,P,X⟩:=F.6 _ i n;obtain⟨m,m⟩:=a.fr k;refine(n9 (make_K m.1 (ip _ _) (W.o9 a) F.7 X.1 (bE.mp X.2) λx W u v F P S=>?_));haveI y:=(F _ (.head _)).1;haveI z:=(F _ (.tail _ (.head _))).1;haveI A:∀b Z,s.heap.get? b=D _->b≠l.env.locals->u.get? b=D Z:=λb Z q l=>by
  refine Mine.oe (B.get? b) (λZ=>?_) λo Z=>?_
  .exact(F _ (.tail _ (.tail _ (jY q Z l)))).1
  .
   haveI l:=a.1 b _ Z;replace l:=q▸l;rw[aE l];exact v.keep b _ Z
 have Z:=a.alloc (t:=s.toks) (la:=⟨x,W⟩) (o:=.inst c []) k m.2 (rz ((F _ (.head _)).2.1) ((F _ (.head _)).2.2) λq b=>i9 (P q b) S) (rz ((F _ (.tail _ (.head _))).2.1) ((F _ (.tail _ (.head _))).2.2) P) ⟨_,y⟩ ⟨_,z⟩ v A ⟨r,[],0,K,y,z,bf S,rfl⟩;haveI K:ae _ w j B _ _ g s ((bd _ λo=>bd _ _) _) Q E:=h;replace K:=n▸K;have F:al (g.push ⟨x,W⟩).Z (g.push ⟨x,W⟩).ι u (.loc d.objs.length) (.ref x):=by
  refine⟨⟨x,W⟩,?_,rfl⟩;rw[<- a.7,mw (aL _),qu];rfl
 haveI P:ae _ w j B _ _ _ _ (bd _ _ {d with objs:=d.objs++ [.inst c _]}) Q E:=ae.step K Z.1;haveI b:=ae.bd (rel₁:=VR) (Q₁:=λv c=>v=.none/\Q _ _) P (λr v K K K K P S W K=>by
  cases r with
  |none=>exact⟨W.jj,K.val k S (al.mono (P.mono Z.2.2) _ _ F)⟩
  |_=>exact K.elim)
 refine codeAny_mono (C i _ f X.4 X.5 _ _ _ _ _ _ _ _ _ k (P4 p) Z.2 (.cons F (aw.mono (Z.1.mono a.2) _ _ G)) b) λr c z=>?_;rcases r with e |(v |_ |_ |_) <;> exact z
def P7(W:bt b w c B)(C:iA b w c B n d)(X:AllX b w c B n d k)(l:FC.Ok B f)(i:aJ A f n)(a:ah b w c B f g e s)
  (q:f.cx.bL x=J)(m:eF x=J)(h:ae b w c B f VR g s ((bd (cr d k f.cx j) λo=>oy d x o) e) Q E):af (model b w) A (eval (.Call (.Name x p) j [] r) f.env) Q E s:=bi (W.8 x m) λF Z=>jm (o2 W l a q Z.1 (rS Z.2 (rQ (rel:=VR) h) (X.l _ l _ _ A g _ s _ _ i a (ae.bd h λF o F F F F S F K P=>⟨W.o9 F,(P6 W C l i F m Z.1 K P)⟩))))
def vP(W:bt b w d B)(X:AllX b w d B n i k)(q:FC.Ok B e){id:String}(j:aJ A e n)(a:ah b w d B e g c s)(r:e.cx.bL x=J)(t:(x,.builtin id)∈lu)
  (h:ae b w d B e VR g s (bd (cr i k e.cx f) m c) Q E)(u:∀l o g c s,ah b w d B e g c s->aw g.Z g.ι s.heap l o->ae b w d B e VR g s (m l c) Q E->af (model b w) A (call (.builtin id) o) Q E s):af (model b w) A (eval (.Call (.Name x p) f [] v) e.env) Q E s:=
 jm (jl W q a r t (m4 (rQ (rel:=VR) h) (X.l _ q _ _ A g _ s _ _ j a (ae.bd h λl o F F F F S F K P=>u _ _ _ _ _ F K P))))
def rU(W:bt b w d B)(X:AllX b w d B n i k)(q:FC.Ok B e){id:String}(j:aJ A e n)(a:ah b w d B e g c s)(r:e.cx.bL x=J)(t:(x,.type id)∈lu)
  (h:ae b w d B e VR g s (bd (cr i k e.cx f) m c) Q E)(u:∀l o g c s,ah b w d B e g c s->aw g.Z g.ι s.heap l o->ae b w d B e VR g s (m l c) Q E->af (model b w) A (call (.type id) o) Q E s):af (model b w) A (eval (.Call (.Name x p) f [] v) e.env) Q E s:=
 jm (jl W q a r t (vO (rQ (rel:=VR) h) (X.l _ q _ _ A g _ s _ _ j a (ae.bd h λl o F F F F S F K P=>u _ _ _ _ _ F K P))))
def m5{f:Str}{mt:Bool}(e:(f=="min")=V)(r:aw g.Z g.ι s.heap a i)(h:ae c w d B j VR g s (et mt f a b) Q E):E2 λa v=>A3 (i=[v]) (al g.Z g.ι s.heap a v) (ae c w d B j VR g s (jU mt f a b) Q E):=by
 unfold et at h;rw[iN (by rw[e];exact ei)]at h;exact fits_1 r h
def P8(W:bt a w e B)(X:AllX a w e B n o k)(i:FC.Ok B l){mt:Bool}(f:aJ A l n)(c:ah a w e B l g d s)
  (j:l.cx.bL x=J)(b:u4 x=J)(h:ae a w e B l VR g s (bd (cr o k l.cx m) (et mt x) d) Q E):af (model a w) A (eval (.Call (.Name x p) m [] q) l.env) Q E s:=by
 haveI b:=(gq ..).mp b;rcases b with b |e
 .refine dC ((gq ..).mp b) (λb=>?_) λe=>?_
  .rcases(gq ..).mp b with b |e
   .refine dC ((gq ..).mp b) (λb=>?_) λe=>?_
    .rcases(gq ..).mp b with b |e
     .rcases o0 b with rfl |rfl
      .exact vP (id:="len") W X i f c j zD h λF K g d s c r h=>by obtain⟨a,v,P⟩:=m5 (rfl) r h;rw[P.1];exact NU f i c P.2 (NO▸P.3)
      .exact rU (id:="tuple") W X i f c j zD h λF K g d s c r h=>by obtain⟨a,v,P⟩:=m5 (rfl) r h;rw[P.1];exact NW f i c P.2 (NP▸P.3)
     .clear b;clear b;cases bE.mp e;exact rU (id:="list") W X i f c j zD h λF K g d s c r h=>by obtain⟨a,v,P⟩:=m5 (rfl) r h;rw[P.1];exact NX f i c P.2 (NQ▸P.3)
    .cases bE.mp e;exact rU (id:="bytes") W X i f c j zD h λF K g d s c r h=>by obtain⟨a,v,P⟩:=m5 zD r h;rw[P.1];exact N8 f i c P.2 (NR▸P.3)
   .clear b;clear b;cases bE.mp e;exact rU (id:="int") W X i f c j zD h λF K g d s c r h=>by obtain⟨a,v,P⟩:=m5 zD r h;rw[P.1];exact N9 f i c P.2 (NS▸P.3)
  .cases bE.mp e;exact vP (id:="sum") W X i f c j zD h λF K g d s c r h=>by obtain⟨a,v,P⟩:=m5 zD r h;rw[P.1];exact NV f i c P.2 (NT▸P.3)
 .cases bE.mp e;exact vP (id:="min") W X i f c j zD h λF K g d s c r h=>by refine(fits_2 r h).elim λa b v u F=>?_;rw[F.1];exact NM f i c F.2 F.3 F.4
def BE(h:a.any isStar=V)(b:a.length<30):methodCallForm (a.length+0) (backTo pos (starEach a env)) (backToKw pos (keywordEach [] env))=J:=by
 unfold methodCallForm;haveI F:=o8 (env:=env) (pos:=pos) h;rw[de,de];refine⟨⟨?_,rfl⟩,?_⟩
 .rw[i1];intro x K;rw[GC]at F
  simpa using F x K
 .show decide (a.length+0+0<30)=J;simp;exact b
def P9(h:eo m o b=D r):∃f,r=(.ok f,b):=by
 have F:∀{c:Prop} [Decidable c] {a:Option _},(if c then rt a else aC) _=D r->∃f,r=(.ok f,b):=λh=>⟨_,(aE (rL h).2).symm⟩;cases o with
 |int i=>exact(F h)
 |bytes i=>exact(F h)
 |loc n=>
  obtain⟨x,K,h⟩:=m3 h;clear K;cases x with
  |inst c K=>obtain⟨_,K⟩:=m3 (rL h).2;exact⟨_,(aE K.2).symm⟩
  |dead=>cases h
  |list K=>exact(F h)
  |dict K=>exact(F h)
  |ck K=>exact(F h)
 |_=>cases h
def rV(e:m b=D (.ok a,c)):bd m f b=f a c:=by unfold bd;rw[e]
def BF(e:m a=I):bd m f a=I:=by unfold bd;rw[e]
def rW{M:fz}(d:(e.endLine==a.line)=J)(h:af M A (callWith a f first (backTo a (starEach c b)) []) Q E s):
  af M A (methodCallPos J o b e a >>=λF=>callWith F f first (backTo a (starEach c b)) (backToKw a (keywordEach [] b))) Q E s:=by
 rw[show methodCallPos J o ..=pure _ from iP d];exact ac (ax h)
def P_(W:bt b w i B)(C:iA b w i B n j)(X:AllX b w i B n j k)(q:FC.Ok B l)(c:aJ A l n)(a:ah b w i B l g d s)(t:(u.endLine==p.line)=J)(v:isCall o=V)
  (h:ae b w i B l VR g s ((bd (den j k l.cx o) λo=>bd (eo m o) λf=>bd (cr j k l.cx e) λr=>vc j m o r f) d) Q E):af (model b w) A (eval (.Call (.Attribute o m u) e [] p) l.env) Q E s:=by
 show af _ A (do
  let F <- GL o m _ _
  mr _
  GP o m _ _ _ _ ..) Q E s
 rw[BC v];refine ac (X.e _ q o A g d s _ _ c a (ae.bd h λa F h P j u S K S F=>ac (e7 ?_)));refine aH λG o=>?_;cases n:eo m a P with
 |none=>rw[BF n]at F;exact F.elim
 |some x=>
  obtain⟨Z,rfl⟩:=P9 n;replace F:=(rV n)▸F;obtain⟨s,a⟩:=vM (rel:=VR) F;refine o ?_;unfold GP;rw[BE s a];refine ac (cJ ?_);refine aH λG o=>?_;cases Z with
  |some i=>
   refine o ((O9 W.ds W.2 q K S n λf v Z w x=>rW t (rS Z s ?_)).2);refine X.l l q e p A h P j _ _ c K (ae.bd F λy r k a m u b Z d g=>⟨W.o9 Z,?_⟩);exact n9 (C i v f w x l A k a m _ _ Q E q c.c Z (.cons (al.mono (b.mono K.2) _ _ S) d) g)
  |none=>
   refine o ((O7 K S n (rW t (m4 s ?_))).2);refine X.l l q e p A h P j _ _ c K (ae.bd F λy r k a m u b Z d g=>?_);exact PB c q Z (al.mono (b.mono K.2) _ _ S) d g
def Qa{s:ao}{A:bQ}{E Q:ay->ao->Prop}{n:Nat}{M:fz} l(b:l<=1048576)(a:n<256^l)(h:Q (.int n s.toks) {s with toks:=s.toks+1}):af M A (GQ n) Q E s:=by
 unfold GQ;haveI F:¬((n:Int).natAbs.log2 >= bitsLine):=by
  haveI P:bitsLine=134217728:=by first |rfl |decide
  by_cases K:n=0
  .clear a h;subst K;decide
  .have e2:2^8=256:=rfl;exact H3 ((FZ K).mpr (by rw[GR,e2];exact a)) b P
 rw[iN F];exact wpAny_mkInt h
def Qb{s:ao}{A:bQ}{E:ay->ao->Prop}{M:fz}(c:b.length<=1048576)(h:P (.done (.ret (.int (ba b) s.toks))) {s with toks:=s.toks+1}):
  af M A (Builtin.«int.from_bytes» ⟨[.type "int",.bytes b.toArray t,.str (cy "big") u],[]⟩) P E s:=by
 haveI K:=by
  haveI S:=KFB.fold_lt b 0
  rwa[ee,Nat.one_mul]at S
 refine ac (ce KFB.type_int ?_);refine KFB.if_not rfl ?_;refine ac (ce F.conv_sub_int ?_);refine KFB.if_not rfl ?_;refine ac (ce (a:=[D (.bytes b.toArray t),D (.str (cy "big") u),I]) (by kernel_rfl) ?_);refine ac (ce (a:=cy "big") (by kernel_rfl) ?_);refine ac (ce rfl ?_);refine ac (ce (a:=V) (by kernel_rfl) ?_);refine ac (ce rfl ?_);show af _ _ (GQ _ >>=λv=>_) ..;rw[KFB.foldI_eq];refine ac (Qa b.length c K ?_);refine KFB.if_so zK ?_;exact ac (ax (ax h))
def Qc{Q:ay×List ay->ao->Prop}(W:bt c w f B)(a:ah c w f B j g i s)
  (e:mD f (.type "int") (.type "type") (cy "from_bytes")=D (.get (.builtin "classmethod_descriptor.__get__") (.builtin "int.from_bytes") .none (.type "int")))
  (k:FC.Ok B j)(h:∀x d b,aP j g s d b->ah c w f B j d i b->KFB.StandsAt x b.heap->x∉d.Z->Q (.ref x,[]) b):
  af (model c w) A (getMethod (.type "int") (cy "from_bytes") pl) Q E s:=by
 refine bi (a.fr k) λm P=>?_;refine KFB.getm P.1 (ip j.env.locals s.heap) W.ds e λx F W F K=>?_;haveI S:=a.rr (t:=s.toks+1) k P.2 W F (λp P=>.tail _ P);exact h x g _ S.1 S.2 (F _ (.head _)).1 λq=>by obtain⟨o,e⟩:=(a.4 _ q).2;rw[(rz (F _ (.head _)).2.1 (F _ (.head _)).2.2 K)]at e;exact Mine.z3 e
def Qd(W:bt b w e B)(X:AllX b w e B n l k)(j:FC.Ok B f)(m:aJ A f n)(a:ah b w e B f g c s)(o:(p.endLine==i.line)=J)(q:f.cx.bL "int"=J)
  (h:ae b w e B f VR g s (bd (cr l k f.cx d) rl c) Q E):af (model b w) A (eval (.Call (.Attribute (.Name "int" r) "from_bytes" p) d [] i) f.env) Q E s:=by
 have b:=vM (rel:=VR) h;refine ac (jl W j a q (v:=.type "int") zD (ac (e7 ?_)));unfold GP;rw[BE b.1 b.2];refine ac (cJ ?_);refine Qc (pl:=_) W a W.6 j λx F P S K W Z=>?_;refine rW o ?_;refine KFB.callWith_fields (o8 b.1) (rR b.1 ?_);refine X.l f j d i A F c P _ _ m K (ae.bd (rel₁:=oO) (h.step S) λF F F F F F P X S F=>⟨P.5 _ _ W λq=>Z (K.2 _ q),?_⟩);obtain⟨b,e,v,u,rfl,a,c,F⟩:=fits_2 S F;clear S;obtain⟨b,t,S⟩:=oT a F;obtain rfl:=S.1;haveI F:=S.3;obtain⟨e,u,S⟩:=fits_str c F;obtain rfl:=S.1;have F:=bG S.3;rw[bE.mp F.1.1];exact KFB.call_of (P.5 _ _ W λq=>Z (K.2 _ q)) (λz=>Qb F.1.2 z) (F.2.int j X)
def Qe(W:bt b w f B)(X:AllX b w f B n l k)(j:FC.Ok B d)(i:aJ A d n)(a:ah b w f B d g c s)(q:d.cx.bL "isinstance"=J)(m:d.cx.bL t=J)
  (r:t="list"\/t="bytes")(o:isStar e=V)(h:ae b w f B d VR g s ((bd (den l k d.cx e) λv=>ox v t) c) Q E):
  af (model b w) A (eval (.Call (.Name "isinstance" p) [e,.Name t x] [] u) d.env) Q E s:=by
 refine jm (jl W j a q (v:=.builtin "isinstance") zD (m4 (by simp only[Z3,List.any_nil,o];rfl) ?_));rw[rP o];refine mE (X.e d j e A g c s _ _ i a (ae.bd h λa F F F F F S F K P=>?_));clear h;rcases r with rfl |rfl
 .refine mE (jl W j F m (v:=.type "list") zD (n8 ?_));exact AK rfl i j F K P (.inl rfl)
 .refine mE (jl W j F m (v:=.type "bytes") zD (n8 ?_));exact AK rfl i j F K P (.inr rfl)
noncomputable def Gh.hide(g:Gh)(l:List aG):Gh:=⟨g.ι,g.Y,l++g.Z,l++g.P⟩
noncomputable def Gh.show(g:Gh)(P:List aG):Gh:=⟨g.ι,g.Y,g.Z,P⟩
def aP.show(S:aP a g s b c) P:aP a (g.show P) s (b.show P) c:=⟨S.1,S.2,rfl,S.4,S.5,S.6,S.7,S.8⟩
def ah.show(a:ah d w e B h g c s)(f:∀b∈P,b∈g.P):ah d w e B h (g.show P) c s:=
 ⟨a.1,a.2,λb F=>a.3 b (f b F),a.4,a.5,a.6,a.7,λn o F K P S=>by
  haveI F:=a.8 n o _ K P S;exact⟨F.1,F.2.1,F.2.2,F.2.3,F.2.4,F.2.5,F.2.6,λq=>F.2.7 (f _ q),λq=>F.2.8 (f _ q)⟩,a.9,a.10,a.11⟩
def ah.hide(k:FC.Ok B h)(a:ah e w j B h g c s)(f:∀b∈l,s.heap.get? b=I/\∃o,i.get? b=D o)(d:∀b o,s.heap.get? b=D o->i.get? b=D o):
  aP h g s ((g.hide l).show g.P) {s with heap:=i,toks:=t}/\ah e w j B h (g.hide l) c {s with heap:=i,toks:=t}:=by
 have S:=a.new (t:=t) k d;have P:∀b∈l++g.Z,b∈g.Z\/s.heap.get? b=I:=λb F=>(aZ.mp F).elim (λq=>.inr (f b q).1) .inl;have M:cL _ _ _ _ (g.hide l).ι _:=⟨P,λK K h=>h,λb o q K=>d b o q⟩;haveI Z:∀b∈g.Z,b∉l:=λb F q=>by obtain⟨o,e⟩:=(λb F=>(a.4 b F).2) b F;rw[(f b q).1]at e;exact Mine.z3 e
 refine⟨⟨P,λK K h=>h,rfl,λb F=>.inl F,λb o q K=>d b o q,λb o q=>⟨o,d b o q⟩,λb K o q=>⟨o.slots,d b o q⟩,i,t,rfl⟩,S.2.1,λb F=>bB _ (a.2 b F),λb F=>(aZ.mp F).elim (dc _) (λq=>bB _ (a.3 b q)),λb F=>?_,a.5,a.6,a.7,λn o P P W X=>?_,a.9,⟨a.10.1,?_⟩,S.2.11⟩
 .rcases aZ.mp F with q |q
  .exact⟨a.gC (f b q).1,(f b q).2⟩
  .exact S.2.4 b q
 .have F:=a.8 n o _ P W X;exact⟨F.1.mono M (λK q=>d _ _ q) (λK q=>d _ _ q),F.2.1,F.2.2,F.2.3,F.2.4,F.2.5,F.2.6,λq=>(aZ.mp q).elim (Z _ (a.2 _ F.2.1)) F.2.7,λq=>(aZ.mp q).elim (Z _ (a.2 _ F.2.2)) F.2.8⟩
 .obtain⟨m,K⟩:=a.10.2;refine⟨m,?_,λi x k p P W X=>(K.2 i x k p P W X).mono M λc v q r=>?_⟩
  .obtain⟨F,P⟩:=K.1;obtain⟨S,W⟩:=P;obtain⟨P,K⟩:=W;exact⟨F,S,P,d _ _ K.1,K.2⟩
  .obtain⟨F,K⟩:=r;exact⟨F,d _ _ K.1,K.2⟩
def ae.BG{Q:q->ao->Prop}(p:∀b∈P,b∈g.P)
  (h:ae i w n B o l (g.show P) s (Mine.bd m f j) Q E)
  (k:∀a b e c d,m j=D (.ok a,c)->aP o g s e d->ah i w n B o e c d->rel₁ e d.heap a b->ae i w n B o l (e.show P) d (f a c) Q E->Q₁ b d):
  ae i w n B o rel₁ g s (m j) Q₁ E:=by
 unfold Mine.bd at h;cases K:m _ with
 |none=>replace h:=K▸h;exact h
 |some r=>
  obtain⟨r,c⟩:=r;rw[K]at h;cases r with
  |ok a=>exactλb S W x F q=>k a b _ _ _ K x F q (ae.step h (x.show P))
  |error x=>exactλe S W S F q=>h e _ _ (S.show P) (F.show λb F=>by rw[S.3];exact p b F) q
def ae.noted{Q:j->ao->Prop}(i:FC.Ok B b)(c:aJ A b n)(d:b.env=b.cf)
  (h:ae a w e B b f g s r Q E):ae a w e B b f g s r Q (fQ (model a w) A b.env (i4 (model a w) k b.env E)):=by
 unfold ae at h |-
 split at h
 .exact h
 .exact h
 .exactλe F F S F q=>AU i c.1 F q d λF F F K P=>h e _ _ (S.trans F) K P
inductive Src(c:bK)(w:bM)(A:bQ)(a:aG)(g wr:List aG)(j e:List PV)(d:List ay)(f:Bool)(St:Nat->Heap->Prop):Prop |mk
 (F:∀b∈wr,b∈g)
 (F:∀i h K,St i h->(∀b∈g,∀o,h.get? b=D o->K.get? b=D o)->St i K)
 (F:∀i h,St i h->∀b∈wr,∃o,h.get? b=D o)
 (F:∀(F:aA) (i:Nat) (x:PV) (s:ao) (Q:ay->ao->Prop) (E:ay->ao->Prop),(f=J->ii F=J)->j[i]?=D x->St i s.heap->(∀v K S,St (i+1) K->(∀b o,b∉wr->s.heap.get? b=D o->K.get? b=D o)->(∀Z P,(∀b∈Z,∃o,s.heap.get? b=D o)->aw Z P K e d->al Z P K x v)->Q v {s with heap:=K,toks:=S})->af (model c w) A (pyNext (.ref a)) (λr P=>match r with |none=>False |some v=>af (model c w) A (letOwnedTupleGo F (.ref a) v) (λF F=>Q v F) E P) E s)
 (done:∀(s:ao) (Q:ao->Prop) (E:ay->ao->Prop),St j.length s.heap->(∀K S,(∀b o,b∉wr->s.heap.get? b=D o->K.get? b=D o)->Q {s with heap:=K,toks:=S})->af (model c w) A (pyNext (.ref a)) (λr P=>r=I/\Q P) E s)
 (F:∀i (s:ao) (Q:ay->ao->Prop) (E:ay->ao->Prop),St i s.heap->Q (.ref a) s->af (model c w) A (pyIter (.ref a)) Q E s)
noncomputable def BH:List String:=["enumerate","zip","dict_itemiterator","dict_reverseitemiterator","odict_iterator","itertools.zip_longest","itertools.pairwise"]
def Qf{M:fz}(c:s.heap.get? a=D o)(d:o.cls=.type T)(e:BH.contains T=V)(h:Q () s):
  af M A (letOwnedTupleGo b (.ref a) v) Q E s:=by
 have K:af M A (letOwnedTupleGo (.Tuple [] 0 default) (.ref a) v) Q E s:=by
  cases v with
  |ref a=>
   refine ac (yF c ?_);rw[d];generalize o.data=F;cases F with
   |fields F=>exact iteInduction (motive:=λm=>af M A m Q E s) (λq=>z2 ((cH.mp q).1.symm.trans e)) λF=>ax h
   |_=>exact ax h
  |_=>exact ax h
 induction b using MW with
 |tup e q=>rw[q];exact K
 |no e q=>rw[q];exact ax h
def rX{St:Nat->Heap->Prop}(W:Walks d w A a k [a] g.length P St)
  (j:∀i h,St i h->E2 λo T=>A3 (h.get? a=D o) (o.cls=.type T) (BH.contains T=V))
  (l:∀i x v c Z f,P i v->g[i]?=D x->aw Z f c e b->al Z f c x v):Src d w A a k [a] g e b V St:=.mk
 W.sub
 W.frame
 (λi h F b K=>by
  obtain⟨o,T,P⟩:=j i h F;rw[bq.mp K];exact⟨o,P.1⟩)
 (λK i x s Q E d b F P=>by
  refine W.item i s _ E (cQ.mp b).1 F λv c S e K X=>?_;obtain⟨o,T,a⟩:=j _ _ K;exact Qf a.1 a.2 a.3 (P v c S K X λZ f d r=>l i x v c Z f e b r))
 (λs Q E F P=>W.done s _ E F λc S X=>⟨rfl,P c S X⟩)
 W.self
def src_list(c:A.handled=I) I l(b:l≠I) xs items(a:items.length=xs.length):
  Src prog w A I [I,l] [I] xs xs items V (λi h=>h.IsListIter I l i/\h.IsList l items.toArray):=by
 haveI W:=Walks.list (prog:=prog) (w:=w) c I l b items.toArray;rw[cS,a]at W;refine rX W (λi h K=>?_) λi x v F Z F F P r=>?_
 .exact K.1.elim λo K=>⟨o,_,K.1,K.2.1,rfl⟩
 .obtain⟨K,K⟩:=r.get P;replace F:=K.1▸jE▸F;exact(aE F)▸K.2
def src_tuple(c:A.handled=I) I l(b:l≠I) xs items(a:items.length=xs.length):
  Src prog w A I [I,l] [I] xs xs items V (λi h=>h.IsTupleIter I l i/\h.IsTuple l items.toArray):=by
 haveI W:=Walks.tuple (prog:=prog) (w:=w) c I l b items.toArray;rw[cS,a]at W;refine rX W (λi h K=>?_) λi x v F Z F F P r=>?_
 .exact K.1.elim λo K=>⟨o,_,K.1,K.2.1,rfl⟩
 .obtain⟨K,K⟩:=r.get P;replace F:=K.1▸jE▸F;exact(aE F)▸K.2
def Qg(a:A.handled=I) I(b:List _) t:
  Src prog w A I [I] [I] (b.map d5) [] [] V (λi h=>KBw.IsBytesIter h I b.toArray t i):=by
 haveI W:=KBw.walks (prog:=prog) (w:=w) a I b.toArray t;haveI e:b.toArray.size=(b.map d5).length:=by simp
 rw[e]at W;refine rX W (λi h K=>?_) λi x v F Z F P F r=>?_
 .exact K.elim λo K=>⟨o,_,K.1,K.2.1,rfl⟩
 .obtain⟨c,u,K,rfl⟩:=P;replace K:=jE▸K;replace F:=K▸dG▸F;rw[<- aE F];exact⟨u,rfl⟩
def src_range(d:A.handled=I) I a c xs(e:∀(i:Nat) x,xs[i]?=D x->x=PV.int (a+i*c)):
  Src b w A I [I] [I] xs [] [] V (λi h=>IsRangeIter h I (a+i*c) (xs.length - i) c):=by
 refine rX (Walks.range d I a c _) (λi h K=>?_) λi x v F Z F P F r=>?_
 .exact⟨_,"range_iterator",K,rfl,rfl⟩
 .obtain⟨t,rfl⟩:=P;rw[e i x F];exact⟨t,rfl⟩
section
open PySem.AutoSeq1 (wpAny_loadPart')
def Qh(a:s.heap.IsTupleIter c t i)
  (f:s.heap.IsTuple t b)(g:b[i]?=D x)
  (h:∀d,d.IsTupleIter c t (i+1)->h8 c s.heap d->Q x {s with heap:=d}):
  af (model e w) A (aas (.ref c)) Q E s:=by
 refine bi (id a) λo K=>f.elim λP S=>?_;obtain⟨P,P⟩:=S.2.2;refine(ac (qD a.typeIs yG
  (gP yG a.typeIs aat ?_ (aau _))))
 show af _ _ (field _ 0 >>=_) _ _ s;refine ac (eg K.1 K.2.2 (x:=.ref t) rfl (ac (eg K.1 K.2.2 (x:=.int i 0) rfl (ac (ux S.1 P ?_)))));simp only[e0,g];exact ac (qB K.1 K.2.2 zS (ax ⟨x,rfl,ax (h _ ⟨_,hZ _ K.1 (ur (mA K.2.2 _)),(Gj ..).trans K.2.1,by
  rw[mA K.2.2];rfl⟩ (kY ..))⟩))
def Qi(d:A.handled=I)
  (a:s.heap.IsTupleIter f t i)(h:s.heap.IsTuple t b)(j:b[i]?=I)
  (k:∀c e,aav f s.heap c->(∃o,c.get? e=D o/\o.cls=.type "StopIteration")->E (.ref e) {s with heap:=c}):af (model g w) A (aas (.ref f)) Q E s:=by
 refine bi (id a) λo K=>?_;refine h.elim λP S=>?_;obtain⟨P,P⟩:=S.2.2;refine(ac (qD a.typeIs yG
  (gP yG a.typeIs aat ?_ (aau _))))
 show af _ _ (field _ 0 >>=_) _ _ s;refine ac (eg K.1 K.2.2 (x:=.ref t) rfl ?_);refine ac (eg K.1 K.2.2 rfl ?_);refine ac (ux S.1 P ?_);simp only[e0,j];refine ac (hX (ac (qB K.1 K.2.2 zS ?_)));refine ac ?_;refine ac (fO ?_ (by size_fits));refine ac (ce (by first |rfl |(rfl)) ?_);refine fO ?_ (by size_fits);refine ac (GS ?_)
 first |exact d |rw[d]
 refine ac (ax (GU ?_));exact k _ _ (((kY ..).extBut.push _).push _) ⟨_,cI _ rfl,rfl⟩
def Qj(b:A.handled=I) it l(a:l≠it) items:
  Draws prog w A it [it,l] items.size (λi v=>items[i]?=D v) (λi h=>h.IsTupleIter it l i/\h.IsTuple l items) where
 live:=λK K F=>(F.1).elim λo P=>⟨o,P.1⟩
 frame:=λK K K F K=>⟨F.1.at (K _ zS),F.2.at (K l zS)⟩
 item:=λi s Q E S F W=>Qh F.1 F.2 (x:=items[i]) (by simp[S]) λK K P=>W _ _ _ (by simp[S]) ⟨K,F.2.extBut P.extBut a⟩ P
 done:=λs Q E F K=>Qi b F.1 F.2 zS K
def Qk{M:fz}{f:List _->Bool}(h:∀b,Q b s):af M A stack (λa F=>af M A (pure (f a)) Q E F) E s:=wpAny_stack_any λF=>ax (h _)
set_option tactic.hygienic true in
def Ql l items n Qm sl:
  kQ (Builtin.«enumerate.__new__» ⟨[.type "enumerate",.ref l],[]⟩) (λF R s=>s.heap.get? l=D {cls:=.type "tuple",dict:=Qm,data:=.seq items n,slots:=sl}/\
   R (.ok (.ret (.ref (s.heap.push {cls:=.type "tuple_iterator",data:=.fields #[.ref l,.int 0 0]}).objs.size)))
    {s with heap:=(s.heap.push {cls:=.type "tuple_iterator",data:=.fields #[.ref l,.int 0 0]}).push {cls:=.type "enumerate",data:=.fields #[.none,.bool V,.ref s.heap.objs.size,eC 0,.none,.none]}}):=
 .of_wp λF w A R s h=>by
  obtain⟨K,g,d,P,S⟩:=s;haveI F:=sub_enumerate;haveI F:Heap.IsTuple (Shared.heap ⟨K,g,d,P,S⟩) l items:=⟨_,h.1,rfl,n,rfl⟩
  wp_walk using GV h.1
  refine Qk λb=>?_;cases b
  .wp_walk using GV h.1,GW F
   exact⟨_,rfl,h.2⟩
  .wp_walk using GV h.1,GW F
   exact⟨_,rfl,h.2⟩
def Qn(e:s.heap.IsTuple l c)
  (h:∀a,IsEnum a (s.heap.objs.size+1) s.heap.objs.size 0 .none->a.IsTupleIter s.heap.objs.size l 0->a.objs.size=s.heap.objs.size+2->
   (∀b o,s.heap.get? b=D o->a.get? b=D o)->Q (.ref (s.heap.objs.size+1)) {s with heap:=a}):
  af (model d w) A (call (.type "enumerate") [.ref l]) Q E s:=by
 refine aH λG K=>?_;obtain⟨⟨c,P,P,P⟩,P,S,n,W⟩:=e;subst S W;refine K (callType_new F.called_enumerate rfl (F.typeCall_enumerate_1 _) (F.newCall_enumerate_1 _) (λK=>ZM ..) F.entry_enumerate_new
  (Ql l _ n _ _) ⟨P,?_⟩)
 haveI K:(s.heap.push {cls:=.type "tuple_iterator",data:=.fields #[.ref l,.int 0 0]}).objs.size=s.heap.objs.size+1:=kX ..;rw[K];haveI P:=by
  have:=cI (s.heap.push {cls:=.type "tuple_iterator",data:=.fields #[.ref l,.int 0 0]})
   (o:={cls:=.type "enumerate",data:=.fields #[.none,.bool V,.ref s.heap.objs.size,eC 0,.none,.none]}) rfl
  exact K▸this
 refine⟨⟨_,P,rfl⟩,h _ P ⟨_,bA _ (cI _ rfl),rfl,rfl⟩ (by rw[kX,K]) λb o x=>bA _ (bA _ x)⟩
def Qo xs:∀k (i:Nat) x,(jT xs k)[i]?=D x->∃y,xs[i]?=D y/\x=.tup [.int (k+i),y]:=by
 induction xs with
 |nil=>exactλk i x h=>z3 (yi.symm.trans h)
 |cons y r F=>
  refineλk i x=>?_;cases i with
  |zero=>exactλh=>⟨y,rfl,(aE h).symm.trans (cA (λa=>PV.tup [.int a,y]) (iX k).symm)⟩
  |succ i=>exactλh=>(F _ i x h).elim λz q=>⟨z,q.1,q.2.trans (cA (λa=>PV.tup [.int a,z]) H4)⟩
def vQ xs:∀k:Int,(jT xs k).length=xs.length:=by
 induction xs with
 |nil=>exactλF=>rfl
 |cons x r F=>exactλk=>cA uz (F _)
def BI{St:Nat->Heap->Prop}(h:b.length=f.length)
  (a:Draws c w A.in1 d g f.length (λi v=>b.toArray[i]?=D v) St)(j:e≠d)(k:e∉g)(l:d∈g):
  Src c w A e (e::g) [e,d] (jT f 0) f b J (λi h=>(∃K,IsEnum h e d i K)/\St i h):=by
 have W:=WalksT.enumerateD a e j k l;refine⟨W.sub,W.frame,λi h P b S=>?_,λF i x s Q E d X P c=>?_,λs Q E P c=>?_,W.self⟩
 .refine Mine.me S ?_ λS=>?_
  .obtain⟨⟨K,q⟩,_⟩:=P;exact⟨_,q⟩
  .rw[bq.mp S];exact a.live i h P.2
 .obtain⟨y,e,rfl⟩:=Qo _ 0 i x X;obtain⟨K,Z,X,rfl⟩:E3 λK Z X=>F=.Tuple K Z X:=by
   cases F <;> first |exact⟨_,_,_,rfl⟩ |cases (d rfl)
  refine W.item i s _ E ((cQ.mp e).1) P λT F g f Z h X F d=>?_;refine aH λG a=>?_;obtain⟨t,v,K,rfl⟩:=Z;refine a (W.go _ _ _ i T _ _ E F λZ Z a=>?_);refine c _ _ f Z (λb o S q=>a b o S (d b o S q)) λZ S Z r=>?_;obtain⟨S,S⟩:=r.get e;replace K:=S.1▸jE▸K;obtain rfl:=aE K;refine X.elim λX K=>?_;refine(al.el ⟨X,a _ _ (W.apart _ _ _ F) K.1,K.2⟩ (λq=>?_) ?_ (by unfold aI;simp))
  .obtain⟨o,z⟩:=Z T q;exact((ar.mpr h) (ca z)).elim
  .refine .cons ?_ (.one S.2);exact⟨t,by simp⟩
 .rw[vQ]at P;exact W.done s _ E P λg f d=>⟨rfl,c _ _ d⟩
end
def Qp a b c(_:c=1\/c=2\/c= -1):0<=iZ a b c:=by
 have K:∀{x y:Int},x<y->0<=y - x - 1:=λh=>Int.sub_nonneg_of_le (Int.le_sub_left_of_add_le h);exact iteInduction (λF=>iteInduction (λh=>x7 (aaw (K h) (qo F)) zD) λP=>uc 0) λF=>iteInduction (λh=>x7 (aaw (K h) (Int.neg_nonneg_of_nonpos (aK.mp F))) zD) λP=>uc 0
def BJ(h:fV a b c=D d):
  A6 (∀(i:Nat) x,d[i]?=D x->x=PV.int (a+i*c)) (d.length=iZ a b c) (Builtin.Range.small a b c=J) (c≠0) (d.length<=aI) (c=1\/c=2\/c= -1):=by
 unfold fV at h;by_cases F:(-16777216<=a/\a<=16777216)/\((-16777216<=b/\b<=16777216)/\((c=1\/c=2\/c= -1)/\(iZ a b c).toNat<=aI))
 .replace h:=(iP F)▸h;haveI P:=Qp a b c F.2.2.1;haveI S:d.length=(iZ a b c).toNat:=by rw[<- aE h,bN,aax]
  refine⟨λi x K=>?_,by rw[S,jz P],?_,H5 F.2.2.1,by rw[S];exact F.2.2.2,F.2.2.1⟩
  .replace K:=dG▸(aE h)▸K;obtain⟨j,q,rfl⟩:=dS.mp K;obtain⟨_,q⟩:=cQ.mp q;rw[<- q,List.getElem_range]
  .haveI f:∀i:Int, -100000000<=i->i<=100000000->yH i=J:=λi K S=>by
    unfold yH;rw[dT (H6 K),dT (nY S zD)];rfl
   unfold Builtin.Range.small;rw[show(if c > 0 then yH _ else yH _)=J by split <;> exact f _ (by(first |exact H7 F.2.1.1 zA |exact H9 F.2.1.1 F.2.2.1)) (by(first |exact H8 F.2.2.1 F.2.1.2 |exact H_ F.2.1.2 zA)),
    f a (zk F.1.1) (gk F.1.2 zD),f b (zk F.2.1.1) (gk F.2.1.2 zD),f c (H' F.2.2.1) (Ia F.2.2.1),f _ (gk (ql zD) P) (Ib F.2.2.2),qM]
   rfl
 .replace h:=(iN F)▸h;exact Mine.z3 h
inductive Ready(a:bK)(w:bM)(K:bg)(B:Heap)(A:bQ)(f:FC)(g:Gh)(s:ao)(b:St)(j:ao)(h:List PV)(c:Bool)(v:ay):Prop where
 |mk (F:aG) (i wr:List aG) (Z:List PV) (X:List ay) (d:Bool) (St:Nat->Heap->Prop) (W:Gh) (P:ao) (e:Heap) (t:Nat) (S:v=.ref F) (S:Src a w A F i wr h Z X d St) (F:j={P with heap:=e,toks:=t}) (F:St 0 e)
  (S:aP f g s W P) (F:ah a w K B f W b P) (F:∀b∈wr,P.heap.get? b=I/\∃o,e.get? b=D o) (F:∀b o,P.heap.get? b=D o->e.get? b=D o)
  (F:∀b∈i,b∈wr\/(b∉W.Z/\∃o,P.heap.get? b=D o)) (F:aw W.Z W.ι P.heap Z X) (F:h.length<=aI) (F:d=J->c=J)
def m6{d:Gh}{f:St}{c:ao}(L:FC.Ok B p)(S:aP p g s d c)(l:ah i w q B p d f c){m:Heap}{t:Nat}{a:aG}{r n:List _}{u h:List _}{e:List _}{k j:Bool}{St:Nat->Heap->Prop}
  (v:Src i w A a r n u h e k St)(x:St 0 m)(z:∀b∈n,c.heap.get? b=I/\∃o,m.get? b=D o)(C:∀b o,c.heap.get? b=D o->m.get? b=D o)
  (y:∀b∈r,b∈n\/(b∉d.Z/\∃o,c.heap.get? b=D o))(E:aw d.Z d.ι c.heap h e)(G:u.length<=aI)(H:k=J->j=J):
  Ready i w q B A p g s f {c with heap:=m,toks:=t} u j (.ref a):=
 ⟨a,r,n,h,e,k,St,d,c,m,t,rfl,v,rfl,x,S,l,z,C,y,E,G,H⟩
def cV(a:bK)(w:bM)(K:bg)(B:Heap)(A:bQ)(c:FC)(g:Gh)(s:ao)(b:Bool)(r:Option (Except Exc It×St))(Q E:ay->ao->Prop):Prop:=
 match r with
 |none=>False
 |some (.ok (.seq xs),st')=>∀v F,Ready a w K B A c g s st' F xs b v->Q v F
 |some (.error x,st')=>∀e P F,aP c g s P F->ah a w K B c P st' F->io K B c P F.heap x e->E (.ref e) F
def cV.bd(h:cV e w l B A o g s n (Mine.bd m f i) Q E)
  (k:∀a b j c d,m i=D (.ok a,c)->aP o g s j d->ah e w l B o j c d->rel₁ j d.heap a b->cV e w l B A o g s n (f a c) Q E->Q₁ b d):ae e w l B o rel₁ g s (m i) Q₁ E:=by
 unfold Mine.bd at h;cases K:m _ with
 |none=>replace h:=K▸h;exact h
 |some r=>
  obtain⟨r,c⟩:=r;rw[K]at h;cases r with
  |ok a=>exactλb F F x F q=>k a b _ _ _ K x F q h
  |error x=>exact h
def BK(h:cV c w e B A i g s d (a_ v f b) Q E):∃a,v=D a/\cV c w e B A i g s d (f a b) Q E:=by
 cases v with
 |some a=>exact⟨a,rfl,h⟩
 |none=>exact h.elim
def vR(h:cV c w e B A i g s d (jP l f b) Q E):E2 λa r=>l=a::r/\cV c w e B A i g s d (f a r b) Q E:=by
 cases l with
 |cons a r=>exact⟨a,r,rfl,h⟩
 |nil=>exact h.elim
def vS(h:cV b w d B A e g s c (gW l m a) Q E):l=[]/\cV b w d B A e g s c (m a) Q E:=by
 cases l with
 |cons a r=>exact h.elim
 |nil=>exact⟨rfl,h⟩
def vT{g:Gh}{s:ao}(r:al g.Z g.ι s.heap v e)(h:cV b w d B A j k l c (cZ v f a) Q E):E2 λi t=>e=.int i t/\cV b w d B A j k l c (f i a) Q E:=bi (BK h) λi F=>bi (al.toInt (jN F.1▸r)) λt K=>⟨i,t,K,F.2⟩
def BL(h:cV e w i B A j g s f (jM ((fV a b c).map .seq) d) Q E):∃F,fV a b c=D F/\cV e w i B A j g s f (D (.ok (.seq F),d)) Q E:=by
 cases K:fV a b c with
 |none=>rw[K]at h;exact h.elim
 |some F=>rw[K]at h;exact⟨F,rfl,h⟩
def BM(h:cV c w e B A i g s d (bd (cr j k i.cx a) f b) Q E):a.any isStar=V:=by
 by_cases q:a.any isStar=J\/30<=a.length
 .unfold Mine.bd at h;rw[BA q]at h;exact h.elim
 .simpa using (not_or.mp q).1
def fresh_ne{h:Heap}(q:h.get? b=D o):b≠h.objs.size:=dB (ca q)
def Qq(f:aJ A j n)(k:FC.Ok B j)(S:aP j g s b c)(d:ah e w l B j b i c)(r:al b.Z b.ι c.heap a o)
  (h:cV e w l B A j g s m (oC a i) Q E):af (model e w) A (pyIter o) Q E c:=by
 cases a with
 |tup g=>
  obtain⟨i,j,rfl,l,P,W,m⟩:=r.dr;obtain⟨o,K,X,Z,a⟩:=l;refine GW ⟨o,K,X,Z,a⟩ (h _ _ ?_);refine m6 k S d (src_tuple f.2 c.heap.objs.size i (fresh_ne K) g j W.length) ⟨⟨_,cI _ rfl,rfl,rfl⟩,⟨o,bA _ K,X,Z,a⟩⟩
   (λb F=>?_) (λb o q=>bA _ q) (λb F=>?_) W m (λe=>Mine.z1 e)
  .rw[bq.mp F];exact⟨fZ _,_,cI _ rfl⟩
  .rcases bD.mp F with rfl |F
   .exact .inl (.head _)
   .rw[bq.mp F];exact .inr ⟨P,o,K⟩
 |U g=>
  obtain⟨i,j,rfl,l,P,W,m⟩:=r.mV;obtain⟨o,K,X,Z,a⟩:=l;refine wpAny_pyIter_list ⟨o,K,X,Z,a⟩ (h _ _ ?_);refine m6 k S d (src_list f.2 c.heap.objs.size i (fresh_ne K) g j W.length) ⟨⟨_,cI _ rfl,rfl,rfl⟩,⟨o,bA _ K,X,Z,a⟩⟩
   (λb F=>?_) (λb o q=>bA _ q) (λb F=>?_) W m (λe=>Mine.z1 e)
  .rw[bq.mp F];exact⟨fZ _,_,cI _ rfl⟩
  .rcases bD.mp F with rfl |F
   .exact .inl (.head _)
   .rw[bq.mp F];exact .inr ⟨P,o,K⟩
 |bytes b=>
  obtain⟨t,rfl⟩:=r.toBytes;refine KBw.pyIter_bytes (h _ _ ?_);refine m6 k S d (Qg f.2 c.heap.objs.size b t) ⟨_,cI _ rfl,rfl,rfl⟩ (λb F=>?_) (λb o q=>bA _ q) (λb F=>.inl F) .nil (by rw[bN];exact r.oR) (λe=>Mine.z1 e);rw[bq.mp F];exact⟨fZ _,_,cI _ rfl⟩
 |_=>exact h.elim
def BN(m:aJ A l n)(x:FC.Ok B l)(S:aP l g s j d)(k:ah f w p B l j i d)
  (y:fV a b c=D z)(C:IsRange e r a b c t u v)(G:∀b o,d.heap.get? b=D o->e.get? b=D o)(H:d.heap.objs.size<=e.objs.size)
  (h:cV f w p B A l g s q (D (.ok (.seq z),i)) Q E):af (model f w) A (pyIter (.ref r)) Q E {d with heap:=e,toks:=L}:=by
 haveI F:=BJ y;refine wpAny_pyIter_range C F.3 (h _ _ ?_);haveI P:d.heap.get? _=I:=by
  cases q:d.heap.get? _ with
  |none=>rfl
  |some o=>exact((ar.mpr H) (ca q)).elim
 refine m6 x S k (src_range m.2 _ a c _ F.1) ?_ (λb K=>?_) (λb o q=>bA _ (G b o q)) (λb K=>.inl K) .nil F.5 Mine.z1
 .show Heap.get? ..=_;rw[cI _ rfl,<- F.2];simp
 .rw[bq.mp K];exact⟨P,_,cI _ rfl⟩
def BO(l:aJ A f n)(C:FC.Ok B f)(S:aP f g s b c)(d:ah prog w i B f b e c)(r:al b.Z b.ι c.heap a j)
  (m:a=.tup v\/a=.U v)(h:cV prog w i B A f g s J (D (.ok (.seq (jT v 0)),e)) Q E):af (model prog w) A (call (.type "enumerate") [j]) (λx F=>af (model prog w) A (pyIter x) Q E F) E c:=by
 refine aH λG E=>?_;haveI W:∀(k:Heap),k.objs.size=c.heap.objs.size+2->c.heap.get? _=I:=λk G=>by
  cases q:c.heap.get? _ with
  |none=>rfl
  |some o=>exact aB (ca q) (ar.mpr (fy _))
 rcases m with rfl |rfl
 .obtain⟨x,m,rfl,y,Z,a,z⟩:=r.dr;obtain⟨o,X,n,p,s⟩:=y;refine E (Qn ⟨o,X,n,p,s⟩ λk f t g u=>?_);refine aay f (h _ _ ?_);have i:=u _ _ X;have P:=ca X;have F:=Qj (prog:=prog) (w:=w) (A:=A.in1) l.2 c.heap.objs.size x (dB P) m.toArray;have e:m.toArray.size=v.length:=by rw[cS,a.length]
  rw[e]at F;refine m6 C S d (BI a.length F (uA _) (λq=>?_) (.head _)) ⟨⟨_,f⟩,t,o,i,n,p,s⟩ (λb K=>?_) u (λb K=>?_) a (by rw[vQ];exact z) (λG=>rfl)
  .rcases bD.mp q with q |q
   .exact uA _ q
   .have:=bq.mp q;rw[<- this]at P;exact aB P (ar.mpr (fy _))
  .rcases bD.mp K with rfl |K
   .exact⟨W k g,_,f⟩
   .rw[bq.mp K];obtain⟨B,j,_⟩:=t;exact⟨fZ _,B,j⟩
  .rcases bD.mp K with rfl |K
   .exact .inl (.head _)
   .rcases bD.mp K with rfl |K
    .exact .inl (.tail _ (.head _))
    .rw[bq.mp K];exact .inr ⟨Z,o,X⟩
 .obtain⟨x,m,rfl,y,Z,a,z⟩:=r.mV;obtain⟨o,X,n,p,s⟩:=y;refine E (call_enumerate_list ⟨o,X,n,p,s⟩ λk f t g u=>?_);refine aay f (h _ _ ?_);have i:=u _ _ X;have P:=ca X;have F:=Draws.list (prog:=prog) (w:=w) (A:=A.in1) l.2 c.heap.objs.size x (dB P) m.toArray;have e:m.toArray.size=v.length:=by rw[cS,a.length]
  rw[e]at F;refine m6 C S d (BI a.length F (uA _) (λq=>?_) (.head _)) ⟨⟨_,f⟩,t,o,i,n,p,s⟩ (λb K=>?_) u (λb K=>?_) a (by rw[vQ];exact z) (λG=>rfl)
  .rcases bD.mp q with q |q
   .exact uA _ q
   .have:=bq.mp q;rw[<- this]at P;exact aB P (ar.mpr (fy _))
  .rcases bD.mp K with rfl |K
   .exact⟨W k g,_,f⟩
   .rw[bq.mp K];obtain⟨B,j,_⟩:=t;exact⟨fZ _,B,j⟩
  .rcases bD.mp K with rfl |K
   .exact .inl (.head _)
   .rcases bD.mp K with rfl |K
    .exact .inl (.tail _ (.head _))
    .rw[bq.mp K];exact .inr ⟨Z,o,X⟩
def Qr(f:aJ A i n)(l:FC.Ok B i)(S:aP i g s b a)(d:ah c w k B i b e a)(r:aw b.Z b.ι a.heap j o)
  (h:cV c w k B A i g s m (jV j e) Q E):af (model c w) A (call (.type "range") o) (λx a=>af (model c w) A (pyIter x) Q E a) E a:=by
 obtain⟨a,j,rfl,P⟩:=vR h;obtain⟨v,F,rfl,W,F⟩:=r.il;clear r;obtain⟨i,t,rfl,K⟩:=vT W P;clear P h;cases j with
 |nil=>
  rw[F.jW];obtain⟨W,P⟩:=BL K;exact call_range_1 (BN f l S d P.1 (cI _ rfl) (λb o q=>bA _ q) (by rw[kX];exact fy _) P.2)
 |cons b j=>
  obtain⟨P,P,rfl,X,P⟩:=F.il;clear F;obtain⟨c,_,rfl,F⟩:=vR K;clear K;obtain⟨rfl,K⟩:=vS F;obtain⟨F,F,rfl,F,Z⟩:=P.il;rw[Z.jW];obtain⟨j,u,rfl,Z⟩:=vT X K;clear P;obtain⟨k,K,rfl,K⟩:=vT F Z;obtain⟨W,F,P⟩:=BL K;haveI K:=BJ F;refine call_range_3 K.4 (BN f l S d F (cI _ rfl) (λb o q=>bA _ q) (by rw[kX];exact fy _) P) ?_;rcases K.6 with rfl |rfl |rfl <;> exact .inl (PyProof.noPylong_small (cG ..))
def Qs(f:aJ A i n)(k:FC.Ok B i)(S:aP i g s b a)(d:ah c w j B i b e a)(r:aw b.Z b.ι a.heap l m)
  (h:cV c w j B A i g s J (vd l e) Q E):af (model c w) A (call (.type "enumerate") m) (λx a=>af (model c w) A (pyIter x) Q E a) E a:=by
 refine aH λG F=>?_;obtain⟨a,l,rfl,P⟩:=vR h;clear h;obtain⟨rfl,K⟩:=vS P;obtain⟨v,W,rfl,W,X⟩:=r.il;refine F ?_;rw[X.jW];clear P r;refine aH λG F=>?_;cases a with
 |tup P=>exact F (BO f k S d W (.inl rfl) K)
 |U P=>exact F (BO f k S d W (.inr rfl) K)
 |_=>exact K.elim
def Qt(W:bt c w f B)(X:AllX c w f B n j k)(l:FC.Ok B i)(d:aJ A i n)(a:ah c w f B i g b s)
  (h:cV c w f B A i g s (jg e) (fX j (k+1) i.cx e b) Q E):af (model c w) A (eval e i.env) (λx Z=>af (model c w) A (pyIter x) Q E Z) E s:=by
 induction e using ML with
 |call f k F n=>
  obtain⟨rfl,o⟩:=vS h;obtain⟨f,q,j⟩:=BK o;clear h;obtain⟨p,rfl⟩:=lh q;by_cases o:i.cx.bL f=J/\(f=="range")=J
  .replace j:=(iP o)▸j;refine eD (λp q=>?_) o;obtain rfl:=bE.mp q;exact jm (jl W l a p zD (vO (BM j) (X.l i l k n A g b s _ _ d a (cV.bd j λt u m c Z r S F K P=>Qr d l S F K P))))
  .rw[iN o]at j;by_cases o:i.cx.bL f=J/\(f=="enumerate")=J
   .rw[iP o]at j;obtain⟨p,q⟩:=o;obtain rfl:=bE.mp q;exact jm (jl W l a p zD (vO (BM j) (X.l i l k n A g b s _ _ d a (cV.bd j λt u m c Z r S F K P=>Qs d l S F K P))))
   .rw[iN o]at j;exact j.elim
 |no e W=>
  rw[W]at h;exact X.e i l e A g b s _ _ d a (cV.bd h λa W m c Z r S F K P=>Qq d l S F K P)
structure AllA(prog:bK)(w:bM)(K:bg)(B:Heap)(n:Nat)(F:Call)(k:Nat):Prop extends AllX prog w K B n F k where
 a:∀fc,FC.Ok B fc->∀t v vv A g st s (Q:Unit->ao->Prop) E,aJ A fc n->ah prog w K B fc g st s->al g.Z g.ι s.heap v vv->ae prog w K B fc UR g s (d6 F k fc.cx t v st) Q E->af (model prog w) A (assign t fc.env vv) Q E s
 rY:∀fc,FC.Ok B fc->∀ts vs BP A g st s (Q:Unit->ao->Prop) E,aJ A fc n->ah prog w K B fc g st s->aw g.Z g.ι s.heap vs BP->ts.any isStar=V->ae prog w K B fc UR g s (ji F k fc.cx ts vs st) Q E->
  af (model prog w) A (assignInOrder ((assignEach ts fc.env).map (·.2)) BP) Q E s
def vU(h:isStar e=V):assignEach (e::b) a=(V,assign e a)::assignEach b a:=by
 cases e <;> first |rfl |cases h
def Qu:a.any isStar=V->(assignEach a env).length=a.length/\(assignEach a env).findIdx? (·.1)=I:=by
 induction a with
 |nil=>exactλF=>⟨rfl,rfl⟩
 |cons e a F=>exactλh=>(mB.mp h).elim λP K=>vU P▸⟨cA _ (F K).1,by rw[List.findIdx?_cons,(F K).2];rfl⟩
def Qv(X:AllA b w d B n e k):∀c,FC.Ok B c->∀K P F A g a s Q E,aJ A c n->ah b w d B c g a s->aw g.Z g.ι s.heap P F->K.any isStar=V->ae b w d B c UR g s (ji e (k+1) c.cx K P a) Q E->
  af (model b w) A (assignInOrder ((assignEach K c.env).map (·.2)) F) Q E s:=by
 intro c b K P F A g a s Q E W F S Z h;cases K with
 |nil=>
  refine aH λG a=>?_;cases P with
  |nil=>exact a (ax (h.ok (.refl ..) F trivial))
  |cons _ _=>exact h.elim
 |cons t K=>
  cases P with
  |nil=>exact h.elim
  |cons v P=>
   obtain⟨K,K,a⟩:=S.il;rw[a.1];have Z:=mB.mp Z;rw[vU Z.1];exact ac (cJ (X.a _ b t v _ A g _ s _ _ W F a.2 (ae.bd h λP P K K K P S K P P=>X.rY _ b _ _ _ A _ _ _ Q E W K (aw.mono (S.mono F.2) _ _ a.3) Z.2 P)))
def Qw(X:AllA b w f B n l k)(r:FC.Ok B e){Q:Unit->ao->Prop}(i:aJ A e n)(a:ah b w f B e g d s)(o:al g.Z g.ι s.heap v q)
  (h:ae b w f B e UR g s ((if j.any isStar then aC else bd (u3 j.length v) λm=>ji l k e.cx j m) d) Q E):af (model b w) A (assign (.Tuple j c p) e.env q) Q E s:=by
 refine eD (λF h=>?_) (j0 h);have F:=kZ _▸F;haveI P:=Qu (env:=e.env) F;refine aH λG S=>?_;cases v with
 |tup W=>
  obtain⟨Z,h⟩:=Az h;obtain⟨K,m,K⟩:=o.dr;refine S ?_;rw[K.1];refine(assign_Tuple_tuple i.2 K.2 (by rw[P.1,cS,K.4.length,Z]) P.2 λP S=>?_);haveI P:=a.new (t:=s.toks) r (λb o q=>S b o (fresh_ne q) q);exact X.rY e r j W m A g d _ Q E i P.2 (aw.mono (P.1.mono a.2) _ _ K.4) F (ae.step h P.1)
 |_=>exact h.elim
def Qx(X:AllA a w f B n j k)(l:FC.Ok B e){Q:Unit->ao->Prop}(d:aJ A e n)(c:ah a w f B e g b s)(m:al g.Z g.ι s.heap v q)
  (h:ae a w f B e UR g s ((bd (den j k e.cx o) λr=>bd (den j k e.cx i) λt=>Mine.setItem r t v) b) Q E):af (model a w) A (assign (.Subscript o i p) e.env q) Q E s:=ac (cJ (X.e _ l o A g _ s _ _ d c (ae.bd h λa F F F F a S F P K=>ac (cJ (X.e _ l i A _ _ _ _ _ d F (ae.bd K λb K K K K a K W X Z=>ac (e7 (ac (cJ (OF d l W (al.mono (K.mono F.2) _ _ P) X (al.mono ((S.trans K).mono c.2) _ _ m) (Z.map λa a q=>GX q)))))))))))
def Qy(W:bt a w c B)(X:AllA a w c B n f k)(j:FC.Ok B e){Q:Unit->ao->Prop}(i:aJ A e n)(b:ah a w c B e g d s)(l:al g.Z g.ι s.heap v m)
  (h:ae a w c B e UR g s ((bd (den f k e.cx o) λp=>oq p x v) d) Q E):af (model a w) A (assign (.Attribute o x q) e.env m) Q E s:=ac (cJ (X.e _ j o A g _ s _ _ i b (ae.bd h λa F F F F X S F K P=>
  ac (e7 (ac (cJ (OL W.ds W.2 j F K (al.mono (S.mono b.2) _ _ l) (P.map λX X q=>GX q))))))))
def Qz(W:bt b w c B)(X:AllA b w c B n e k):∀d,FC.Ok B d->∀t v F A g a s Q E,aJ A d n->ah b w c B d g a s->al g.Z g.ι s.heap v F->ae b w c B d UR g s (d6 e (k+1) d.cx t v a) Q E->
  af (model b w) A (assign t d.env F) Q E s:=by
 intro d P t v F A g a s Q E K F S h
 induction t using MN with
 |name x p=>
  exact(bJ h).elim λi Z=>wpAny_assign_Name (vi P F Z.1 S Z.2)
 |tup Z c p=>
  exact Qw X P K F S h
 |sub o i p=>
  exact Qx X P K F S h
 |attr o x p=>
  exact Qy W X P K F S h
 |no t q=>
  rw[q]at h;exact h.elim
def QA(a:Nat->ao->Prop)
  (t:∀n s,a n s->af (model b w) A (pyNext E) (λr i=>match r with
   |none=>L (.ok .next) i
   |some v=>af (model b w) A (letOwnedTupleGo g E v) (λf j=>af (model b w) A (assign g d v) (λf o=>
     af (model b w) A (forIn y J λc r=>if r=J then do let u <- isTrue c d (eval c d);pure (qN u)else pure (qN r)) (λu k=>
      if u=J then af (model b w) A (eval z d) (λx p=>
       af (model b w) A (call (.builtin "list.append") [B,x]) (λf q=>∃m,m<n/\a m q) (fQ (model b w) A d λe l=>L (.error e) l) p) (fQ (model b w) A d λe l=>L (.error e) l) k
      else∃m,m<n/\a m k) (fQ (model b w) A d λe l=>L (.error e) l) o) (fQ (model b w) A d λe l=>L (.error e) l) j) (fQ (model b w) A d λe l=>L (.error e) l) i) (fQ (model b w) A d λe l=>L (.error e) l) s)
   n(h:a n s):gO (model b w) A (.compLoop (.ListComp z [⟨g,G,y,0⟩] C H) 0 E B d) L s:=by
 refine codeAny_loop rfl a (λn s F=>?_) n h;show af _ A _ _ _ s;refine wpAny_noted ?_;rw[compTurn_list];refine ac (e7 (ac (eh (t n s F) (λr i K=>?_) λf f F=>F)));cases r with
 |none=>exact ax K
 |some v=>
  refine ac (eh K (λf j K=>?_) λf f F=>F);refine ac (eh K (λf o K=>ac (eh K (λu k K=>?_) λf f F=>F)) λf f F=>F);cases u with
  |false=>exact ax ⟨rfl,K⟩
  |true=>
   exact ac (ac (eh K (λx p K=>ac (eh K (λf q K=>ax (ax ⟨rfl,K⟩)) λf f F=>F)) λf f F=>F))
noncomputable def f_(a:Env)(b:List (Str×aG))(e:Str×kO):List (Str×aG):=if e.2==.free then(e.1,(a.cells.lookup e.1).getD 0)::b else b
def BQ(h:∀e∈b.names,e.2=.free->∃c,a.cells.lookup e.1=D c):closureFor b a=pure (b.names.foldl (f_ a) []):=by
 dsimp only[closureFor];haveI S:∀(l:List _) K,(∀e∈l,e.2=.free->∃c,a.cells.lookup e.1=D c)->
   (forIn l K λx r=>match x with
    |(name,kind)=>if(kind==NameKind.free)=J then do let F <- cellOf a name;pure (qN ((name,F)::r))else pure (qN r):Sem _)=pure (l.foldl (f_ a) K):=by
  intro l
  induction l with
  |nil=>intro K _;rfl
  |cons e r Z=>
   obtain⟨n,k⟩:=e;intro K W;rw[GY,qL];by_cases P:(k==NameKind.free)=J
   .obtain⟨c,b⟩:=W _ (.head _) (bE.mp P);haveI F:cellOf _ n=pure c:=by unfold cellOf;rw[b]
    haveI X:f_ _ K (n,k)=(n,c)::K:=by unfold f_;rw[iP P];rw[b,Z0]
    simp only[P,if_true,F,pure_bind,X];exact Z _ λe F=>W e (.tail _ F)
   .have X:f_ a _ (n,k)=K:=(iN P);simp only[P,jI,if_false,pure_bind,X];exact Z _ λe F=>W e (.tail _ F)
 rw[bind_pure];exact(S _ _ h)
def BS(l:List _):∀F:List _,(∀e∈l,e.2=.free->∃c,a.cells.lookup e.1=D c)->(∀p∈F,a.cells.lookup p.1=D p.2)->∀p∈l.foldl (f_ a) F,a.cells.lookup p.1=D p.2:=by
 induction l with
 |nil=>exactλF K h=>h
 |cons e r P=>exactλF F h=>P _ (λe P=>F e (.tail _ P)) (iteInduction (motive:=λx:List _=>∀q∈x,a.cells.lookup q.1=D q.2) (λP q S=>Mine.me S ((F e (.head _) (bE.mp P)).elim λc F=>(F▸rfl)) (h q)) λK=>h)
def QB(l:List _):∀F:List _,((x,NameKind.free)∈l\/(F.lookup x).isSome=J)->((l.foldl (f_ a) F).lookup x).isSome=J:=by
 induction l with
 |nil=>exactλF h=>h.elim z7 id
 |cons e r K=>
  exactλF h=>K _ (h.elim (λh=>(bD.mp h).elim (λh=>.inr (h▸(cA _ lookup_at))) .inl) λh=>.inr (iteInduction (motive:=λy:List _=>(y.lookup x).isSome=J) (λF=>g3 (P:=λy:Option _=>y.isSome=J) (λF=>rfl) λF=>h) λF=>h))
def QC{l:List _}(b:∀e∈l,e.2=.free->∃c,a.cells.lookup e.1=D c)(d:(x,NameKind.free)∈l):(l.foldl (f_ a) []).lookup x=a.cells.lookup x:=by
 obtain⟨c,F⟩:=n5.mp (QB l _ (.inl d));exact F.trans ((BS l _ b (λp K=>Mine.z7 K) _ (mem_of_lookup F)).symm)
def ah.turn(j:FC.Ok B m)(a:ah e w h B m g c s){W f n:List _}(i:∀b∈W,b∈g.Z/\b∉g.Y)(k:∀b∈f,b∈g.Z)(r:∀b∈g.Y,b∈f)(l:∀b∈n,b∈g.P/\b∈f)
  (d:∀b o,b∉W->s.heap.get? b=D o->p.get? b=D o)(u:∀b∈f,b∈W->∃o,p.get? b=D o):
  ah e w h B m ⟨g.ι,g.Y,f,n⟩ c {s with heap:=p,toks:=t}:=by
 have M:cL _ _ _ _ g.ι _:=⟨λb F=>.inl (k b F),λP P h=>h,λb o q z=>d b o (λe=>z (i b e).1) q⟩;have K:=λb F e=>(i b e).2 F;refine⟨λb o q=>d b o (λe=>?_) (a.1 b o q),r,λb F=>(l b F).2,λb F=>⟨(a.4 b (k b F)).1,?_⟩,a.5,a.6,a.7,λn o S S X Z=>?_,a.9,⟨a.10.1,?_⟩,?_⟩
 .have:=(a.4 b (i b e).1).1;rw[q]at this;exact Mine.z4 this
 .by_cases e:b∈W
  .exact u b F e
  .obtain⟨o,q⟩:=(a.4 b (k b F)).2;exact⟨o,d b o e q⟩
 .have F:=a.8 n o _ S X Z;exact⟨F.1.mono M (λP q=>d _ _ (K _ F.2.1) q) (λP q=>d _ _ (K _ F.2.2) q),F.2.1,F.2.2,F.2.3,F.2.4,F.2.5,F.2.6,λq=>F.2.7 (l _ q).1,λq=>F.2.8 (l _ q).1⟩
 .obtain⟨m,P⟩:=a.10.2;refine⟨m,?_,λi x k p S X Z=>(P.2 i x k p S X Z).mono M λc v q r=>?_⟩
  .obtain⟨F,S⟩:=P.1;obtain⟨W,X⟩:=S;obtain⟨S,P⟩:=X;exact⟨F,W,S,d _ _ (K _ (a.5 _ j.6)) P.1,P.2⟩
  .obtain⟨F,P⟩:=r;exact⟨F,d _ _ (K _ ((j.11 _ (mem_of_lookup q)).elim (a.5 _) (a.6 _))) P.1,P.2⟩
 .exact AR (λL F o z P=>⟨o,d L o (K _ ((j.16 L F).elim (a.5 _) (a.6 _))) z,P⟩) a.11
def aP.turn{g:Gh}(S:aP h c a (g.show d) s){W e:List _}(j:∀b∈W,a.heap.get? b=I)(k:∀b∈e,b∈g.Z)
  (f:∀b o,b∉W->s.heap.get? b=D o->i.get? b=D o):aP h c a ⟨g.ι,g.Y,e,d⟩ {s with heap:=i,toks:=t}:=by
 have K:∀b o,a.heap.get? b=D o->b∉W:=λb o q e=>by rw[j b e]at q;exact Mine.z3 q
 refine⟨λb F=>S.1 b (k b F),S.2,S.3,S.4,λb o q F=>f b o (K b o q) (S.5 b o q F),λb o q=>?_,λb F o q=>?_,?_⟩
 .obtain⟨P,e⟩:=S.6 b o q;exact⟨P,f b _ (K b o q) e⟩
 .obtain⟨P,e⟩:=S.7 b F o q;exact⟨P,f b _ (K b o q) e⟩
 .clear f;obtain⟨h,F,rfl⟩:=S.8;exact⟨i,t,rfl⟩
def aP.less(S:aP c g s d e)(h:∀b∈a.fr,b∈c.fr):aP a g s d e:=⟨S.1,S.2,S.3,S.4,S.5,S.6,λb F=>S.7 b (h b F),S.8⟩
inductive c6(b:bK)(w:bM)(K:bg)(B:Heap)(A:bQ)(f m:FC)(a:Gh)(d:ao)(H:List aG)(It:aG)(i wr:List aG)(n e:List PV)(c:List ay)(h:Bool)(k:Nat->Heap->Prop)(j:Nat)(g:Gh)(l:St)(s:ao):Prop |mk
 (F:Src b w A It i wr n e c h k)
 (F:aP f a d (g.show a.P) s)
 (F:ah b w K B m g l s)
 (F:∀b∈a.P,b∈g.P)
 (F:∀b∈H,A3 (b∈g.P) (b∉g.Y) (d.heap.get? b=I))
 (F:∀b∈i,b∉g.Y/\∃o,s.heap.get? b=D o)
 (F:∀b∈wr,b∈H)
 (l:k j s.heap)
 (F:aw g.Z g.ι s.heap e c)
def c6.go{d:bK}{w:bM}{k:bg}{B:Heap}{m c:FC}{g f:Gh}{l:St}{s h:ao}{A:bQ}{H t u:List aG}{v:aG}{x i:List PV}{e:List ay}{n:Bool}{o:Nat->Heap->Prop}{j:Nat}(M:c6 d w k B A c m f h H v t u x i e n o j g l s)(p:∀b∈c.fr,b∈m.fr)(S:aP m g s q y)(a:ah d w k B m q r y):
  c6 d w k B A c m f h H v t u x i e n o j q r y:=by
 haveI X:=S.3;have Z:∀b,b∉g.Y->(∃o,s.heap.get? b=D o)->b∉q.Y:=λb P F q=>F.elim λo K=>by
  rcases S.4 b q with z |z
  .exact P z
  .rw[z]at K;exact Mine.z3 K
 refine⟨M.1,M.2.trans ((S.less p).show _),a,λb F=>by rw[X];exact M.4 b F,λb F=>?_,λb F=>?_,M.7,?_,aw.mono (S.mono M.3.2) _ _ M.9⟩
 .haveI W:=M.5 b F;exact⟨by rw[X];exact W.1,Z b W.2 ((λb F=>(M.3.4 b (M.3.3 b (M.5 b F).1)).2) b F),W.3⟩
 .obtain⟨P,o,K⟩:=M.6 b F;exact⟨Z b P ⟨o,K⟩,o,S.5 b o K P⟩
 .exact M.1.2 _ _ _ M.8 λb F o q=>S.5 b o q (M.6 b F).1
def c6.draw{a:bK}{w:bM}{n:bg}{B:Heap}{r c:FC}{g i:Gh}{d:St}{s k:ao}{A:bQ}{E Q:ay->ao->Prop}{H C p:List aG}{u:aG}{y l:List PV}{e:List ay}{m:Bool}{q:Nat->Heap->Prop}{j:Nat}(G:FC.Ok B r)(M:c6 a w n B A c r i k H u C p y l e m q j g d s)(L:m=J->ii f=J)(N:y[j]?=D x)
  (h:∀v t z,c6 a w n B A c r i k H u C p y l e m q (j+1) g d {s with heap:=t,toks:=z}->(∀b o,b∉p->s.heap.get? b=D o->t.get? b=D o)->al g.Z g.ι t x v->Q v {s with heap:=t,toks:=z}):
  af (model a w) A (pyNext (.ref u)) (λr F=>match r with
   |none=>False
   |some v=>af (model a w) A (letOwnedTupleGo f (.ref u) v) (λP K=>Q v K) E F) E s:=by
 refine M.1.4 _ j x s Q E L N M.8 λv t z K S Z=>?_;have X:∀b∈p,b∈g.Z/\b∉g.Y:=λb F=>⟨M.3.3 b (M.5 b (M.7 b F)).1,(M.5 b (M.7 b F)).2⟩;haveI W:=aw.mono ⟨λb F=>.inl F,λP P h=>h,λb o q z=>S b o (λe=>z (X b e).1) q⟩ _ _ M.9;refine h v _ _ ⟨M.1,?_,(M.3.turn G X (λP h=>h) M.3.2 (λb F=>⟨F,M.3.3 b F⟩) S (λb P F=>M.1.3 _ _ K b F)),M.4,M.5,λb F=>⟨(M.6 b F).1,?_⟩,M.7,K,W⟩ S (Z _ _ (λb F=>(M.3.4 b F).2) W)
 .exact M.2.turn (λb F=>(M.5 b (M.7 b F)).3) (λP h=>h) S
 .by_cases e:b∈p
  .exact M.1.3 _ _ K b e
  .obtain⟨o,q⟩:=(M.6 b F).2;exact⟨o,S b o e q⟩
def c6.out{e:bK}{w:bM}{i:bg}{B:Heap}{l c:FC}{g a:Gh}{d:St}{s f:ao}{A:bQ}{H r t:List aG}{u:aG}{v k:List PV}{h:List ay}{m:Bool}{n:Nat->Heap->Prop}{j:Nat}(x:FC.Ok B l)(M:c6 e w i B A c l a f H u r t v k h m n j g d s)(y:∀b∈a.P,b∉H)(p:∀b o,b∉H->s.heap.get? b=D o->q.get? b=D o):
  aP c a f ⟨g.ι,g.Y,g.Z.filter (λb=>!H.contains b),a.P⟩ {s with heap:=q,toks:=tk}/\ah e w i B l ⟨g.ι,g.Y,g.Z.filter (λb=>!H.contains b),a.P⟩ d {s with heap:=q,toks:=tk}:=by
 haveI K:∀b∈g.Z.filter (λb=>!H.contains b),b∈g.Z:=λb F=>(dj.mp F).1;haveI P:∀b,b∈g.Z->b∉H->b∈g.Z.filter (λb=>!H.contains b):=λb S W=>dj.mpr ⟨S,by simpa using W⟩;refine⟨M.2.turn (λb F=>(M.5 b F).3) K p,M.3.turn x (λb F=>⟨M.3.3 b (M.5 b F).1,(M.5 b F).2⟩) K (λb F=>P b (M.3.2 b F) λe=>(M.5 b e).2 F)
  (λb F=>⟨M.4 b F,P b (M.3.3 b (M.4 b F)) (y b F)⟩) p (λb F e=>?_)⟩
 have:=(dj.mp F).2;simp at this;exact aB e this
def c6.done{a:bK}{w:bM}{k:bg}{B:Heap}{t c:FC}{g f:Gh}{d:St}{s i:ao}{A:bQ}{E:ay->ao->Prop}{H u n:List aG}{p:aG}{q j:List PV}{e:List ay}{l:Bool}{m:Nat->Heap->Prop}{Q:ao->Prop}(M:c6 a w k B A c t f i H p u n q j e l m q.length g d s)
  (h:∀r v,(∀b o,b∉n->s.heap.get? b=D o->r.get? b=D o)->Q {s with heap:=r,toks:=v}):af (model a w) A (pyNext (.ref p)) (λr F=>r=I/\Q F) E s:=
 M.1.5 s Q E M.8 h
def o_(a:FC)(b:d0)(c:List (Str×aG))(C:aG):FC where
 cx:=a.cx.comp b
 env:=compEnvC b c C a.env
 own:=[C]
 fr:=a.own++a.fr
 outer:=a.outer
 cf:=a.cf
inductive pa(a:Cx)(b:d0):Prop |mk
 (F:a.own=a.slots.length)
 (F:a.slots≠[])
 (F:a.scope.kind=.function)
 (F:b.kind=.function)
 (F:(b.names.map (·.1)).Nodup)
 (F:∀e∈a.slots,e.1≠(".0":Str))
 (F:∀e∈b.names,e.2=.local\/e.2=.globalImplicit\/(A3 (e.2=.free) (a.scope.names.lookup e.1=D .cell) (∃i,a.ie e.1=D i)))
def vV(h:mP a b=J):pa a b:=by
 unfold mP at h;simp only[de,bE,uB,decide_eq_true_eq,i1,gq,bne_iff_ne,ne_eq]at h;obtain⟨⟨⟨⟨⟨⟨K,F⟩,P⟩,S⟩,W⟩,X⟩,Z⟩:=h;refine⟨K,λe=>(by replace F:=e▸F;cases F),P,S,W,X,λe F=>?_⟩;rcases Z e F with(q |q) |⟨⟨q1,q2⟩,q3⟩
 .exact .inl q
 .exact .inr (.inl q)
 .exact .inr (.inr ⟨q1,q2,n5.mp q3⟩)
def vW:(ow a).names.lookup x=(a.names.lookup x).map λk=>if k==.free then .cell else k:=by
 show List.lookup x (a.names.map λ(n,k)=>if k==.free then(n,Ge)else(n,k))=_
 induction a.names with
 |nil=>rfl
 |cons e r K=>
  obtain⟨n,k⟩:=e;rw[i8];by_cases F:(k==NameKind.free)=J
  .simp only[F,if_true,yl]
   split
   .show D _=D (if(k==NameKind.free)=J then _ else k);rw[iP F]
   .exact K
  .simp only[F,jI,if_false,yl]
   split
   .show D _=D (if(k==NameKind.free)=J then _ else k);rw[iN F]
   .exact K
def QD(c:pa d b)(f:a.scope.kind=.function)(g:a.scope.names=d.scope.names):(relabel b a).names=(ow b).names:=by
 refine jJ λe P=>?_;obtain⟨n,k⟩:=e;refine aH λG F=>?_;haveI S:(a.scope.kind==ScopeKind.function)=J:=by rw[f];rfl
 by_cases K:(k==NameKind.free)=J
 .rcases c.7 _ P with q |q |⟨q1,q2,_⟩
  .have:=q;clear P F q;subst this;cases K
  .have:=q;clear P F q;subst this;cases K
  .have:(a.kindOf n==D Ge)=J:=by unfold jC;rw[g,q2];rfl
   refine F ?_;simp only[K,S,this,Bool.and_self,if_true]
 .refine F ?_;simp only[K,Bool.false_and,jI,if_false]
def vX(h:(x,k)∈dJ a):A3 ((x,k)∈a.names) (k=.local) (x≠".0"):=by
 refine eD (λK F=>?_) (dj.mp h);simp only[de,bE,bne_iff_ne,ne_eq]at F;exact⟨K,F.1,F.2⟩
def QE{l:List _}(a:(l.map (·.1)).Nodup){i j:Nat}{x:Str}{k b:kO}(c:l[i]?=D (x,k))(d:l[j]?=D (x,b)):i=j:=by
 haveI P:(l.map (·.1))[i]?=D x:=by rw[dG,c];rfl
 haveI W:(l.map (·.1))[j]?=D x:=by rw[dG,d];rfl
 obtain⟨F,K⟩:=cQ.mp P;obtain⟨P,S⟩:=cQ.mp W;have W:=yt.mp a;rcases yu i j with h |h |h
 .exact aB (K.trans S.symm) (W i j F P h)
 .exact h
 .exact aB (S.trans K.symm) (W j i P F h)
def pb{cx:Cx}(h:i<(dJ a).length):(cx.comp a).slots[i]?=(dJ a)[i]?:=cX h
def vY{a:Cx}(h:¬i<(dJ b).length):(a.comp b).slots[i]?=a.slots[i - (dJ b).length]?:=mw (ar.mp h)
def rZ(f:FC.Ok B d)(a:ah c w e B d g b s)(h:pa d.cx j):∀e∈j.names,e.2=.free->∃c,d.env.cells.lookup e.1=D c:=by
 refineλe P F=>aH λG K=>?_;rcases h.7 e P with q |q |⟨_,q1,i,q2⟩
 .replace F:=q▸F;cases F
 .replace F:=q▸F;cases F
 .obtain⟨k,F,P,P⟩:=slot_get q2;replace F:=q1▸F;obtain rfl:=aE F;obtain⟨m,W⟩:=a.fr f;haveI F:b.loc[i]?≠I:=by
   have:=(cQ.mp P).1;rw[<- a.10.1]at this;simp[Zt];exact this
  obtain⟨p,S⟩:=yn.mp F;have r:=W.2 i _ _ p P S ⟨λh=>(by cases h),λF=>q1⟩;clear S;cases p with
  |none=>obtain⟨c,F⟩:=r;exact K ⟨c,F.1⟩
  |some v=>obtain⟨c,_,F⟩:=r;exact K ⟨c,F.1⟩
def QF(f:FC.Ok B d)(a:ah e w h B d g b s)(l:pa d.cx m)(i:s.heap.get? C=I)(c:d.env.locals<=C):FC.Ok B (o_ d m (m.names.foldl (f_ d.env) []) C):=by
 have S:=BS _ _ (rZ f a l) (λp F=>Mine.z7 F);haveI Z:∀b,b∈d.own\/b∈d.fr->b≠C:=λb K q=>by
  obtain⟨o,e⟩:=(a.4 b (a.2 _ (K.elim (a.5 b) (a.6 b)))).2;rw[q,i]at e;exact Mine.z3 e
 haveI P:=λp F=>f.11 _ (mem_of_lookup (S p F));refine⟨?_,?_,f.3,f.4,?_,.head _,?_,f.8,?_,?_,?_,?_,?_,?_,?_,?_,f.17,f.18⟩
 .exact l.4
 .exact(QD l f.1 f.2)
 .exact ak f.5 c
 .intro b K X;rw[bq.mp K]at X;exact Z C (aZ.mp X) rfl
 .intro i j x k F F K W a;haveI F:(d.cx.comp _).slots[i]?=_:=F;have K:(d.cx.comp _).slots[j]?=_:=K;rw[pb W]at F;rw[pb a]at K;exact QE (ZO (List.Sublist.map _ Gf) l.5) F K
 .exactλc W e=>Z _ (P c W) e
 .exactλc W=>.inr (aZ.mpr (P c W))
 .intro e;haveI e:(dJ _).length=(dJ _++d.cx.slots).length:=e;rw[az]at e;have:=Ig e;exact aB (n0.mp this) l.2
 .intro i j x F K;have F:(d.cx.comp _).slots[i]?=_:=F;have K:(d.cx.comp _).slots[j]?=_:=K;have P:∀i,(d.cx.comp _).slots[i]?=D (x,.cell)->¬i<(dJ m).length:=λi h q=>by
   rw[pb q]at h;exact aB (vX (eZ h)).2 zD
  have W:=P i F;have Z:=P j K;rw[vY W]at F;rw[vY Z]at K;exact Ih (f.13 _ _ x F K) W Z
 .intro x i F K;have K:(ow _).names.lookup x=D _:=K;have F:(d.cx.comp _).ie x=D i:=F;show i<(dJ _).length;rw[vW]at K;obtain⟨k,Z,P⟩:=dS.mp K;have W:k=.local:=by
   by_cases X:(k==NameKind.free)=J
   .replace P:=(iP X)▸P;cases P
   .rw[iN X]at P;exact P
  clear P;subst W;obtain⟨P,W⟩:=slot_get F;by_cases P:x=".0"
  .exfalso;rcases aZ.mp (eZ W.3)with q |q
   .exact(vX q).3 P
   .exact l.6 _ q P
  .have W:(x,NameKind.local)∈dJ _:=dj.mpr ⟨(mem_of_lookup Z),by simp[P]⟩;have a:(d.cx.comp m).scope.names.lookup x=D .local:=by
    rw[vW,Z];rfl
   obtain⟨P,X⟩:=b0.mp F;haveI P:=X.1;haveI F:=X.2;rw[a]at P;rw[<- aE P]at F;obtain⟨j,X,Z⟩:=List.mem_iff_getElem.mp W;have P:=Zs.mp F;obtain⟨P,b⟩:=P;refine kM λa=>?_;have W:=bc X a;have:=b.2 j W;have a:(d.cx.comp _).slots[j]'(i9 W P)=(x,NameKind.local):=by
    have P:=pb (cx:=d.cx) X;rw[bI X,Z]at P;exact(cQ.mp P).2
   rw[a]at this;simp at this
 .exactλx y c F K=>f.15 x y c (S _ (mem_of_lookup F)) (S _ (mem_of_lookup K))
 .exactλL F=>.inr (aZ.mpr (f.16 L F))
noncomputable def FC.whole(a:FC):FC:={a with fr:=a.own++a.fr}
def QG{d:bK}{w:bM}{i:bg}{B:Heap}{l:FC}{g:Gh}{e:St}{s:ao}{A:bQ}{m h:List aG}{x:aG}{y f:List PV}{c:List ay}{j:Bool}{n:Nat->Heap->Prop}(z:FC.Ok B l)(a:ah d w i B l g e s)(p:Src d w A x m h y f c j n)(r:n 0 q)(k:∀b∈h,s.heap.get? b=I/\∃o,q.get? b=D o)(u:∀b o,s.heap.get? b=D o->q.get? b=D o)
  (v:∀b∈m,b∈h\/(b∉g.Z/\∃o,s.heap.get? b=D o))(C:aw g.Z g.ι s.heap f c):
  c6 d w i B A l l g s h x m h y f c j n 0 (g.hide h) e {s with heap:=q,toks:=t}:=by
 haveI K:=a.hide (t:=t) z k u;have P:∀b∈h,b∉g.Y:=λb F q=>by obtain⟨o,e⟩:=(a.4 b (a.2 b q)).2;rw[(k b F).1]at e;exact Mine.z3 e
 refine⟨p,K.1,K.2,λb F=>bB _ F,λb F=>⟨dc _ F,P b F,(k b F).1⟩,λb F=>?_,λb F=>F,r,aw.mono ?_ _ _ C⟩
 .rcases v b F with q |⟨q,o,e⟩
  .exact⟨P b q,(k b q).2⟩
  .exact⟨λz=>q (a.2 b z),o,u b o e⟩
 .exact⟨λb F=>(aZ.mp F).elim (λq=>.inr (k b q).1) .inl,λF F h=>h,λb o q F=>u b o q⟩
noncomputable def vZ(g:Gh)(b:List aG)(a C:aG):Gh:=⟨g.ι,C::g.Y,C::a::(b++g.Z),a::(b++g.P)⟩
def QH{y:bK}{w:bM}{g4:bg}{B:Heap}{T:FC}{g:Gh}{f:St}{s:ao}{A:bQ}{fp wr:List aG}{It:aG}{xs E:List PV}{j:List ay}{tup:Bool}{Pr:Nat->Heap->Prop}(ok:FC.Ok B T)(a:ah y w g4 B T g f s)(hc:pa T.cx sc)(src:Src y w A It fp wr xs E j tup Pr)(pc:Pr 0 N)(hw:∀b∈wr,s.heap.get? b=I/\∃o,N.get? b=D o)
  (G:∀b o,s.heap.get? b=D o->N.get? b=D o)(v2:∀b∈fp,b∈wr\/(b∉g.Z/\∃o,s.heap.get? b=D o))(hr:aw g.Z g.ι s.heap E j)
  (hD:s.heap.get? d=I)(v3:∃o,N.get? d=D o)(H:s.heap.get? C=I)(k:C≠d)(l:C∉wr)(u:N.Ns C λL=>I):
  c6 y w g4 B A T.whole (o_ T sc (sc.names.foldl (f_ T.env) []) C) g s (d::wr) It fp wr xs E j tup Pr 0 (vZ g wr d C)
   ⟨bF (dJ sc).length I++f.loc,f.objs⟩ {s with heap:=N,toks:=t}:=by
 have K:=λb F=>(a.4 b F).2;have nf:∀b,s.heap.get? b=I->b∉g.Z:=λb h q=>by obtain⟨o,e⟩:=K b q;rw[h]at e;exact Mine.z3 e
 have ny:=λb h q=>nf b h (a.2 b q);have Z:∃o,N.get? C=D o:=by obtain⟨o,_,_,q,_⟩:=u;exact⟨o,q⟩
 have P:∀b∈C::d::(wr++g.Z),b∈g.Z\/s.heap.get? b=I:=λb F=>by
  clear k l u Z;rcases bD.mp F with rfl |F
  .exact .inr H
  .clear v3;rcases bD.mp F with rfl |F
   .exact .inr hD
   .exact(aZ.mp F).elim (λq=>.inr (hw b q).1) .inl
 have M:cL g.Z g.ι s.heap (vZ g wr d C).Z g.ι N:=⟨P,λL L h=>h,λb o q L=>G b o q⟩;have O:∀b∈g.Z,b∈(vZ g wr d C).Z:=λb F=>.tail _ (.tail _ (bB _ F));have S:∀b,(∃o,s.heap.get? b=D o)->b≠C:=λb y6 e=>y6.elim λo h=>by rw[e,H]at h;exact Mine.z3 h
 refine⟨src,⟨P,λL L h=>h,rfl,λb F=>?_,λb o q L=>G b o q,λb o q=>⟨o,G b o q⟩,λb L o q=>⟨o.slots,G b o q⟩,N,t,rfl⟩,?_,λb F=>.tail _ (bB _ F),λb F=>?_,λb F=>?_,λb F=>.tail _ F,pc,aw.mono M _ _ hr⟩
 .clear k l u Z P M O S;rcases bD.mp F with rfl |F
  .exact .inr H
  .exact .inl F
 .refine⟨λb o q=>G b o (a.1 b o q),λb F=>?_,λb F=>?_,λb F=>?_,λb F=>?_,λb F=>?_,a.7,λn o la Q X h3=>?_,a.9,⟨?_,λL=>I,u,?_⟩,?_⟩
  .clear H k l u Z P M S;rcases bD.mp F with rfl |F
   .exact .head _
   .exact O b (a.2 b F)
  .rcases bD.mp F with rfl |F
   .exact .tail _ (.head _)
   .exact .tail _ (.tail _ ((aZ.mp F).elim (dc _) λq=>bB _ (a.3 b q)))
  .clear k l u P M O S;rcases bD.mp F with rfl |F
   .exact⟨a.gC H,Z⟩
   .rcases bD.mp F with rfl |F
    .exact⟨a.gC hD,v3⟩
    .rcases aZ.mp F with q |q
     .exact⟨a.gC (hw b q).1,(hw b q).2⟩
     .obtain⟨o,e⟩:=K b q;exact⟨(a.4 b q).1,o,G b o e⟩
  .rw[bq.mp F];exact .head _
  .exact .tail _ ((aZ.mp F).elim (a.5 b) (a.6 b))
  .have W:=a.8 n o la Q X h3;have hP:∀b∈g.Y,b∉g.P->b∉d::(wr++g.P):=λb F hp q=>by
    clear v3 k P M O X;rcases bD.mp q with rfl |q
    .exact ny _ hD F
    .exact(aZ.mp q).elim (λq=>ny b (hw b q).1 F) hp
   exact⟨W.1.mono M (λL q=>G _ _ q) (λL q=>G _ _ q),.tail _ W.2.1,.tail _ W.2.2,(λq=>S _ (K _ (a.2 _ W.2.1)) (bq.mp q)),λq=>(aZ.mp q).elim W.2.3 W.2.4,(λq=>S _ (K _ (a.2 _ W.2.2)) (bq.mp q)),λq=>(aZ.mp q).elim W.2.5 W.2.6,hP _ W.2.1 W.2.7,hP _ W.2.2 W.2.8⟩
  .rw[az,az,fx,a.10.1]
  .intro i x kd p Q X h3;have Q:(T.cx.comp sc).slots[i]?=D (x,kd):=Q;have X:=X;by_cases hi:i<(dJ sc).length
   .rw[pb hi]at Q;rw[cX (by rw[fx];exact hi),List.getElem?_replicate,iP hi]at X;cases X;obtain rfl:=(vX (eZ Q)).2;rfl
   .rw[vY hi]at Q;rw[mw (by rw[fx];exact ar.mp hi),fx]at X;have QI:kd=.cell:=by
     obtain⟨m,_,hm⟩:=a.fr ok;cases kd with
     |«local»=>exact aB (h3.1 rfl) hi
     |cell=>rfl
     |_=>
      exfalso;have:=hm (i - (dJ sc).length) x _ p Q X ⟨λq=>(by cases q),λq=>(by cases q)⟩;cases p <;> exact this
    subst QI;have hl:(ow sc).names.lookup x=D .cell:=h3.2 rfl;rw[vW]at hl;obtain⟨k',y3⟩:=dS.mp hl;have q2:=y3.2;have j_:k'=.free/\T.cx.scope.names.lookup x=D .cell:=by
     rcases hc.7 _ (mem_of_lookup y3.1)with z |z |⟨z1,z2,_⟩
     .subst z;rw[iN zD]at q2;cases q2
     .have z:k'=.globalImplicit:=z;subst z;rw[iN zD]at q2;cases q2
     .exact⟨z1,z2⟩
    obtain rfl:=j_.1;obtain⟨m,y2⟩:=a.fr ok;have r:=y2.2 (i - (dJ sc).length) x .cell p Q X ⟨λq=>(by cases q),λL=>j_.2⟩;have BU:=QC (rZ ok a hc) (mem_of_lookup y3.1);have up:∀c v,s.heap.IsCell c v->N.IsCell c v:=λc v y7=>y7.elim λo BV=>⟨o,G _ _ BV.1,BV.2⟩;cases p with
    |none=>
     obtain⟨c,y4⟩:=r;exact⟨c,BU.trans y4.1,up _ _ y4.2⟩
    |some v=>
     obtain⟨c,v',y5⟩:=r;exact⟨c,v',BU.trans y5.1,up _ _ y5.2,y5.3.mono M⟩
  .exact jZ (λb o q1 q2=>⟨o,G b o q1,q2⟩) a.11
 .rcases bD.mp F with rfl |iB
  .exact⟨.head _,λq=>(bD.mp q).elim (λe=>k e.symm) (ny _ hD),hD⟩
  .exact⟨.tail _ (dc _ iB),λq=>(bD.mp q).elim (λe=>l (e▸iB)) (ny _ (hw b iB).1),(hw b iB).1⟩
 .rcases v2 b F with q |⟨q,o,e⟩
  .exact⟨λz=>(bD.mp z).elim (λe=>l (e▸q)) (ny _ (hw b q).1),(hw b q).2⟩
  .exact⟨λz=>(bD.mp z).elim ((S b ⟨o,e⟩)) (λz=>q (a.2 b z)),o,G b o e⟩
def comp_back(l:FC.Ok B h)(c:ah f w i B h e g b)(S:aP h.whole e b d j)(a:ah f w i B (o_ h n o C) d k j)(m:b.heap.get? C=I):
  aP h e b ⟨d.ι,d.Y.filter (· !=C),d.Z,d.P⟩ j/\ah f w i B h ⟨d.ι,d.Y.filter (· !=C),d.Z,C::d.P⟩ ⟨g.loc,k.objs⟩ j:=by
 have W:∀b∈d.Y,b≠C->b∈d.Y.filter (· !=C):=λb F K=>dj.mpr ⟨F,by simpa using K⟩;haveI K:∀b∈d.Y.filter (· !=C),b∈d.Y/\b≠C:=λb F=>by
  have:=dj.mp F;exact⟨this.1,by simpa using this.2⟩
 have P:∀b∈e.Y,b≠C:=λb F e=>by obtain⟨o,q⟩:=(c.4 b (c.2 b F)).2;rw[e,m]at q;exact Mine.z3 q
 refine⟨⟨S.1,S.2,S.3,λb F=>S.4 b (K b F).1,S.5,S.6,λb F=>S.7 b (bB _ F),S.8⟩,a.1,λb F=>a.2 b (K b F).1,λb F=>?_,a.4,λb F=>W b (a.6 b (dc _ F)) (P b (c.5 b F)),λb F=>W b (a.6 b (bB _ F)) (P b (c.6 b F)),a.7,λn o Z K P X=>?_,a.9,⟨c.10.1,?_⟩,a.11⟩
 .refine Mine.me F ?_ λF=>?_
  .exact a.2 _ (a.5 _ (.head _))
  .exact a.3 b F
 .have F:=a.8 n o _ K P X;have a:Z.a≠C:=λe=>F.2.3 (e▸.head _);have b:Z.d≠C:=λe=>F.2.5 (e▸.head _);exact⟨F.1,W _ F.2.1 a,W _ F.2.2 b,λq=>F.2.4 (dc _ q),λq=>F.2.4 (bB _ q),λq=>F.2.6 (dc _ q),λq=>F.2.6 (bB _ q),
   λq=>(bD.mp q).elim a F.2.7,λq=>(bD.mp q).elim b F.2.8⟩
 .obtain⟨m,F⟩:=c.10.2;exact⟨m,vq F.1 (S.7 _ (dc _ l.6)),λi x k p K P X=>(F.2 i x k p K P X).mono (S.mono c.2) λc v q r=>vp r (S.7 c (aZ.mpr (l.11 _ (mem_of_lookup q))))⟩
def r0{c b:St}(h:bd m f c=D (.ok r,b)):E2 λa F=>m c=D (.ok a,F)/\f a F=D (.ok r,b):=by
 unfold bd at h;cases e:m _ with
 |none=>rw[e]at h;exact z3 h
 |some p=>
  obtain⟨F,K⟩:=p;rw[e]at h;clear e;cases F with
  |ok a=>exact⟨a,K,rfl,h⟩
  |error=>exact Mine.z9 h
def v4(b:bK)(w:bM)(K:bg)(B:Heap)(n:Nat)(c:FC)(a:ay->Sem Unit)(d:PV->M Unit):Prop:=
 ∀v F A g P s (Q:Unit->ao->Prop) E,aJ A c n->ah b w K B c g P s->al g.Z g.ι s.heap v F->ae b w K B c UR g s (d v P) Q E->af (model b w) A (a F) Q E s
noncomputable def r3(a:Env)(c:aA)(r:Bool):Sem (ForInStep Bool):=if r=J then do let F <- isTrue c a (eval c a);pure (qN F)else pure (qN r)
structure AllC(prog:bK)(w:bM)(K:bg)(B:Heap)(n:Nat)(F:Call)(k:Nat):Prop extends AllA prog w K B n F k where
 ifs:∀fc,FC.Ok B fc->∀es,ev prog w K B n fc BR (forIn es J (r3 fc.env)) (lj F k fc.cx es)
 cu:∀fc,FC.Ok B fc->∀elt gens sc lp U mu,v4 prog w K B n fc U mu->∀A g st s (Q:Unit->ao->Prop) E,aJ A fc n->ah prog w K B fc g st s->ae prog w K B fc UR g s (bd (den F k fc.cx (.ListComp elt gens sc lp)) mu st) Q E->
  af (model prog w) A (evalThenUse (.ListComp elt gens sc lp) fc.env U) Q E s
 it:∀fc,FC.Ok B fc->∀e A g st s (Q E:ay->ao->Prop),aJ A fc n->ah prog w K B fc g st s->cV prog w K B A fc g s (jg e) (fX F k fc.cx e st) Q E->af (model prog w) A (eval e fc.env) (λx v5=>af (model prog w) A (pyIter x) Q E v5) E s
def v6{m:M _}{Q:o->ao->Prop}(h:m c=D (.ok a,d))
  (n:∀b i f,aP l g s i f->ah e w j B l i d f->k i f.heap a b->Q b f):ae e w j B l k g s (m c) Q E:=by
 rw[h];exact n
def BW:∀(F:List _),(forIn F V (r3 a))=pure V
 |[]=>rfl
 |c::F=>by
  rw[GY];exact BW _
def QJ(X:AllC c w i B n j k):∀d,FC.Ok B d->∀W,ev c w i B n d BR (forIn W J (r3 d.env)) (lj j (k+1) d.cx W):=by
 intro d o W A g l s Q E Z F h;cases W with
 |nil=>exact ax (h.ok (.refl ..) F rfl)
 |cons e W=>
  rw[GY];refine ac (ac (X.t _ o e A g _ s _ _ Z F (ae.bd h λa b p m q r S K f P=>ax ?_)));subst f;cases a
  .show af _ _ (forIn ..) ..;rw[BW];exact ax (P.ok (.refl ..) K rfl)
  .exact X.ifs _ o _ A _ _ _ _ _ Z K P
def c6.QK{f:bK}{w:bM}{l:bg}{B:Heap}{p c:FC}{g h:Gh}{d:St}{s i:ao}{A:bQ}{H q v:List aG}{x a:aG}{y k:List PV}{e:List ay}{m:Bool}{z:Nat->Heap->Prop}{j:Nat}(E:FC.Ok B p)(M:c6 f w l B A c p h i H x q v y k e m z j g d s)(r:a∈H)(C:a∉q)(n:∀b o,b≠a->s.heap.get? b=D o->u.get? b=D o)(G:∃o,u.get? a=D o):
  c6 f w l B A c p h i H x q v y k e m z j g d {s with heap:=u,toks:=t}:=by
 have S:∀b∈ [a],b∈g.Z/\b∉g.Y:=λb F=>by rw[bq.mp F];exact⟨M.3.3 _ (M.5 a r).1,(M.5 a r).2⟩
 haveI K:∀b o,b∉ [a]->s.heap.get? b=D o->u.get? b=D o:=λb o F q=>n b o (λe=>F (e▸.head _)) q;exact⟨M.1,M.2.turn (λb F=>by rw[bq.mp F];exact(M.5 a r).3) (λP h=>h) K,M.3.turn E S (λP h=>h) M.3.2 (λb F=>⟨F,M.3.3 b F⟩) K (λb P F=>by rw[bq.mp F];exact G),
  M.4,M.5,λb F=>⟨(M.6 b F).1,(bi ((M.6 b F).2) λo q=>⟨o,n b o (λe=>C (e▸F)) q⟩)⟩,M.7,M.1.2 _ _ _ M.8 λb F o q=>n b o (λe=>C (e▸F)) q,aw.mono ⟨λb F=>.inl F,λP P h=>h,λb o q z=>n b o (λe=>z (e▸(S a (.head _)).1)) q⟩ _ _ M.9⟩
def m7(F:Call)(k:Nat)(a:Cx)(b c:aA)(d:List aA)(x:PV):M (Option PV):=
 bd (d6 F k a c x) λK=>bd (lj F k a d) λc=>if c then bd (den F k a b) λv=>rt (D v)else rt I
def BX(h:m+j=n)(a:j<n):m - 1<m/\m - 1+(j+1)=n:=Ii h a
def BY{m j n:Nat}(h:m+j=n)(a:¬j<n):j=n:=Ij h a
noncomputable def r4(a:List PV)(o:Option PV):List PV:=match o with
 |some y=>a++ [y]
 |none=>a
def QL(h:a.length<=j):(r4 a o).length<=j+1:=by
 cases o with
 |none=>exact hW h
 |some y=>exact ak (aq az) (dA h)
def QM{c:bK}{w:bM}{q:bg}{B:Heap}{h e:FC}{l:Gh}{f:St}{m:ao}{A:bQ}{n:Nat}{y:Call}{k:Nat}{fp Q:List aG}{It a:aG}{xs p:List PV}{i:List ay}{z:Bool}{Pr:Nat->Heap->Prop}{j:Nat}{C:ao->Prop}(X:AllC c w q B n y k)(u:FC.Ok B h)(r:aJ A h n)
  (T:c6 c w q B A e h l m (a::Q) It fp Q xs p i z Pr j g f s)(t:∀b∈e.fr,b∈h.fr)(r5:a∉fp)(QN:s.heap.IsList a E.toArray)(QO:aw g.Z g.ι s.heap G E)(hz:G.length<=aI)
  (hv:al g.Z g.ι s.heap x v)(d:m7 y k h.cx H L O x f=D (.ok o,r6))(hC:∀g s E,c6 c w q B A e h l m (a::Q) It fp Q xs p i z Pr j g r6 s->s.heap.IsList a E.toArray->aw g.Z g.ι s.heap (r4 G o) E->C s):
  af (model c w) A (assign L h.env v) (λj F=>
   af (model c w) A (forIn O J (r3 h.env)) (λu K=>
    if u=J then af (model c w) A (eval H h.env) (λx P=>af (model c w) A (call (.builtin "list.append") [.ref a,x]) (λj S=>C S) N P) N K else C K) N F) N s:=by
 refine aH λG k=>?_;obtain⟨_,P,S,d⟩:=r0 d;obtain⟨c,i,l,d⟩:=r0 d;refine k (X.a h u L x v A g f _ _ _ r T.3 hv (v6 S λj Z e S W j=>?_));refine X.ifs h u O A Z P e _ _ r W (v6 l λb Z F e P f=>?_);subst f;refine aH λG k=>?_;have f:=(T.go t S W).go t e P;have g:=S.trans e;have S:=aw.mono (g.mono T.3.2) _ _ QO;have W:=QN.at λo q=>g.5 a o q (T.5 a (.head _)).2;clear l;cases c with
 |false=>
  obtain⟨rfl,rfl⟩:=Mine.mI d;exact k (hC Z F E f W S)
 |true=>
  obtain⟨y,c,e,d⟩:=r0 d;haveI c:=Mine.mI d;clear d;clear d;clear d;clear d;obtain rfl:=c.2;obtain rfl:=c.1;refine k (X.e h u H A Z i F _ _ r P (v6 e λF X K F K d=>?_));have c:=f.go t F K;have Z:=aw.mono (F.mono P.2) _ _ S;refine wpAny_list_append (W.at λo q=>F.5 a o q (f.5 a (.head _)).2) (λF F P=>?_) (by rw[cS,aw.length Z];exact eK hz);refine hC X _ _ (c.QK u (.head _) r5 P.extBut (by obtain⟨o,S⟩:=F;exact⟨o,S.1⟩)) ?_ (aw.mono ⟨λb S=>.inl S,λj j h=>h,λb o q z=>P.extBut b o (λe=>z (e▸K.3 _ (c.5 a (.head _)).1)) q⟩ _ _ (Z.append (.one d)));rw[aak]at F;exact F
def QP{l:bK}{w:bM}{L:bg}{B:Heap}{H i:FC}{g u:Gh}{c:St}{s y:ao}{A:bQ}{n:Nat}{N:Call}{k:Nat}{fp wr:List aG}{It a:aG}{C E:List PV}{p:List ay}{O:Bool}{Pr:Nat->Heap->Prop}{j:Nat}(X:AllC l w L B n N k)(ok:FC.Ok B H)(r7:aJ A H n)
  (M:c6 l w L B A i H u y (a::wr) It fp wr C E p O Pr j g c s)(j_:∀b∈i.fr,b∈H.fr)(r5:a∉fp)(hl:s.heap.IsList a Q.toArray)(hr:aw g.Z g.ι s.heap f Q)(hz:C.length<=aI)(hj:f.length<=j)(T:j<=C.length)
  (ht:O=J->ii r8=J)(d:gw (m7 N k H.cx elt r8 ifs) f (C.drop j) c=D (.ok res,pd))
  (hR:∀g' t BZ,c6 l w L B A i H u y (a::wr) It fp wr C E p O Pr C.length g' pd t->t.heap.IsList a BZ.toArray->aw g'.Z g'.ι t.heap res BZ->
   ∀r9 tk,(∀b o,b∉wr->t.heap.get? b=D o->r9.get? b=D o)->R9 (.ok .next) {t with heap:=r9,toks:=tk}):
  gO (model l w) A (.compLoop (.ListComp elt [⟨r8,iter,ifs,0⟩] sc pos) 0 (.ref It) (.ref a) H.env) R9 s:=by
 obtain⟨F,hJ⟩:∃F:Nat->ao->Prop,∀m t,F m t↔E5 λj g c f Q=>A6 (m+j=C.length) (c6 l w L B A i H u y (a::wr) It fp wr C E p O Pr j g c t) (t.heap.IsList a Q.toArray) (aw g.Z g.ι t.heap f Q) (f.length<=j) (gw (m7 N k H.cx elt r8 ifs) f (C.drop j) c=D (.ok res,pd)):=⟨_,λW W=>.rfl⟩;refine QA F (λm t hI=>?_) _ ((hJ ..).mpr ⟨j,g,c,f,Q,ud T,M,hl,hr,hj,d⟩);refine aH λG κ=>?_;obtain⟨j,g,c,f,Q,hm,M,hl,hr,hj,d⟩:=(hJ ..).mp hI;by_cases P:j<C.length
 .have y0:=BX hm P;replace d:=(k4 P)▸d;obtain⟨o,r6,Z,QQ⟩:=r0 d;have S:gw (m7 N k H.cx elt r8 ifs) (r4 f o) (C.drop (j+1)) r6=D (.ok res,pd):=by cases o <;> exact QQ
  refine κ (eh (M.draw ok ht (bI P) λv h' tk M1 hk hv=>?turn)
   (λr v5 K=>by cases r with |none=>exact K.elim |some v=>exact K) λW W x=>x)
  refine QM X ok r7 M1 j_ r5 (hl.at λo q=>hk a o (λq=>r5 (M.1.1 a q)) q) (aw.mono ⟨λb hb=>.inl hb,λW W h=>h,λb o q z=>hk b o (λe=>z (M.3.3 _ (M.5 b (M.7 b e)).1)) q⟩ _ _ hr) (ak hj (ak (bj P) hz)) hv Z
   λg s Q M hl hr=>⟨m - 1,y0.1,(hJ ..).mpr ⟨j+1,g,r6,r4 f o,Q,y0.2,M,hl,hr,QL hj,S⟩⟩
 .have T:=BY hm P;replace d:=mF▸T▸d;rw[T]at M;cases d;refine κ (eh (M.done (hR g t Q M hl hr)) (λr v5 K=>by rw[K.1];exact K.2) λW W x=>x)
def B0{Q:j->ao->Prop}(h:ae b w c B e i g s (bd m f a) Q E):
  cV b w c B A e g s d (m a) (λv S=>E2 λK F=>A3 (m a=D (.ok (.seq K),F)) (bd m f a=f (.seq K) F) (Ready b w c B A e g s F S K d v)) E:=by
 unfold bd at h |-
 cases P:m _ with
 |none=>rw[P]at h;exact h
 |some r=>
  obtain⟨r,F⟩:=r;rw[P]at h;clear P;cases r with
  |ok P=>clear h;cases P with |seq K=>exactλv S R=>⟨K,F,rfl,rfl,R⟩
  |error x=>exact h
def v7{Q:l->ao->Prop}(h:ae b w d B c i g s (bd (fX j k c.cx e) f a) Q E):∀x,FV e c.env x=pure x:=by
 induction e using MM with
 |set e q=>
  rw[q]at h;exact h.elim
 |no e q=>
  exact q _
def QR{Q:a->ao->Prop}(h:ae c w d B i e g s (bd (dp n m) f b) Q E):
  E2 λa F=>m ⟨bF n I++b.loc,b.objs⟩=D (.ok a,F)/\ae c w d B i e g s (f a {F with loc:=b.loc}) Q E:=by
 unfold bd dp at h;cases K:m _ with
 |none=>replace h:=K▸h;exact h.elim
 |some r=>
  obtain⟨r,F⟩:=r;rw[K]at h;clear K;cases r with
  |ok a=>exact⟨a,F,rfl,h⟩
  |error x=>exact h.elim
def pe m(f:a->M _)(g:b->M c):bd (bd m f) g=bd m λa=>bd (f a) g:=by
 funext stst9
 unfold bd;cases m _ with
 |none=>rfl
 |some r=>obtain⟨r,F⟩:=r;cases r <;> rfl
def B1{p q:Bool}{a:Int}(h:¬(p=V\/(q=J\/a≠0))):p=J/\(q=V/\a=0):=
 ⟨aaz _▸(not_or.mp h).1,kZ _▸(not_or.mp (not_or.mp h).2).1,Decidable.not_not.mp (not_or.mp (not_or.mp h).2).2⟩
inductive CompEnd(e:bK)(w:bM)(K:bg)(B:Heap)(h:FC)(g:Gh)(s:ao)(a C:aG)(f:List PV)(d:St)(b:Gh)(c:ao):Prop |mk
 (F:aP h g s (b.show g.P) c)
 (F:ah e w K B h b d c)
 (p:b.P=C::g.P)
 (F:C∉b.Y)
 (F:s.heap.get? C=I)
 (F:∃m,c.heap.Ns C m)
 (F:f.length<=aI->al b.Z b.ι c.heap (.U f) (.ref a))
def CompEnd.go(X:CompEnd c w d B h g s a C i j e f)(S:aP h e f l m)(b:ah c w d B h l k m):CompEnd c w d B h g s a C i k l m:=by
 refine aH λG K=>?_;obtain⟨m,o,P,W,F,Z⟩:=X.6;refine K ⟨X.1.trans (S.show _),b,S.3.trans X.3,λq=>?_,X.5,⟨m,o,P,W,S.5 _ _ F X.4,Z⟩,λK=>al.mono (S.mono X.2.2) _ _ (X.7 K)⟩;rcases S.4 _ q with z |z
 .exact X.4 z
 .rw[F]at z;exact Mine.z4 z
def CompEnd.fin(m:FC.Ok B i)(l:ah b w f B i g k s)(X:CompEnd b w f B i g s a C h e c d)(n:h8 C d.heap j)(p:h.length<=aI)(o:a≠C):
  ∃F,A3 (aP i g s F {d with heap:=j}) (ah b w f B i F e {d with heap:=j}) (al F.Z F.ι j (.U h) (.ref a)):=by
 have P:∀b o,b∉ [C]->d.heap.get? b=D o->j.get? b=D o:=λb o F q=>n.extBut b o (λe=>F (e▸.head _)) q;haveI S:∀b∈ [C],s.heap.get? b=I:=λb F=>by rw[bq.mp F];exact X.5
 have K:∀b∈c.Z.filter (· !=C),b∈c.Z:=λb F=>(dj.mp F).1;have W:∀b∈ [C],b∈c.Z/\b∉c.Y:=λb F=>by rw[bq.mp F];exact⟨(X.2.3 C (by rw[X.3];exact .head _)),X.4⟩
 refine⟨⟨c.ι,c.Y,c.Z.filter _,g.P⟩,X.1.turn S K P,X.2.turn m W K (λb F=>dj.mpr ⟨X.2.2 b F,by simpa using λe:b=C=>X.4 (e▸F)⟩)
  (λb F=>⟨by rw[X.3];exact .tail _ F,dj.mpr ⟨X.2.3 b (by rw[X.3];exact .tail _ F),?_⟩⟩) P (λb F e=>?_),al.mono ⟨λb F=>.inl (K b F),λK K h=>h,λb o q z=>P b o (λe=>z (W b e).1) q⟩ _ _ (X.7 p)⟩
 .have:b≠C:=λe=>by obtain⟨o,q⟩:=(l.4 b (l.3 b F)).2;rw[e,X.5]at q;exact Mine.z3 q
  simpa using this
 .have:=(dj.mp F).2;rw[bq.mp e]at this;simp at this
def B2(X:AllC c w o B n q k)(G:FC.Ok B d)(l:aJ A d n)(a:ah c w o B d g e s){RR:ay->aG->Result->ao->Prop}
  (y:mP d.cx m=J)(he:jg i=V)
  (h:ae c w o B d v g s (bd (fX q k d.cx i) (λt=>bd (dp (dJ m).length (dV t (m7 q k (d.cx.comp m) H L N))) f) e) x E)
  (hR:∀b C r p u j,CompEnd c w o B d g s b C u j r p->b≠C->ae c w o B d v g s (f u j) x E->RR (.ref b) C (.ok .next) p):
  af (model c w) A (eval i d.env) (λx F=>af (model c w) A (pyIter x) (λt K=>af (model c w) A (newList []) (λS W=>
   af (model c w) A (newFunctionEnv m d.env.globals (m.names.foldl (f_ d.env) []) [] d.env.qual I .none (D d.env)) (λP Z=>
    gO (model c w) A (.compStart (.ListComp H [⟨L,i,N,0⟩] m pos) 0 t S {P with scope:=relabel m d.env}) (RR S P.locals) Z) E W) E K) E F) E s:=by
 have v:=vV y;refine eh (X.it d G i A g e s _ E l a (B0 h)) (λx F k=>eh k (λt K F=>?_) λE E e=>e) λE E e=>e;obtain⟨K,B,K,P,a⟩:=F;obtain⟨It,z,O,F,F,F,F,p,K,Z,t,rfl,s,rfl,pc,S,F,Q,hk,T,hr,hz,v8⟩:=a;rw[P]at h;obtain⟨u,pd,y0⟩:=QR h;refine fO (wpAny_newFunctionEnv (λx a=>?_) (by intro y P;simp at P) (λk f P=>?_) v.4)
 .rcases v.7 x a with q |q |⟨q,_⟩ <;> rw[q] <;> decide
 generalize a:Z.push {cls:=.type "list",dict:=I,data:=.seq [].toArray}=j at f P |-
 have r:j.objs.size=Z.objs.size+1:=by rw[<- a,kX]
 have y:Z.objs.size≠j.objs.size:=by rw[r];exact dB (fN _)
 have lt:∀b,(∃o,Z.get? b=D o)->b<Z.objs.size:=λb x=>x.elim λo e=>ca e;have C:=λb o e=>P.extBut b o (by rw[r];exact dB (ui (ca e))) (bA _ (a▸bA _ e));have x:=P.extBut _ _ y (bA _ (a▸cI _ rfl));have P:∀a,Z.objs.size<=a->K.heap.get? a=I:=λa ha=>by
  cases e:K.heap.get? a with
  |none=>rfl
  |some o=>exact aB (ca (hk a o e)) (ar.mpr ha)
 have a:K.heap.get? j.objs.size=I:=P _ (by rw[r];exact fy _);have QS:d.env.locals<=j.objs.size:=by
  obtain⟨o,e⟩:=(F.4 _ (F.2 _ (F.5 _ G.6))).2;rw[r];exact hW (bj (ca (hk _ o e)))
 have QT:j.objs.size∉O:=λq=>by have:=lt _ (Q _ q).2;rw[r]at this;exact aB this (ar.mpr (fy _))
 have r:Z.objs.size∉z:=λq=>by
  rcases T _ q with z |⟨_,o,z⟩
  .exact d1 _ (lt _ (Q _ z).2)
  .exact d1 _ (lt _ ⟨o,hk _ o z⟩)
 have dt:=QF G F v a QS;have B3:=s.2 _ _ _ pc λb E o e=>C b o e;have QU:aJ A (o_ d m (m.names.foldl (f_ d.env) []) j.objs.size) n:=⟨l.1,l.2,l.3,l.4⟩;have l:∀W:ao,W=({K with heap:=k,toks:=t+0})->
   gO (model c w) A (.compLoop (.ListComp H [⟨L,i,N,0⟩] m pos) 0 (.ref It) (.ref Z.objs.size) (o_ d m (m.names.foldl (f_ d.env) []) j.objs.size).env) (RR (.ref Z.objs.size) j.objs.size) W:=by
  rintro W rfl
  refine QP X dt QU (QH G F v s B3 (λb K=>⟨(Q b K).1,((Q b K).2).elim λo q=>⟨o,C b o q⟩⟩) (λb o e=>C b o (hk b o e)) T hr (P _ (aL _)) ⟨_,x⟩ a (Ne.symm y) QT f) (λb K=>K) r ⟨_,x,rfl,_,rfl⟩ .nil hz (aL _) (bn _) (λe=>aB (v8 e) (by rw[he];decide)) y0.1 λX W W c d f W tk W=>?_;have i:∀b∈p.P,b∉Z.objs.size::O:=λb K q=>by
   obtain⟨o,e⟩:=(F.4 b (F.3 b K)).2;rcases bD.mp q with q |q
   .rw[q,P _ (aL _)]at e;exact Mine.z3 e
   .rw[(Q b q).1]at e;exact Mine.z3 e
  have P:=c.out (tk:=tk) dt i (λb o K q=>W b o (λz=>K (.tail _ z)) q);have i:=comp_back G F P.1 P.2 a;refine hR Z.objs.size j.objs.size _ _ u ⟨B.loc,pd.objs⟩ ⟨?_,i.2,?_,?_,?_,?_,λF=>?_⟩ y y0.2
  .rw[show((⟨X.ι,X.Y.filter (· !=j.objs.size),X.Z.filter (λb=>!(Z.objs.size::O).contains b),j.objs.size::p.P⟩:Gh).show g.P)=⟨X.ι,X.Y.filter (· !=j.objs.size),X.Z.filter (λb=>!(Z.objs.size::O).contains b),p.P⟩from by rw[S.3];rfl];exact(S.trans i.1)
  .exact cA _ S.3
  .intro q;have:=(dj.mp q).2;simp at this
  .exact S.none a
  .obtain⟨m,S⟩:=P.2.10.2;exact⟨m,S.1⟩
  .have P:Z.objs.size∉O:=λq=>r (s.1 _ q);refine al.oS (d.at λo q=>W _ o P q) (λq=>?_) (aw.mono ⟨λb K=>.inl (dj.mp K).1,λE E h=>h,λb o q z=>W b o (λe=>z (c.3.3 _ (c.5 b (.tail _ e)).1)) q⟩ _ _ f) F;have:=(dj.mp q).2;simp at this
 exact codeAny_compStart_list (l _ rfl) (s.6 0 _ _ _ B3 (l _ rfl))
def B4(h:b.length<=aI):bV V b a=D (.ok (.U b),a):=iP h
def B5(h:¬b.length<=aI):bV V b a=I:=iN h
def QV(X:AllC a w d B n j k)(l:FC.Ok B e){f:aA}{o:List _}{p:d0}{i:Pos}(m:aJ A e n)(b:ah a w d B e g c s)
  (h:ae a w d B e VR g s (den j (k+1) e.cx (.ListComp f o p i) c) Q E):af (model a w) A (eval (.ListComp f o p i) e.env) Q E s:=by
 obtain⟨⟨F,F,F,a⟩,rfl,h⟩:=lq h;haveI P:=j0 h;haveI K:=B1 P.1;clear h;clear h;obtain rfl:=K.2.2;haveI F:=vV K.1;refine aaA rfl (v7 P.2) (BQ (rZ l b F)) F.4 (λx S W=>W▸rE F.5 S) (B2 X l m b K.1 K.2.1 P.2 λF C F F F K S K W=>?_);obtain⟨m,P⟩:=S.6;refine⟨m,P,λP X=>?_⟩;by_cases P:F.length<=aI
 .obtain⟨F,F⟩:=S.fin l b X P K;exact((B4 P▸W)).ok F.1 F.2 F.3
 .exact(B5 P▸W).elim
def QW(X:AllC d w i B n l k)(q:FC.Ok B f)(G:v4 d w i B n f b z)(m:aJ A f n)(c:ah d w i B f g j s)
  (o:mP f.cx p=J)(r:jg e=V)(h:ae d w i B f UR g s (bd (bd (fX l k f.cx e) λC=>
    bd (dp (dJ p).length (dV C (m7 l k (f.cx.comp p) t u v))) λH=>bV V H) z j) (λN y=>Q .none y) E):
  af (model d w) A (comprehension (.ListComp t [⟨u,e,v,0⟩] p L) p f.env x (newList []) V (eval e f.env) (D b)) Q E s:=by
 haveI F:=vV o;simp only[pe]at h;refine aaA rfl (v7 h) (BQ (rZ q c F)) F.4 (λx K P=>P▸rE F.5 K) (B2 X q m c o r h λF C K F S F P Z F=>?_);by_cases X:S.length<=aI
 .rw[rV (B4 X)]at F;refine G _ _ A _ _ _ _ _ m P.2 (P.7 X) ?_;haveI W:∀b∈g.P,b∈K.P:=λb K=>by rw[P.3];exact .tail _ K
  match e:z _ _,F with
  |some (.ok a,v9),F=>
   intro b g y S d _;have f:=P.go S d;obtain⟨m,e⟩:=f.6;refine⟨m,e,λe h=>?_⟩;obtain⟨e,e⟩:=f.fin q c h X Z;exact F () _ _ e.1 e.2 trivial
  |some (.error x,v9),F=>exactλe g y S d q=>F e _ _ (P.1.trans (S.show _)) (d.show λb K=>by rw[S.3];exact W b K) q
 .rw[BF (B5 X)]at F;exact F.elim
def QX(X:AllC b w d B n e k):∀c,FC.Ok B c->∀P K S W F Z,v4 b w d B n c F Z->∀A g a s (Q:Unit->ao->Prop) E,aJ A c n->ah b w d B c g a s->ae b w d B c UR g s (bd (den e (k+1) c.cx (.ListComp P K S W)) Z a) Q E->
  af (model b w) A (evalThenUse (.ListComp P K S W) c.env F) Q E s:=by
 intro c b P K S W F Z Z A g a s Q E K F h;obtain⟨⟨P,P,P,a⟩,rfl,h⟩:=vk h;obtain⟨S,h⟩:=AA h;haveI P:=B1 S;clear S;obtain rfl:=P.2.2;exact ac (eh (QW (Q:=λS W=>Q () W) X b Z K F P.1 P.2.1 h) (λv W x=>ax x) λS S x=>x)
structure AllS(prog:bK)(w:bM)(K:bg)(B:Heap)(n:Nat)(F:Call)(k:Nat):Prop extends AllC prog w K B n F k where
 s:∀fc,FC.Ok B fc->fc.env=fc.cf->∀B6,ev prog w K B n fc cU (exec B6 fc.env) (ll F k fc.cx B6)
 ss:∀fc,FC.Ok B fc->fc.env=fc.cf->∀l,ev prog w K B n fc cU (execs l fc.env) (bW F k fc.cx l)
def QY(X:AllS d w i B n j k):∀c,FC.Ok B c->c.env=c.cf->∀l,ev d w i B n c cU (execs l c.env) (bW j (k+1) c.cx l):=by
 intro c q Z l A g m s Q E e F h;cases l with
 |nil=>exact uC (h.ok (.refl ..) F rfl)
 |cons a r=>
  refine uD (X.s _ q Z a A g _ s _ _ e F (ae.bd h λf b t o u y S K P W=>?_));cases f with
  |next=>cases P;exact X.ss _ q Z r A _ _ _ _ _ e K W
  |ret p=>obtain⟨v,rfl,x⟩:=P;exact W.ok (.refl ..) K ⟨v,rfl,x⟩
def v_{Q:e->ao->Prop}(h:ae b w c B i d g s (bd aC f a) Q E):False:=h
def QZ(X:AllS a w c B n i k)(l:FC.Ok B d)(j:aJ A d n)(f:ah a w c B d g b s)
  (h:ae a w c B d cU g s ((if u7 e then aC else bd (den i k d.cx e) λm=>rt .next) b) Q E):af (model a w) A (exec (.Expr e o) d.env) Q E s:=by
 refine eD (λF h=>?_) (j0 h)
 induction e using Al with
 |one a b c d=>
  exact(F rfl).elim
 |two e q=>
  rw[q]at h;exact(v_ h).elim
 |no e q=>
  exact wpAny_Expr_any (X.e _ l e A g _ s _ _ j f (ae.bd h λa b F F F m S F K K=>K.ok (.refl ..) F rfl)) (by unfold interactive;rw[l.1];rfl) (q ..)
def Q0(X:AllS b w d B n i k)(l:FC.Ok B f)(j:aJ A f n)(a:ah b w d B f g c s)
  (h:ae b w d B f cU g s ((bd (den i k f.cx e) λv=>bd (freeze v) λw=>rt (.ret w)) c) Q E):af (model b w) A (exec (.Return (D e) m) f.env) Q E s:=aaB (X.e _ l e A g _ s _ _ j a (ae.bd h λa b F F F W S F K P=>ON l F K (ae.bd P λF S F F F W F F K P=>P.ok (.refl ..) F ⟨S,rfl,K⟩)))
def Q1(X:AllS d w l B n o k)(m:FC.Ok B f)(q:aJ A f n)(c:ah d w l B f g j s)(r:f.cx.fW x=D i)
  (h:ae d w l B f cU g s ((bd (Mine.getL i) λa=>bd (den o k f.cx e) λb=>ve i a b) j) Q E):af (model d w) A (exec (.AugAssign (.Name x p) .Add e t) f.env) Q E s:=by
 refine wpAny_AugAssign_Name (Bz m c (ra r) (ae.bd h λa F P F W Z S K S c=>?_));refine X.e f m e A P F W _ _ q K (ae.bd c λb F F F P Z W X c F=>?_);obtain⟨a,t,b,u,rfl,rfl,F⟩:=f0 (al.mono (W.mono K.2) _ _ S) c F;refine abX ?_;haveI K:=X.toks m (P.toks+1);exact vi m K.2 r (by exact⟨_,rfl⟩) (ae.bd (ae.step F K.1) λZ Z F F F Z F K Z F=>F.ok (.refl ..) K rfl)
def Q2(X:AllS e w m B n i k)(q:FC.Ok B f)(p:f.env=f.cf)(j:aJ A f n)(d:ah e w m B f g l s)
  (h:ae e w m B f cU g s ((bd (dK i k f.cx t) λc=>if c then bW i k f.cx b else bW i k f.cx o) l) Q E):af (model e w) A (exec (.If t b o u) f.env) Q E s:=by
 refine wpAny_If (X.t _ q t A g _ s _ _ j d (ae.bd h λa c Z W r v S F P K=>?_));subst P;cases a
 .exact X.ss _ q p o A _ _ _ _ _ j F K
 .exact X.ss _ q p b A _ _ _ _ _ j F K
def Q3(X:AllS c w e B n l k)(o:FC.Ok B i)(j:i.env=i.cf)(f:aJ A i n)(a:ah c w e B i g d s)
  (h:ae c w e B i cU g s (cB (dK l k i.cx t) (bW l k i.cx b) gv d) Q E):af (model c w) A (exec (.While t b [] m) i.env) Q E s:=by
 refine wpAny_While (codeAny_whileLoop (λm K=>E2 λP F=>ah _ w e B _ P F K/\ae _ w e B _ _ P K (cB _ _ m F) Q E) (λm K K=>?_) _ ⟨g,d,a,h⟩);obtain⟨P,F,F⟩:=K;cases m with
 |zero=>exact F.2.elim
 |succ m=>
  refine X.t _ o t A _ _ _ _ _ f F.1 (ae.noted o f j (ae.bd F.2 λa c F F F Z S F P K=>?_));subst P;cases a
  .exact uC (K.ok (.refl ..) F rfl)
  .refine X.ss _ o j b A _ _ _ _ _ f F (ae.noted o f j (ae.bd K λf F W S F Z F F K P=>?_));cases f with
   |next=>cases K;exact⟨m,fN _,W,S,F,P⟩
   |ret p=>obtain⟨v,rfl,S⟩:=K;exact P.ok (.refl ..) F ⟨v,rfl,S⟩
def m8(F:Call)(k:Nat)(a:Cx)(t:aA)(b:List cP)(x:PV):M Fl:=bd (d6 F k a t x) λK=>bW F k a b
def Q4(F:Call)(k:Nat)(a:Cx)(t:aA)(b:List cP)(c:List PV)(f:Fl):M Fl:=match f with
 |.next=>c0 (m8 F k a t b) c
 |.ret v=>rt (.ret v)
def Q5{It:aG}(X:AllS a w l B n m k)(L:FC.Ok B d)(q:d.env=d.cf)(o:aJ A d n)
  (wa:N=J->ii t=J)(hx:xs[j]?=D x)(M:c6 a w l B A d d i e u It fp u xs O y N Pr j g c s)(h:ae a w l B d cU i e (bd (m8 m k d.cx t b x) (Q4 m k d.cx t b (xs.drop (j+1))) c) Q E)
   (hn:∀g c s,c6 a w l B A d d i e u It fp u xs O y N Pr (j+1) g c s->ae a w l B d cU i e (c0 (m8 m k d.cx t b) (xs.drop (j+1)) c) Q E->P .next s)(hr:∀v s,Q (.ret v) s->P (.ret v) s):
  af (model a w) A (pyNext (.ref It)) (λr e=>match r with
   |none=>False
   |some v=>af (model a w) A (letOwnedTupleGo t (.ref It) v) (λH e=>af (model a w) A (assign t d.env v) (λH F=>af (model a w) A (execs b d.env) P (fQ (model a w) A d.env (i4 (model a w) A d.env E)) F)
    (fQ (model a w) A d.env (i4 (model a w) A d.env E)) e) (fQ (model a w) A d.env (i4 (model a w) A d.env E)) e) (fQ (model a w) A d.env (i4 (model a w) A d.env E)) s:=by
 refine M.draw L wa hx λv r9 B7 M1 hk1 hv=>?_;refine X.a d L t x v A g c _ _ _ o M1.3 hv (ae.noted L o q (ae.BG M1.4 (ae.step (pe ..▸h) M1.2) λH H T z F C wb K H h4=>?_));have M2:=M1.go (λH h=>h) wb K;refine X.ss d L q b A T z F _ _ o K (ae.noted L o q (ae.BG M2.4 h4 λf fl Q6 G S Q7 Q8 W Z h5=>?_));have M3:=M2.go (λH h=>h) Q8 W;cases f with
 |next=>
  cases Z;rw[rV (show m8 m k d.cx t b x c=_ from(rV C).trans Q7)]at h;exact hn Q6 G S M3 h
 |ret p=>
  obtain⟨v,rfl,hv⟩:=Z;exact hr v S (h5.ok (.refl ..) (W.show M3.4) ⟨v,rfl,hv⟩)
def Q9(X:AllS d w p B n H k)(ok:FC.Ok B i)(Q_:i.env=i.cf)(O:aJ A i n)(a:ah d w p B i g c s)
  (h:ae d w p B i cU g s ((if jg it=J/\ii t=V then aC else bd (fX H k i.cx it) λL=>forM L (m8 H k i.cx t b)) c) Q E):
  af (model d w) A (exec (.For t it b [] pos) i.env) Q E s:=by
 refine eD (λhc h=>?_) (j0 h);refine wpAny_For (eh (X.it i ok it A g c s _ E O a (B0 h)) (λx z K=>eh K (λit abx T=>?_) λu u e=>e) λu u e=>e) (v7 h);obtain⟨L,aby,hm,Q',Rd⟩:=T;obtain⟨It,fp,B8,base,N,tup,Pr,C,W,h',tk,rfl,src,rfl,pc,S,Z,hw,hk,v2,hr,hz,v8⟩:=Rd;rw[Q']at h;haveI wa:tup=J->ii t=J:=λe=>by
  cases G:ii t with
  |true=>rfl
  |false=>exact aB ⟨v8 e,G⟩ hc
 obtain⟨F,hJ⟩:∃F:Nat->ao->Prop,∀m s',F m s'↔E3 λj g c=>A3 (m+j=L.length) (c6 d w p B A i i C W B8 It fp B8 L base N tup Pr j g c s') (ae d w p B i cU C W (c0 (m8 H k i.cx t b) (L.drop j) c) Q E):=⟨_,λu u=>.rfl⟩;refine codeAny_forLoop_any F (λm s' hI=>?_) L.length ((hJ ..).mpr ⟨0,_,_,rfl,QG ok Z src pc hw hk v2 hr,(ae.step h S)⟩);obtain⟨j,g',st',y0⟩:=(hJ ..).mp hI;haveI M:=y0.2;haveI G:=y0.3;by_cases y:j<L.length
 .have y2:=BX y0.1 y;replace G:=(k4 y)▸G;refine(eh (Q5 (P:=λf l=>match f with
   |.next |.cont=>∃m',m'<m/\F m' l
   |.brk=>Q .next l
   |.ret v=>Q _ l) X ok Q_ O wa (bI y) M G ?_ λv s hq=>hq) (λr z K=>by cases r with |none=>exact K.elim |some v=>exact K) λu u x=>x)
  exactλg c s M h=>⟨m - 1,y2.1,(hJ ..).mpr ⟨j+1,g,c,y2.2,M,h⟩⟩
 .have B9:=BY y0.1 y;replace G:=mF▸B9▸G;rw[B9]at M;refine(eh (M.done λr9 B7 r_=>?_) (λr z K=>by obtain rfl:=K.1;exact uC K.2) λu u x=>x);haveI y1:=M.out (tk:=B7) ok (λb hb q=>by
   obtain⟨o,e⟩:=(Z.4 b (Z.3 b hb)).2;rw[(hw b q).1]at e;exact Mine.z3 e) r_
  exact G.ok y1.1 y1.2 rfl
section
set_option backward.match.sparseCases false
def lw(a:Env)(t:aA)(x:Str):Prop:=∃p,t=.Name x p/\a.kindOf x=D .local
def Ra(c:∀t x,f t=D x->lw b t x):(a.filterMap f).length=a.length->bC (lw b) a (a.filterMap f):=by
 induction a with
 |nil=>exactλF=>rfl
 |cons t a F=>
  rw[hY];cases K:f t with
  |none=>exactλh=>aB (h▸yI ..) (Nat.not_succ_le_self _)
  |some x=>exactλh=>⟨x,_,rfl,c _ _ K,F (h9 h)⟩
def Rb m:∀l:List Str,l.length<=m->l.eraseDups.length<=l.length:=by
 induction m with
 |zero=>exactλl h=>yJ (Nat.le_zero.mp h)▸aL _
 |succ m F=>
  refineλl=>?_;cases l with
  |nil=>exactλK=>aL _
  |cons a l=>rw[aaC];exactλh=>dA (ak (F _ (ak (n_ ..) (jK h))) (n_ ..))
def Rc{l:List Str}:l.eraseDups.length=l.length->l.Nodup:=by
 induction l with
 |nil=>exactλF=>.nil
 |cons a l F=>
  refineλh=>?_;rw[aaC]at h;have h:=h9 h;have e:=List.length_filter_eq_length_iff.mp (b8 (n_ ..) (h▸Rb _ _ (aL _)));rw[List.filter_eq_self.mpr e]at h;exact ef.mpr ⟨λq=>z1 ((cA _ (beq_self_eq_true a)).symm.trans (e a q)),F h⟩
def Rf:E2 λf g=>(∀t x,g t=D x->lw a t x)/\jA [.Tuple b c p] (.Tuple d e h) a=(do
 if !(b.length==2 ||b.length==3) ||d.length !=b.length ||a.blockKind !=.function then return I
 if d.any f then return I
 let F:=b.filterMap g
 if F.length !=b.length ||F.eraseDups.length !=F.length then return I
 if d.all (foldedForSure 8)then return I
 if d.all (constantsAlone 8)then unsupported "assign.tuple-of-constant-expressions:order-of-the-stores"
 return D F):=by
 refine⟨_,_,?_,rfl⟩;intro t x h;cases t with
 |Name id F=>
  exact iteInduction (motive:=λo=>o=D x->lw _ _ x) (λK h=>aE h▸⟨F,rfl,bE.mp (cH.mp K).1⟩) (λF h=>z3 h) h
 |_=>exact z3 h
def Rg(a:oz (.Tuple h c p) (.Tuple d i j)=V):jA [.Tuple h c p] (.Tuple d i j) b=pure I\/
  ∃F,A3 (jA [.Tuple h c p] (.Tuple d i j) b=pure (D F)) (bC (lw b) h F) F.Nodup:=by
 obtain⟨f,g,P,e⟩:=Rf;rw[e]
 split
 .exact .inl rfl
 .split
  .exact .inl rfl
  .dsimp only
   split
   .exact .inl rfl
   .rename_i K
    split
    .exact .inl rfl
    .rename_i S;haveI K:=mB.mp (kZ _▸K);rw[iN (λW=>by
      haveI a:(d.all _ && !d.all _)=V:=a;replace a:=(kZ _▸S)▸W▸a;cases a)]
     exact .inr ⟨_,rfl,Ra P (bne_eq_false_iff_eq.mp K.1),Rc (bne_eq_false_iff_eq.mp K.2)⟩
def sl(a:Cx)(x:Str):Nat:=(a.fW x).getD 0
def sets(b:Cx)(l:List (Str×PV))(a:List (Option PV)):List (Option PV):=l.foldl (λa e=>a.set (sl b e.1) (D e.2)) a
def wd(a:Cx)(l:List (Str×PV)):Prop:=∀e∈l,a.fW e.1=D (sl a e.1)
def Rh:∀{F:List _},(∀e∈l,sl a e.1≠i)->sets a l (F.set i v)=(sets a l F).set i v:=by
 induction l with
 |nil=>exactλK=>rfl
 |cons a l K=>exactλ{F} h=>(cA _ (List.set_comm _ _ (Ne.symm (h a (.head _))))).trans (K λe F=>h e (.tail _ F))
def Ri{a:FC}(b:a.cx.fW x=D i)(c:a.cx.fW y=D i):x=y:=by
 obtain⟨F,_,_,F⟩:=slot_get (ra b);obtain⟨K,K⟩:=slot_get (ra c);replace F:=K.3▸F;clear b;obtain⟨rfl,rfl⟩:=ym (aE F);rfl
def Rj{a:FC}:∀{F:List _},wd a.cx l->(l.map (·.1)).Nodup->sets a.cx l.reverse F=sets a.cx l F:=by
 induction l with
 |nil=>exactλK K=>rfl
 |cons a l K=>
  refineλ{F} h F=>?_;haveI F:=ef.mp F;exact(((cA (λx=>sets _ x _) yj).trans GZ).trans (cA (λx:List _=>x.set ..) (K (λe K=>h e (.tail _ K)) F.2))).trans (Rh λe K q=>F.1 (ch.mpr ⟨e,K,Ri (h e (.tail _ K)) (q▸h a (.head _))⟩)).symm
def Rk{Q:j->ao->Prop}:∀{P:List _} {K:List _} {k:Nat} {a:St},bC (lw b.env) e P->ae c w d B b h g s (bd (ji i k b.cx e K) f a) Q E->
  A3 (wd b.cx (P.zip K)) (P.length=K.length) (ae c w d B b h g s (f () {a with loc:=sets b.cx (P.zip K) a.loc}) Q E):=by
 induction e with
 |nil=>
  refineλ{P K k a} F=>F▸?_;cases k with
  |zero=>exactλh=>h.elim
  |succ k=>
   cases K with
   |nil=>exactλh=>⟨λS h=>z7 h,rfl,h⟩
   |cons _ _=>exactλh=>h.elim
 |cons t e S=>
  refineλ{P K k a} F=>F.elim λn P q=>q.1▸q.2.elim λp e=>e.1▸?_;cases k with
  |zero=>exactλh=>h.elim
  |succ k=>
   cases K with
   |nil=>exactλh=>h.elim
   |cons v K=>
    cases k with
    |zero=>exactλh=>h.elim
    |succ k=>
     refineλh=>?_;haveI F:=pe (a_ _ λi=>ol i v) _ f▸h;refine Mine.oe (b.cx.fW n) (λK=>?_) λi K=>?_
     .replace F:=K▸F;exact F.elim
     .haveI e:sl _ n=i:=by unfold sl;rw[K];rfl
      rw[K]at F;haveI P:=S q.3 F;exact⟨dH.mpr ⟨e.symm▸K,P.1⟩,cA _ P.2,(e.symm▸P.3:ae _ w d B _ _ g s (f _ {a with loc:=sets _ _ (a.loc.set ..)}) Q E)⟩
def Rl(f:FC.Ok B c){Q:Unit->ao->Prop} l:∀K g a s,wd c.cx l->ah b w d B c g a s->aw g.Z g.ι s.heap (l.map (·.2)) K->
  (∀P F,aP c g s P F->ah b w d B c P {a with loc:=sets c.cx l a.loc} F->Q () F)->af (model b w) A (assignInOrder ((l.map (·.1)).map λn=>bindName c.env n) K) Q E s:=by
 induction l with
 |nil=>exactλK g a s S F P h=>P▸ax (h g s (.refl ..) F)
 |cons e l W=>exactλK g a s K F P h=>P.elim λv P y=>y.1▸ac (cJ (wpAny_bindName (vi f F (K e (.head _)) y.2 λS P P P X S=>
   W _ _ _ _ (λe S=>K e (.tail _ S)) X (aw.mono (P.mono F.2) _ _ y.3) λF F F K=>h _ _ (P.trans F) K)))
def Rm(X:AllS b w e B n j k)(u:FC.Ok B i)(o:aJ A i n)(a:ah b w e B i g f s)(r:al g.Z g.ι s.heap v q)(l:bC (lw i.env) m d)(x:d.Nodup)
  (h:ae b w e B i cU g s (bd (d6 j k i.cx (.Tuple m c p) v) (λy=>rt .next) f) Q E):af (model b w) A (assignStores i.env q (D d) []) Q E s:=by
 refine ac (hX ?_);clear X;refine aH λG S=>?_;cases k with
 |zero=>exact h.elim
 |succ k=>
  have h:=(AA h).2;cases v with
  |tup K=>
   haveI P:=Az (show ae _ w e B _ _ g s (bd (if K.length=m.length then ji j k _ _ _ else aC) ..) Q E by
    rw[pe]at h;by_cases q:K.length=m.length
    .have h:ae _ w e B _ _ g s (bd (if K.length=m.length then rt _ else aC) ..) Q E:=h;rw[iP q]at h |-;exact h
    .have h:ae _ w e B _ _ g s (bd (if K.length=m.length then rt _ else aC) ..) Q E:=h;rw[iN q]at h |-;exact h)
   have F:=Rk l P.2;refine r.dr.elim λP P P=>?_;clear r;obtain rfl:=P.1;refine S ?_;rw[F.2.trans (P.4.length.symm.trans (cS ..).symm)];refine ac (unpackItems_tuple o.2 P.2 λS S=>?_);haveI W:=a.new (t:=s.toks) u (λb o q=>S b o (fresh_ne q) q);haveI X:(d.zip _).reverse.map (·.1)=d.reverse:=by rw[G0,Gg (aq F.2)]
   haveI Z:(d.zip _).reverse.map (·.2)=K.reverse:=by rw[G0,aaD (aq F.2.symm)]
   rw[<- X];refine ac (Rl u _ _ g _ _ (λe S=>F.1 e (aaE.mp S)) W.2 (Z▸(aw.mono (W.1.mono a.2) _ _ P.4).reverse) λK K S K=>ax ?_);rw[Rj F.1 (by rw[Gg (aq F.2)];exact x)]at K;exact F.3.ok (W.1.trans S) K rfl
  |_=>exact h.elim
def we(X:AllS b w j B n l k)(C:FC.Ok B d)(f:aJ A d n)(a:ah b w j B d g i s)(T:oz t e=V)(m:isStar t=V)(o:uj [t] e G.line d.env=pure V)
  (h:ae b w j B d cU g s ((bd (den l k d.cx e) λv=>bd (d6 l k d.cx t v) λr=>rt .next) i) Q E):af (model b w) A (exec (.Assign [t] e G) d.env) Q E s:=by
 refine ac (e7 ?_);rw[o];refine ac (ax ?_);refine ac (X.e _ C e A g _ s _ _ f a (ae.bd h λv vv u Z K r S P W F=>?_));haveI plain:jA _ e _=pure I->af (model _ w) A (jA [t] e d.env >>=λsw=>assignStores d.env _ sw ((assignEach [t] d.env).map (·.2))) Q E K:=λx=>by
  rw[x];refine ac (ax ?_);rw[vU m];exact ac (X.a d C t v vv A u Z K _ _ f P W (ae.bd F λr r L H N r O y r z=>ax (z.ok (.refl ..) y rfl)))
 clear m o h;induction t using MP with
 |tup ts c p=>
  induction e using MQ with
  |tup vs c' p'=>
   rcases Rg T with x |⟨names,x,Rn,nd⟩
   .exact plain x
   .rw[x];exact ac (ax (Rm X C f P W Rn nd F))
  |no e q=>
   exact plain (q ..)
 |lst t q=>
  rw[q]at F;exact(v_ F).elim
 |no t q=>
  exact plain (q ..)
def Ro(X:AllS b w i B n j k)(l:FC.Ok B d)(c:aJ A d n)(a:ah b w i B d g f s)
  (h:ae b w i B d cU g s ((if oz t e ||isStar t then aC else bd (den j k d.cx e) λv=>bd (d6 j k d.cx t v) λm=>rt .next) f) Q E):af (model b w) A (exec (.Assign [t] e o) d.env) Q E s:=by
 refine eD (λF h=>?_) (j0 h);haveI F:=mB.mp (kZ _▸F)
 induction e using Al with
 |one S K W Z=>
  induction t using MR with
  |name x p=>
   obtain⟨b,P⟩:∃b,uj [.Name x p] (.ListComp S K W Z) _ d.env=pure b:=⟨_,rfl⟩;cases b with
   |false=>exact we X l c a F.1 F.2 P h
   |true=>
    refine ac (e7 ?_);rw[P];refine ac (ax ?_);rw[<- pe]at h;exact ac (X.cu _ l _ _ _ _ _ _ (X.a _ l _) A g _ s _ _ c a (ae.bd h λm m K K K m S K m P=>ax (P.ok (.refl ..) K rfl)))
  |no t q=>
   exact we X l c a F.1 F.2 (q ..) h
 |two e q=>
  rw[q]at h;exact(v_ h).elim
 |no e q=>
  exact we X l c a F.1 F.2 (q ..) h
end
@[elab_as_elim] def wg{d e f:Type}{a g:d}{b h:e}{c i:f}{P:d->e->f->Prop}(j:a=g)(k:b=h)(l:c=i)(p:P g h i):P a b c:=j▸k▸l▸p
def wi{M:fz}{A:bQ}{E:ay->ao->Prop}{h:Heap}{g:Array yK}{d:Drawn}{t:Nat}{a:yL}{j q:Str}{C N:aG}{k i:List ay}{e:Bool}{l:List Str}{c:List ay}{m:Bool}{f:Option Bool}{n:Option aG}{o p r s u:Option ay}(v:h.get? C=D (excClassObj j q C N k i e l c m f n o p r s u "Exception.__new__"))(w:(Value.ref C::i).contains b=J)(x:Q J ⟨h,g,d,t,a⟩):af M A (um (.ref C) b) Q E ⟨h,g,d,t,a⟩:=
 yM v (w.symm▸x)
def Rp{M:fz}{A:bQ}{E:ay->ao->Prop}{h:Heap}{g:Array yK}{d:Drawn}{t:Nat}{a:yL}{k q:Str}{C N:aG}{l f:List ay}{c:Bool}{m:List Str}{b:List ay}{n:Bool}{i:Option Bool}{o:Option aG}{p r s u v:Option ay}(X:iy f)(e:h.get? C=D (excClassObj k q C N l f c m b n i o p r s u v "Exception.__new__"))
  (w:Q () ⟨h,g,d,t,a⟩):af M A (qO "Exception.__new__" ⟨.ref C::j,[]⟩) Q E ⟨h,g,d,t,a⟩:=by
 have F:=uE;have K:(Value.ref C::f).contains (.type "Exception")=J:=by rw[mG,X.1,qM]
 delta qO;refine wg F.newKind F.newSplit F.newRow ?_
 repeat (first |refine i_ e ?_ |refine wi e K ?_ |refine wpAny_staticBase_exc e ?_ |refine aaF e ?_ |wp_step)
 exact w
def Rq(X:iy f)(i:h.get? C=D (excClassObj o q C N p f k r c s m u v x y z B "Exception.__new__"))(j:a.length<=gp)
  (n:e (.ok (.ret (.ref (h.objs.size+1)))) ⟨(h.push {cls:=.type "tuple",data:=.seq a.toArray}).push
   {cls:=.ref C,data:=.fields #[.ref h.objs.size,.none,.none,.none,.bool V,.none]},g,d,t,b⟩):
  gO (model l w) A (.builtin "Exception.__new__" ⟨.ref C::a,[]⟩) e ⟨h,g,d,t,b⟩:=by
 have F:=uE;have K:=F.ends;have K:(Value.ref C::f).contains (.type "Exception")=J:=by rw[mG,X.1,qM]
 have P:(Value.ref C::f).contains (.type "AttributeError")=V:=by rw[mG,X.4];rfl
 have S:(Value.ref C::f).contains (.type "NameError")=V:=by rw[mG,X.5];rfl
 refine codeAny_builtinAt F.entry ?_;unfold Builtin.«BaseException.__new__»;refine aaG ?_;show PySem.wpAt _ _ _ (stack >>=_) _ _ _;refine aaG (abY λp W=>wpAt_of_wpAny ?_)
 wp_walk
 refine wpAt_of_wpAny ?_;rw[F.owner]
 repeat (first |with_reducible refine wpAny_madeHere_exc F.canon i ?_ |with_reducible refine i_ i ?_ |(with_reducible refine yM i ?_;first |rw[K]at |- |rw[P]at |- |rw[S]at |-) |wp_step)
 show e _ _;rw[kX];exact n
def Rr{M:fz}{A:bQ}{E:ay->ao->Prop}{h:Heap}{g:Array yK}{d:Drawn}{t:Nat}{a:yL}{n q:Str}{C N:aG}{o j:List ay}{c:Bool}{p:List Str}{b:List ay}{r:Bool}{k:Option Bool}{s:Option aG}{u v w x y:Option ay}(X:iy j){l:Obj}
  (m:h.get? C=D (excClassObj n q C N o j c p b r k s u v w x y "Exception.__new__"))(z:h.get? e=D l)(f:l.cls=.ref C)(B:Q () ⟨h,g,d,t,a⟩):
  af M A (qO "Exception.__init__" ⟨.ref e::i,[]⟩) Q E ⟨h,g,d,t,a⟩:=by
 have F:=uE;have K:(Value.ref C::j).contains (.type "Exception")=J:=by rw[mG,X.1,qM]
 delta qO;refine wg F.initKind F.initSplit F.initRow ?_
 repeat (first |(with_reducible refine i_ z ?_;rw[f]) |with_reducible refine i_ m ?_ |with_reducible refine wi m K ?_ |wp_step)
 refine wpAny_onRaise ?_;rw[show∀(a b:String) (n:Nat),Bind.check ⟨.positional,"*","Exception",.self,[⟨"args",.varPos,V⟩]⟩ a b n (List.map (λx=>x.fst) ({pos:=Value.ref e::i}:Args).kw)=pure ()from
  λa b n=>check_star_args _ _ _ _ _ _]
 exact ax B
def Rs{f:bK}{w:bM}{A:bQ}{E:ay->ao->Prop}{h:Heap}{g:Array yK}{d:Drawn}{t:Nat}{a:yL}{r q:Str}{C N:aG}{s n:List ay}{i:Bool}{u:List Str}{c:List ay}{v:Bool}{k:Option Bool}{x:Option aG}{y z B G H:Option ay}(X:iy n)
  (L:h.get? C=D (excClassObj r q C N s n i u c v k x y z B G H "Exception.__new__"))(p:h.get? e=D {cls:=.ref C,data:=.fields #[.ref O,.none,.none,.none,.bool V,.none]})(l:j.length<=gp)
  (T:∀m a0,(∀b o,b≠e->h.get? b=D o->m.get? b=D o)->m.get? e=D {cls:=.ref C,data:=.fields #[a0,.none,.none,.none,.bool V,.none]}->Q .none ⟨m,g,d,t,a⟩):
  af (model f w) A (call (.builtin "Exception.__init__") (.ref e::j)) Q E ⟨h,g,d,t,a⟩:=by
 have F:=uE;refine n9 (aaH F.init.plain F.initEntry (Rr X L p rfl ?_))
 wp_walk
 refine T _ (.ref h.objs.size) (λb o F K=>?_) ?_
 .rw[kU _ _ (Ne.symm F)];exact bA _ K
 .rw[hZ _ (bA _ p) rfl];rfl
section
open PySem.Builtin PySem.Builtin.ObjectAttr
def Rt(X:iy T)(HK:i.In h){a:Obj}{G:Tok}{v:ay}{Q:Fin->ao->Prop}(hw:findIn i (.ref C) "word"=D I)
  (hC:h.get? C=D (excClassObj nm q C N bs T J sn j ab col dd k0 k1 k2 k3 k5 "Exception.__new__"))(k:h.get? e=D a)(H:a.cls=.ref C)(n:a.data=.fields vs)(hn:a.dict=I)
  (hq:∀l p,(∀b o,b≠e->h.get? b=D o->l.get? b=D o)->(∃r,A3 (l.get? e=D r) (r.cls=.ref C) (r.data=.fields vs))->Q (.done (.ret .none)) ⟨l,g,d,p,f⟩):
  af (model m w) A (Builtin.«object.__setattr__» ⟨[.ref e,.str "word" G,v],[]⟩) Q E ⟨h,g,d,t,f⟩:=by
 have P:=X.6 (.ref e);have S:=@G1 i (model m w) h HK (.ref C) "word" I hw;unfold Builtin.«object.__setattr__»
 repeat (first |rw[refuse_eq] |(rw[refuseLoop_ref,P]) |(with_reducible refine i_ k ?_;rw[H]) |with_reducible refine wpAny_mroOf_exc hC ?_ |with_reducible refine S.here ?_ |wp_step)
 rw[hn,iN (by simp[typeHasDict])]
 split
 .rename_i K;exact Mine.z3 K
 split
 .rename_i c K;rw[n]at K;cases K
 .have F:(h.push {cls:=.type "dict",data:=.dict #[]}).get? e=D a:=bA _ k;have W:e≠h.objs.size:=dB (ca k);refine ac (wpAny_alloc' ?_);refine ac (wpAny_update' F ?_);refine ax ?_;have Z:((h.push {cls:=.type "dict",data:=.dict #[]}).update e λo=>{cls:=o.cls,dict:=D h.objs.size,data:=o.data,slots:=o.slots}).get? h.objs.size
    =D {cls:=.type "dict",data:=.dict #[]}:=
   (aaI _ _ _ _ W.symm).trans (Heap.get?_push_at rfl rfl)
  have s:((h.push {cls:=.type "dict",data:=.dict #[]}).update e λo=>{cls:=o.cls,dict:=D h.objs.size,data:=o.data,slots:=o.slots}).Ns h.objs.size (λψ=>I):=
   ⟨_,#[],_,Z,rfl,λe k=>aB k zS,λψ=>rfl⟩
  show af _ _ (storeInDict h.objs.size (.str "word" G) "word" v) _ _ _;unfold storeInDict newKeyGuard;refine ac (ax (ac (wpAny_nsSet1 (Heap.Ns1.of_empty s) λl u L=>?_)));obtain⟨oD,esD,epD,x,y,z⟩:=u.count (Within.cons "word" v Within.nil);refine ac (wpAny_lookBehind x (by rw[y];exact pastItsLine_dict (ak z (by rw[b4,eE,jD];exact cG _ _))) ?_)
  wp_walk
  refine hq l _ (λb ob B O=>?_) ⟨{cls:=a.cls,dict:=D h.objs.size,data:=a.data,slots:=a.slots},?_,H,n⟩
  .exact(L.2 b (dB (ca O))).trans ((aaI _ _ _ _ B).trans (bA _ O))
  .refine(L.2 e W).trans (hZ _ F ?_);obtain⟨oc,od,odt,osl⟩:=a;cases n;rfl
def Ru(X:iy f){M:fz}{e:aG}{i:Obj}{a v:ay}{Q:Unit->ao->Prop}(j:h.get? C=D (excClassObj o q C N p f J r c s k u w x y z B "Exception.__new__"))(l:h.get? e=D i)(m:i.cls=.ref C)(n:Q () ⟨h,g,d,t,b⟩):
  af M A (qO "object.__setattr__" ⟨[.ref e,a,v],[]⟩) Q E ⟨h,g,d,t,b⟩:=by
 have K:=aaJ;have F:(Value.ref C::f).contains (.type "object")=J:=by rw[mG,X.3,qM]
 delta qO;refine wg K.kind K.split (rfl:Manifest.signature? "object.__setattr__"=_) ?_;refine ac ?_;unfold yo
 repeat (first |(with_reducible refine i_ l ?_;rw[m]) |with_reducible refine wi j F ?_ |wp_step)
 exact n
def Rv(X:iy z)(p:f.In h){i:Obj}(B:findIn f (.ref C) "__setattr__"=D (D (.builtin "object.__setattr__")))(G:findIn f (.ref C) "word"=D I)
  (r:h.get? C=D (excClassObj nm q C N bs z J sn j ab H L k0 k1 k2 k3 k5 "Exception.__new__"))(l:h.get? e=D i)(m:i.cls=.ref C)(u:i.data=.fields O)(x:i.dict=I)
  (T:∀k c,(∀b o,b≠e->h.get? b=D o->k.get? b=D o)->(∃n,A3 (k.get? e=D n) (n.cls=.ref C) (n.data=.fields O))->Q () ⟨k,g,d,c,a⟩):
  af (model y w) A (setAttr (.ref e) "word" v) Q E ⟨h,g,d,t,a⟩:=by
 have F:=aaJ;refine set_plain (s:=⟨h,g,d,t,a⟩) (od:=I) p ⟨l,m,?_,?_⟩ B (aaH F.slot.plain F.entry (Ru X r l m (Rt X p G r l m u x λk c F K=>T k c F K)))
 .obtain⟨a,b,c,L⟩:=i;cases u;rfl
 .rw[x];trivial
def Rx(f:c.In h)(e:mD c (.type "Exception") (.type "type") "__init__"=D (.val (.builtin "Exception.__init__")))
  (i:∀j,Q (.builtin "Exception.__init__",[]) ⟨h,g,d,j,a⟩):af (model b w) A (getMethod (.type "Exception") "__init__" pl) Q E ⟨h,g,d,t,a⟩:=by
 have F:G2 (.type "Exception")=pure I:=by unfold G2;dsimp only;rw[show Manifest.isStub "Exception"=V by decide+kernel];rfl
 have K:typeOf (.type "Exception")=pure (.type "type"):=by first |rfl |kernel_rfl
 have P:Looks (model b w) h (typeOf (.type "Exception")) (.type "type"):=aaK K;have S:findIn c (.type "type") "__getattribute__"=D (D (.builtin "type.__getattribute__")):=type_tga;unfold getMethod specialOf;refine ac (ac (P.here ((G1 f S).here ?_)));dsimp only;rw[iP canon_tga];refine ac (eh (Q:=λv=>Q (v,[])) (E:=E) ?_ (λK K z=>ax z) λK K z=>z);have K:Looks (model b w) h (G2 (.type "Exception")) I:=aaK F;refine cls_open (s:=⟨h,g,d,t,a⟩) f K P S (looks_hook f (r:=I) (by rfl)) (by show subIn c _ _=_;rfl) e ?_;exact ax (handed_on rfl (i _))
end
def Ry(W:bt i w l B)(X:iy O)(T:findIn l (.ref C) "__setattr__"=D (D (.builtin "object.__setattr__")))(hw:findIn l (.ref C) "word"=D I)
  (hi:mD l (.type "Exception") (.type "type") "__init__"=D (.val (.builtin "Exception.__init__")))
  (k:a.scope=iz.scope)(u:a.globals=mainGlobals)(v:a.builtins=jB)(f:B.StaysIn h)(n:h.Ns a.locals m)(h1:m "self"=D (.ref e))(h2:m "word"=D (.str x tx))(y:a.locals≠e)(z:B.get? e=I)
  (L:B.get? C=D (excClassObj nm q C N bs O J sn p ab col dd k0 k1 k2 k3 k5 "Exception.__new__"))(he:h.get? e=D {cls:=.ref C,data:=.fields #[.ref t9q,.none,.none,.none,.bool V,.none]})
  (s:∀j r G,(∀b o,b≠e->h.get? b=D o->j.get? b=D o)->(∃H,A3 (j.get? e=D H) (H.cls=.ref C) (H.data=.fields #[G,.none,.none,.none,.bool V,.none]))->Q .next ⟨j,g,d,r,c⟩):
  af (model i w) A (execs iz.body a) Q E ⟨h,g,d,t,c⟩:=by
 have P:a.scope.kind=.function:=by rw[k];rfl
 have K:a.kindOf "self"=D .local:=by unfold jC;rw[k];decide+kernel
 have l:a.kindOf "word"=D .local:=by unfold jC;rw[k];decide+kernel
 have q:a.kindOf "Exception"=D .globalImplicit:=by unfold jC;rw[k];decide+kernel
 have k:∀{j:Heap},(∀b o,b≠e->h.get? b=D o->j.get? b=D o)->B.StaysIn j:=λF b o h=>F b o (λF=>by rw[F,z]at h;exact Mine.z3 h) (f b o h);have F:∀{p:Pos} {j:Heap} {S:Nat} {Z:ay->ao->Prop},j.Ns a.locals m->Z (.ref e) ⟨j,g,d,S,c⟩->af (model i w) A (eval (.Name "self" p) a) Z E ⟨j,g,d,S,c⟩:=λe s=>
  GO (GG P K e h1 s) zK
 have K:∀{p:Pos} {j:Heap} {S:Nat} {Z:ay->ao->Prop},j.Ns a.locals m->Z (.str x tx) ⟨j,g,d,S,c⟩->af (model i w) A (eval (.Name "word" p) a) Z E ⟨j,g,d,S,c⟩:=λe s=>
  GO (GG P l e h2 s) zK
 obtain⟨p,l,mg,mb,H⟩:=W.1;refine uD (wpAny_Expr_any ?_ (by unfold interactive;rw[P];rfl) rfl);refine ac (GF P q (aar (mg:=mg) (mb:=mb) (by rw[u];exact(H.2.keeps f).g) (mg_none_of H.1 H.2.g (W.5 "Exception" (.type "Exception") zD)) (by rw[v];exact(H.2.keeps f).b)
  ((H.2.builtins "Exception" (vL "Exception" (.type "Exception") zD).2).trans (vL "Exception" (.type "Exception") zD).1) ?_) zK)
 refine ac (e7 ?_);refine ac (cJ ?_);refine Rx (pl:=_) (W.ds.keeps f) hi λP=>?_;refine ac (ax ?_);refine m4 (es:=[.Name "self" ⟨5,27,5,31⟩,.Name "word" ⟨5,33,5,37⟩]) rfl ?_;refine mE (F n (mE (K n (n8 ?_))));refine Rs X (f C _ L) he (by rw[jD];simp) λc G P d=>?_;have S:=k P;have Z:c.Ns a.locals m:=n.at' λo c=>P _ o y c;refine uD ?_;rw[exec_Assign_arm];refine ac (e7 ?_);rw[show uj [.Attribute (.Name "self" ⟨6,8,6,12⟩) "word" ⟨6,8,6,17⟩] (.Name "word" ⟨6,20,6,24⟩) (⟨6,8,6,24⟩:Pos).line a=pure V from rfl];refine ac (ax ?_);rw[iN zD];refine ac (K Z ?_);rw[show jA [.Attribute (.Name "self" ⟨6,8,6,12⟩) "word" ⟨6,8,6,17⟩] (.Name "word" ⟨6,20,6,24⟩) a=pure I from rfl];refine ac (ax ?_);show af _ A (do assignAll (.str x tx) [assign (.Attribute (.Name "self" ⟨6,8,6,12⟩) "word" ⟨6,8,6,17⟩) a];pure Flow.next) _ E _;refine ac ?_;show af (model i w) A (do
   let K <- kP [.str x tx] (eval (.Name "self" ⟨6,8,6,12⟩) a)
   mr (⟨6,8,6,17⟩:Pos).atName
   kP [.str x tx,K] (setAttr K "word" (.str x tx))
   release [.str x tx,K] []) _ E _
 refine ac (cJ (F Z (ac (e7 (ac (cJ ?_))))));refine Rv X (W.ds.keeps S) T hw (S C _ L) d rfl rfl rfl λF r K S=>?_;refine GX (ax (uC (s F r G (λb o F h=>K b o F (P b o F h)) S)))
def Rz(W:bt i w c B)(X:iy t)(u:findIn c (.ref C) "__setattr__"=D (D (.builtin "object.__setattr__")))(v:findIn c (.ref C) "word"=D I)
  (z:mD c (.type "Exception") (.type "type") "__init__"=D (.val (.builtin "Exception.__init__")))(h:FnAt B f iz)(d:A.depth<mv)
  (a:B.StaysIn s.heap)(l:B.get? e=I)(E:B.get? C=D (excClassObj L q C N O t J Q j T y dd k0 k1 k2 k3 k5 "Exception.__new__"))
  (r:s.heap.get? e=D {cls:=.ref C,data:=.fields #[.ref G,.none,.none,.none,.bool V,.none]})
  (H:∀k g m,(∀b o,b≠e->s.heap.get? b=D o->k.get? b=D o)->(∃n,A3 (k.get? e=D n) (n.cls=.ref C) (n.data=.fields #[m,.none,.none,.none,.bool V,.none]))->p (.ok (.ret .none)) {s with heap:=k,toks:=g}):
  gO (model i w) A (.call (.ref f) ⟨[.ref e,.str x tx],[]⟩) p s:=by
 refine h.1.elim λo F F=>?_;refine(Gl d (a _ _ F.1) F.2 (by rw[F.4];exact h.2.3) (by rw[F.4];exact h.2.2) F.3 (F.8.keeps a) ?_);rw[F.9 [.ref e,.str x tx] rfl,F.5,F.6,F.7,F.4];refine ax (Gm h.2.1 (λy K=>?_) λF P S Y=>⟨(W.nolimit.keeps a).keeps Y.toInCall.keep,Gq ?_⟩)
 .have S:y.1∈iz.params:=by
   obtain⟨Z,Z⟩:=y;exact(Gr K).1
  rcases h.2.6 y.1 S with q |q
  .exact .inl q
  .exact .inr ⟨q,cellsFrom_some h.2.4 (mem_of_lookup q)⟩
 haveI K:F.scope=iz.scope:=by rw[P];rfl
 haveI S:((iz.params.zip [Value.ref e,.str x tx]).map (·.1)).Nodup:=by
  show([("self":Str),"word"]).Nodup;decide+kernel
 haveI Z:F.kindOf "self"=D .local:=by unfold jC;rw[K];decide+kernel
 haveI c:F.kindOf "word"=D .local:=by unfold jC;rw[K];decide+kernel
 haveI d:F.locals=s.heap.objs.size:=by rw[P];rfl
 obtain⟨F,F,F⟩:=Y.toInCall.same;subst F;have F:=Y.toInCall.keep;refine Ry W X u v z (x:=x) (tx:=tx) K (by rw[P];rfl) (by rw[P];rfl) (λb o K=>F b o (a b o K)) Y.toInCall.ns ?_ ?_ (by rw[d];exact bf (ca r)) l E (F _ _ r) λk g m P W=>?_
 .rw[rD S,iP Z];rfl
 .rw[rD S,iP c];rfl
 .exact H k g m (λb o S K=>P b o S (F b o K)) W
def RA(W:bt j w l B)(X:rO l B C)(c:A.depth<mv)(a:B.StaysIn h)
  (r:∀k i e m,(∀b o,h.get? b=D o->k.get? b=D o)->h.get? e=I->(∃n,A3 (k.get? e=D n) (n.cls=.ref C) (n.data=.fields #[m,.none,.none,.none,.bool V,.none]))->Q (.done (.ret (.ref e))) ⟨k,g,d,i,f⟩):
  af (model j w) A (Builtin.«type.__call__» ⟨[.ref C,.str x p],[]⟩) Q E ⟨h,g,d,t,f⟩:=by
 obtain⟨F,q,N,F,Z,F,F,F,F,F,F,F,F,F,F,P⟩:=X.1;obtain⟨f,d⟩:=X.2;have S:=a C _ (W.ds _ _ P.1)
 repeat (first |with_reducible refine i_ S ?_ |with_reducible refine aaF S ?_ |wp_step)
 refine codeAny_call_builtin_code (aaL _ (uE).quiet) (Rp P.2 S ?_);refine Rq P.2 S (by rw[jD];simp) ?_;have f:∀b o,h.get? b=D o->((h.push {cls:=.type "tuple",data:=.seq ([Value.str x p]).toArray}).push {cls:=.ref C,data:=.fields #[.ref h.objs.size,.none,.none,.none,.bool V,.none]}).get? b=D o:=
  λb o e=>bA _ (bA _ e)
 have F:B.StaysIn ((h.push {cls:=.type "tuple",data:=.seq ([Value.str x p]).toArray}).push {cls:=.ref C,data:=.fields #[.ref h.objs.size,.none,.none,.none,.bool V,.none]}):=λb o e=>f b o (a b o e);have K:((h.push {cls:=.type "tuple",data:=.seq ([Value.str x p]).toArray}).push
   {cls:=.ref C,data:=.fields #[.ref h.objs.size,.none,.none,.none,.bool V,.none]}).get? (h.objs.size+1)=D
   {cls:=.ref C,data:=.fields #[.ref h.objs.size,.none,.none,.none,.bool V,.none]}:=by heap_get
 have e:(Value.ref C::Z).contains (.ref C)=J:=by simp
 have Z:h.get? (h.objs.size+1)=I:=Heap.get?_none_of_le (fy _);have g:B.get? (h.objs.size+1)=I:=by
  cases q:B.get? (h.objs.size+1)with
  |none=>rfl
  |some o=>have:=a _ o q;rw[Z]at this;exact Mine.z3 this
 repeat (first |with_reducible refine i_ K ?_ |(with_reducible refine yM (f C _ S) ?_;rw[e]) |wp_step)
 refine(G1 (W.ds.keeps F) d.1).here ?_;refine cJ (ac ((bind_fn (W.ds.keeps F) _ d.2).here ?_));refine ac (n9 (Rz W P.2 X.3 X.4 X.6 d.3 c F g (W.ds _ _ P.1) K λk i m K P=>?_));refine ax ?_;exact ax (r k i _ m (λb o F=>K b o (dB (ui (ca F))) (f b o F)) Z P)
def RB(W:bt d w g B)(X:rO g B C)(c:A.depth+1<mv)(a:B.StaysIn s.heap)
  (k:∀i f e j,(∀b o,s.heap.get? b=D o->i.get? b=D o)->s.heap.get? e=I->(∃h,A3 (i.get? e=D h) (h.cls=.ref C) (h.data=.fields #[j,.none,.none,.none,.bool V,.none]))->Q (.ref e) {s with heap:=i,toks:=f}):
  af (model d w) A (call (.ref C) [.str x l]) Q E s:=by
 obtain⟨h,g,d,t,F⟩:=s;obtain⟨K,q,N,K,K,K,K,K,K,K,K,K,K,K,K,P⟩:=X.1;haveI K:=a C _ (W.ds _ _ P.1);haveI P:=tc_lookup;haveI P:=tc_bind (.ref C);haveI P:(⟨h,g,d,t,F⟩:ao).TypeIs (.ref C) "type":=⟨_,K,rfl⟩;refine n9 (codeAny_of_tree ?_)
 repeat (any_goals (first |assumption |with_reducible refine i_ K ?_ |wp_step))
 refine⟨rfl,?_⟩;refine codeAny_call_builtin_at (aaL _ zK) entry_typeCall (wpAny_check_type_call_sub K (RA W X ?_ a λi f e j F K P=>k i f e j F K P));exact c
def RC(h:excOf c=D x):c=eG x:=by
 unfold excOf at h
 split at h
 .rename_i q;exact(aE h)▸(bE.mp q)
 .split at h
  .rename_i q;exact(aE h)▸(bE.mp q)
  .exact Mine.z3 h
def RD(W:bt d w c B)(k:FC.Ok B i)(a:ah d w c B i g f s)(n:fY c (eG x)=D C)(l:∀b o,s.heap.get? b=D o->j.get? b=D o)(m:s.heap.get? e=I)
  (p:∃h,A3 (j.get? e=D h) (h.cls=.ref C) (h.data=.fields #[q,.none,.none,.none,.bool V,.none])):
  A3 (aP i g s (g.more [e]) {s with heap:=j,toks:=tk}) (ah d w c B i (g.more [e]) f {s with heap:=j,toks:=tk}) (oN c i (g.more [e]) j x e):=by
 refine bi p λh F=>?_;haveI S:=a.oU k _ [e] (λb K=>Mine.z7 K) (λb K=>by rw[bq.mp K];exact⟨m,_,F.1⟩) (λb o q P P=>l b o q) (λb P o q P=>⟨o.slots,l b o q⟩) (λb K=>Mine.z7 K);haveI K:=S.2.toks k tk;haveI f:=gA.fresh k a m;exact⟨S.1.trans K.1,K.2,C,_,.none,h,n,⟨.head _,f.1,f.2,h,F.1,F.3⟩,F.1,F.2,⟨rfl,λP=>rfl⟩,rfl⟩
def B_(h:nsIn a mainGlobals c=D (D (.ref C))):fY a c=D C:=by unfold fY;rw[h]
def B'(W:bt c w f B)(m:FC.Ok B d)(a:ah c w f B d g h s)(i:A.depth+1<mv)(u:d.cx.bL (eG x)=J)
  (p:∀e n j,aP d g s n j->ah c w f B d n h j->oN f d n j.heap x e->s.heap.get? e=I->(∀b o,s.heap.get? b=D o->j.heap.get? b=D o)->af (model c w) A (raiseNew (.ref e)) Q E j):
  af (model c w) A (exec (.Raise (D (.Call (.Name (eG x) y) [.Constant (.str z) r t] [] l)) I pos) d.env) Q E s:=by
 obtain⟨C,F,X⟩:=W.7 x;obtain⟨K,q,N,K,K,P,P,P,P,P,P,P,P,P,P,S⟩:=X.1;have Z:(Value.ref C::K).contains (.type "BaseException")=J:=by rw[mG,S.2.2,qM]
 refine ac (e7 ?_);show af _ A (raiseStmt d.env (D (do let v <- eval (.Call (.Name (eG x) y) [.Constant (.str z) r t] [] l) d.env;mr pos;pure v)) I) Q E s;refine ac (ac (jm (o2 W m a u F ?_)));refine rS X.5 rfl ?_;refine mE (Constant_str (pos:=t) (k:=r) ?_);have K:=a.toks m (s.toks+1);refine n8 ⟨W.o9 K.2,?_⟩;refine RB W X i K.2.1 λf tk e P X b c=>?_;refine ac (e7 (ax ?_));have P:=RD (tk:=tk) W m K.2 (B_ F) X b c;have F:=P.2.1 C _ (W.ds _ _ S.1);obtain⟨⟨S,S,S,S⟩,g,S,W⟩:=c;dsimp only at S W;subst S W;have S:=p e _ _ (K.1.trans P.1) P.2 P.3 b X;clear a p K X b P;obtain⟨K,K,d,t,K⟩:=s;replace F:f.get? C=_:=F
 repeat (first |with_reducible refine i_ g ?_ |with_reducible refine i_ F ?_ |(with_reducible refine yM F ?_;rw[Z]) |wp_step)
 exact S
def RE(W:bt b w d B)(j:FC.Ok B e)(f:aJ A e n)(a:ah b w d B e g c s)(k:e.cx.bL (eG x)=J)
  (h:ae b w d B e cU g s (mL x c) Q E):af (model b w) A (exec (.Raise (D (.Call (.Name (eG x) m) [.Constant (.str o) p q] [] i)) I l) e.env) Q E s:=by
 refine B' W j a (f2 (f.3)) k λe F K S P W X X=>?_;exact PySem.wpAny_raiseNew_none f.2 (h e F K S P (.inl W))
def RF:entryFor table "proto.unchain"=D Builtin.«proto.unchain»:=Gw (by kernel_rfl)
def RG(l:FC.Ok B f)(a:ah b w c B f g d s)(m:oN c f g s.heap x e)(n:x=.bU)(o:A.handled=D (.ref r))(p:s.heap.get? r=D i)(q:i.data=.fields t)(u:t[2]?=D .none)(j:r≠e)
  (v:∀k h,aP f g s k h->ah b w c B f k d h->oN c f k h.heap x e->E (.ref e) h):af (model b w) A (raiseNew (.ref e)) Q E s:=by
 refine ac (GS ?_);rw[o];dsimp only;rw[iP (by simp[j])];refine ac (cJ (wpAny_runValue (uF RF ?_)));refine ac (eg p q u ?_);refine ac (ax (ax ?_));obtain⟨C,Z,F,K,F⟩:=m;have S:K.data=.fields Z:=by obtain⟨o,P⟩:=F.2.4;haveI K:=P.1;replace K:=F.3▸K;rw[aE K];exact P.2
 haveI X:=(n7.mp F.5.1).1;haveI W:=hZ (n6 (·.setIfInBounds 2 (Value.ref r))) F.3 (ur (mA S _));haveI K:∀b,b≠e->(s.heap.update e (n6 (·.setIfInBounds 2 (Value.ref r)))).get? b=s.heap.get? b:=λb P=>kU _ _ (Ne.symm P);haveI c:=a.oU l [e] [] (λb P=>by cases bq.mp P;exact⟨Z,F.2⟩) (λb P=>Mine.z7 P)
  (λb o q P Z=>(K b λz=>P (z▸.head _)).trans q) (λb P o q Z=>⟨o.slots,(K b λz=>Z (z▸.head _)).trans q⟩) (λb P=>by cases bq.mp P;exact⟨_,W⟩)
 refine ac ?_;refine ac (yF F.3 ?_);rw[S];dsimp only;rw[iP X];refine wpAny_update' F.3 (GU (v _ _ c.1 c.2 ⟨C,_,.ref r,_,F.1,⟨F.2.1,F.2.2,F.2.3,_,W,(mA S _)⟩,W,(Gj ..).trans F.4,⟨by simp[X],λq=>?_⟩,?_⟩))
 .replace q:=n▸q;cases q
 .exact(ZP zD).trans F.6
def RH(W:bt b w d B)(k:FC.Ok B c)(m:aJ A c n)(o:c.env=c.cf)(a:ah b w d B c g j s)(t:c.cx.bL (eG x)=J)(r:io d B c g s.heap x e)
  (u:∀p l,aP c g s p l->ah b w d B c p j l->ExcAt d c p l.heap x e (λf=>f=.none)->
   af (model b w) (A.mark (D (.ref e))) (execs (h::i) c.env) Q (fQ (model b w) (A.mark (D (.ref e))) c.env (i4 (model b w) A c.env E)) l):
  af (model b w) A (Gk (.ref e) c.env) (λK F=>af (model b w) A (setFlight (.ref e) I) (λK K=>af (model b w) A (handleBy (.ref e) c.env [.ExceptHandler (D (.Name (eG x) q)) I (h::i) v]) Q E K) E F) E s:=by
 refine aH λG P=>?_;obtain⟨C,b,X⟩:=W.7 x;obtain⟨S,q,N,S,S,S,S,S,S,S,S,S,S,S,S,j⟩:=X.1;refine P (vw k m.1 a r o λP P a P S=>?_);refine rI k P S λP F X P Z=>?_;refine wpAny_handleBy_cons (codeAny_handlers_test (o2 W k P t b ?_)) (by intro q;cases q);have S:=Z;obtain⟨d,d,d,d,T,d,f,e⟩:=Z;haveI Z:=e.1;haveI l:=e.2;replace Z:=(B_ b)▸Z;obtain rfl:=aE Z;haveI g:gO _ (A.mark _) (.handlers _ [.ExceptHandler I I (h::i) v] c.env) (λr F=>match r with
     |.ok f=>Q f F
     |.error x=>i4 _ A c.env E x F) _:=by
  refine codeAny_handlers_suite (rI k P S λZ K b c d=>?_);exact u Z K ((a.trans X).trans b) c d
 clear X S l;obtain⟨h,K,d,t,K⟩:=F;exact wpAny_excMatches_sub_self (P.1 C _ (W.ds _ _ j.1)) e.3 e.4 j.2.2 g
def RI{A:bQ}:(A.mark (D (.ref r))).handled=D (.ref r):=rfl
def Ca(W:bt c w i B)(X:AllS c w i B n p k)(z:FC.Ok B d)(q:d.env=d.cf)(t:aJ A d n)(a:ah c w i B d g j s)(C:d.cx.bL (eG x)=J)
  (G:∀e o l m,aP d g s o m->ah c w i B d o l m->ExcAt i d o m.heap x e (λf=>f=.none)->ae c w i B d cU o m (H l) Q E->
   af (model c w) (A.mark (D (.ref e))) (execs (r::u) d.env) Q (fQ (model c w) (A.mark (D (.ref e))) d.env (i4 (model c w) A d.env E)) m)
  (h:ae c w i B d cU g s (jf (bW p k d.cx b) x H j) Q E):
  af (model c w) A (exec (.Try b [.ExceptHandler (D (.Name (eG x) y)) I (r::u) L] [] [] v) d.env) Q E s:=by
 refine wpAny_Try_except (X.ss d z q b A g j s _ _ t a ?_);unfold jf at h;cases F:bW p k d.cx b j with
 |none=>rw[F]at h;exact h
 |some r=>
  obtain⟨r,l⟩:=r;rw[F]at h;clear F;cases r with
  |ok f=>
   intro X o m S P F;have K:=h X o m S P F;clear h;cases f with
   |next=>cases F;exact uC K
   |ret p=>obtain⟨v,rfl,X⟩:=F;exact K
  |error y=>
   intro e o m S P F;have K:y=x/\ae c w i B d cU g s (H l) Q E:=by
    cases x <;> cases y <;> first |exact⟨rfl,h⟩ |exact h.elim
   obtain rfl:=K.1;exact RH W z t q P C F λP W F X Z=>G e P l W (S.trans F) X Z (ae.step K.2 (S.trans F))
def RJ(W:bt b w d B)(i:FC.Ok B e)(a:ah b w d B e g c s)(h:ae b w d B e cU g s (rt (.ret .none) c) Q E):
  af (model b w) A (execs [.Return (D (.Constant .none j p)) f] e.env) Q k s:=
 uD (aaB (Constant_none (h.ok (.refl ..) a ⟨.none,rfl,by rfl⟩)))
def RK{b:bK}{w:bM}{i:bg}{B:Heap}{c:FC}{g:Gh}{d:St}{s:ao}{A:bQ}{E:ay->ao->Prop}{Q:Flow->ao->Prop}{n:Nat}(W:bt b w i B)(k:FC.Ok B c)(j:aJ A c n)(l:c.env=c.cf)(a:ah b w i B c g d s)(o:c.cx.bL "TrieFault"=J)(r:ExcAt i c g s.heap .co e (λf=>f=.none))
  (h:ae b w i B c cU g s (mL .bU d) Q E):
  af (model b w) (A.mark (D (.ref e))) (execs [.Raise (D (.Call (.Name "TrieFault" q) [.Constant (.str t) u v] [] m)) I p] c.env) Q (fQ (model b w) (A.mark (D (.ref e))) c.env (i4 (model b w) A c.env E)) s:=by
 haveI F:(A.mark (D (.ref e))).depth+1<mv:=f2 (j.3);refine uD (B' (x:=.bU) W k a F o λF F F S X Z a b=>?_);refine r.elim λC P F W T F f F=>?_;haveI K:=F.3;have c:W.data=.fields P:=by refine F.2.4.elim λo W=>?_;haveI P:=W.1;replace P:=K▸P;rw[aE P];exact W.2
 refine RG k X Z rfl RI (b _ _ K) c (by rw[F.5.1,F.5.2 rfl]) (λq=>by rw[q,a]at K;exact Mine.z3 K) λF F K P F=>?_;exact AU k j.1 P (.inl F) l λF P W X Z=>h _ F P ((S.trans K).trans W) X Z
def R2(z:og (eB c w) s.heap x a)(t:og (eB c w) s.heap y b)(h:P (.done (.ret (.bool (aY x y)))) s):
  af (model c w) A (Builtin.«tuple.__lt__» ⟨[.ref a,.ref b],[]⟩) P E s:=by
 refine aH λG Z=>?_;have j:=t.typeIs;obtain⟨B,d,C,k,_,l,m⟩:=z;obtain⟨H,e,L,n,_,o,p⟩:=t;refine Z ?_;show af _ _ (yo (.ref b) (.type "tuple") >>=_) _ _ s;refine ac (yp j isSubtype_tuple_tuple ?_);refine ac (F0 k l ?_);refine ac (F0 n o ?_);refine ac ?_;refine aan _
  (λW r f=>A3 (r.1=I) (f=s) (E4 λg i K S=>A5 (W=List.zip K S) (ItemsAre (eB c w) g K) (ItemsAre (eB c w) i S) (aY g i=aY x y) ((decide (K.length<S.length))=(decide (d.size<e.size)))))
  _ ?_ ?_ _ _ ⟨rfl,rfl,x,y,d.toList,e.toList,rfl,m,p,rfl,by simp⟩
 .rintro ⟨u,v⟩ W r f ⟨hr,rfl,g,i,K,S,hz,wn,sa,F,hlen⟩
  refine aH λG Z=>?_;cases wn with
  |nil=>simp at hz
  |@cons k1 u' R3 R4 h1 R5=>
   cases sa with
   |nil=>simp at hz
   |@cons k2 v' R6 R8 h2 R_=>
    simp only[List.zip_cons_cons,List.cons.injEq,aaM]at hz;obtain⟨⟨rfl,rfl⟩,rfl⟩:=hz;rw[MY]at F;refine Z (ac ((eB c w).eqBool h1 h2 ?_));by_cases q:k1=k2
    .clear h2;subst q;rw[iP rfl]at F;simp only[Bool.not_true,jI,if_false];exact ax ⟨rfl,rfl,R3,R6,R4,R8,rfl,R5,R_,F,by simpa using hlen⟩
    .rw[dF q];replace F:=(iN q).symm.trans F;clear hlen Z;obtain⟨t1,rfl⟩:=G3 h1;obtain⟨N,rfl⟩:=G3 h2;replace h:=F▸h;exact ac (hX (ac (wpAny_lt_int (ac (ax (ax (ax h)))))))
 .rintro ⟨r1,r2⟩ f ⟨hr,rfl,g,i,K,S,hz,wn,sa,F,hlen⟩
  subst hr;refine ax ?_;have X:decide (d.size<e.size)=aY x y:=by
   rw[<- F,<- hlen];clear F hlen;cases wn with
   |nil=>
    clear hz;cases sa with
    |nil=>rfl
    |cons _ _=>rfl
   |cons _ _=>
    cases sa with
    |nil=>rfl
    |cons _ _=>simp at hz
  show P (.done (.ret (.bool (decide (d.size<e.size))))) f;rw[X];exact h
def Sa(f:A.units<fw)(d:og (eB c w) s.heap x a)(e:og (eB c w) s.heap y b)(h:Q (.bool (aY x y)) s):
  af (model c w) A (compareOp .Lt (.ref a) (.ref b)) Q E s:=
 wpAny_richCompare_same_room (op:=.Lt) d.typeIs e.typeIs aaN
  (gP aaN d.typeIs PySem.F.entry_tuple_lt (R2 d e ⟨_,rfl,(λe=>nomatch e),h⟩) (PySem.F.args_tuple_lt_2 ..)) f
def iC(h:Heap)(d:aG)(a:Array uk)(b:Nat):Prop:=∃o,A3 (h.get? d=D o) (o.cls=.type "dict") (o.data=.dict a b)
def iC.up(x:iC h d a b)(k:∀o,h.get? d=D o->c.get? d=D o):iC c d a b:=x.elim λo F=>⟨o,k _ F.1,F.2,F.3⟩
noncomputable def g5(d:aG)(i n a:Nat)(b:ay)(f:Bool)(c e:ay):Obj:={cls:=.type "dict_itemiterator",data:=.fields #[b,.bool f,.ref d,.int i 0,.int n 0,.int a 0,c,e]}
def sb(h:Heap)(b d S:aG)(i n a:Nat):Prop:=E4 λF f K P=>h.get? b=D (g5 d i n a F f K P)/\((F=.none/\f=V)\/E2 λa K=>A4 (F=eC (a:Nat)) (h.get? a=D K) (a≠b) (a≠S))
def Sc(a:s.heap.IsItemsView v d)(c:iC s.heap d e f)
  (g:Q (.ref s.heap.objs.size) {s with heap:=s.heap.push (g5 d 0 e.size f .none V .none .none)}):af (model b w) A (pyIter (.ref v)) Q E s:=by
 refine bi (id a) λF K=>c.elim λo F=>(wpAny_pyIter_slot a.typeIs aaO (gP aaO a.typeIs PySem.F.entry_dict_items_iter (ac (ax (ac (ac (eg K.1 K.2.2 (x:=.ref d) rfl (ax (ac (ac (G4 F.1 F.3 (ac (G5 F.1 F.3 ?_))))))))))) (PySem.F.args_dict_items_iter_1 _)));haveI F:abZ "dict_itemiterator"=J:=rfl;simp only[F,if_true];refine fO (ax ⟨_,rfl,"dict_itemiterator",_,⟨_,cI _ rfl,rfl⟩,uG.lookup,?_⟩)
  (cG ..)
 simpa[eC,ab0,g5] using g
def Sd(c:s.heap.get? a=D o)(h:Q (D o) s):af (model b w) A (loadIfAlive a) Q E s:=by
 haveI K:Q (s.heap.get? a) s:=by rw[c];exact h
 exactλF F F=>K
def Se(e:sb s.heap c d S i p.size r)(H:S<s.heap.objs.size)(l:iC s.heap d p r)(j:p[i]?=D h)
  (G:∀a,sb a c d S (i+1) p.size r->a.get? s.heap.objs.size=D {cls:=.type "tuple",data:=.seq #[h.key,h.val]}->a.objs.size=s.heap.objs.size+1->
   (∀b o,b≠c->s.heap.get? b=D o->a.get? b=D o)->Q (D (.ref s.heap.objs.size)) {s with heap:=a}):
  af (model f w) A (pyNext (.ref c)) Q E s:=by
 obtain⟨k,g,u,v,w⟩:=s;obtain⟨F,K⟩:=id l;obtain⟨A,f,B,y,l,E⟩:=e;have P:=(n7.mp j).1;have W:p[i]=h:=(n7.mp j).2;have F:aaP ⟨k,g,u,v,w⟩ (.ref c) "dict_itemiterator":=⟨_,l,rfl⟩;refine ac (wpAny_attempt (qD F uG
  (gP uG F aaQ ?_ (aaR _))))
 refine ac (ax ?_);refine ac ?_;refine ac ?_
 first |refine ac (yN F (ax ?_)) |refine ac (aaS F (ax ?_))
 refine ac (wpAny_fieldsOf l rfl ?_);refine ac (ax ?_);refine ac (G4 K.1 K.3 ?_);rw[iN zS];refine ac (ax ?_);refine ac (G5 K.1 K.3 ?_);rw[iN zS];refine ax ?_;simp only[show¬((i:Int) <0)from kL (da _),if_false,e0,Gv P];refine ac ?_
 first |refine ac (yN F (ax ?_)) |refine ac (aaS F (ax ?_))
 refine ac (G6 F ?_);show af _ _ (setField (.ref c) 3 (eC (i+1)) >>=_) _ _ ⟨k,g,u,v,w⟩;refine ac (qP l zS λj X Z=>?_);have a:aaP ⟨j,g,u,v,w⟩ (.ref c) "dict_itemiterator":=⟨_,X,rfl⟩;refine ac (cJ ?_);refine ac (G6 a ?_);refine ac (G6 a ?_);rw[W];refine ac (GH ?_);have P:=bA ({cls:=.type "tuple",data:=.seq #[h.key,h.val]}) X;generalize F:j.push {cls:=.type "tuple",data:=.seq #[h.key,h.val]}=W at P;have K:j.objs.size=k.objs.size:=Z.1;have z:=ca l;have m:W.get? k.objs.size=D {cls:=.type "tuple",data:=.seq #[h.key,h.val]}:=by rw[<- F,<- K];exact cI _ rfl
 have s:W.objs.size=k.objs.size+1:=by rw[<- F,kX,K]
 have n:∀b o,b≠c->k.get? b=D o->W.get? b=D o:=λb o C e=>by rw[<- F];exact bA _ (Z.extBut b o C e)
 show af _ _ (ab1 (.ref c) >>=_) _ _ ⟨W,g,u,v,w⟩;rw[K];clear F X Z a K j;have t:∀K:Heap,h8 c W K->(E4 λA f B y=>K.get? c=D (g5 d (i+1) p.size r A f B y)/\((A=.none/\f=V)\/E2 λa q=>A4 (A=eC (a:Nat)) (W.get? a=D q) (a≠c) (a≠S)))->
   Q (D (.ref k.objs.size)) ⟨K,g,u,v,w⟩:=λK F S=>
  S.elim λg j X Z S=>G K ⟨g,j,X,Z,S.1,S.2.imp id λS=>S.elim λa q S=>⟨a,q,S.1,F.extBut a q S.3 S.2,S.3,S.4⟩⟩ (F.extBut _ _ (bf z) m) (by show K.objs.size=k.objs.size+1;rw[F.1,s]) λb o C e=>F.extBut b o C (n b o C e)
 refine ac ?_;clear l;refine aH λG l=>?_;rcases E with⟨rfl,rfl⟩ |⟨a,q,rfl,ha,wo,Ce⟩
 .refine l (ac (eg P rfl (x:=.none) rfl (ax ?_)));simp only[if_true];refine ac (eg P rfl (x:=B) rfl ?_);refine ac (eg P rfl (x:=y) rfl ?_);refine ac (qP P zS λK S F=>?_);replace F:h8 c W K:=F;replace S:K.get? c=D (g5 d (i+1) p.size r .none V h.key y):=S;refine ac (qP S zS λe X Z=>?_);replace Z:h8 c K e:=Z;replace X:e.get? c=D (g5 d (i+1) p.size r .none V h.key h.val):=X;refine ac (qP X zS λg X b=>?_);replace b:h8 c e g:=b;replace X:g.get? c=D (g5 d (i+1) p.size r (eC k.objs.size) V h.key h.val):=X;refine ac (qP X zS λj X e=>?_);replace e:h8 c g j:=e;replace X:j.get? c=D (g5 d (i+1) p.size r (eC k.objs.size) V h.key h.val):=X;refine ac (wpAny_letGo (ax (ax ⟨_,rfl,ax (t j (((F.trans Z).trans b).trans e) ⟨_,_,_,_,X,.inr ⟨k.objs.size,_,rfl,m,bf z,bf H⟩⟩)⟩)))
 .have X:W.get? a=D q:=n a q wo ha;refine l (ac (eg P rfl (x:=eC a) rfl ?_));show af _ _ (loadIfAlive ((a:Int).toNat) >>=_) ..;rw[e0];refine ac (Sd X ?_);simp only[Option.isNone_some,jI,if_false];refine ac (eg P rfl (x:=.bool f) rfl ?_);cases f with
  |true=>
   rw[iN (show¬((Value.bool J !=Value.bool J)=J)from ei)];refine ax ?_;simp only[jI,if_false];exact ax (ax ⟨_,rfl,ax (t W (ab2 ..) ⟨_,_,_,_,P,.inr ⟨a,q,rfl,X,wo,Ce⟩⟩)⟩)
  |false=>
   rw[iP (show(Value.bool V !=Value.bool J)=J from rfl)];refine ac (qP P zS λK S F=>?_);replace F:h8 c W K:=F;replace S:K.get? c=D (g5 d (i+1) p.size r (eC a) J B y):=S;refine ax ?_;simp only[jI,if_false];exact ax (ax ⟨_,rfl,ax (t K F ⟨_,_,_,_,S,.inr ⟨a,q,rfl,X,wo,Ce⟩⟩)⟩)
def Sf(g:A.handled=I)(a:sb s.heap b d S i c.size h)(j:iC s.heap d c h)(k:c[i]?=I)
  (l:∀e,aav b s.heap e->Q I {s with heap:=e}):af (model f w) A (pyNext (.ref b)) Q E s:=by
 refine bi (id j) λF F=>?_;refine a.elim λK f K K P=>?_;haveI K:s.TypeIs (.ref b) "dict_itemiterator":=⟨_,P.1,rfl⟩;refine ac (wpAny_attempt (qD K uG
  (gP uG K aaQ ?_ (aaR _))))
 refine ac (ax ?_);refine ac ?_;refine ac ?_
 first |refine ac (yN K (ax ?_)) |refine ac _
 refine ac (wpAny_fieldsOf P.1 rfl ?_);refine ac (ax ?_);refine ac (G4 F.1 F.3 ?_);rw[iN zS];refine ac (ax ?_);refine ac (G5 F.1 F.3 ?_);rw[iN zS];refine ax ?_;simp only[(kL (da _)),if_false,e0,k];refine ac ?_
 first |refine ac (yN K (ax ?_)) |refine ac _
 show af _ _ (setField _ 2 .none >>=_) _ _ s;refine ac (qB P.1 rfl zS ?_);refine ac ?_;refine ac (fO ?_ (by size_fits));refine ac (ce (by first |rfl |(rfl)) ?_);refine fO ?_ (by size_fits);refine ac (GS ?_);rw[g];refine ac (ax (GU ?_));refine ac (yp ⟨_,cI _ rfl,rfl⟩ isSubtype_stop ?_);exact ax (l _ (((kY ..).extBut.push _).push _))
def Pairs(h:Heap)(b:Array uk)(c:List aG):Prop:=∀(j:Nat) (a:aG),c[j]?=D a->∃F,b[j]?=D F/\h.get? a=D {cls:=.type "tuple",data:=.seq #[F.key,F.val]}
def Sg{j:bK}{w:bM}{A:bQ}{s:ao}{n:Array uk}{m:Nat}{R:Result->ao->Prop}(x:A.handled=I)(u:S<e)(C:d≠S)(E:d≠e)(N:n.size<=gp) res{g:Heap}
  (z:∀p t f c l,(∀b o,b≠S->b≠e->g.get? b=D o->p.get? b=D o)->p.get? S=D {cls:=.type "list",dict:=I,data:=.seq f c,slots:=#[]}->l.length=n.size->Pairs p n l->(∀a∈l,e<a/\g.get? a=I)->
   f.toList=l.map Value.ref->R (.ok (.ret res)) {s with heap:=p,toks:=t}):
  ∀k i h t c f l,n.size - i=k->i<=n.size->sb h e d S i n.size m->iC h d n m->(∀b o,b≠S->b≠e->g.get? b=D o->h.get? b=D o)->
   h.get? S=D {cls:=.type "list",dict:=I,data:=.seq f c,slots:=#[]}->f.toList=l.map Value.ref->l.length=i->Pairs h n l->(∀a∈l,e<a/\g.get? a=I)->e<h.objs.size->
   gO (model j w) A (.builtin "list.extend.loop" ⟨[.ref S,.ref e,res],[]⟩) R {s with heap:=h,toks:=t}:=by
 have s:=dB u;intro k
 induction k with
 |zero=>
  refineλi h t c f l v y Z B F q K P G W r=>uF aaT ?_;refine ac (Sf x Z B (Array.getElem?_eq_none (ug v)) λp x=>?_);refine ax (z p t f c l (λb o m w e=>x b o w (F b o m w e)) (x S _ s q) (IW v y P) (λj a X=>?_) W K);obtain⟨H,z⟩:=G j a X;exact⟨H,z.1,x a _ (bf (W a (eZ X)).1) z.2⟩
 |succ k Q=>
  intro i h t c f l v y Z B F q K P G W r;have c:=IX v;have O:=Gv c;have x:f.size=i:=by rw[<- GB,K,bN,P]
  refine uF aaT ?_;refine ac (Se (S:=S) Z (ca q) B O λp y L k Z=>?_);dsimp only at L k Z |-
  have z:=Z S _ s q;have k:∀b o,b≠S->p.get? b=D o->(p.update S (i6 (·.push (Value.ref h.objs.size)))).get? b=D o:=λb o p e=>(kU _ _ (Ne.symm p)).trans e;have S:=ca q;have A:g.get? h.objs.size=I:=by
   cases q:g.get? h.objs.size with
   |none=>rfl
   |some o=>exact aB (ca (F _ o (bf S) (bf r) q)) (d1 _)
  refine ac ?_;refine yA z rfl (ax ⟨yO G7 _,Q (i+1) _ t _ (f.push (Value.ref h.objs.size)) (l++ [h.objs.size]) (by exact IY v) c ?_ (B.up λo e=>k d o C (Z d o E e))
   (λb o m w e=>k b o m (Z b o w (F b o m w e))) (hZ _ z rfl) (by rw[Array.toList_push,K,jH];rfl) (by rw[az,P];rfl) ?_ ?_ ?_⟩)
   (by rw[x];exact bj (bc c N)) (by rw[Array.size_push,x];exact ak (iY c) (hW N))
  .obtain⟨K,f,T,c,F⟩:=y;exact⟨K,f,T,c,k _ _ (Ne.symm s) F.1,F.2.imp id λF=>F.elim λa K F=>⟨a,K,F.1,k _ _ F.4 F.2,F.3,F.4⟩⟩
  .intro j b X;rcases yu j l.length with m |m |m
   .replace X:=(cX m)▸X;obtain⟨H,F⟩:=G j b X;have p:=(W b (eZ X)).1;exact⟨H,F.1,k b _ (bf (i9 u p)) (Z b _ (bf p) F.2)⟩
   .subst m;have p:h.objs.size=b:=by simpa using X
    clear X;subst p;exact⟨n[i],by rw[P];exact O,k _ _ (bf S) L⟩
   .have F:(l++ [h.objs.size])[j]?=I:=kS (by rw[az,aaU];exact m);rw[F]at X;exact Mine.z3 X
  .intro a F;rcases aZ.mp F with F |F
   .exact W a F
   .rw[bq.mp F];exact⟨r,A⟩
  .exact i9 r (ca (k _ _ (bf S) L))
def Sh{prog:bK}{w:bM}{A:bQ}{s:ao}{l:Array uk}{q:Nat}{R:Result->ao->Prop}(z:A.handled=I)(t:s.heap.IsItemsView r d)(u:iC s.heap d l q)(S:aG)(v:S≠r)(n:d≠S)(g:ay)(k:Nat)(x:s.heap.get? S=D {cls:=.type "list",data:=.seq #[] k})
  (B:∀j p i c m,(∀b o,b≠S->s.heap.get? b=D o->j.get? b=D o)->j.get? S=D {cls:=.type "list",dict:=I,data:=.seq i c,slots:=#[]}->m.length=l.size->Pairs j l m->(∀a∈m,s.heap.get? a=I)->
   i.toList=m.map Value.ref->R (.ok (.ret g)) {s with heap:=j,toks:=p})(C:l.size<=gp):
  af (model prog w) A.in1 (ab3 (.ref S) (.ref r) g)
   (λK F=>match K with |.done f=>R (.ok f) F |.again c'=>c'.quiet=J/\gO (model prog w) A c' R F) (λe F=>R (.error e) F) s:=by
 have P:=ca x;haveI X:d<s.heap.objs.size:=by refine u.elim λo F=>?_;exact ca F.1
 have W:∀(h:Heap) (K p:Nat),(∀b o,b≠S->(s.heap.push (g5 d 0 l.size q .none V .none .none)).get? b=D o->h.get? b=D o)->
   h.get? S=D {cls:=.type "list",data:=.seq #[] K}->gO (model prog w) A (.builtin "list.extend.loop" ⟨[.ref S,.ref s.heap.objs.size,g],[]⟩) R {s with heap:=h,toks:=p}:=by
  intro h K p Z F;have y:=Z s.heap.objs.size _ (bf P) (cI _ rfl);refine Sg z P n (dB X) C g (λj P i c m g s z A w X=>B j P i c m (λb o P e=>g b o P (dB (ca e)) e) s z A (λa c=>(w a c).2) X)
   l.size 0 h p K #[] [] (aaV _) (bn _) ⟨.none,V,.none,.none,y,.inl ⟨rfl,rfl⟩⟩ (u.up λo e=>Z d o n (bA _ e)) (λb o P K e=>Z b o P (bA _ e)) F rfl rfl
   (λj a X=>by simp at X) (λK c=>nomatch c) (ca y)
 refine ac (us t.typeIs ?_);have X:aaW (.ref S) (.ref r)=V:=by simp[aaW,v]
 have S:(Value.type "dict_items"==Value.type "list")=V:=by decide
 have Z:(Value.type "dict_items"==Value.type "tuple")=V:=by decide
 simp only[X,S,Z,aaX,jI,if_false];refine ac (Sc t u ?_);have F:=bA (g5 d 0 l.size q .none V .none .none) x;refine ac (cJ (kdx_hint (let⟨o,S,X,_⟩:=t;⟨o,bA _ S,X⟩) ?_));refine ZI (λK=>?_) (λK=>ax ⟨yO G7 _,W _ k _ (λb o K e=>e) F⟩);refine ac (hX ?_);refine ac ?_;refine ac (yA F rfl ?_);have K:=hZ (i6 (·.push Value.none)) F rfl;refine yA (hz:=by seq_fits) K rfl ?_;refine ax ⟨yO G7 _,W _ _ _ (λb o P e=>?_) (hZ (i6 (·.pop)) K rfl)⟩;exact(kU _ _ (Ne.symm P)).trans ((kU _ _ (Ne.symm P)).trans e)
def Si{R:List ay->ao->Prop}(m:A.handled=I)(k:s.heap.IsItemsView r d)(l:iC s.heap d e f)(n:e.size<=gp)
  (h:∀g i c,(∀b o,s.heap.get? b=D o->g.get? b=D o)->c.length=e.size->Pairs g e c->(∀a∈c,s.heap.get? a=I)->R (c.map Value.ref) {s with heap:=g,toks:=i}):
  af (model prog w) A (collect (.ref r)) R E s:=by
 haveI S:d<s.heap.objs.size:=by refine l.elim λo F=>?_;exact ca F.1
 refine ac (wpAny_runValue (uF entry_proto_collect' ?_));refine ac (fO ?_);refine ax ⟨yO PySem.F.plain_list_iadd _,uF entry_list_iadd' ?_⟩;haveI P:(s.heap.push {cls:=.type "list",data:=.seq [].toArray}).get? s.heap.objs.size=D {cls:=.type "list",data:=.seq #[]}:=cI _ rfl;haveI f:=Sh (prog:=prog) (w:=w) (s:={s with heap:=s.heap.push {cls:=.type "list",data:=.seq [].toArray}})
  (R:=λq j=>∃(g:Heap) (i:Nat) (F:Array ay) (W:Nat) (c:List aG),A8 (q=.ok (.ret (.ref s.heap.objs.size))) (j={s with heap:=g,toks:=i}) (∀b o,s.heap.get? b=D o->g.get? b=D o) (g.get? s.heap.objs.size=D {cls:=.type "list",dict:=I,data:=.seq F W,slots:=#[]}) (c.length=e.size) (Pairs g e c) (∀a∈c,s.heap.get? a=I) (F.toList=c.map Value.ref))
  m (k.elim λo K=>⟨o,bA _ K.1,K.2⟩) (l.up λo e=>bA _ e) s.heap.objs.size (bf (k.elim λk K=>ca K.1)) (dB S) (.ref s.heap.objs.size) 0 P
  (λg i F W c X P Z d S K=>⟨g,i,F,W,c,rfl,rfl,λb o e=>X b o (dB (ca e)) (bA _ e),P,Z,d,λa b=>(by
   cases q:s.heap.get? a with
   |none=>rfl
   |some o=>have:=S a b;rw[bA _ q]at this;exact aB this zS),K⟩) n
 refine eh f (λa j x=>?_) λe j x=>?_
 .cases a with
  |done f=>
   obtain⟨g,i,F,W,c,e,rfl,X,P,Z,d,S,K⟩:=x;cases e;refine ac (yF P ?_);refine ax ?_;rw[K];exact h g i c X Z d S
  |again a=>
   refine⟨x.1,codeAny_mono x.2 λq a y=>?_⟩;obtain⟨g,i,F,W,c,rfl,rfl,X,P,Z,d,S,K⟩:=y;refine ac (yF P ?_);refine ax ?_;rw[K];exact h g i c X Z d S
 .refine bi x λk F=>?_;obtain⟨_,K⟩:=F;obtain⟨_,F⟩:=K;obtain⟨_,K⟩:=F;obtain⟨_,F⟩:=K;cases F.1
noncomputable def pg(b:List ((Nat×Nat)×Bool)){a:Type}(t:KasT a):Option a:=t.rec D λi j F f=>(b.lookup (i,j)).elim I f
def Cf{b:Nat->Nat->(Bool->ao->Prop)->ao->Prop}{Q:Array Nat->ao->Prop}{s:ao}(d:∀p∈c,∀C:Bool->ao->Prop,C p.2 s->b p.1.1 p.1.2 C s)(h:Q a s):pg c t=D a->t.kasWp b Q s:=by
 induction t with
 |ret b=>exactλe=>aE e▸h
 |ask i j k F=>exactλe=>oe (c.lookup (i,j)) (λq=>z3 ((cA (λo=>o.elim I λb=>pg c (k b)) q).symm.trans e)) λb q=>d _ (mem_of_lookup q) _ (F b ((cA (λo=>o.elim I λb=>pg c (k b)) q).symm.trans e))
def Sj{a:Nat->Nat->(Bool->ao->Prop)->ao->Prop}{Q:Array Nat->ao->Prop}{s:ao}{lt:Nat->Nat->Bool}(b:∀i j C,i<2->j<2->i≠j->C (lt i j) s->a i j C s)(h:Q (if lt 1 0 then #[1,0]else #[0,1]) s):(kas_sort 2).kasWp a Q s:=
 Cf (dH.mpr ⟨λC=>b 1 0 C zD zD zD,λF h=>z7 h⟩) h ((by decide+kernel:∀a,pg [((1,0),a)] _=D (if a then #[1,0]else #[0,1])) _)
noncomputable def ph(a:Nat->Nat->Bool):Array Nat:=
 if a 1 0 then(if a 2 1 then #[2,1,0]else if a 1 2 then(if a 2 0 then #[1,2,0]else #[1,0,2])else #[1,2,0])
 else(if a 2 1 then(if a 0 1 then(if a 2 0 then #[2,0,1]else #[0,2,1])else #[2,0,1])else #[0,1,2])
def Cg e:(∀i∈(ph e).toList,i<3)/\(ph e).toList.length=3:=by
 unfold ph;generalize e 1 0=a;generalize e 2 1=b;generalize e 1 2=c;generalize e 2 0=d;generalize e 0 1=e;revert a b c d e;decide+kernel
def Sk{a:Nat->Nat->(Bool->ao->Prop)->ao->Prop}{Q:Array Nat->ao->Prop}{s:ao}{lt:Nat->Nat->Bool}(b:∀i j C,i<3->j<3->i≠j->C (lt i j) s->a i j C s)(h:Q (ph lt) s):(kas_sort 3).kasWp a Q s:=
 Cf (dH.mpr ⟨λC=>b 1 0 C zD zD zD,dH.mpr ⟨λC=>b 2 1 C zD zD zD,dH.mpr ⟨λC=>b 1 2 C zD zD zD,
   dH.mpr ⟨λC=>b 2 0 C zD zD zD,dH.mpr ⟨λC=>b 0 1 C zD zD zD,λF h=>z7 h⟩⟩⟩⟩⟩) h
  ((by decide+kernel:∀a b c d e,pg [((1,0),a),((2,1),b),((1,2),c),((2,0),d),((0,1),e)] _=D (if a then(if b then #[2,1,0]else if c then(if d then #[1,2,0]else #[1,0,2])else #[1,2,0])else(if b then(if e then(if d then #[2,0,1]else #[0,2,1])else #[2,0,1])else #[0,1,2]))) _ _ _ _ _)
def Sn a b(c:a.1≠b.1):je [a,b]=(if aY b.1 a.1 then[b,a]else[a,b]):=by
 show(if aY .. then[a,b]else b::ou a _)=_;cases h:aY ..
 .rw[vf _ _ c h];rfl
 .rw[Am _ _ h];rfl
def wp(h:a≠b):aY b a= !aY a b:=by
 cases e:aY a b with
 |true=>exact Am _ _ e
 |false=>exact vf _ _ h e
def So a b c a' b' c'(d:a'= !a)(e:b'= !b)(f:c'= !c)(t:a=J->c=J->b=J)(u:c'=J->a'=J->b'=J):
  (if c=J then(if a=J then[0,1,2]else 1::if b=J then[0,2]else[2,0])else if b=J then[0,2,1]else 2::if a=J then[0,1]else[1,0])=
  (if a' then(if c' then #[2,1,0]else if c then(if b' then #[1,2,0]else #[1,0,2])else #[1,2,0])else(if c' then(if a then(if b' then #[2,0,1]else #[0,2,1])else #[2,0,1])else #[0,1,2])).toList:=by
 revert a b c a' b' c';decide+kernel
def Sp x(a:(x 0).1≠(x 1).1)(b:(x 0).1≠(x 2).1)(c:(x 1).1≠(x 2).1):je [x 0,x 1,x 2]=(ph λi j=>aY (x i).1 (x j).1).toList.map x:=by
 refine Eq.trans ?_ (cA _ (So (aY ..) _ (aY ..) _ _ _ (wp a) (wp b) (wp c) (vg _ _ _) (vg _ _ _)));show ou _ (if aY ..=J then[x 1,x 2]else[x 2,x 1])=_;cases aY .. with
 |true=>
  show(if aY ..=J then[x 0,x 1,x 2]else x 1::if aY ..=J then[x 0,x 2]else[x 2,x 0])=_;cases aY .. <;> cases aY .. <;> rfl
 |false=>
  show(if aY ..=J then[x 0,x 2,x 1]else x 2::if aY ..=J then[x 0,x 1]else[x 1,x 0])=_;cases aY .. <;> cases aY .. <;> rfl
def Sq{d:List _}(F:Fr B L s.heap m)(N:News B L s.heap b)(k:s.heap.get? a=D (fR "list" d.toArray n))(f:a≠L)(g:B.get? a=I)(i:∀p∈b,p.1≠a)(j:d.length<2)
  (h:∀e c,Fr B L e m->News B L e b->e.get? a=D (fR "list" d.toArray c)->P (.done (.ret .none)) {s with heap:=e}):
  af (model l w) A (Builtin.«list.sort» ⟨[.ref a],[]⟩) P E s:=by
 haveI S:=kY s.heap a (i6 λP=>(#[]));obtain⟨W,K⟩:∃W,(s.heap.update a _).get? a=D (fR _ _ W):=⟨_,aaY k λP=>#[]⟩;haveI W:Fr B L (((s.heap.update a _).push (fR "tuple" d.toArray 0)).push (fR "list" #[] 0)) m:=((kas_fr F S f g).push _).push _;haveI X:News B L (((s.heap.update a _).push (fR "tuple" d.toArray 0)).push (fR "list" #[] 0)) _:=
  (kas_news N S i).grown λb x e=>bA _ (bA _ e)
 haveI F:=bA (fR "list" #[] 0) (bA (fR "tuple" d.toArray 0) K);rw[list_sort_plain];refine ac (listItems_at k rfl ?_);refine ac (listUpdate_at k rfl ?_ (a3 j rfl) (bn _));refine ac (seqEpoch_at K rfl ?_);refine ac (GH ?_ (a3 j rfl));refine ac (GK ?_ (bn _));refine cJ ?_;haveI K:=j;rw[iP K,iP K];refine ac (ax (ac ?_));refine ax ?_;haveI K:(arrOf (SortSt.mk' general' _ #[] 7 I)).map (·.2)=d.toArray:=by
  apply F1.mp;rw[Array.toList_map,Array.toList_zip];exact aaD (aL _)
 dsimp only;rw[K];refine ac (seqEpoch_at F rfl ?_);refine ac (listUpdate_at F rfl ?_ (bn _) (a3 j rfl));simp only[bne_self_eq_false,jI,if_false];haveI K:=kY (((s.heap.update a (i6 λP=>(#[]))).push (fR "tuple" d.toArray 0)).push (fR "list" #[] 0)) a (i6 λP=>d.toArray);exact ax (h _ _ (kas_fr W K f g) (kas_news X K i) (aaY F λP=>d.toArray))
def Ss(c:A.units<fw)(i:s.heap.get? x=D {cls:=.type "tuple",data:=.seq #[.ref j,m]})(k:s.heap.get? y=D {cls:=.type "tuple",data:=.seq #[.ref l,n]})
  (d:og (eB a w) s.heap e j)(f:og (eB a w) s.heap g l)(b:e≠g)(h:Q (aY e g) s):af (model a w) A (keyLt' (tuples' V) (.ref x) (.ref y)) Q E s:=by
 refine kat_lt i rfl k rfl (kat_cons (wpAny_eqBool_tuple c d f ?_));rw[dF b];exact kat_one _ _ (Sa c d f h)
def Su(q:ItemsAre (eB a w) b c):aw Z d h (b.map .int) c:=by
 induction q with
 |nil=>exact .nil
 |cons F _ K=>exact .cons (G3 F) K
def Sv:∀{F:List _} {j:Nat} {x:b} {y:c},bC d a F->a[j]?=D x->F[j]?=D y->d x y:=by
 induction a with
 |nil=>exactλK h=>z3 (yi.symm.trans h)
 |cons a r K=>
  refineλ{F j x y} q=>q.elim λb F e=>e.1▸?_;cases j with
  |zero=>exactλF P=>aE F▸aE P▸e.2
  |succ j=>exact K e.3
def Ch{a:Type} l(d:a):((List.range l.length).map λi=>l.getD i d)=l:=by
 apply uo;intro i;rw[dG];by_cases h:i<l.length
 .rw[yx h];simp[h]
 .rw[kS (by simpa using h),kS (by simpa using h)];rfl
def Sw{a:Type}{f:a->PV}{v:a->ay}{l:List _}:(∀x∈l,al Z b h (f x) (v x))->aw Z b h (l.map f) (l.map v):=by
 induction l with
 |nil=>exactλF=>.nil
 |cons x r K=>exactλF=>.cons (F x (.head _)) (K λy K=>F y (.tail _ K))
def Sx(l:List _):(∀a∈l,E3 λF S K=>A3 (h.get? a=D {cls:=.type "tuple",data:=.seq #[.ref F,S]}) (h.get? F=D K) (K.cls=.type "tuple"))->
  ∃P,A3 (KatTups h (l.map Value.ref) P) (P.length=l.length) (∀f∈P,E2 λF K=>A3 (f=.ref F) (h.get? F=D K) (K.cls=.type "tuple")):=by
 induction l with
 |nil=>exactλW=>⟨[],.nil,rfl,λW h=>z7 h⟩
 |cons a r X=>exactλW=>(W a (.head _)).elim λF S K y=>(X λb S=>W b (.tail _ S)).elim λP S=>
   ⟨.ref F::P,.cons y.1 rfl rfl rfl S.1,cA uz S.2,λf P=>Mine.me P ⟨F,K,rfl,y.2,y.3⟩ (S.3 f)⟩
def Sy:∀{l:List _},l.length<2->je l=l
 |[],_=>rfl
 |[_],_=>rfl
 |_::_::_,h=>(IZ h).elim
def Ci{a:Type}{l:List _}(h:l.length=2)(d:a):l=[l.getD 0 d,l.getD 1 d]:=by
 cases l with
 |nil=>cases h
 |cons a l=>cases l with
  |nil=>cases h
  |cons b l=>cases l with
   |nil=>rfl
   |cons c l=>cases h
def Sz{a:Type}{l:List _}(h:l.length=3)(d:a):l=[l.getD 0 d,l.getD 1 d,l.getD 2 d]:=by
 cases l with
 |nil=>cases h
 |cons a l=>exact cA _ (Ci (h9 h) d)
def Cj{a:List _}{i j:Nat}{x y:List Int×aG×ay}(b:(a.map (·.1)).Nodup)(c:i≠j)(d:a[i]?=D x)(f:a[j]?=D y)(e:x.1=y.1):False:=by
 obtain⟨F,S⟩:=cQ.mp d;obtain⟨K,W⟩:=cQ.mp f;rw[<- bN _]at F K;have P:(a.map (·.1))[i]=(a.map (·.1))[j]:=by rw[aaZ,aaZ,S,W];exact e
 rcases yu i j with hh |hh |hh
 .exact yt.mp b i j F K hh P
 .exact c hh
 .exact yt.mp b j i K F hh P.symm
def SA{nn:Nat}(ok:FC.Ok B L)(r7:aJ A L n)(d:ah l w g4 B L g stst9 s)(hn:stst9.objs[nn]?=D (.ck k))(hl:g.ι[nn]?=D la)(hv:s.heap.IsItemsView v la.a)
  (hb:k.all (λe=>isBytes e.2 && decide (e.1.length<=aI))=J)(h3:k.length<=3)(h:ae l w g4 B L VR g s (D (.ok (.U ((je k).map ov)),stst9)) Q E):
  af (model l w) A (call (.builtin "sorted") [.ref v]) Q E s:=by
 refine aH λG κ=>?_;obtain⟨xs,y2⟩:=(d.8 nn _ la hn hl rfl).1.4;obtain⟨o,y3⟩:=y2.1;obtain⟨es,y4⟩:=y3;obtain⟨ep,y5⟩:=y4;have hlen:=y2.2.length;have W:es.size=k.length:=by rw[<- GB,y5.2.2.2.1,bN,hlen]
 have hm:iC s.heap la.a es ep:=⟨o,y5.1,y5.2.1.1,y5.2.2.1⟩;obtain⟨m,Fm,j_⟩:=d.fr ok;refine κ (call_function_entry kind_sorted plain_sorted entry_sorted (args_sorted1 _) ?_);refine ac (ax ?_);refine ac (Si r7.2 hv hm (by rw[jD,W];exact a1 h3 rfl) λu tk X hk H hP SD=>?_);refine ac (GK ?_ (by rw[bN,H,W,jD];exact a1 h3 rfl));generalize Ck:u.push {cls:=.type "list",data:=.seq (X.map Value.ref).toArray}=h2;have pi:h2.get? u.objs.size=D (fR "list" (X.map Value.ref).toArray 0):=by rw[<- Ck];exact cI _ rfl
 have ru:∀b o,u.get? b=D o->h2.get? b=D o:=λb o q=>by rw[<- Ck];exact bA _ q
 have sd:=λb o q=>ru b o (hk b o q);have pj:s.heap.get? u.objs.size=I:=by
  cases q:s.heap.get? u.objs.size with
  |none=>rfl
  |some o=>exact((d1 _) (ca (hk _ o q))).elim
 have F2:Fr B L.env.locals h2 m:=by
  obtain⟨⟨ob,e1,e2,z1,z2⟩,kk,aa⟩:=Fm;exact⟨⟨ob,e1,e2,sd _ ob z1,z2⟩,λb o q=>sd _ _ (kk b o q),aa⟩
 have wq:∃o,s.heap.get? L.env.locals=D o:=by refine aH λG κ=>?_;obtain⟨ob,_,_,z1,_⟩:=Fm.ns;exact κ (⟨ob,z1⟩)
 have Cm:u.objs.size≠L.env.locals:=λq=>by obtain⟨o,e⟩:=wq;rw[<- q,pj]at e;exact Mine.z3 e
 have Cn:=d.gC pj;have N2:=news_but (B:=B) L.env.locals u.objs.size h2;have pair:∀(j:Nat) (a:aG),X[j]?=D a->E2 λx N=>A5 (xs[j]?=D x) (k[j]?=D N) (oL g.Z g.ι s.heap N x) (h2.get? a=D {cls:=.type "tuple",data:=.seq #[.ref x.2.1,x.2.2]}) (s.heap.get? a=I):=λj a hj=>by
  obtain⟨en,y1⟩:=hP j a hj;have e2:=y1.2;have e3:=entry_at (knd:=ul (eB l w)) y5.2.2.2.1 j;rw[y1.1]at e3;obtain⟨x,y6⟩:=dS.mp e3.symm;have Co:j<k.length:=by rw[<- hlen];exact(cQ.mp y6.1).1
  refine⟨x,k[j],y6.1,bI Co,Sv y2.2 (bI Co) y6.1,?_,SD a (eZ hj)⟩;rw[<- y6.2]at e2;exact ru _ _ e2
 have fin:∀(h4:Heap) (c:Nat) (p:List Nat),Fr B L.env.locals h4 m->News B L.env.locals h4 (rJ B L.env.locals u.objs.size h2)->h4.get? u.objs.size=D (fR "list" (p.map λi=>(X.map Value.ref).getD i Value.none).toArray c)->
   (∀i∈p,i<k.length)->p.length=k.length->(je k)=p.map (λi=>k.getD i ([],.none))->∀t',Q (.ref u.objs.size) {s with heap:=h4,toks:=t'}:=by
  intro h4 c p F4 N4 ws hp SE Cp t';obtain⟨S,I'⟩:=d.rr (t:=t') ok j_ F4 N4 (λq hq=>by
   have oQ:=ip (B:=B) L.env.locals s.heap q hq;have z1:=oQ.1;exact dj.mpr ⟨jY (sd _ _ z1) oQ.2.2 oQ.2.1,by
    have:q.1≠u.objs.size:=λe=>by rw[e,pj]at z1;exact Mine.z3 z1
    simpa using this⟩)
  refine h.ok S I' ?_;have nz:∀a,s.heap.get? a=I->a∉g.Z:=λa ha q=>by obtain⟨o,e⟩:=(d.4 a q).2;rw[ha]at e;exact Mine.z3 e
  show al g.Z g.ι h4 _ _;refine al.oS ⟨_,ws,rfl,c,rfl⟩ (nz _ pj) ?_ (by rw[bN,Cp,bN,SE];unfold aI;exact a1 h3 rfl);rw[Cp,gR];refine Sw λi hi=>?_;have SF:=hp i hi;obtain⟨a,ha⟩:∃a,X[i]?=D a:=⟨_,bI (by rw[H,W];exact SF)⟩;obtain⟨x,N,y7⟩:=pair i a ha;have q4:=y7.4;have e1:(X.map Value.ref).getD i Value.none=.ref a:=by rw[h0,dG,ha];rfl
  have e2:k.getD i ([],.none)=N:=by rw[h0,y7.2];rfl
  rw[e1];show al g.Z g.ι h4 (ov (k.getD i ([],.none))) _;rw[e2];have ww:a≠L.env.locals:=λq=>by obtain⟨o,e⟩:=wq;rw[<- q,y7.5]at e;exact Mine.z3 e
  have wx:a≠u.objs.size:=λq=>by rw[q,pi]at q4;exact aB q4 (by intro z;injection z with z;unfold fR at z;injection z with z _;exact aB z zD)
  have SG:=(N4 _ (dj.mpr ⟨jY q4 (d.gC y7.5) ww,by simpa using wx⟩)).1;have Cq:=i1.mp hb N (eZ y7.2);rw[de]at Cq;unfold ov;refine al.el ⟨_,SG,rfl,_,rfl⟩ (nz _ y7.5) (.cons ?_ (.one (y7.3.3.mono (S.mono d.2)))) (by unfold aI;simp);obtain⟨ob,y8⟩:=y5.2.2.2.2.1 x (eZ y7.1);obtain⟨Z,y9⟩:=y8;obtain⟨se,ln⟩:=y9;have SH:h4.get? x.2.1=D ob:=S.5 _ _ ln.1 λq=>y7.3.2 (d.2 _ q);rw[y7.3.1];refine al.el (vs:=Z.toList) ⟨ob,SH,ln.2.1,se,by rw[aa0];exact ln.2.2.1⟩ y7.3.2 (Su ln.2.2.2) (by rw[bN,<- y7.3.1];exact of_decide_eq_true Cq.2)
 have pm:(X.map Value.ref).length=k.length:=by rw[bN,H,W]
 refine ac (cJ (gP slot_list_sort ⟨_,pi,rfl⟩ entry_list_sort ?body (args_list_sort _)))
 case body=>
  by_cases F:k.length<2
  .refine Sq F2 N2 pi Cm Cn (λq hq=>rK hq) (by rw[pm];exact F) λh4 c F4 N4 ws=>?_;refine⟨_,rfl,ax ⟨_,rfl,?_⟩⟩;refine fin h4 c (List.range k.length) F4 N4 ?_ (λi hi=>qt.mp hi) (aax) ?_ tk
   .have e:((List.range k.length).map λi=>(X.map Value.ref).getD i Value.none)=X.map Value.ref:=by
     rw[<- pm];exact Ch _ _
    rw[e];exact ws
   .rw[Ch];exact Sy F
  .refine kat_list_sort F2 N2 pi Cm Cn (λq hq=>rK hq) (by rw[pm];exact ar.mp F) (by rw[pm];exact a2 h3 rfl) λe1 r F3 N3=>?_;have Cr:∀b o,h2.get? b=D o->b≠L.env.locals->b≠u.objs.size->r.get? b=D o:=λb o q z1 z2=>by
    cases hB:B.get? b with
    |some o'=>
     have:=F2.keep b o' hB;rw[q]at this;cases this;exact F3.keep b _ hB
    |none=>exact(N3 _ (.tail _ (dj.mpr ⟨jY q hB z1,by simpa using z2⟩))).1
   have P:∀(j:Nat) (a:aG),X[j]?=D a->E2 λx N=>A5 (xs[j]?=D x) (k[j]?=D N) (N.1=x.1) (r.get? a=D {cls:=.type "tuple",data:=.seq #[.ref x.2.1,x.2.2]}) (og (eB l w) r x.1 x.2.1):=λj a hj=>by
    obtain⟨x,N,O⟩:=pair j a hj;have q4:=O.4;have ww:a≠L.env.locals:=λq=>by obtain⟨o,e⟩:=wq;rw[<- q,O.5]at e;exact Mine.z3 e
    have wx:a≠u.objs.size:=λq=>by rw[q,pi]at q4;exact aB q4 (by intro z;injection z with z;unfold fR at z;injection z with z _;exact aB z zD)
    obtain⟨ob,SI⟩:=y5.2.2.2.2.1 x (eZ O.1);obtain⟨Z,SJ⟩:=SI;obtain⟨se,sf⟩:=SJ;have z1:=sf.1;have SK:x.2.1≠L.env.locals:=λq=>O.3.2 (q▸d.2 _ (d.5 _ ok.6));have SM:x.2.1≠u.objs.size:=λq=>by rw[q,pj]at z1;exact Mine.z3 z1
    exact⟨x,N,O.1,O.2,O.3.1,Cr _ _ q4 ww wx,ob,Z,se,Cr _ _ (sd _ _ z1) SK SM,sf.2.1,sf.2.2.1,sf.2.2.2⟩
   obtain⟨fs,wy⟩:=Sx (h:=r) X λa ha=>by
    obtain⟨j,hj⟩:=List.mem_iff_getElem?.mp ha;obtain⟨x,N,Cs⟩:=P j a hj;obtain⟨ob,SN⟩:=Cs.5;obtain⟨Z,SO⟩:=SN;obtain⟨se,Ct⟩:=SO;exact⟨_,_,ob,Cs.4,Ct.1,Ct.2.1⟩
   refine kat_kind (T:=.type "tuple") wy.1 (by rw[wy.2,H,W];exact e9 F rfl) (λf hf=>?_) zD ?_
   .obtain⟨ka,okk,rfl,q1,q2⟩:=wy.3 f hf;rw[<- q2];exact(Looks.ld q1).andThen .now
   have hu:A.in1.in1.units<fw:=by have:=r7.4;show A.units+1+1<fw;exact I4 this
   have si:∀(i j:Nat) (C:Bool->ao->Prop),i<k.length->j<k.length->i≠j->C (aY (k.getD i ([],.none)).1 (k.getD j ([],.none)).1) {s with heap:=r,toks:=tk}->
     kas_ask l w A.in1.in1 (tuples' (Value.type "tuple" !=Value.type "tuple")) (X.map Value.ref) i j C {s with heap:=r,toks:=tk}:=λi j C hi hj pn hC=>by
    obtain⟨ai,ha⟩:∃a,X[i]?=D a:=⟨_,bI (by rw[H,W];exact hi)⟩;obtain⟨aj,iB⟩:∃a,X[j]?=D a:=⟨_,bI (by rw[H,W];exact hj)⟩;obtain⟨x,N,po⟩:=P i ai ha;obtain⟨y,kw,pq⟩:=P j aj iB;have e1:(X.map Value.ref).getD i Value.none=.ref ai:=by rw[h0,dG,ha];rfl
    have e2:(X.map Value.ref).getD j Value.none=.ref aj:=by rw[h0,dG,iB];rfl
    have e3:k.getD i ([],.none)=N:=by rw[h0,po.2];rfl
    have e4:k.getD j ([],.none)=kw:=by rw[h0,pq.2];rfl
    rw[e3,e4,po.3,pq.3]at hC;unfold kas_ask;rw[e1,e2];exact Ss (s:={s with heap:=r,toks:=tk}) hu po.4 pq.4 po.5 pq.5 (λe=>Cj y5.2.2.2.2.2 pn po.1 pq.1 e) hC
   have K:∀i j,i<k.length->j<k.length->i≠j->(k.getD i ([],.none)).1≠(k.getD j ([],.none)).1:=λi j hi hj pn e=>by
    obtain⟨ai,ha⟩:∃a,X[i]?=D a:=⟨_,bI (by rw[H,W];exact hi)⟩;obtain⟨aj,iB⟩:∃a,X[j]?=D a:=⟨_,bI (by rw[H,W];exact hj)⟩;obtain⟨x,N,wA⟩:=P i ai ha;obtain⟨y,kw,wB⟩:=P j aj iB;have e3:k.getD i ([],.none)=N:=by rw[h0,wA.2];rfl
    have e4:k.getD j ([],.none)=kw:=by rw[h0,wB.2];rfl
    rw[e3,e4,wA.3,wB.3]at e;exact Cj y5.2.2.2.2.2 pn wA.1 wB.1 e
   have Cu:∀p:Array Nat,(∀i∈p.toList,i<k.length)->p.toList.length=k.length->je k=p.toList.map (λi=>k.getD i ([],.none))->
     KasFin B L.env.locals m u.objs.size e1 (p.toList.map λi=>(X.map Value.ref).getD i Value.none) (λs3=>∃v,PySem.Fin.done (yP Value.none)=PySem.Fin.done (yP v)/\af (model l w) A.in1 (ret (Value.ref u.objs.size)) (λfin s'=>∃v,fin=PySem.Fin.done (yP v)/\Q v s') E s3) {s with heap:=r,toks:=tk}:=λp a1 a2 a3=>
    KasFin.intro (s:={s with heap:=r,toks:=tk}) F3 N3 (.head λq hq=>rK hq) λh4 c F4 N4=>⟨_,rfl,ax ⟨_,rfl,fin h4 c p.toList F4 (λq hq=>N4 q (.tail _ hq)) (N4 _ (.head _)).1 a1 a2 a3 tk⟩⟩
   rw[pm];have SP:k.length=2\/k.length=3:=by exact I5 h3 F
   rcases SP with sj |sk
   .rw[sj]at si K |-
    refine Sj (lt:=λi j=>aY (k.getD i ([],.none)).1 (k.getD j ([],.none)).1) si ?_;have ek:=Ci sj ([],.none);have hs:=Sn (k.getD 0 ([],.none)) (k.getD 1 ([],.none)) (K 0 1 zD zD zD);rw[<- ek]at hs;refine Cu _ ?_ ?_ ?_
    .cases aY (k.getD 1 ([],.none)).1 (k.getD 0 ([],.none)).1 <;> (rw[sj];simp)
    .cases aY (k.getD 1 ([],.none)).1 (k.getD 0 ([],.none)).1 <;> (rw[sj];simp)
    .rw[hs];cases aY (k.getD 1 ([],.none)).1 (k.getD 0 ([],.none)).1
     .exact ek
     .rfl
   .rw[sk]at si K |-
    refine Sk (lt:=λi j=>aY (k.getD i ([],.none)).1 (k.getD j ([],.none)).1) si ?_;have ek:=Sz sk ([],.none);have hs:=Sp (λi=>k.getD i ([],.none)) (K 0 1 zD zD zD) (K 0 2 zD zD zD) (K 1 2 zD zD zD);rw[<- ek]at hs;refine Cu _ ?_ ?_ hs
    .rw[sk];exact(Cg _).1
    .rw[sk];exact(Cg _).2
def SQ{Q:ay×List _->ao->Prop}(c:s.heap.get? a=D o)(d:o.ExactDict)(f:Q (.builtin "dict.items",[.ref a]) s):af (model b w) A (getMethod (.ref a) "items" e) Q E s:=by
 refine jF (T:="dict") (id:="dict.items") ?_ ?_ ?_ ?_ ?_ ?_
 .exact⟨o,c,d.1⟩
 .exact Gy
 .exact aa1
 .exact PySem.F.type_dict_items
 .intro b e;cases e;exact⟨_,c,d.2.1⟩
 .exact f
def SR(b:s.heap.get? d=D o)(a:o.ExactDict)(e:(d==FY)=V)(h:Q (.ref s.heap.objs.size) {s with heap:=s.heap.push {cls:=.type "dict_items",data:=.fields #[.ref d]}}):
  af (model c w) A (call (.builtin "dict.items") [.ref d]) Q E s:=by
 refine gP aa1 ⟨o,b,a.1⟩ PySem.F.entry_dict_items (ac (ac (wpAny_notOrdered_dict ⟨o,b,a.1⟩ (ax ?_)))) (PySem.F.args_dict_items_1 _);unfold ab4;rw[iN (by rw[e];exact ei)];exact ac (ax (ac (fO (ax ⟨_,rfl,h⟩))))
def RT(W:bt b w d B)(X:AllC b w d B n j k)(i:FC.Ok B e)(f:aJ A e n)(a:ah b w d B e g c s)(l:e.cx.bL "sorted"=J)(m:(o.endLine==q.line)=J)
  (h:ae b w d B e VR g s ((bd (den j k e.cx (.Name x r)) q_) c) Q E):af (model b w) A (eval (.Call (.Name "sorted" p) [.Call (.Attribute (.Name x r) "items" o) [] [] q] [] u) e.env) Q E s:=by
 refine jm (jl W i a l (v:=.builtin "sorted") zD (m4 rfl ?_));refine mE ?_;refine ac (X.e e i _ A g c s _ _ f a (ae.bd h λa F F F K F S P S F=>?_));refine ac (e7 ?_);refine aH λG b=>?_;obtain⟨c,X,Z,rfl,_,F⟩:=jk S F;obtain⟨S,S⟩:=AB F;haveI W:=bG S.2;haveI a:=P.8 c _ X S.1 Z rfl;obtain⟨F,F⟩:=a.1.4;obtain⟨o,c⟩:=F.1;obtain⟨F,d⟩:=c;obtain⟨F,F⟩:=d;refine b (ac (cJ (SQ F.1 F.2.1 (rW m (m4 rfl (n8 (SR F.1 F.2.1 a.1.3 ?_)))))));haveI F:=P.new (t:=K.toks) (h':=K.heap.push {cls:=.type "dict_items",data:=.fields #[.ref X.a]}) i (λb o q=>bA _ q);exact n8 (SA i f F.2 S.1 Z ⟨_,cI _ rfl,rfl,rfl⟩ W.1.1 W.1.2 (ae.step W.2 F.1))
def getD_map{a:Type}{o:Option _}{f:a->Bool}(h:(o.map f).getD V=J):∃a,o=D a/\f a=J:=by
 cases o with
 |none=>cases h
 |some a=>exact⟨a,rfl,h⟩
def d8(h:(a && b)=J):a=J/\b=J:=(de ..).mp h
def RL{a b:Option _}{x:aA}(h:u9 a b x=J):a=I/\(b=I/\E3 λP S F=>x=.UnaryOp .USub (.Constant (.int 1) P S) F):=by
 refine eD (λh F=>?_) (d8 h);haveI K:=d8 h;refine⟨ut.mp K.1,ut.mp K.2,?_⟩;obtain⟨y,p,e,K⟩:E2 λy p=>x=.UnaryOp .USub y p/\((constOf y).map Af).getD V=J:=by
  induction fD x with
  |un W y p=>obtain⟨W,K⟩:=d8 F;clear h F;cases bE.mp W;exact⟨y,p,rfl,K⟩
  |no x q=>exact q.12 F
  |_=>exact(ei F).elim
 refine aH λG X=>?_;obtain⟨c,F,W⟩:=getD_map K;clear K;obtain⟨P,S,rfl⟩:=u5 F;clear F;cases c with
 |int i=>cases bE.mp W;exact X ⟨P,S,p,e⟩
 |_=>exact(ei W).elim
def RM(X:AllC b w f B n j k)(l:FC.Ok B e)(c:aJ A e n)(a:ah b w f B e g d s)
  (h:ae b w f B e VR g s (mS (den j k e.cx) (jh j k e.cx) o i d) Q E):af (model b w) A (eval (.Subscript o i m) e.env) Q E s:=by
 induction i using MU with
 |slice F F F p=>
  cases F with
  |none=>exact PT X.toAllX l c a h
  |some x=>
   obtain⟨F,K⟩:=bG h;clear h;obtain⟨rfl,rfl,P,P,P,rfl⟩:=RL F;exact PU X.toAllX l c a K
 |no i q=>
  rw[q]at h;exact PS X.toAllX l c a h
def RN(W:bt b w c B)(C:iA b w c B n d)(X:AllC b w c B n d k)(q:FC.Ok B e)(i:aJ A e n)(a:ah b w c B e g f s)
  (h:ae b w c B e VR g s (rn d (den d k e.cx) (cr d k e.cx) e.cx o m p j l f) Q E):af (model b w) A (eval (.Call (.Attribute o m p) j [] l) e.env) Q E s:=by
 refine eD (λK F=>?_) (j0 h);have K:=aaz _▸K;by_cases P:u_ o m=J
 .replace F:=(iP P)▸F;obtain⟨S,Z⟩:=d8 P;clear h P;cases bE.mp Z;obtain⟨p,rfl⟩:=lh (bE.mp S);haveI S:=bG F;exact Qd W X.toAllX q i a K S.1 S.2
 .replace F:=(iN P)▸F;haveI P:=bG F;exact P_ W C X.toAllX q i a K P.1 P.2
def RO(h:itemsOf e=D o):E4 λx P K F=>A3 (o=.Name x P) (e=.Call (.Attribute o "items" K) [] [] F) ((K.endLine==F.line)=J):=by
 refine aH λG S=>?_;obtain⟨⟨f,W,X,p⟩,Z,h⟩:=b0.mp h;obtain⟨⟨a,m,K⟩,b,h⟩:=b0.mp h;obtain⟨F,h⟩:=vy h;obtain⟨F,c⟩:=d8 F;obtain⟨F,d⟩:=d8 F;obtain⟨F,g⟩:=d8 F;obtain⟨i,j⟩:=d8 F;obtain⟨x,F⟩:=n5.mp i;obtain⟨P,e⟩:=lh F;refine S ⟨x,P,K,p,h▸e,?_,c⟩;rw[Ah Z,(Mz b:f=_),(oa.mp j:W=[]),(oa.mp g:X=[]),(bE.mp d:m=_),(show a=o from h)]
def RP(W:bt b w c B)(X:AllC b w c B n i k)(l:FC.Ok B d)(j:aJ A d n)(a:ah b w c B d g e s)(m:d.cx.bL "isinstance"=J)
  (h:ae b w c B d VR g s (Ai (den i k d.cx) d.cx f e) Q E):af (model b w) A (eval (.Call (.Name "isinstance" p) f [] o) d.env) Q E s:=by
 obtain⟨e,t,rfl,F⟩:=Ay h;obtain⟨t,K⟩:=bJ F;clear F h;obtain⟨F,rfl⟩:=lh K.1;haveI F:=bG K.2;exact Qe W X.toAllX l j a m F.1.1 (F.1.2.1.imp bE.mp bE.mp) F.1.2.2 F.2
def RS(W:bt b w d B)(C:iA b w d B n e)(X:AllC b w d B n e k)(l:FC.Ok B i)(c:aJ A i n)(a:ah b w d B i g j s)
  (h:ae b w d B i VR g s (rm e (den e k i.cx) (cr e k i.cx) i.cx f m o j) Q E):af (model b w) A (eval (.Call (.Name f p) m [] o) i.env) Q E s:=by
 refine eD (λP F=>?_) (bG h);refine Mine.oe (lg f) (λK=>?_) λi K=>?_
 .
  replace F:=K▸F;dsimp only at F;by_cases S:(f=="isinstance")=J
  .clear h K;cases bE.mp S;exact RP W X l c a P F
  .rw[iN S]at F;by_cases Z:(f=="sorted")=J
   .clear h K S;cases bE.mp Z;obtain⟨e,rfl,S⟩:=lq F;obtain⟨o,b,d⟩:=bJ S;clear S F;obtain⟨x,S,S,S,rfl,rfl,S⟩:=RO b;exact RT W X l c a P S d
   .rw[iN Z]at F;by_cases S:(f=="Trie")=J\/(f=="Numbered")=J
    .rw[iP S]at F;exact P7 W C X.toAllX l c a P ((gq ..).mpr S) F
    .rw[iN S]at F;haveI S:=bG F;exact P8 W X.toAllX l c a P S.1 S.2
 .replace F:=K▸F;exact P2 W C X.toAllX l c a P K F
def RU(W:bt a w b B)(C:iA a w b B n c)(X:AllC a w b B n c k):∀d,FC.Ok B d->∀e,ev a w b B n d VR (eval e d.env) (den c (k+1) d.cx e):=by
 intro d S e A g F s Q E P F h
 induction fD e with
 |const c K K=>exact PJ S F h
 |name x K=>exact PZ W S F h
 |bin l d r K=>exact PX X.toAllX S P F h
 |un d x K=>
  haveI Z:=bG h;rw[bE.mp Z.1];exact PW X.toAllX S P F Z.2
 |bools d f K=>
  obtain⟨a,Z,rfl,Z⟩:=vj h;exact vN X.toAllX S P F Z
 |fC t b o K=>exact PY X.toAllX S P F h
 |gx l a a K=>
  obtain⟨d,rfl,Z⟩:=lq h;obtain⟨r,a⟩:=lq Z;rw[a.1];haveI b:=bG a.2;exact PN X.toAllX S P F b.1 b.2
 |tup a c K=>exact PF X.toAllE S P F h
 |lst a K=>exact PH X.toAllE S P F h
 |dict a f K=>
  obtain⟨rfl,Z⟩:=mW h;clear h;obtain⟨rfl,a⟩:=mW Z;exact PI W S F a
 |attr o x K=>
  haveI Z:=bG h;exact PQ W X.toAllX S P F Z.1 Z.2
 |sub o i K=>exact RM X S P F h
 |comp Z Z Z K=>exact QV X S P F h
 |call f Z Z K=>
  obtain⟨rfl,K⟩:=mW h
  induction f using MX with
  |name x p=>
   exact RS W C X S P F K
  |attr o m Z=>
   exact RN W C X S P F K
  |no f q=>
   rw[q]at h;exact h.elim
 |no e q=>rw[q.1]at h;exact h.elim
 |_=>exact h.elim
def m9{d:Type}[Decidable c]{a:Option _}{b:d}(h:(if c then a else I)=D b):c/\a=D b:=by
 by_cases q:c
 .rw[iP q]at h;exact⟨q,h⟩
 .rw[iN q]at h;exact Mine.z3 h
def RV(h:raise1 e=D x):E5 λK P S W F=>e=.Call (.Name x K) [.Constant (.str P) S W] [] F:=by
 refine aH λG Z=>?_;obtain⟨⟨f,b,d,p⟩,e,h⟩:=b0.mp h;obtain⟨F,h⟩:=m9 h;obtain⟨g,X⟩:=d8 F;obtain⟨c,F,i⟩:=getD_map X;obtain⟨a,a,X⟩:=b0.mp F;obtain⟨S,W,j⟩:=u5 X;obtain⟨K,k⟩:=lh h;clear F X;cases c with
 |str P=>exact Z ⟨K,P,S,W,p,by rw[Ah e,(oa.mp g:d=[]),(u6 a:b=_),j,(show f=_ from k)]⟩
 |_=>exact(ei i).elim
def Cc(h:oB e c=D x):E5 λK P S W F=>e=D (.Call (.Name x K) [.Constant (.str P) S W] [] F)/\c=I:=by
 refine eD (λX h=>?_) (m9 h);obtain⟨e,rfl,h⟩:=b0.mp h;obtain⟨K,P,S,W,F,rfl⟩:=RV h;exact⟨K,P,S,W,F,rfl,ut.mp X⟩
def RW{s:cP}(h:rj s=D r):(E4 λe K F P=>A3 (r=D P) (s=.Raise e K F) (oB e K=D P))\/E3 λS p F=>r=I/\s=.Return (D (.Constant .none S p)) F:=by
 induction stK s with
 |ret e F=>
  refine aH λG Z=>?_;obtain⟨W,a⟩:=vy h;obtain⟨c,X,b⟩:=getD_map W;clear h W;obtain⟨e,rfl,W⟩:=b0.mp X;clear X;obtain⟨S,p,rfl⟩:=u5 W;clear W;cases c with
  |none=>exact Z (.inr ⟨S,p,F,a.symm,rfl⟩)
  |_=>exact(ei b).elim
 |raise e K F=>
  obtain⟨P,S⟩:=dS.mp h;exact .inl ⟨e,K,F,P,S.2.symm,rfl,S.1⟩
 |no s q F=>rw[F]at h;exact Mine.z3 h
 |_=>exact(ns h).elim
def RX(h:rk a o f=D x):o=[]/\(f=[]/\E3 λF s K=>a=[.ExceptHandler (D (.Name x.1 F)) I [s] K]/\rj s=D x.2):=by
 refine eD (λP h=>aH λG W=>?_) (m9 h);obtain⟨⟨t,S,b,K⟩,X,h⟩:=b0.mp h;obtain⟨Z,a⟩:=d8 P;obtain⟨b,h⟩:=m9 h;obtain⟨c,P,S⟩:=b0.mp h;clear h;clear h;obtain⟨t,rfl,c⟩:=b0.mp P;clear h;obtain⟨r,d,rfl⟩:=dS.mp S;obtain⟨s,S⟩:=b0.mp d;clear P;cases ut.mp b;obtain⟨F,rfl⟩:=lh c;exact W ⟨oa.mp Z,oa.mp a,F,s,K,by rw[u6 X,u6 S.1],S.2⟩
def RY(h:va t a=D x):∃p,t=.Name x p/\a=.Add:=by
 refine eD (λF h=>?_) (m9 h);obtain⟨p,rfl⟩:=lh h;exact⟨p,rfl,bE.mp F⟩
def RZ(W:bt b w f B)(k:FC.Ok B i)(j:aJ A i n)(a:ah b w f B i g d s){Q:Flow->ao->Prop}
  (h:ae b w f B i cU g s (a_ (oB e c) (λc=>if i.cx.bL c then a_ (excOf c) mL else aC) d) Q E):af (model b w) A (exec (.Raise e c l) i.env) Q E s:=by
 refine aH λG S=>?_;obtain⟨c,F,K⟩:=bJ h;clear h;obtain⟨P,P,P,P,P,rfl,rfl⟩:=Cc F;obtain⟨X,P⟩:=bG K;obtain⟨x,Z,b⟩:=bJ P;clear K F P;cases RC Z;exact S (RE W k j a X b)
def R0(W:bt c w e B)(X:AllS c w e B n q k)(m:FC.Ok B d)(i:d.env=d.cf)(j:aJ A d n)(a:ah c w e B d g l s){Q:Flow->ao->Prop}
  (h:ae c w e B d cU g s (a_ (rk t o f) (λr=>tryD (bW q k d.cx b) d.cx r.1 r.2) l) Q E):af (model c w) A (exec (.Try b t o f u) d.env) Q E s:=by
 refine aH λG k=>?_;obtain⟨⟨c,r⟩,F,K⟩:=bJ h;clear h;obtain⟨rfl,rfl,P,P,P,rfl,P⟩:=RX F;clear F;rcases RW P with⟨e,F,F,S,rfl,rfl,S⟩ |⟨Z,p,F,rfl,rfl⟩
 .clear P;obtain⟨F,F,Z,F,F,rfl,rfl⟩:=Cc S;obtain⟨F,Z⟩:=bG K;obtain⟨F,b⟩:=d8 F;obtain⟨F,d⟩:=d8 F;obtain⟨c,h⟩:=d8 F;clear K S F;clear F;clear F;cases bE.mp b;cases bE.mp d;exact k (Ca (x:=.co) W X m i j a c (λe l d n S f r g=>RK W m j i f h r g) Z)
 .obtain⟨F,Z⟩:=bG K;obtain⟨c,b⟩:=d8 F;clear K P F;cases bE.mp b;exact k (Ca (x:=.bU) W X m i j a c (λe l d n S f r g=>RJ W m f g) Z)
def R1(W:bt a w c B)(X:AllS a w c B n d k):∀b,FC.Ok B b->b.env=b.cf->∀P,ev a w c B n b cU (exec P b.env) (ll d (k+1) b.cx P):=by
 intro b S Z P A g F s Q E K F h
 induction stK P with
 |exp e P=>exact QZ X S K F h
 |ret e P=>
  obtain⟨e,rfl,a⟩:=bJ h;exact Q0 X S K F a
 |asg b e P=>
  obtain⟨t,rfl,a⟩:=lq h;exact Ro X S K F a
 |aug t b e P=>
  obtain⟨x,b,a⟩:=bJ h;clear h;obtain⟨p,rfl,rfl⟩:=RY b;obtain⟨i,b⟩:=bJ a;exact Q1 X S K F b.1 b.2
 |cond t b o P=>exact Q2 X S Z K F h
 |loop t b o P=>
  obtain⟨rfl,a⟩:=mW h;exact Q3 X S Z K F a
 |each t c b o P=>
  obtain⟨rfl,a⟩:=mW h;exact Q9 X S Z K F a
 |raise e c P=>exact RZ W S K F h
 |tries b a o f P=>exact R0 W X S Z K F h
 |no s q=>rw[q]at h;exact h.elim
def all_zero c:AllS d w f B n c 0 where
 e:=λF F F F F F F F F F F h=>h.elim
 t:=λF F F F F F F F F F F h=>h.elim
 ts:=λF F F F F F F F F F F F h=>h.elim
 l:=λF F F F F F F F F F F F h=>h.elim
 b:=λF F F F F F F F F F F F F F F F F h=>h.elim
 o:=λF F F F F F F F F F F h=>h.elim
 a:=λF F F F F F F F F F F F F F h=>h.elim
 rY:=λF F F F F F F F F F F F F F F h=>h.elim
 ifs:=λF F F F F F F F F F F h=>h.elim
 cu:=λF F F F F F F F F F F F F F F F F h=>h.elim
 it:=λF F F F F F F F F F F h=>h.elim
 s:=λF F F F F F F F F F F F h=>h.elim
 ss:=λF F F F F F F F F F F F h=>h.elim
def all_succ(W:bt c w d B)(C:iA c w d B n e)(X:AllS c w d B n e k):AllS c w d B n e (k+1) where
 e:=RU W C X.toAllC
 t:=PP X.toAllX
 ts:=PM X.toAllX
 l:=PE X.toAllE
 b:=PK X.toAllX
 o:=PL X.toAllX
 a:=Qz W X.toAllA
 rY:=Qv X.toAllA
 ifs:=QJ X.toAllC
 cu:=QX X.toAllC
 it:=λF P e A g F s Q E K F h=>Qt W X.toAllX P K F h
 s:=R1 W X
 ss:=QY X
def wj(W:bt a w b B)(C:iA a w b B n c):∀k,AllS a w b B n c k
 |0=>all_zero c
 |k+1=>all_succ W C (wj W C k)
def Cd(W:bt a w b B):∀n,iA a w b B n (ag n)
 |0=>λi e a Z b f A g K s P S Q E c X F d h=>h.elim
 |n+1=>λi e a Z b f A g K s P S Q E c X F d h=>
  Om W.nolimit c X F Z b d (λF F K P=>K▸((wj W (Cd W n) _).ss _ F P _)) h
noncomputable def pr:ay->Option aG
 |.ref a=>D a
 |_=>I
noncomputable def Cv:ay->Option Str
 |.str q _=>D q
 |_=>I
noncomputable def wC:ay->Option Int
 |.int i _=>D i
 |_=>I
noncomputable def Cw:ay->Option (Array UInt8)
 |.bytes b _=>D b
 |_=>I
noncomputable def Cy:ay->Option String
 |.type t=>D t
 |_=>I
noncomputable def Cz:Data->Option FuncData
 |.func f=>D f
 |_=>I
noncomputable def CA:Data->Option (Array ay)
 |.fields v=>D v
 |_=>I
noncomputable def CB:Data->Option (Array ay×Nat)
 |.seq v n=>D (v,n)
 |_=>I
def sm(h:pr v=D a):v=.ref a:=by cases v <;> first |exact(ns h).elim |(obtain rfl:=aE h;rfl)
def SS(h:Cv v=D a):∃t,v=.str a t:=by cases v <;> first |exact(ns h).elim |(rw[aE h];exact⟨_,rfl⟩)
def CC(h:wC v=D a):∃t,v=.int a t:=by cases v <;> first |exact(ns h).elim |(rw[aE h];exact⟨_,rfl⟩)
def SU(h:Cw v=D a):∃t,v=.bytes a t:=by cases v <;> first |exact(ns h).elim |(rw[aE h];exact⟨_,rfl⟩)
def SV(h:Cy v=D a):v=.type a:=by cases v <;> first |exact(ns h).elim |(obtain rfl:=aE h;rfl)
def SW(h:Cz v=D a):v=.func a:=by cases v <;> first |exact(ns h).elim |(obtain rfl:=aE h;rfl)
def SX(h:CA v=D a):v=.fields a:=by cases v <;> first |exact(ns h).elim |(obtain rfl:=aE h;rfl)
def seq_eq(h:CB v=D a):v=.seq a.1 a.2:=by cases v <;> first |exact(ns h).elim |(obtain rfl:=aE h;rfl)
def pt{a b:Type}{v:Option _}{f:a->Option _}{x:b}(h:(v.bind id).bind f=D x):∃u,v=D (D u)/\f u=D x:=by
 refine bi (b0.mp h) λu F=>?_;clear h;obtain⟨w,rfl,K⟩:=b0.mp F.1;exact⟨u,cA _ K,F.2⟩
def so(K:bg)(a:aG):Option FuncData:=(K.lookup a).bind λo=>Cz o.data
def j'(K:bg)(x:Str):Option aG:=((nsIn K mainGlobals x).bind id).bind pr
def lx(K:bg)(c m:Str):Option aG:=((findIn K (.ref ((j' K c).getD 0)) m).bind id).bind pr
def entries(K:bg):List (Option aG×Option d7):=
 rc.map (λe=>(j' K e.1,fnAt e.2))++(re.map (λe=>(lx K e.1.1 e.1.2,fnAt e.2))++ [(lx K "TrieFault" "__init__",D iz),(lx K "RlpFault" "__init__",D iz)])
def codeB(K:bg)(a:FuncData):Bool:=(((pr a.code).bind λc=>K.lookup c).bind λo=>(CA o.data).bind λF=>(F[1]?:Option ay).bind Cv)==D a.qualname
noncomputable def wD(a:d0)(b:List Str):Bool:=a.kind==.function && !a.isGenerator && !a.isCoroutine && decide (a.names.map (·.1)).Nodup && decide b.Nodup &&
 b.all λx=>a.names.lookup x==D .local ||a.names.lookup x==D .cell
def CD(K:bg)(e:Option aG×Option d7):Bool:=(e.1.bind λa=>e.2.bind λP=>(so K a).map λF=>
 F.closure.isEmpty && F.globals==mainGlobals && F.builtins==jB && codeB K F && wD P.scope P.params && cc P.params.length 8 && keepIn K (.ref a) && isFn K (.ref a))==D J
def wE(K:bg)(e:Option aG×Option d7):Option (FuncBody×d0):=(e.1.bind (so K)).map λF=>(F.body,F.scope)
noncomputable def wF(e:Option aG×Option d7):Option (FuncBody×d0):=e.2.map λF=>(.stmts F.body,F.scope)
def wG(K:bg)(a:List ay)(e:Option aG×Option d7):Option (Sem (List (Str×ay))):=(e.1.bind (so K)).bind λF=>e.2.map λK=>bindArgs F ⟨a.take K.params.length,[]⟩
noncomputable def wH(a:List ay)(e:Option aG×Option d7):Option (Sem (List (Str×ay))):=e.2.map λF=>pure (F.params.zip (a.take F.params.length))
def SY(c:b.In B)(h:so b a=D d):∃o,B.get? a=D o/\o.data=.func d:=(b0.mp h).elim λo F=>⟨o,c _ _ F.1,SW F.2⟩
def S0(d:a.In B)(h:codeB a b=J):B.CodeRec b.code b.qualname:=by
 obtain⟨o,F⟩:=b0.mp (bE.mp h);obtain⟨c,K⟩:=b0.mp F.1;obtain⟨P,P⟩:=b0.mp F.2;obtain⟨v,F⟩:=b0.mp P.2;obtain⟨t,rfl⟩:=SS F.2;exact⟨c,_,_,t,sm K.1,d _ _ K.2,SX P.1,F.1⟩
def S1(h:wD a b=J):j8 a b:=by
 unfold wD at h;simp only[de,uB,decide_eq_true_eq,i1,gq,bE]at h;exact⟨h.1.1.1.1.1,h.1.1.1.1.2,h.1.1.1.2,h.1.1.2,h.1.2,h.2⟩
noncomputable def V8(a:List ay):List ay:=[a[0]?.getD .none,a[1]?.getD .none,a[2]?.getD .none,a[3]?.getD .none,a[4]?.getD .none,a[5]?.getD .none,a[6]?.getD .none,a[7]?.getD .none]
def S2 vals(h:vals.length<=8):(V8 vals).take vals.length=vals:=by
 rcases vals with _ |⟨a,_ |⟨b,_ |⟨c,_ |⟨d,_ |⟨e,_ |⟨f,_ |⟨g,_ |⟨i,_ |⟨j,r⟩⟩⟩⟩⟩⟩⟩⟩⟩
 all_goals first |rfl |(exfalso;exact I6 h)
def S3{l:List _}(k:i.In B)(m:l.all (CD i)=J)(n:l.map (wE i)=l.map wF)(p:∀a b c d e f g h,l.map (wG i [a,b,c,d,e,f,g,h])=l.map (wH [a,b,c,d,e,f,g,h]))
   (j:(x,y)∈l):E2 λa W=>A5 (x=D a) (y=D W) (FnAt B a W) (keepIn i (.ref a)=J) (isFn i (.ref a)=J):=by
 haveI P:=i1.mp m _ j;haveI F:=aa2.mp n _ j;refine aH λG d=>?_;obtain⟨a,X,Z⟩:=b0.mp (bE.mp P);obtain⟨W,e,b⟩:=b0.mp Z;obtain⟨f,c⟩:=dS.mp b;haveI S:=c.1;haveI K:=c.2;clear P Z b;cases (show x=D a from X);clear X;cases e;simp only[de,bE,oa]at K;refine d ?_;haveI X:=K.1.1.2;unfold wE wF at F;dsimp only[qJ,yy]at F;rw[S]at F;cases P:W with
 |mk W W W=>
 rw[P]at F;simp only[yy,aa3,aaM]at F;obtain⟨o,W⟩:=SY k S;refine⟨a,_,rfl,rfl,⟨⟨o,f,W.1,W.2,F.1,F.2,K.1.1.1.1.1.1.1,K.1.1.1.1.1.1.2,K.1.1.1.1.1.2,S0 k K.1.1.1.1.2,λF W=>?_⟩,P▸S1 K.1.1.1.2⟩,K.1.2,K.2⟩;haveI q:=(λF:List _=>aa2.mp (p (F[0]?.getD .none) (F[1]?.getD .none) (F[2]?.getD .none) (F[3]?.getD .none) (F[4]?.getD .none) (F[5]?.getD .none) (F[6]?.getD .none) (F[7]?.getD .none)) _ j) F;unfold wG wH at q;dsimp only[qJ,yy]at q;rw[S,P]at q;simp only[qJ,aa3]at q;haveI K:F.length<=8:=by rw[W];rw[P]at X;exact bw X
 haveI F:=S2 _ K;rw[W]at F;replace q:=F▸q;exact q
def S4(K:bg)(a:aG):Option (Array ay):=(K.lookup a).bind λo=>if Cy o.cls==D "tuple" then(CB o.data).map (·.1)else I
def CE(x:PV)(v:ay):Bool:=(jb x).isSome && jb x==wC v
def wI:List PV->List ay->Bool
 |[],vs=>vs.isEmpty
 |x::r,vs=>(vs.head?.map λv=>CE x v && wI r vs.tail).getD V
def gB(K:bg)(p:PV)(v:Option (Option ay)):Bool:=match p with
 |.int i=>(v.bind id).bind wC==D i
 |.bytes b=>(((v.bind id).bind Cw).map λc=>b==c.toList && cc b.length aI).getD V
 |.tup xs=>((((v.bind id).bind pr).bind (S4 K)).map λF=>wI xs F.toList && cc xs.length aI).getD V
 |_=>V
def S5(e:CE x v=J):al [] [] h x v:=by
 obtain⟨K,P⟩:=d8 e;obtain⟨i,F⟩:=n5.mp K;clear e;obtain⟨t,rfl⟩:=CC ((bE.mp P).symm.trans F);rw[jN F];exact⟨t,rfl⟩
def ints_get xs:∀F:List _,wI xs F=J->aw [] [] h xs F:=by
 induction xs with
 |nil=>intro F e;cases oa.mp e;exact .nil
 |cons x r K=>
  intro F e;cases F with
  |nil=>exact(ei e).elim
  |cons v s=>haveI F:=d8 e;exact .cons (S5 F.1) (K _ F.2)
def S6(d:a.In B)(h:gB a p v=J):∃u,v=D (D u)/\al [] [] B p u:=by
 refine aH λG P=>?_;cases p with
 |int i=>
  obtain⟨u,rfl,F⟩:=pt (bE.mp h);clear h;obtain⟨t,rfl⟩:=CC F;exact P ⟨_,rfl,t,rfl⟩
 |bytes b=>
  obtain⟨c,F,K⟩:=getD_map h;clear h;obtain⟨u,rfl,S⟩:=pt F;clear F;obtain⟨t,rfl⟩:=SU S;haveI W:=d8 K;exact P ⟨_,rfl,⟨t,by rw[bE.mp W.1,aa0]⟩,bw W.2⟩
 |tup W=>
  obtain⟨W,F,K⟩:=getD_map h;obtain⟨a,S,W⟩:=b0.mp F;clear h F;obtain⟨u,rfl,X⟩:=pt S;obtain⟨S,Z⟩:=d8 K;obtain⟨o,b,F⟩:=b0.mp W;obtain⟨c,e⟩:=m9 F;clear K W F;obtain⟨⟨w,n⟩,F,rfl⟩:=dS.mp e;refine P ⟨_,rfl,?_⟩;rw[sm X];exact⟨a,w.toList,rfl,⟨o,d _ _ b,SV (bE.mp c),n,(seq_eq F).trans (by rfl)⟩,x6,bw Z,ints_get _ _ S⟩
 |_=>exact(ei h).elim
def m_(K:bg)(c:Str)(C:aG):Bool:=fY K c==D C && hasDictIn K C && plainGet K C "" && findIn K (.ref C) "__setattr__"==D (D (.builtin "object.__setattr__")) && plainOver K C &&
 [("digest":Str),"node","known"].all (λx=>findIn K (.ref C) x==D I) && makesIn K C && keepIn K (.ref C) && nsIn K mainGlobals c==D (D (.ref C))
noncomputable def CF:List (Str×PV):=(([("ODD",.int 1),("LEAF",.int 2),("DEEPEST",.int 60),("OCTETS",.int 128),("LIST",.int 192),("SHORT",.int 55),
  ("LONGEST_KEY",.int 32),("INLINE_BELOW",.int 32),("NOUGHT_trie",.bytes []),("NOUGHT_proof",.bytes []),("DIGEST_SIZE",.int 32),("BRANCH_SIZE",.int 17),
  ("LEAST_ADDRESS",.int 605153021707326989568713251046585937826284568576),("SPREAD",.int 281479271743489),
  ("_law_octets",.tup [.int 0,.int 1,.int 16,.int 17,.int 255]),("_law_sizes",.tup [.int 1,.int 2,.int 26,.int 27,.int 28,.int 29,.int 60]),
  ("_law_signs",.tup [.int 0,.int 1,.int 127,.int 128])]:List (String×PV)).map λe=>(cy e.1,e.2))
noncomputable def wJ(C:aG)(o:Obj):Obj:=match o.data with
 |.cls cd=>excClassObj cd.name cd.qualname C cd.ns cd.bases cd.mro.tail J cd.slotNames cd.subclasses cd.abstract cd.collection o.dict ((o.slots[0]?:Option (Option ay)).join) ((o.slots[1]?:Option (Option ay)).join) ((o.slots[2]?:Option (Option ay)).join) ((o.slots[3]?:Option (Option ay)).join) ((o.slots[5]?:Option (Option ay)).join) "Exception.__new__"
 |_=>o
noncomputable def na(K:bg)(C:aG):List ay:=match clsIn K C with
 |some F=>F.mro.tail
 |none=>[]
noncomputable def CG(a:List ay):Bool:=a.contains (.type "Exception") && a.contains (.type "BaseException") && a.contains (.type "object") && !a.contains (.type "AttributeError") && !a.contains (.type "NameError")
def sp(K:bg)(x:Str)(C:aG):Bool:=nsIn K mainGlobals x==D (D (.ref C)) && CG (na K C) && (clsIn K C).isSome && findIn K (.ref C) "__init__"==D (D (.ref ((lx K x "__init__").getD 0))) &&
 findIn K (.ref C) "__setattr__"==D (D (.builtin "object.__setattr__")) && findIn K (.ref C) "word"==D I && keepIn K (.ref C)
inductive HK(H:Params->bg):Prop |mk
 (F:∀P,((entries (H P)).all (CD (H P)))=J)
 (F:∀P,(entries (H P)).map (wE (H P))=(entries (H P)).map wF)
 (F:∀P (a b c d e f g h:ay),(entries (H P)).map (wG (H P) [a,b,c,d,e,f,g,h])=(entries (H P)).map (wH [a,b,c,d,e,f,g,h]))
 (F:∀P,m_ (H P) "Trie" ((j' (H P) "Trie").getD 0)=J)
 (F:∀P,m_ (H P) "Numbered" ((j' (H P) "Numbered").getD 0)=J)
 (F:∀P,CF.all (λe=>gB (H P) e.2 (nsIn (H P) mainGlobals e.1))=J)
 (F:∀P,lu.all (λe=>nsIn (H P) mainGlobals e.1==D I)=J)
 (F:∀P,mD (H P) (.type "int") (.type "type") (cy "from_bytes")=D (.get (.builtin "classmethod_descriptor.__get__") (.builtin "int.from_bytes") .none (.type "int")))
 (F:∀P,((H P).lookup 56).map (wJ 56)=(H P).lookup 56)
 (F:∀P,((H P).lookup 44).map (wJ 44)=(H P).lookup 44)
 (F:∀P F,yE F "__setattr__" (na (H P) 56)=pure ())
 (K:∀P F,yE F "__setattr__" (na (H P) 44)=pure ())
 (F:∀P,(sp (H P) "TrieFault" 56 && sp (H P) "RlpFault" 44)=J)
 (F:∀P,mD (H P) (.type "Exception") (.type "type") "__init__"=D (.val (.builtin "Exception.__init__")))
def S7(h:lg x=D i):(x,i)∈rc:=by
 obtain⟨e,F,rfl⟩:=dS.mp h;haveI P:=aa4 F;haveI K:=yQ F;haveI S:=bE.mp K;clear F h K;subst S;exact P
def S8(h:ig c m=D i):((c,m),i)∈re:=by
 obtain⟨e,K,rfl⟩:=dS.mp h;haveI P:=aa4 K;haveI F:=yQ K;rw[de]at F;clear K h;have K:=bE.mp F.1;have S:=bE.mp F.2;clear F;subst K;subst S;exact P
def S9(h:rb x=D p):(x,p)∈CF:=by
 haveI F:∀l:List _,l.lookup x=D p->(x,p)∈l:=by
  intro l
  induction l with
  |nil=>intro e;cases e
  |cons a r P=>
   obtain⟨y,q⟩:=a;intro e;rw[yl]at e
   split at e
   .rename_i K;rw[aE e];rw[bE.mp K];exact G8
   .exact aa5 _ (P e)
 exact F _ h
def S_{K:bg}(h:j' K x=D f):nsIn K mainGlobals x=D (D (.ref f)):=by
 refine(pt h).elim λu F=>?_;rw[F.1,sm F.2]
def S'{K:bg}(h:lx K c m=D f):findIn K (.ref ((j' K c).getD 0)) m=D (D (.ref f)):=by
 refine(pt h).elim λu F=>?_;rw[F.1,sm F.2]
def CH(h:eF c=J):c="Trie"\/c="Numbered":=by
 unfold eF at h;rw[gq]at h;exact h.imp bE.mp bE.mp
def Ta(h:jR x=J):x∈ [("digest":Str),"node","known"]:=by
 unfold jR at h;simp only[gq,bE]at h;rcases h with(h |h) |h <;> (subst h;simp)
section
variable {H:Params->bg} (hk:HK H) {prog:bK} {w:bM} {B:Heap} {p:bK} {loose:List Str} {mg mb:Str->Option ay}
include hk in
def wK(b:(H w.params).In B){x:Option _}{y:Option _}(c:(x,y)∈entries (H w.params)):E2 λa F=>A5 (x=D a) (y=D F) (FnAt B a F) (keepIn (H w.params) (.ref a)=J) (isFn (H w.params) (.ref a)=J):=
 S3 b (hk.1 _) (hk.2 _) (hk.3 _) c
def Tc K(h:(x,i)∈rc):(j' K x,fnAt i)∈entries K:=dc _ (ch.mpr ⟨_,h,rfl⟩)
def Td K(h:((c,m),i)∈re):(lx K c m,fnAt i)∈entries K:=bB _ (dc _ (ch.mpr ⟨_,h,rfl⟩))
def Te(K:bg){x:Str}(h:x="TrieFault"\/x="RlpFault"):(lx K x "__init__",D iz)∈entries K:=by
 refine bB _ (bB _ ?_);rcases h with rfl |rfl
 .exact G8
 .exact aa5 _ G8
include hk in
def sq(a:(H w.params).In B){c:Str}{C:aG}(h:m_ (H w.params) c ((j' (H w.params) c).getD 0)=J)(d:fY (H w.params) c=D C):A3 (Ba (H w.params) B c C) (nsIn (H w.params) mainGlobals c=D (D (.ref C))) (keepIn (H w.params) (.ref C)=J):=by
 refine aH λG f=>?_;unfold m_ at h;simp only[de,bE]at h;obtain⟨⟨⟨⟨⟨⟨⟨⟨F,K⟩,P⟩,S⟩,W⟩,X⟩,Z⟩,b⟩,c⟩:=h;rw[d]at F;have e:=aE F;rw[<- e]at K P S W X Z b c;exact f ⟨⟨K,P,S,W,λx F=>bE.mp (i1.mp X _ (Ta F)),λm i F=>((wK hk a (Td _ (S8 F))).elim λa K F=>⟨a,K,(e▸(S' F.1)),F.5,F.4,F.2,F.3⟩),Z⟩,c,b⟩
include hk in
def CI(d:(H w.params).In B){x:Str}{C:aG}(e:x="TrieFault"\/x="RlpFault")(h:sp (H w.params) x C=J)(c:((H w.params).lookup C).map (wJ C)=(H w.params).lookup C)
  (b:∀a,yE a "__setattr__" (na (H w.params) C)=pure ()):nsIn (H w.params) mainGlobals x=D (D (.ref C))/\rO (H w.params) B C:=by
 refine aH λG F=>?_;unfold sp at h;simp only[de,bE]at h;obtain⟨⟨⟨⟨⟨⟨S,K⟩,W⟩,P⟩,X⟩,Z⟩,f⟩:=h;refine F ⟨S,?_⟩;refine(wK hk d (Te _ e)).elim λa F F=>?_;obtain rfl:=aE F.2;rw[F.1]at P;refine⟨?_,⟨a,P,bE.mp F.5,F.3⟩,X,Z,f,hk.14 _⟩;obtain⟨S,F⟩:=n5.mp W;haveI P:na _ C=S.mro.tail:=by unfold na;rw[F]
 unfold CG at K;simp only[de,uB]at K;haveI S:=K.1.1.1.1;haveI W:=K.1.1.1.2;haveI X:=K.1.1.2;haveI Z:=K.1.2;haveI a:=K.2;rw[P]at S W X Z a b;unfold clsIn at F;cases K:(H _).lookup C with
 |none=>rw[K]at F;exact Mine.z3 F
 |some P=>
  rw[K]at F c;clear K;obtain⟨K,K,K,d⟩:=P;cases K with
  |cls K=>
   rw[<- (aE F)]at S W X Z a b;haveI K:=aE c;exact⟨_,_,_,_,_,_,_,_,_,_,_,_,_,_,_,cA _ K.symm,⟨S,W,X,Z,a,b⟩⟩
  |_=>exact z3 F
include hk in
def Tf(b:(H w.params).In B)(T:TopRead p loose mg mb B):bt prog w (H w.params) B:=.mk
 ⟨p,loose,mg,mb,b,T⟩
 (λc C P F=>by
  rcases CH P with rfl |rfl
  .exact(sq hk b (hk.4 _) F).1
  .exact(sq hk b (hk.5 _) F).1)
 (λx i F=>(wK hk b (Tc _ (S7 F))).elim λa K F=>⟨a,K,S_ F.1,F.2,F.3,F.4⟩)
 (λx q F=>S6 b (i1.mp (hk.6 _) _ (S9 F)))
 (λx v F=>bE.mp (i1.mp (hk.7 _) _ F))
 (hk.8 _)
 (λx=>by
  haveI h:=hk.13 w.params;rw[de]at h;cases x with
  |bU=>exact⟨56,CI hk b (.inl rfl) h.1 (hk.9 _) (hk.11 _)⟩
  |co=>exact⟨44,CI hk b (.inr rfl) h.2 (hk.10 _) (hk.12 _)⟩)
 (λc P=>by
  have F:∀c,m_ _ c _=J->∃C,nsIn _ _ c=D (D _)/\keepIn _ (.ref C)=J:=λc h=>by
   haveI K:=h;unfold m_ at K;simp only[de,bE]at K;exact⟨_,(sq hk b h K.1.1.1.1.1.1.1.1).2,(sq hk b h K.1.1.1.1.1.1.1.1).3⟩
  rcases CH P with rfl |rfl
  .exact F _ (hk.4 _)
  .exact F _ (hk.5 _))
end
def jn(fr:d7)(env:Env):FC where
 cx:=cq fr.scope
 env:=env
 own:=env.locals::env.cells.map (·.2)
 fr:=[]
 outer:=[]
 cf:=env
def Tg(g:j8 b.scope b.params){c:ay}
  (f:d=qz b.scope s.heap.objs.size mainGlobals (kT (s.heap.objs.size+1) b.scope.names []) e (D a) c I jB)
  (X:qA s d.locals m d.cells h i):FC.Ok s.heap (jn b d):=by
 haveI F:d.locals=s.heap.objs.size:=by rw[f];rfl
 haveI K:d.scope=b.scope:=by rw[f];rfl
 refine⟨?_,?_,?_,?_,?_,.head _,?_,rfl,?_,?_,?_,?_,?_,?_,?_,?_,?_,?_⟩
 .rw[K];exact g.1
 .rw[K];rfl
 .rw[f];rfl
 .rw[f];rfl
 .rw[F];exact aL _
 .intro b F F;exact Mine.z7 F
 .intro i j x k F F P _ _;exact rF g.4 F P
 .intro c S e;have:=X.above _ _ S;rw[e]at this;exact d1 _ this
 .intro c S;exact .inl (.tail _ (ch.mpr ⟨c,S,rfl⟩))
 .intro _ c S;exact .tail _ (ch.mpr ⟨c,S,rfl⟩)
 .intro i j x F P;exact rF g.4 F P
 .intro x i F P;obtain⟨k,S⟩:=slot_get F;exact(cQ.mp S.3).1
 .intro x y c F P;exact AL X.apart F P
 .intro L P;haveI F:=P;rw[hY]at F;haveI P:d.frame=D d.locals:=by rw[f];rfl
  replace F:=P▸F;refine Mine.me F ?_ λF=>?_
  .exact .inl (.head _)
  .exact Mine.z7 F
 .rw[K];exact g.1
 .rw[f];exact x5 _
def Th{os:List av}(W:bt u w g4 s.heap)(j_:A.frames=D [])(hh:A.handled=I)
  (y:A.depth+1+2*n+2<=mv)(Ti:A.units+3+20*n+200<=fw)(hf:fnAt f=D c)(hp:ij f=V)(m:FnAt s.heap a c)(hv:aw [] [] s.heap d i)
  (z:ag (n+1) f d []=D (.ok p,os))
  (k:∀v B Z ι,al Z ι B.heap p v->(∀b o,s.heap.get? b=D o->B.heap.get? b=D o)->(E2 λh t=>B={s with heap:=h,toks:=t})->Q v B):
  gO (model u w) A (.call (.ref a) ⟨i,[]⟩) (RQ Q E) s:=by
 obtain⟨o,fd,j⟩:=m.1;have C:c.params.length=d.length:=by
  unfold ag at z;simp only[hf]at z;by_cases q:c.params.length=d.length
  .exact q
  .rw[iN q]at z;exact Mine.z3 z
 have T:i.length=c.params.length:=by rw[hv.length,C]
 refine Gl (g2 (fN _) (bl ..) (qQ y)) j.1 j.2 (by rw[j.4];exact m.2.3) (by rw[j.4];exact m.2.2) j.3 j.8 ?_;rw[j.9 i T,j.5,j.6,j.7,j.4];refine ax (Gm m.2.1 (λx hx=>?_) λF he B X=>⟨W.nolimit.keeps X.toInCall.keep,Gq ?_⟩)
 .have hm:x.1∈c.params:=by
   obtain⟨x1,x2⟩:=x;exact(Gr hx).1
  rcases m.2.6 x.1 hm with q |q
  .exact .inl q
  .exact .inr ⟨q,cellsFrom_some m.2.4 (mem_of_lookup q)⟩
 have N:=λfc=>rG (fc:=fc) m.2 he X;have O:=N (jn c F);have Tj:aJ (A.deeper F) (jn c F) n:=⟨ZQ j_,hh,(y),(Ti)⟩;unfold ag at z;simp only[hf,iP C,hp,jI,if_false]at z;have K:=λb g=>(O.1 b g).1;have Ic:ah u w g4 s.heap (jn c F) ⟨[],F.locals::F.cells.map (·.2),F.locals::F.cells.map (·.2),[]⟩ ⟨e_ (cq c.scope) c.params d,[]⟩ B:=by
  have M:cL [] [] s.heap (F.locals::F.cells.map (·.2)) [] B.heap:=⟨λb g=>.inr (K b g),λψ ψ h=>h,λb o q ψ=>O.2 b o q⟩;have FI:=vu (fc:=jn c F) (gc:=⟨[],F.locals::F.cells.map (·.2),F.locals::F.cells.map (·.2),[]⟩) m.2 he X T (aw.mono M _ _ hv);refine⟨O.2,λb g=>g,λb g=>(by exact Mine.z7 g),λb g=>⟨K b g,(O.1 b g).2⟩,λb g=>g,λb g=>(by exact Mine.z7 g),rfl,?_,?_,⟨FI.1,FI.2⟩,?_⟩
  .intro n o la h1;simp at h1
  .intro n n' o o' la la' h1;simp at h1
  .exact Gi (L:=F.locals) (by rw[he];rw[m.2.1];decide) (by rw[he];rfl) X.toInCall.ns (K _ (.head _)) trivial
 refine((wj W (Cd W n) 64).ss (jn c F) (Tg m.2 he X) rfl c.body) (A.deeper F) _ _ _ _ _ Tj Ic ?_;have H:∀r,bW (ag n) 64 (jn c F).cx c.body ⟨e_ (cq c.scope) c.params d,[]⟩=r->(match r with
  |some (.ok (.ret v),st)=>D (.ok v,st.objs)
  |some (.ok .next,st)=>D (.ok .none,st.objs)
  |some (.error x,st)=>D (.error x,st.objs)
  |none=>I)=D (Except.ok p,os):=λr h=>by subst h;exact z
 have keep:∀l P,aP (jn c F) ⟨[],F.locals::F.cells.map (·.2),F.locals::F.cells.map (·.2),[]⟩ B l P->(∀b o,s.heap.get? b=D o->P.heap.get? b=D o)/\E2 λh t=>P={s with heap:=h,toks:=t}:=λl P S=>by
  refine⟨λb o q=>S.5 b o (O.2 b o q) λg=>?_,?_⟩
  .rw[K b g]at q;exact Mine.z3 q
  .obtain⟨h,t,e⟩:=O.3;obtain⟨h',t',e'⟩:=S.8;exact⟨h',t',by rw[e',e]⟩
 cases hq:bW (ag n) 64 (jn c F).cx c.body ⟨e_ (cq c.scope) c.params d,[]⟩with
 |none=>have:=H _ hq;exact Mine.z3 this
 |some r=>
  obtain⟨r,abz⟩:=r;have hx:=H _ hq;clear hq;cases r with
  |ok fl=>
   intro b l P wb abA rel;refine aH λG κ=>?_;obtain⟨k1,k2⟩:=keep _ _ wb;cases fl with
   |next=>
    cases (show b=Flow.next from rel);clear z H;obtain⟨rfl,rfl⟩:=Mine.mI hx;exact κ (k _ _ [] [] (by rfl) k1 k2)
   |ret q=>
    obtain⟨v,rfl,rv⟩:=(show∃v,b=yP v/\_ from rel);cases hx;exact κ (k _ _ _ _ rv k1 k2)
  |error x=>cases hx
def ints_rep{a:List _}(q:IntsAre b a):aw [] [] h (a.map .int) b:=by
 induction q with
 |nil=>exact .nil
 |cons n t _ F=>exact .cons ⟨t,rfl⟩ F
def abB(m:HK H){e:List Int}{n:List av}
  (h:(H w.params).In s.heap)(T:TopRead p f q v s.heap)(g:q "law"=D (.ref i))(r:s.heap.IsList l j.toArray)(t:IntsAre j e)(a:e.length<=63)
  (u:ag 300 60 [.U (e.map .int)] []=D (.ok (.bool J),n))
  (k:∀c,(∀b o,s.heap.get? b=D o->c.heap.get? b=D o)->c.os=s.os->c.gens=s.gens->Q (.bool J) c):
  af (model d w) callerA (call (.ref i) [.ref l]) Q E s:=by
 have W:bt d w _ s.heap:=Tf m h T;obtain⟨f,F,K,S,P,X⟩:=W.3 "law" 60 zK;haveI F:f=i:=by
  have:=mg_of h T.g K;replace this:=g▸this;clear K P X;cases this;rfl
 subst F;refine n9 (Th W rfl rfl zD zD S zK P (.one ?_) u λv c Z F F K P=>?_)
 .refine⟨l,j,rfl,r,by simp,?_,ints_rep t⟩;rw[bN];exact ak a zD
 .subst F;obtain⟨h,t,rfl⟩:=P;exact k _ K rfl rfl
end
noncomputable abbrev By:=List UInt8
def be(n:Nat):By:=(cT ((ic n+7) / 8) n).reverse
def hd(a n:Nat):By:=if n<=55 then[(a+n).toUInt8]else(a+55+(be n).length).toUInt8::be n
mutual
noncomputable def enc:PV->By
 |.bytes b=>if b.length=1/\(b.headD 0).toNat<128 then b else hd 128 b.length++b
 |.U l=>hd 192 (cb l).length++cb l
 |_=>[]
noncomputable def cb:List PV->By
 |[]=>[]
 |x::r=>enc x++cb r
end
mutual
noncomputable def high:PV->Nat
 |.U l=>highs l
 |_=>0
noncomputable def highs:List PV->Nat
 |[]=>0
 |x::r=>max (high x+1) (highs r)
end
mutual
noncomputable def bO:PV->Bool
 |.bytes _=>J
 |.U l=>c4 l
 |_=>V
noncomputable def c4:List PV->Bool
 |[]=>J
 |x::r=>bO x && c4 r
end
def eO(s:By):Option (Bool×Nat×Nat):=match s with
 |[]=>I
 |f::r=>
  if f.toNat<128 then D (V,0,1)
  else
   let l:=decide (192<=f.toNat)
   let z:=f.toNat - (if l then 192 else 128)
   if 55<z then
    let t:=r.take (z - 55)
    if r.length<z - 55\/t.headD 0=0\/ba t<=55\/r.length<z - 55+ba t then I
    else D (l,1+(z - 55),ba t)
   else if r.length<z\/(l=V/\(z=1/\(r.headD 0).toNat<128))then I
   else D (l,1,z)
noncomputable def dW(f:By->Option (PV×Nat)):Nat->By->Option (List PV)
 |0,_=>I
 |n+1,s=>if s=[]then D []else match f s with
  |none=>I
  |some (x,c)=>(dW f n (s.drop c)).map (x::·)
def rd:Nat->By->Option (PV×Nat)
 |0,_=>I
 |k+1,s=>match eO s with
  |none=>I
  |some (V,h,n)=>D (.bytes ((s.drop h).take n),h+n)
  |some (J,h,n)=>(dW (rd k) (n+1) ((s.drop h).take n)).map λF=>(.U F,h+n)
def hA(h:(a && b)=J):a=J/\b=J:=cH.mp h
def ex{P:PV->Prop}{x:PV}(h:bO x=J)(f:∀l,P (.U l))(b:∀b,P (.bytes b)):P x:=by
 cases x with
 |U l=>exact f l
 |bytes c=>exact b c
 |_=>exact z1 h
def C2{P:PV->Prop}{R:List _->Prop}(a:∀b,P (.bytes b))(c:∀l,c4 l=J->R l->P (.U l))(d:R [])(e:∀x r,bO x=J->c4 r=J->P x->R r->R (x::r)) x:bO x=J->P x:=
 PV.rec (motive_2:=λl=>c4 l=J->R l) z1 (λF=>z1) (λF=>z1) (λF=>z1) (λb F=>a b) (λF F=>z1) (λl K h=>c l h (K h)) (λF=>z1) (λF=>d) (λx r F K h=>e x r (hA h).1 (hA h).2 (F (hA h).1) (K (hA h).2)) x
def Un{R:List _->Prop}(a:R [])(b:∀x r,bO x=J->c4 r=J->R r->R (x::r)) l:c4 l=J->R l:=by
 induction l with
 |nil=>exactλF=>a
 |cons x r F=>exactλh=>b x r (hA h).1 (hA h).2 (F (hA h).2)
def sE n:∀x,(cT n x).length=n:=by
 induction n with
 |zero=>exactλF=>rfl
 |succ n F=>exactλx=>cA _ (F _)
def C3(a b:By):ba (a++b)=ba a*256^b.length+ba b:=by
 unfold ba;rw[GZ];generalize List.foldl _ 0 a=x
 induction b generalizing x with
 |nil=>simp
 |cons c r F=>
  simp only[qL,b4];rw[F,F (x:=0*256+c.toNat)];rw[uI];rw[yR,ee];rw[yS,G9,qR 256,c_]
def sF c:ba [c]=c.toNat:=ee _
def jp c(r:By):ba (c::r)=c.toNat*256^r.length+ba r:=(C3 _ r).trans (cA (·*_+_) (sF c))
def nk(b:By):ba b<256^b.length:=by
 induction b with
 |nil=>exact mC
 |cons c r F=>
  refine bc (aT (aq (jp c r)) (G_ F _)) ?_;rw[<- Za,b4,uI,qR (256^_)];exact uJ _ c.toNat_lt
def w0 n:∀x,ba (cT n x).reverse=x% 256^n:=by
 induction n with
 |zero=>exactλx=>(Nat.mod_one x).symm
 |succ n F=>
  refineλx=>?_;have K:(x% 256).toUInt8.toNat=x% 256:=qq (gm _ (fv _));have P:cT (n+1) x=(x% 256).toUInt8::cT n _:=rfl;rw[P,yj,C3,F,sF,K];have e:256^ [(x% 256).toUInt8].length=256:=rfl;rw[e,uI,qR (256^n) _,Nat.mod_mul]at |-
  exact Iq
def C4 x:x<256^ ((ic x+7) / 8):=by
 by_cases h:x=0
 .rw[h];exact mC
 .rw[show ic x=x.log2+1 from iN h];exact bc Nat.lt_log2_self (ak (yT zD Ir) (aq (GR 2 8 _)))
def sG x:ba (be x)=x:=(w0 ..).trans (qq (C4 x))
def C5 x:(be x).length=(ic x+7) / 8:=qH.trans (sE ..)
def np(h:x<256^n):(be x).length<=n:=by
 rw[C5];by_cases F:x=0
 .rw[F];exact bn _
 .rw[show ic x=x.log2+1 from iN F];exact Iu ((FZ F).mpr (GR 2 8 n▸h))
def Uo(a:By):∀b:By,a.length=b.length->ba a=ba b->a=b:=by
 induction a with
 |nil=>exactλb F K=>(n0.mp F.symm).symm
 |cons x a P=>
  intro b F K;cases b with
  |nil=>cases F
  |cons y b=>
   have F:=h9 F;rw[jp,jp,F]at K;have q:∀(c:UInt8) r,r.length=b.length->(c.toNat*256^b.length+ba r) / 256^b.length=c.toNat:=λc r h=>by
    rw[qR,Zn (G' zD),aa6 (h▸nk r),yD]
   have S:=uu.mp ((q x a F).symm.trans ((cA (· / 256^b.length) K).trans (q y b rfl)));rw[S]at K |-
   exact cA _ (P b F (Nat.add_left_cancel K))
def Up(h:0<x):E2 λc r=>be x=c::r/\c≠0:=by
 have K:=sG x;cases F:be x with
 |nil=>exact aB ((cA _ F).symm.trans K) (dB h)
 |cons c r=>
  refine⟨c,r,rfl,λe=>?_⟩;have P:ba r=x:=(((jp c r).trans (by rw[e,show(0:UInt8).toNat=0 from rfl,yR,ee])).symm.trans (F▸K));exact d1 _ (bc (fN _) (F▸np (P▸nk r)))
def pA(h:c≠0):be (ba (c::r))=c::r:=by
 refine Uo _ _ (b8 (np (nk _)) ?_) (sG _);have F:=nk (be (ba (c::r)));rw[sG]at F;exact(Ha ..).elim id λq=>Iv F (yT zD q) (jp c r▸yf (FO _ (Nat.pos_of_ne_zero λe=>h (uu.mp e))))
noncomputable def cv(l:Bool):Nat:=if l then 192 else 128
inductive Hd:Bool->Nat->Nat->By->Prop
 |one (c:UInt8) (t:By) (h:c.toNat<128):Hd V 0 1 (c::t)
 |long (l:Bool) (n:Nat) (t:By) (F:n<=t.length) (F:n<256^8) (F:l=V->¬(n=1/\(t.headD 0).toNat<128)):Hd l (hd (cv l) n).length n (hd (cv l) n++t)
def jq(h:n<256):n.toUInt8.toNat=n:=qq h
def w5{n:Nat}(h:c.toNat=n):n.toUInt8=c:=by
 subst h;exact uu.mp (jq c.toNat_lt)
def pB(h:n<=55):hd a n=[(a+n).toUInt8]:=(iP h)
def pC(h:55<n):hd a n=(a+55+(be n).length).toUInt8::be n:=(iN (aM.mpr h))
def nq l:cv l=128\/cv l=192:=by cases l with |true=>exact .inr rfl |false=>exact .inl rfl
def nr(h:f.toNat=cv l+z)(a:z<64):eO (f::r)=
  if 55<z then
    if r.length<z - 55\/(r.take (z - 55)).headD 0=0\/ba (r.take (z - 55))<=55\/r.length<z - 55+ba (r.take (z - 55))then I
    else D (l,1+(z - 55),ba (r.take (z - 55)))
   else if r.length<z\/(l=V/\(z=1/\(r.headD 0).toNat<128))then I
   else D (l,1,z):=by
 unfold eO;have F:¬f.toNat<128:=by rcases nq l with q |q <;> (first |exact zp h q |exact zq h q)
 have K:decide (192<=f.toNat)=l:=by
  cases l with
  |true=>exact dT (g8 h (yf zD))
  |false=>exact dF (zr a h)
 dsimp only;rw[iN F,K,(uN h)]
def w6(f:UInt8)(h:¬f.toNat<128):E2 λl z=>f.toNat=cv l+z/\z<64:=by
 by_cases q:192<=f.toNat
 .exact⟨J,f.toNat - 192,ya (b_ ..) (Zg q),IC f.toNat_lt⟩
 .exact⟨V,f.toNat - 128,ID h,IE q⟩
def C6{d:Type}[Decidable c]{a b:d}(e:(if c then I else D a)=D b):¬c/\a=b:=by
 by_cases q:c
 .exact z3 ((iP q).symm.trans e)
 .exact⟨q,aE ((iN q).symm.trans e)⟩
def C7(e:eO s=D (l,h,n)):Hd l h n s:=by
 cases s with
 |nil=>exact z3 e
 |cons f r=>
  by_cases F:f.toNat<128
  .have e:=(iP F).symm.trans e;cases e;exact .one f r F
  .refine(w6 f F).elim λF z y=>?_;replace e:=(nr y.1 y.2).symm.trans e;by_cases q:55<z
   .have e:=C6 ((iP q).symm.trans e);have c:=e.1;cases e.2;generalize F:r.take _=t at c;have P:=aM.mp λw=>c (.inr (.inr (.inl w)));have K:=F▸cK.trans (fM (ar.mp λw=>c (.inl w)));have S:hd (cv l) (ba t)=f::t:=by
     rw[pC P,show be _=t from by
      clear F P K;cases t with
      |nil=>rfl
      |cons a t=>exact pA λw=>c (.inr (.inl w)),K,w5 (IF q y.1)]
    have g:=Hd.long l _ _ (cY▸oh (ar.mp λw=>c (.inr (.inr (.inr w))))) (bc (nk t) (yT zD (K▸Zf (fu y.2)))) λW w=>aB w.1 (e4 P rfl);rw[S,List.cons_append,<- F,qS,b4,F,K,cR]at g;exact g
   .have e:=C6 ((iN q).symm.trans e);cases e.2;have g:=Hd.long l n r (ar.mp λw=>e.1 (.inl w)) (i9 y.2 zD) λw q=>e.1 (.inr ⟨w,q⟩);rw[pB (ml q),w5 y.1]at g;exact g
def Uq(e:Hd l h n s):eO s=D (l,h,n):=by
 cases e with
 |one c t F=>exact iP F
 |long _ _ t K P F=>
  by_cases q:n<=55
  .rw[pB q];exact(nr (jq ((nq l).elim (λz=>a9 (aq z) q rfl) λz=>a9 (aq z) q rfl)) (a2 q rfl)).trans ((iN (ar.mpr q)).trans (iN λw=>w.elim (ar.mpr K) λw=>F w.1 w.2))
  .have F:=np P;refine(Up (e8 q rfl)).elim λc r y=>?_;rw[pC (kM q)];refine(nr ((jq ((nq l).elim (λz=>IG z F) λz=>IH z F)).trans (c_ ..)) (di (aa7 zD F))).trans ((iP (bc (Nat.lt_add_one _) (ec zD (cA gS y.1▸cG 1 _)))).trans ?_);rw[gQ,fS,sG,az];exact(iN λw=>w.elim (ar.mpr (bl ..)) λw=>w.elim (y.1▸y.2) λw=>w.elim q (ar.mpr (bH K _))).trans (cA (λm=>D (l,m,n)) (cR ..))
def Hd.fits(e:Hd l h n s):h+n<=s.length/\0<h+n:=by
 cases e with
 |one c t F=>exact⟨cG 1 _,mC⟩
 |long _ _ t F K K=>
  refine⟨az▸bH F _,yb _ ?_⟩;by_cases q:n<=55
  .rw[pB q];exact mC
  .rw[pC (kM q)];exact x' _
def Hd.cut(e:Hd l h n s)(b:h+n<=m):Hd l h n (s.take m):=by
 cases e with
 |one c t K=>exact kp b λm F=>.one c _ K
 |long _ _ t K P S=>
  rw[List.take_append,yr (qQ b)];refine .long l n _ (cK▸FQ (oh b) K) P λw q=>S w ⟨q.1,?_⟩;cases t with
  |nil=>exact(FX▸q.2)
  |cons a t=>exact kp (bc (q.1▸mC) (oh b)) (λF F w=>w) q.2
def Hd.more(e:Hd l h n s):Hd l h n (s++t):=by
 cases e with
 |one c r F=>exact .one c _ F
 |long _ _ r F K P=>
  rw[cz];refine .long l n _ (az▸b6 F) K λw q=>?_;cases r with
  |nil=>exact aB (q.1▸F:1<=0) (yU 0)
  |cons a r=>exact P w q
def Ur{s t:By}(e:h+n<=s.length):((s++t).drop h).take n=(s.drop h).take n:=
 (cA _ (List.drop_append_of_le_length (qQ e))).trans (aa8 (cY▸oh e))
def C8(k:Nat)(l:Bool)(h n:Nat)(t:By):Option (PV×Nat):=match l with
 |false=>D (.bytes t,h+n)
 |true=>(dW (rd k) (n+1) t).map λF=>(.U F,h+n)
def lD(e:Hd l h n s):rd (k+1) s=C8 k l h n ((s.drop h).take n):=by
 unfold rd;rw[Uq e];cases l <;> rfl
def Us(h:s≠[]):dW f (n+1) s=(f s).bind λy=>(dW f n (s.drop y.2)).map (y.1::·):=(iN h).trans (by cases f s <;> rfl)
def sH(e:rd k s=D (x,c)){G:Prop}(K:∀a l h n,k=a+1->Hd l h n s->c=h+n->C8 a l h n ((s.drop h).take n)=D (x,c)->G):G:=by
 cases k with
 |zero=>exact z3 e
 |succ k=>
  cases F:eO s with
  |none=>unfold rd at e;rw[F]at e;exact z3 e
  |some y=>
   have q:=C7 F;rw[lD q]at e;refine K k _ _ _ rfl q ?_ e;cases F:y.1 with
   |false=>rw[F]at e;exact(cA Fy (aE e)).symm
   |true=>rw[F]at e;exact(dS.mp e).elim λF e=>(cA Fy e.2).symm
def Ut(e:rd k s=D (x,c)):rd k (s++t)=D (x,c):=
 sH e λk l h n F q K e=>by rw[F,lD q.more,Ur q.fits.1];exact e
def sI(e:rd k s=D (x,c)):c<=s.length/\0<c:=sH e λk l h n F q K F=>K▸q.fits
def Uu(e:rd k s=D (x,c))(a:c<=m):rd k (s.take m)=D (x,c):=
 sH e λk l h n K q F e=>by
  rw[K,lD (q.cut (F▸a)),qC,Hc,fM (oh (F▸a))];exact e
def Uv:rd k (s.take m)=(rd k s).bind λy=>if y.2<=m then D y else I:=by
 have F:∀y,rd k _=D y->rd k s=D y:=λy e=>qS m s▸Ut e;cases e:rd k s with
 |none=>exact oe _ id λy h=>z4 ((F y h).symm.trans e)
 |some y=>
  show _=if y.2<=m then D y else I
  by_cases q:y.2<=m
  .rw[iP q];exact Uu e q
  .rw[iN q];exact oe _ id λz h=>aB (ak ((aE ((F z h).symm.trans e))▸(sI h).1) (yV ..)) q
def C9 k:∀s x c,rd k s=D (x,c)->A3 (bO x=J) (high x<k) (enc x=s.take c):=by
 induction k with
 |zero=>exactλs x c e=>z3 e
 |succ k Z=>
  have P:∀m s F,dW (rd k) m s=D F->A3 (c4 F=J) (highs F<=k) (cb F=s):=λm=>by
   induction m with
   |zero=>exactλs F e=>z3 e
   |succ m S=>
    intro s F e;by_cases W:s=[]
    .cases (iP W).symm.trans e;exact⟨rfl,bn _,W.symm⟩
    .replace e:=(iN W).symm.trans e;cases e3:rd k s with
     |none=>rw[e3]at e;exact z3 e
     |some y=>
      rw[e3]at e;refine(dS.mp e).elim λo e=>e.2▸?_;have i:=Z s _ _ e3;have j:=S _ _ e.1;exact⟨cH.mpr ⟨i.1,j.1⟩,II i.2 j.2,(congr (cA _ i.3) j.3).trans (qS ..)⟩
  refineλs x c e=>sH e λp l h n b q d e=>?_;cases b;rw[d];cases q with
  |one a t f=>cases e;exact⟨rfl,x' _,iP ⟨rfl,f⟩⟩
  |long _ _ t X r g=>
   rw[aa9];rw[dI]at e;have K:=cK.trans (fM X);cases l with
   |false=>
    cases e;refine⟨rfl,x' _,(iN ?_).trans (cA (λm=>hd _ m++t.take n) K)⟩;rw[K];refineλw=>g rfl ⟨w.1,?_⟩;rw[w.1]at X w;cases t with
    |nil=>exact aB X (yU 0)
    |cons a t=>exact w.2
   |true=>
    refine(dS.mp e).elim λF e=>?_;cases e.2;have j:=P _ _ _ e.1;exact⟨j.1,dA j.2,by rw[show enc _=hd ..++cb _ from rfl,j.3,K];rfl⟩
def Uw k:∀x t,bO x=J->high x<k->(enc x).length<256^8->rd k (enc x++t)=D (x,(enc x).length):=by
 induction k with
 |zero=>exactλx t K h=>aB h (eX _)
 |succ k a=>
  have X:∀l,c4 l=J->highs l<=k->(cb l).length<256^8->∀m,(cb l).length<m->dW (rd k) m (cb l)=D l:=λl=>by
   induction l with
   |nil=>exactλK K K m h=>kp h λK K=>iP rfl
   |cons x r Z=>
    intro P W F m S;rw[show cb _=enc x++cb r from rfl]at F S |-
    rw[az]at F S;have e:=a x (cb r) (hA P).1 (IJ W) (aT (bl ..) F);have a:=(sI e).2;refine kp S λm S=>(iN λq=>IK a (az.symm.trans (cA _ q))).trans ?_;rw[e];exact cA (Option.map _) ((cA _ dI).trans (Z (hA P).2 (IL W) (a5 F rfl) m (IM a S)))
  intro x t P W F;cases x with
  |bytes b=>
   by_cases q:b.length=1/\(b.headD 0).toNat<128
   .rw[show enc (.bytes b)=b from iP q];refine(fP.mp q.1).elim λc y=>?_;rw[y]at q |-
    exact lD (.one c t q.2)
   .rw[show enc (.bytes b)=hd ..++b from iN q]at F |-
    rw[az]at F |-
    rw[cz,lD (.long V _ _ (az▸bl ..) (a5 F rfl) λK w=>q ⟨w.1,by
     cases b with
     |nil=>cases w.1
     |cons a b=>exact w.2⟩),dI,fS];rfl
  |U l=>
   rw[show enc _=hd ..++cb l from rfl]at F |-
   rw[az]at F |-
   rw[cz,lD (.long J _ _ (az▸bl ..) (a5 F rfl) nofun),dI,fS];exact(cA (Option.map _) (X l P (jK W) (a5 F rfl) _ (fN _))).trans rfl
  |_=>exact z1 P
noncomputable abbrev aD:=List Int
def Vn(x:Int):Prop:=0<=x/\x<16
def Vp(p:aD):Prop:=∀x∈p,Vn x
noncomputable def aF:By->aD
 |[]=>[]
 |c::r=>(c.toNat:Int) / 16::(c.toNat:Int) % 16::aF r
noncomputable def pairs:aD->By
 |a::b::r=>(16*a+b).toNat.toUInt8::pairs r
 |_=>[]
noncomputable def lF(a:Bool):Int:=if a then 2 else 0
def rowOf(p:aD)(a:Bool):aD:=(if p.length% 2=1 then[lF a+1]else[lF a,0])++p
def pk(p:aD)(a:Bool):By:=pairs (rowOf p a)
noncomputable def un(b:By):Option (aD×Bool):=match aF b with
 |[]=>I
 |f::r=>if 3<f then I else if f% 2=1 then D (r,decide (2<=f))else match r with
  |[]=>I
  |z::r'=>if z=0 then D (r',decide (2<=f))else I
def gb b:Vp (aF b):=by
 induction b with
 |nil=>exactλx h=>z7 h
 |cons c r F=>exactλx h=>Mine.me h ⟨IN,IP c.toNat_lt⟩ λh=>Mine.me h ⟨ye _ zD,FP _ zD⟩ (F x)
def jr b:(aF b).length=2*b.length:=by
 induction b with
 |nil=>rfl
 |cons c r F=>exact cA (·+2) F
@[elab_as_elim] def two_ind{c:Type}{P:List c->Prop}(n:P [])(o:∀a,P [a])(t:∀a b r,P r->P (a::b::r)) l:P l:=
 (show P l/\∀a,P (a::l)by
  induction l with
  |nil=>exact⟨n,o⟩
  |cons x l F=>exact⟨F.2 x,λa=>t a x l F.1⟩).1
def Ux p:Vp p->p.length% 2=0->aF (pairs p)=p:=by
 induction p using two_ind with
 |n=>exactλF F=>rfl
 |o a=>exactλF h=>aB h aba
 |t a b r S=>
  refineλK h=>?_;have P:=K a (.head _);have F:=K b (.tail _ (.head _));show(((16*a+b).toNat.toUInt8.toNat):Int) / 16::((16*a+b).toNat.toUInt8.toNat) % 16::aF _=_;rw[jq (zs P.2 F.2),S (λx S=>K x (.tail _ (.tail _ S))) (zt h)];exact congr (cA _ (IQ F.1 P.1 F.2)) (cA (·::r) (IR F.1 P.1 F.2))
def sJ p leaf:(rowOf p leaf).length% 2=0:=by
 unfold rowOf
 split <;> simp only[az,b4,eE] <;> (first |exact IS zA |exact IT zA)
def w7(a:Vp p) leaf:Vp (rowOf p leaf):=λx F=>(aZ.mp F).elim (iteInduction (motive:=λl:aD=>x∈l->0<=x/\x<16) (λF=>(by decide:∀l,∀x∈ [lF l+1],0<=x/\x<16) _ x) λF=>(by decide:∀l,∀x∈ [lF l,0],0<=x/\x<16) _ x) (a x)
def C_(a:Vp p) leaf:un (pk p leaf)=D (p,leaf):=by
 unfold un pk;rw[Ux _ (w7 a _) (sJ p _)];unfold rowOf;by_cases q:p.length% 2=1
 .rw[iP q];cases leaf <;> rfl
 .rw[iN q];cases leaf <;> rfl
set_option genCtorIdx true in
inductive Nd where
 |nil |leaf (p:aD) (v:By) |ext (p:aD) (k:Nd) |br (a:Int->Nd) (v:By)
noncomputable def hF:Nd->Bool
 |.br _ _=>J
 |_=>V
noncomputable def lk:Nd->aD->By
 |.nil,_=>[]
 |.leaf p v,q=>if p=q then v else[]
 |.ext p k,q=>if q.take p.length=p then lk k (q.drop p.length)else[]
 |.br _ v,[]=>v
 |.br ks _,x::q=>lk (ks x) q
def Ok:Nd->Prop
 |.nil=>False
 |.leaf p v=>Vp p/\v≠[]
 |.ext p k=>A4 (p≠[]) (Vp p) (hF k=J) (Ok k)
 |.br ks v=>(∀i,ks i=.nil\/(Vn i/\Ok (ks i)))/\((v≠[]/\∃i,ks i≠.nil)\/E2 λi j=>A3 (i≠j) (ks i≠.nil) (ks j≠.nil))
def bP(n:Nd):Prop:=n=.nil\/Ok n
def Vp.nil:Vp []:=λF=>z7
def Vp.cons(h:Vn x)(a:Vp p):Vp (x::p):=λy F=>me F h (a y)
def Vp.append(a:Vp p)(b:Vp q):Vp (p++q):=λy F=>(aZ.mp F).elim (a y) (b y)
def Vp.head(h:Vp (x::p)):Vn x:=h x (.head _)
def Vp.tail(h:Vp (x::p)):Vp p:=λy F=>h y (.tail _ F)
def Vp.take(h:Vp p) n:Vp (p.take n):=λy F=>h y (qT F)
def Vp.drop(h:Vp p) n:Vp (p.drop n):=λy F=>h y (abb F)
def Vp.right(h:Vp (p++q)):Vp q:=λy F=>h y (bB _ F)
def Vp.left(h:Vp (p++q)):Vp p:=λy F=>h y (dc _ F)
def iE p q{G:aD->Prop}(h:∀r,G (p++r))(n:(∀r,q≠p++r)->q.take p.length≠p->G q):G q:=by
 by_cases e:q.take p.length=p
 .exact((cA (·++_) e.symm).trans (qS ..))▸h _
 .exact n (λr z=>e (z▸fS)) e
def dM:lk (.ext p k) (p++q)=lk k q:=(iP fS).trans (cA _ dI)
def sK:lk (.ext p k) q≠[]->∃r,q=p++r/\lk k r≠[]:=
 iE p q (G:=λq=>lk _ q≠[]->∃r,q=p++r/\lk k r≠[]) (λr h=>⟨r,rfl,λe=>h (dM.trans e)⟩) λF e h=>aB (iN e) h
def lH(h:p≠q):lk (.leaf p v) q=[]:=iN h
def lI(h:∀r,q≠p++r):lk (.ext p k) q=[]:=iN λz=>h _ ((qS _ q).symm.trans (cA (·++_) z))
def C':Nd.leaf p v≠.nil:=nofun
def w8{P:Nd->Prop}{n:Nd}(h:hF n=J)(f:∀a v,P (.br a v)):P n:=by
 cases n with
 |br a v=>exact f _ v
 |_=>exact z1 h
def Ok.ne_nil(h:Ok n):n≠.nil:=λe=>(e▸h:Ok .nil)
def Ok.cW(h:Ok (.br a v))(b:a i≠.nil):Vn i/\Ok (a i):=(h.1 i).resolve_left b
def Ok.one(h:Ok (.br a v)):∃i,a i≠.nil:=h.2.elim (·.2) λy=>y.elim λi F y=>⟨i,y.2⟩
def Ok.key:Ok n->∃q,Vp q/\lk n q≠[]:=by
 induction n with
 |nil=>exact gN
 |leaf p v=>exactλh=>⟨p,h.1,λe=>h.2 ((iP rfl).symm.trans e)⟩
 |ext p k F=>exactλh=>(F h.4).elim λq y=>⟨p++q,h.2.append y.1,λe=>y.2 (dM.symm.trans e)⟩
 |br K v F=>exactλh=>h.one.elim λi K=>(F i (h.cW K).2).elim λq y=>⟨i::q,.cons (h.cW K).1 y.1,y.2⟩
def Ok.apart(h:Ok (.br a v)) x:∃q,A3 (Vp q) (lk (.br a v) q≠[]) (∀r,q≠x::r):=by
 have F:∀i,i≠x->a i≠.nil->∃q,A3 (Vp q) (lk (.br _ v) q≠[]) (∀r,q≠x::r):=λi P K=>
  (Ok.key (h.cW K).2).elim λq y=>⟨i::q,.cons (h.cW K).1 y.1,y.2,λr e=>P (dk e).1⟩
 refine h.2.elim (λy=>⟨[],.nil,y.1,nofun⟩) λy=>y.elim λi j y=>?_;by_cases e:i=x
 .exact F j (λq=>y.1 (e.trans q.symm)) y.3
 .exact F i e y.2
def Ok.two(h:Ok n)(a:∀p v,n≠.leaf p v) p:∃q,A3 (Vp q) (lk n q≠[]) (q≠p):=by
 have K:∀F v,Ok (.br _ v)->∀p,∃q,A3 (Vp q) (lk (.br F v) q≠[]) (q≠p):=λF v h p=>by
  cases p with
  |nil=>exact h.one.elim λi S=>(Ok.key (h.cW S).2).elim λq y=>⟨i::q,.cons (h.cW S).1 y.1,y.2,nofun⟩
  |cons x r=>exact(h.apart x).elim λq y=>⟨q,y.1,y.2,y.3 r⟩
 cases n with
 |nil=>exact h.elim
 |leaf p v=>exact aB rfl (a p v)
 |br F v=>exact K _ v h p
 |ext w k=>exact w8 (P:=λk=>Ok k->∃q,A3 (Vp q) (lk (.ext w k) q≠[]) (q≠p)) h.3 (λF v o=>(K _ v o _).elim λq y=>⟨w++q,h.2.append y.1,λe=>y.2 (dM.symm.trans e),λe=>y.3 (e▸dI.symm)⟩) h.4
def Uy(r b:aD)(h:p++r=a++b)(c:p.length<=a.length):∃t,a=p++t:=
 iE p _ (G:=λa=>a.take _=p->∃t,a=p++t) (λt F=>⟨t,rfl⟩) (λF e z=>aB z e) ((aa8 c).symm.trans ((cA _ h.symm).trans fS))
def Ok.w9(a:Ok (.leaf p v))(c:Ok b)(h:∀q,Vp q->lk (.leaf p v) q=lk b q):Nd.leaf p v=b:=by
 cases b with
 |nil=>exact c.elim
 |leaf F K=>
  have e:=(iP rfl).symm.trans (h p a.1);by_cases q:F=p
  .rw[e.trans (iP q),q]
  .exact aB (e.trans (iN q)) a.2
 |_=>exact((λF=>(c.two F p).elim λq y=>y.2 ((h q y.1).symm.trans (iN λe=>y.3 e.symm))) nofun).elim
def Ok.Db(a:Ok (.ext w k))(b:Ok (.br c v))(h:∀q,Vp q->lk (.ext w k) q=lk (.br c v) q):False:=by
 cases w with
 |nil=>exact a.1 rfl
 |cons x w=>exact(b.apart x).elim λq y=>(sK λe=>y.2 ((h q y.1).symm.trans e)).elim λr z=>y.3 _ z.1
def Ok.Dc(a:Ok (.ext w k))(h:∀q,Vp q->lk (.ext w k) q=lk (.ext b d) q)(c:w.length<=b.length):w=b:=by
 refine(Ok.key a).elim λq y=>(sK y.2).elim λr F=>(sK λe=>y.2 ((h q y.1).trans e)).elim λK K=>(Uy r _ (F.1.symm.trans K.1) c).elim λt F=>?_;cases t with
 |nil=>exact(ci w).symm.trans F.symm
 |cons x t=>
  exact(w8 (P:=λk=>Ok k->∃q,A3 (Vp q) (lk k q≠[]) (∀r,q≠x::r)) a.3 (λK v o=>o.apart x) a.4).elim λq b=>(sK λe=>b.2 (dM.symm.trans ((h _ (a.2.append b.1)).trans e))).elim λs K=>aB (oi (K.1.trans (F▸cz ..))) (b.3 _)
def Ok.unique a:∀b:Nd,Ok a->Ok b->(∀q,Vp q->lk a q=lk b q)->a=b:=by
 induction a with
 |nil=>exactλb h=>h.elim
 |leaf p v=>exactλb K F h=>K.w9 F h
 |ext w k X=>
  intro b K F h;have W:=λq P=>(h q P).symm;cases b with
  |nil=>exact F.elim
  |leaf p v=>exact(F.w9 K W).symm
  |br S v=>exact(K.Db F h).elim
  |ext Z Z=>
   have Z:=(x9 ..).elim (K.Dc h) λq=>(F.Dc W q).symm;rw[<- Z]at h F |-
   exact cA _ (X _ K.4 F.4 λq P=>dM.symm.trans ((h _ (K.2.append P)).trans dM))
 |br S v X=>
  intro b K F h;have W:=λq P=>(h q P).symm;cases b with
  |nil=>exact F.elim
  |leaf p v=>exact(F.w9 K W).symm
  |ext w k=>exact(F.Db K W).elim
  |br S S=>
   rw[show v=S from h _ .nil,(funext λi=>(K.1 i).elim (λS=>(F.1 i).elim (λK=>S.trans K.symm) λK=>(Ok.key K.2).elim λq y=>aB ((W _ (.cons K.1 y.1)).trans (cA (lk · q) S)) y.2) λS=>(F.1 i).elim (λK=>(Ok.key S.2).elim λq y=>aB ((h _ (.cons S.1 y.1)).trans (cA (lk · q) K)) y.2) λK=>X i _ S.2 K.2 λq P=>h _ (.cons S.1 P))]
noncomputable def sh:aD->aD->Nat
 |a::p,b::q=>if a=b then sh p q+1 else 0
 |_,_=>0
def nt(e:a=b):sh (a::p) (b::q)=sh p q+1:=iP e
def pD(e:¬a=b):sh (a::p) (b::q)=0:=iN e
def kc p:∀q:aD,sh p q<=p.length/\sh p q<=q.length:=by
 induction p with
 |nil=>exactλF=>⟨bn _,bn _⟩
 |cons a p F=>
  intro q;cases q with
  |nil=>exact⟨bn _,bn _⟩
  |cons b q=>
   by_cases e:a=b
   .rw[nt e];exact⟨dA (F q).1,dA (F q).2⟩
   .rw[pD e];exact⟨bn _,bn _⟩
def pE p:∀q {G:aD->aD->Nat->Prop},(∀w s,G w (w++s) w.length)->(∀w a r s,(∀t,s≠a::t)->G (w++a::r) (w++s) w.length)->G p q (sh p q):=by
 induction p with
 |nil=>exactλq G A F=>A _ q
 |cons x p F=>
  intro q G A B;cases q with
  |nil=>exact B [] x p _ nofun
  |cons y q=>
   by_cases e:x=y
   .rw[nt e,<- e];exact F q (G:=λp q n=>G (x::p) (x::q) (n+1)) (λw s=>A _ s) λw a r s h=>B (x::w) a r s h
   .rw[pD e];exact B [] x p _ λt z=>e (dk z).1.symm
def Dd(p q:aD):∀a b r s,p.drop (sh p q)=a::r->q.drop (sh p q)=b::s->a≠b:=
 pE p q (G:=λp q n=>∀a b r s,p.drop n=a::r->q.drop n=b::s->a≠b) (λF F F F F F h=>z5 (mF.symm.trans h)) λF F F F h a b F s F K e=>h s ((dI.symm.trans K).trans (cA (·::s) (e.symm.trans (dk (dI.symm.trans F)).1.symm)))
noncomputable def upd(a:Int->Nd)(x:Int)(k:Nd):Int->Nd:=λy=>if y=x then k else a y
def iF{P:Nd->Prop}(h:i=x->P k)(n:i≠x->P (a i)):P (upd a x k i):=iteInduction h n
def sL:upd a x k x=k:=iP rfl
def w_(h:i≠x):upd a x k i=a i:=iN h
noncomputable def wrap(p:aD)(n:Nd):Nd:=match p with
 |[]=>n
 |x::r=>.ext (x::r) n
noncomputable def dN:Int->Nd:=λF=>.nil
def dX(a:Int->Nd)(w:By)(p:aD)(b:aD->Nd)(v:By):Nd:=match p with
 |[]=>.br a v
 |x::r=>.br (upd a x (b r)) w
noncomputable def gd(p:aD)(k:Nd):Nd:=match p with
 |[]=>k
 |x::r=>.ext (x::r) k
def put:Nd->aD->By->Nd
 |.nil,p,v=>.leaf p v
 |.br ks w,[],v=>.br ks v
 |.br ks w,x::q,v=>.br (upd ks x (put (ks x) q v)) w
 |.leaf way held,p,v=>if sh way p=way.length/\sh way p=p.length then .leaf p v else
   wrap (p.take (sh way p)) (match way.drop (sh way p)with
    |[]=>dX dN held (p.drop (sh way p)) (λr=>.leaf r v) v
    |x::r=>dX (upd dN x (.leaf r held)) [] (p.drop (sh way p)) (λr=>.leaf r v) v)
 |.ext way k,p,v=>if sh way p=way.length then .ext way (put k (p.drop (sh way p)) v)else
   wrap (p.take (sh way p)) (match way.drop (sh way p)with
    |[]=>.nil
    |x::r=>dX (upd dN x (gd r k)) [] (p.drop (sh way p)) (λr=>.leaf r v) v)
def De b p{G:aD->aD->Nd->Prop}(d:∀w,G w w (.leaf w v))(e:∀w x t,G w (w++x::t) (wrap w (dX dN c (x::t) (λr=>.leaf r v) v)))
  (B:∀w a r s,(∀t,s≠a::t)->G (w++a::r) (w++s) (wrap w (dX (upd dN a (.leaf r c)) [] s (λr=>.leaf r v) v))):G b p (put (.leaf b c) p v):=by
 refine pE _ p (G:=λb p n=>G b p (if n=b.length/\n=p.length then .leaf p v else wrap (p.take n) (match b.drop n with
    |[]=>dX _ _ (p.drop n) _ v
    |x::r=>dX (upd _ x (.leaf r _)) _ (p.drop n) _ v))) (λw s=>?_) λw a r s h=>?_
 .cases s with
  |nil=>rw[ci,iP ⟨rfl,rfl⟩];exact d w
  |cons x t=>rw[iN λz=>q6 (z.2.trans az),fS,mF,dI];exact e w x t
 .rw[iN λz=>q6 (z.1.trans az),fS,dI,dI];exact B w a r s h
def Df b p{G:aD->aD->Nd->Prop}(A:∀w s,G w (w++s) (.ext w (put k s v)))
  (B:∀w a r s,(∀t,s≠a::t)->G (w++a::r) (w++s) (wrap w (dX (upd dN a (gd r k)) [] s (λr=>.leaf r v) v))):G b p (put (.ext b k) p v):=by
 refine pE _ p (G:=λb p n=>G b p (if n=b.length then .ext b (put k (p.drop n) v)else wrap (p.take n) (match b.drop n with
    |[]=>.nil
    |x::r=>dX (upd _ x (gd r k)) _ (p.drop n) _ v))) (λw s=>?_) λw a r s h=>?_
 .rw[iP rfl,dI];exact A w s
 .rw[iN λz=>q6 (z.trans az),fS,dI,dI];exact B w a r s h
def gG[Decidable c][Decidable d]{e:Type}{a b:e}(h:c↔d):(if c then a else b)=(if d then a else b):=
 iteInduction (motive:=λx=>x=if d then a else b) (λq=>(iP (h.mp q)).symm) λq=>(iN λz=>q (h.mpr z)).symm
def Dh:lk (wrap p n) q=if q.take p.length=p then lk n (q.drop p.length)else[]:=by
 cases p with
 |nil=>exact(iP rfl).symm
 |cons x r=>rfl
def Uz:lk (gd p n) q=lk (.ext p n) q:=by
 cases p with
 |nil=>exact(iP rfl).symm
 |cons x r=>rfl
def UA(h:∀x r,p=x::r->a x=.nil):lk (dX a w p (λr=>.leaf r v) v) q=if q=p then v else lk (.br a w) q:=by
 cases p with
 |nil=>cases q <;> rfl
 |cons x r=>
  cases q with
  |nil=>rfl
  |cons y s=>
   refine iF (P:=λn=>lk n s=if y::s=x::r then v else lk _ s) (λe=>?_) λe=>(iN λz=>e (dk z).1).symm;rw[e,h x r rfl];exact gG ⟨λz=>cA _ z.symm,λz=>(dk z).2.symm⟩
def Di:lk (.ext (w++p) k) (w++q)=lk (.ext p k) q:=by
 show(if(w++q).take _=w++p then lk k _ else[])=if q.take _=p then lk k _ else[]
 rw[az,aa9,List.drop_length_add_append];exact gG ⟨oi,cA _⟩
def w'{w s:aD}{F:aD->By}(b:∀x r,s=x::r->a x=.nil)(c:∀q,lk (.br a u) q=F (w++q))(d:∀q,(∀r,q≠w++r)->F q=[]) q:lk (wrap w (dX a u s (λr=>.leaf r v) v)) q=if q=w++s then v else F q:=by
 rw[Dh];refine iE w q (G:=λq=>(if q.take _=w then lk .. else[])=if q=w++s then v else F q) (λr=>?_) λn e=>(iN e).trans ((d q n).symm.trans (iN (n s)).symm);rw[iP fS,dI,UA b,c];exact gG ⟨λz=>z▸rfl,oi⟩
def Dj{N M:Nd}(h:∀q,lk N q=lk M (a::q))(b:lk M []=[])(c:∀x q,x≠a->lk M (x::q)=[]) q:lk (.br (upd dN a N) []) q=lk M q:=by
 cases q with
 |nil=>exact b.symm
 |cons x q=>exact iF (P:=λn=>lk n q=lk M _) (λe=>e▸h q) λe=>(c x q e).symm
def UB n:∀p v q,lk (put n p v) q=if q=p then v else lk n q:=by
 induction n with
 |nil=>exactλp v q=>gG ⟨Eq.symm,Eq.symm⟩
 |br F w K=>
  intro p v q;cases p with
  |nil=>cases q <;> rfl
  |cons x r=>
   cases q with
   |nil=>rfl
   |cons y s=>
    refine iF (P:=λn=>lk n s=if y::s=x::r then v else lk _ s) (λe=>?_) λe=>(iN λz=>e (dk z).1).symm;rw[e,K];exact gG ⟨(cA _),λz=>(dk z).2⟩
 |leaf F S=>
  refineλp v=>De _ p (G:=λF p N=>∀q,lk N q=if q=p then v else lk (.leaf F _) q) (λw q=>?_) (λw x t=>w' (λS S S=>rfl) (λq=>?_) λq n=>lH λz=>n _ (z.symm.trans (ci w).symm)) λw a r s h=>w' (λx t e=>w_ λz=>h t (z▸e)) (λq=>?_) λq n=>lH λz=>n _ z.symm
  .by_cases e:q=w
   .rw[iP e];exact iP e.symm
   .exact((iN λz=>e z.symm).trans (iN λz=>e z.symm).symm).trans (iN e).symm
  .cases q with
   |nil=>exact(iP (ci w).symm).symm
   |cons y s=>exact(iN λz=>q6 ((cA _ z).trans az)).symm
  .rw[Dj (N:=.leaf r _) (M:=.leaf ..) (λq=>(gG ⟨cA _,λz=>(dk z).2⟩)) rfl λx q e=>lH λz=>e (dk z).1.symm];exact gG ⟨λz=>z▸rfl,oi⟩
 |ext F k K=>
  refineλp v=>Df _ p (G:=λF p N=>∀q,lk N q=if q=p then v else lk (.ext F k) q) (λw s q=>?_) λw a r s h=>w' (λx t e=>w_ λz=>h t (z▸e)) (λq=>?_) λq n=>lI λt z=>n _ (z.trans (cz ..))
  .refine iE w q (G:=λq=>lk _ q=if q=w++s then v else lk _ q) (λr=>?_) λn e=>((iN e).trans (iN e).symm).trans (iN (n s)).symm;rw[dM,dM,K];exact gG ⟨λz=>z▸rfl,oi⟩
  .rw[Dj (M:=.ext (a::r) k) (λq=>Uz.trans (gG ⟨cA _,λz=>(dk z).2⟩)) rfl λx q e=>iN λz=>e (dk z).1];exact Di.symm
def Ok.wrap(b:Vp p)(a:Ok n)(c:hF n=J):Ok (wrap p n):=by
 cases p with
 |nil=>exact a
 |cons x r=>exact⟨nofun,b,c,a⟩
def Ok.gd(b:Vp p)(a:Ok n)(c:hF n=J):Ok (gd p n):=by
 cases p with
 |nil=>exact a
 |cons x r=>exact⟨nofun,b,c,a⟩
def UC(h:hF n=J):hF (put n p v)=J:=w8 (P:=λn=>hF (put n p v)=J) h λF w=>by cases p <;> rfl
def Dk:hF (dX a w p b v)=J:=by cases p <;> rfl
abbrev pF(i:Int)(n:Nd):Prop:=n=.nil\/(Vn i/\Ok n)
def two_ok(f:Vn a)(b:Ok k)(c:Vp p)(d:v≠[])(g:∀x r,p=x::r->a≠x):Ok (dX (upd dN a k) [] p (λr=>.leaf r v) v):=by
 have F:∀i,pF i (upd dN a k i):=λi=>iF (λe=>.inr ⟨e▸f,b⟩) λP=>.inl rfl;cases p with
 |nil=>exact⟨F,.inl ⟨d,a,λe=>b.ne_nil (sL.symm.trans e)⟩⟩
 |cons x r=>
  have K:=g x r rfl;exact⟨λi=>iF (λe=>.inr ⟨e▸c.head,c.tail,d⟩) λP=>F i,.inr ⟨a,x,K,λe=>b.ne_nil (sL.symm.trans ((w_ K).symm.trans e)),λe=>C' (sL.symm.trans e)⟩⟩
def UD n:bP n->∀p (v:By),Vp p->v≠[]->Ok (put n p v):=by
 induction n with
 |nil=>exactλZ p v F S=>⟨F,S⟩
 |br X w c=>
  intro b p v F S;have K:=b.resolve_left nofun;cases p with
  |nil=>exact⟨K.1,K.2.imp (λy=>⟨S,y.2⟩) id⟩
  |cons x r=>
   have a:=c x ((K.1 x).imp id (·.2)) r v F.tail S;have W:∀i,X i≠.nil->upd _ x _ i≠.nil:=λi X=>iF (P:=(·≠.nil)) (λZ=>a.ne_nil) λZ=>X;exact⟨λi=>iF (P:=pF i) (λe=>.inr ⟨e▸F.head,a⟩) λZ=>K.1 i,K.2.imp (λy=>⟨y.1,y.2.elim λi X=>⟨i,W i X⟩⟩) λy=>y.elim λi j y=>⟨i,j,y.1,W i y.2,W j y.3⟩⟩
 |leaf W X=>
  intro b p v F S;have K:=b.resolve_left nofun;exact De _ p (G:=λW p N=>Vp W->Vp p->Ok N) (λw Z F=>⟨F,S⟩) (λw x t Z F=>Ok.wrap F.left ⟨λi=>iF (P:=pF i) (λe=>.inr ⟨e▸F.right.head,F.right.tail,S⟩) λZ=>.inl rfl,.inl ⟨K.2,x,λe=>C' (sL.symm.trans e)⟩⟩ rfl)
   (λw a r s h X F=>Ok.wrap X.left (two_ok X.right.head ⟨X.right.tail,K.2⟩ F.right S λx t e z=>h t (z▸e)) Dk) K.1 F
 |ext W k c=>
  intro b p v F S;have K:=b.resolve_left nofun;exact Df _ p (G:=λW p N=>Vp _->W≠[]->Vp p->Ok N) (λw s X W F=>⟨W,X,UC K.3,c (.inr K.4) _ _ F.right S⟩)
   (λw a r s h X Z F=>Ok.wrap X.left (two_ok X.right.head (Ok.gd X.right.tail K.4 K.3) F.right S λx t e z=>h t (z▸e)) Dk) K.2 K.1 F
noncomputable def isNil:Nd->Bool
 |.nil=>J
 |_=>V
def hG:isNil n=J↔n=.nil:=by
 cases n with
 |nil=>exact⟨λF=>rfl,λF=>rfl⟩
 |_=>exact⟨z1,nofun⟩
noncomputable def cn:List Int:=(List.range 16).map λ(i:Nat)=>(i:Int)
def nu:i∈cn↔Vn i:=
 ⟨λh=>(ch.mp h).elim λn y=>y.2▸IU (qt.mp y.1),λh=>ch.mpr ⟨i.toNat,qt.mpr (IV h),jz h.1⟩⟩
def sM:cn.Nodup:=by decide+kernel
def fk(a:Int->Nd):List Int:=cn.filter λi=>!isNil (a i)
noncomputable def ey(a:aD):Nd->Nd
 |.nil=>.nil
 |.br ks v=>wrap a (.br ks v)
 |.leaf p v=>.leaf (a++p) v
 |.ext p k=>.ext (a++p) k
def settle(a:Int->Nd)(v:By):Nd:=match fk a with
 |[]=>if v=[]then .nil else .leaf [] v
 |[i]=>if v=[]then ey [i] (a i)else .br a v
 |_=>.br a v
def del:Nd->aD->Nd
 |.nil,_=>.nil
 |.leaf way v,p=>if way=p then .nil else .leaf way v
 |.ext way k,p=>if p.take way.length=way then ey way (del k (p.drop way.length))else .ext way k
 |.br ks v,[]=>settle ks []
 |.br ks v,x::q=>settle (upd ks x (del (ks x) q)) v
def UE:(!isNil n)=J↔n≠.nil:=by
 cases n with
 |nil=>exact⟨z1,(aB rfl)⟩
 |_=>exact⟨λF=>nofun,λF=>rfl⟩
def ke:i∈fk a↔Vn i/\a i≠.nil:=dj.trans (and_congr nu UE)
def Dm:lk (ey a n) q=lk (.ext a n) q:=by
 cases n with
 |nil=>exact iteInduction (λF=>rfl) λF=>rfl
 |br F v=>exact Dh
 |leaf p v=>
  exact iE _ q (G:=λq=>lk _ q=lk _ q) (λr=>Eq.trans (gG ⟨oi,cA _⟩) (dM (k:=.leaf p v)).symm)
   λn e=>(lH λz=>n p z.symm).trans (iN e).symm
 |ext p k=>
  exact iE _ q (G:=λq=>lk _ q=lk _ q) (λr=>Di.trans dM.symm)
   λn e=>(lI λt z=>n _ (z.trans (cz ..))).trans (iN e).symm
def Ok.ey(a:Vp b)(h:Ok n):Ok (ey b n):=by
 cases n with
 |nil=>exact h.elim
 |br F v=>exact Ok.wrap a h rfl
 |leaf p v=>exact⟨a.append h.1,h.2⟩
 |ext p k=>exact⟨λz=>h.1 (List.append_eq_nil_iff.mp z).2,a.append h.2,h.3,h.4⟩
def bP.ey(b:Vp a)(h:bP n):bP (ey a n):=h.elim (λe=>.inl (cA _ e)) λh=>.inr (Ok.ey b h)
def Dn{G:Nd->Prop}(b:fk a=[]->G (if v=[]then .nil else .leaf [] v))(c:∀i,fk a=[i]->G (if v=[]then ey [i] (a i)else .br a v))
  (d:∀i j l,fk a=i::j::l->G (.br a v)):G (settle a v):=by
 delta settle;cases e:fk _ with
 |nil=>exact b e
 |cons i l=>cases l with
  |nil=>exact c i e
  |cons j l=>exact d i j l e
def Do(b:∀i,a i=.nil\/(Vn i/\Ok (a i))) q:lk (settle a v) q=lk (.br a v) q:=by
 have I:∀i l,fk _=l->i∉l->a i=.nil:=λi l e F=>(b i).resolve_right λz=>F (e▸ke.mpr ⟨z.1,z.2.ne_nil⟩);refine Dn (G:=λn=>lk n q=lk _ q) (λP=>?_) (λi S=>?_) λF F F F=>rfl
 .refine iteInduction (motive:=λn=>lk n q=lk _ q) (λK=>?_) λK=>?_ <;> cases q with
  |nil=>first |exact K.symm |rfl
  |cons x r=>exact(cA (lk · r) (I x _ P x6)).symm
 .refine iteInduction (motive:=λn=>lk n q=lk _ q) (λK=>Dm.trans ?_) λF=>rfl;cases q with
  |nil=>exact K.symm
  |cons x r=>
   by_cases e:x=i
   .exact e▸dM
   .exact(iN λz=>e (dk z).1).trans (cA (lk · r) (I x _ S λz=>e (bq.mp z))).symm
def Dp(a:∀i,b i=.nil\/(Vn i/\Ok (b i))):bP (settle b v):=by
 refine Dn (λS=>iteInduction (λS=>.inl rfl) λF=>.inr ⟨.nil,F⟩) (λi W=>?_) λi j l K=>.inr ⟨a,.inr ?_⟩
 .have P:=ke.mp (W▸List.mem_singleton_self i);exact iteInduction (λS=>.inr (Ok.ey (.cons P.1 .nil) ((a i).resolve_left P.2).2)) λF=>.inr ⟨a,.inl ⟨F,i,P.2⟩⟩
 .have F:(i::j::l).Nodup:=K▸sM.sublist Gf;exact⟨i,j,λe=>(ef.mp F).1 (e▸.head _),(ke.mp (K▸.head _)).2,(ke.mp (K▸.tail _ (.head _))).2⟩
def pG n:bP n->∀p,bP (del n p)/\∀q,lk (del n p) q=if q=p then[]else lk n q:=by
 have F:∀{n p},(lk n p=[])->∀q,lk n q=if q=p then[]else lk n q:=λ{n p} h q=>iteInduction (λe=>e▸h) λX=>rfl
 induction n with
 |nil=>exactλX p=>⟨.inl rfl,F rfl⟩
 |leaf S v=>
  exactλW p=>iteInduction (motive:=λN=>bP N/\∀q,lk N q=if q=p then[]else lk _ q) (λe=>⟨.inl rfl,λq=>iteInduction (λX=>rfl) λK=>(lH λz=>K (z.symm.trans e)).symm⟩) λe=>⟨W,F (lH e)⟩
 |ext S k Z=>
  intro W p;have K:=W.resolve_left nofun;refine iE S p (G:=λp=>bP _/\∀q,lk (del _ p) q=if q=p then[]else lk _ q) (λs=>?_) λn e=>?_
  .rw[show del (.ext _ k) _=ey .. from(iP fS).trans (cA (λs=>Mine.ey _ (del k s)) dI)];have i:=Z (.inr K.4) s;refine⟨bP.ey K.2 i.1,λq=>Dm.trans (iE _ q (G:=λq=>lk _ q=if q=S++s then[]else lk _ q) (λr=>?_) λn X=>(lI n).trans ((iN (n s)).trans (lI n)).symm)⟩;rw[dM,dM,i.2];exact gG ⟨λz=>z▸rfl,oi⟩
  .rw[show del (.ext _ k) p=.ext _ k from iN e];exact⟨W,F (lI n)⟩
 |br F v Z=>
  intro W p;have K:=W.resolve_left nofun;cases p with
  |nil=>exact⟨Dp K.1,λq=>(Do K.1 q).trans (by cases q <;> rfl)⟩
  |cons x r=>
   have i:=Z x ((K.1 x).imp id (·.2)) r;have F:∀i,pF i (upd _ x _ i):=λj=>iF (λe=>(K.1 x).elim (λz=>.inl (cA (del · r) z)) λz=>i.1.imp id λw=>⟨e▸z.1,w⟩) λX=>K.1 j;refine⟨Dp F,λq=>(Do F q).trans ?_⟩;cases q with
   |nil=>rfl
   |cons y s=>
    refine iF (P:=λn=>lk n s=if y::s=x::r then[]else lk _ s) (λe=>?_) λe=>(iN λz=>e (dk z).1).symm;rw[e,i.2];exact gG ⟨cA _,λz=>(dk z).2⟩
abbrev Rows:=List (aD×By)
def eP(a:Rows):Prop:=a.Pairwise λa b=>aY a.1 b.1=J
noncomputable def val(a:Rows)(q:aD):By:=match a.find? λr=>r.1=q with
 |some r=>r.2
 |none=>[]
noncomputable def cs(i:Int)(r:aD×By):Option (aD×By):=match r.1 with
 |[]=>I
 |x::t=>if x=i then D (t,r.2)else I
noncomputable def d_:Nat->Rows->Nd
 |0,_=>.nil
 |k+1,rows=>match rows with
  |[]=>.nil
  |[r]=>.leaf r.1 r.2
  |r::s::t=>
   let a:=sh r.1 ((r::s::t).getLastD r).1
   if 0<a then .ext (r.1.take a) (d_ k ((r::s::t).map λe=>(e.1.drop a,e.2)))
   else .br (λi=>d_ k ((r::s::t).filterMap (cs i))) (val (r::s::t) [])
def UF(p:aD):aY p p=V:=by
 induction p with
 |nil=>rfl
 |cons a p F=>exact(iN (i0 _)).trans ((iN (i0 _)).trans F)
def Dq(h:aY p q=J):p≠q:=λe=>z1 ((UF q).symm.trans (e▸h))
abbrev iG(p q:aD):Prop:=p=q\/aY p q=J
def iG.tl(h:iG (a::p) (b::q)):a<b\/(a=b/\iG p q):=h.elim (λe=>.inr ⟨(dk e).1,.inl (dk e).2⟩) λh=>(eu.mp h).imp id λz=>⟨z.1,.inr z.2⟩
def Ds w p r:∀q,iG (w++p) q->iG q (w++r)->q.take w.length=w:=by
 induction w with
 |nil=>exactλF F F=>rfl
 |cons a w P=>
  intro q F K;cases q with
  |nil=>exact F.elim z6 z1
  |cons b q=>exact F.tl.elim (λx=>K.tl.elim (λy=>aB (Zp x y) (i0 _)) λy=>aB (y.1▸x) (i0 _)) λx=>K.tl.elim (λy=>aB (x.1▸y) (i0 _)) λy=>show b::q.take _=a::w from congr (cA _ y.1) (P q x.2 y.2)
def between p q r:iG p q->iG q r->q.take (sh p r)=p.take (sh p r):=
 pE p r (G:=λp r n=>iG p q->iG q r->q.take n=p.take n) (λw s F K=>(Ds w _ s q ((ci w).symm▸F) K).trans uy.symm) λw a t s P F K=>(Ds w _ _ q F K).trans fS.symm
def Dt n:∀(p q:aD),p.take n=q.take n->aY p q=J->aY (p.drop n) (q.drop n)=J:=by
 induction n with
 |zero=>exactλF F F h=>h
 |succ n F=>
  intro p q e h;cases p with
  |nil=>cases q with
   |nil=>exact z1 h
   |cons b q=>exact z5 e
  |cons a p=>cases q with
   |nil=>exact z1 h
   |cons b q=>
    have e:=dk e;exact F p q e.2 ((eu.mp h).resolve_left (e.1▸i0 _)).2
def sN:val (a::t) q=if a.1=q then a.2 else val t q:=by
 unfold val;rw[i7];by_cases e:a.1=q
 .rw[dT e,iP e]
 .rw[dF e,iN e]
def nv(h:∀r∈a,r.1≠q):val a q=[]:=by
 induction a with
 |nil=>rfl
 |cons a t F=>exact sN.trans ((iN (h a (.head _))).trans (F λr F=>h r (.tail _ F)))
def pH(b:eP a)(h:r∈a):val a r.1=r.2:=by
 induction a with
 |nil=>exact z7 h
 |cons a t F=>
  have y:=i3.mp b;exact me h (sN.trans (iP rfl)) λh=>sN.trans ((iN (Dq (y.1 r h))).trans (F y.2 h))
def UG:val a q≠[]->∃r,A3 (r∈a) (r.1=q) (val a q=r.2):=by
 induction a with
 |nil=>exact(aB rfl)
 |cons a t F=>
  rw[sN];exact iteInduction (motive:=λx=>x≠[]->∃r,A3 (r∈a::t) (r.1=q) (x=r.2)) (λe K=>⟨a,.head _,e,rfl⟩) λK h=>(F h).elim λr y=>⟨r,.tail _ y.1,y.2,y.3⟩
def Du(f:eP a)(c:eP b)(h:∀v,(q,v)∈a↔(d,v)∈b):val a q=val b d:=by
 by_cases e:∃v,(q,v)∈a
 .exact e.elim λv F=>(pH f F).trans (pH c ((h v).mp F)).symm
 .exact(nv (q:=q) λr F z=>e ⟨r.2,z▸F⟩).trans (nv (q:=d) λr F z=>e ⟨r.2,(h _).mpr (z▸F)⟩).symm
def xa(t:Rows):∀r,eP (r::t)->(r::t).getLastD r∈r::t/\∀e∈r::t,e=(r::t).getLastD r\/aY e.1 ((r::t).getLastD r).1=J:=by
 induction t with
 |nil=>exactλr F=>⟨.head _,λe F=>.inl (bq.mp F)⟩
 |cons s t K=>
  intro r h;have h:=i3.mp h;have i:=K s h.2;exact⟨.tail _ i.1,λe F=>me F (.inr (h.1 _ i.1)) (i.2 e)⟩
def UH{a b:Type}(f:a->b) t:∀a x,((a::t).map f).getLastD (f x)=f ((a::t).getLastD x):=by
 induction t with
 |nil=>exactλF F=>rfl
 |cons b t K=>exactλF x=>K b x
def UI(p q:aD):sh (p.drop (sh p q)) (q.drop (sh p q))=0:=by
 refine pE p q (G:=λp q n=>sh (p.drop n) (q.drop n)=0) (λw s=>?_) λw a r s h=>?_
 .rw[mF];rfl
 .rw[dI,dI];cases s with
  |nil=>rfl
  |cons b s=>exact pD λe=>h s (e▸rfl)
def xb(h:cs i r=D y):r=(i::y.1,y.2):=by
 obtain⟨p,w⟩:=r;cases p with
 |nil=>exact z3 h
 |cons x s=>
  by_cases e:x=i
  .exact e▸(aE ((iP e).symm.trans h))▸rfl
  .exact z3 ((iN e).symm.trans h)
def lJ{a:Rows}:(t,v)∈a.filterMap (cs i)↔(i::t,v)∈a:=
 yk.trans ⟨λh=>h.elim λy h=>xb h.2▸h.1,λh=>⟨_,h,iP rfl⟩⟩
def eP.cs(h:eP a) i:eP (a.filterMap (cs i)):=
 ab5 _ (λa b F K K P P=>((eu.mp (xb K▸xb P▸F)).resolve_left (i0 _)).2) h
def UJ{R:Rows}{N:Int->Nd}(c:r∈R)(b:L∈R)(d:aY r.1 L.1=J)(f:sh r.1 L.1=0)(a:∀i p v,(i::p,v)∈R->N i≠.nil)(e:r.1=[]->val R []≠[]):(val R []≠[]/\∃i,N i≠.nil)\/E2 λi j=>A3 (i≠j) (N i≠.nil) (N j≠.nil):=by
 obtain⟨F,K⟩:=r;obtain⟨K,P⟩:=L;cases K with
 |nil=>cases F <;> exact z1 d
 |cons y u=>cases F with
  |nil=>exact .inl ⟨e rfl,y,a y u _ b⟩
  |cons x p=>exact .inr ⟨x,y,λe=>aB ((nt e).symm.trans f) (yW _),a x p _ c,a y u _ b⟩
abbrev sO(N:Nd)(R:Rows):Prop:=A3 (bP N) (R≠[]->N≠.nil) (∀q,lk N q=val R q)
def UK{R:Rows}(h:∀y∈R,Vn i)(a:sO (d_ k R) R):pF i (d_ k R):=by
 cases R with
 |nil=>exact .inl (by cases k <;> rfl)
 |cons y u=>exact a.1.imp id λz=>⟨h y (.head _),z⟩
def UL k:∀F,eP F->(∀r∈F,A3 (Vp r.1) (r.2≠[]) (2*r.1.length+2<=k))->sO (d_ k F) F:=by
 induction k with
 |zero=>
  intro F S K;cases F with
  |nil=>exact⟨.inl rfl,aB rfl,λq=>rfl⟩
  |cons r t=>exact aB (K r (.head _)).3 (eX _)
 |succ k j=>
  intro R S K;cases R with
  |nil=>exact⟨.inl rfl,aB rfl,λq=>rfl⟩
  |cons r t=>cases t with
   |nil=>
    have h:=K r (.head _);refine⟨.inr ⟨h.1,h.2⟩,λd=>nofun,λq=>?_⟩;by_cases e:r.1=q
    .exact(iP e).trans (e▸(pH S (.head _)).symm)
    .exact(lH e).trans (nv λx g=>bq.mp g▸e).symm
   |cons s t=>
    have Z:=i3.mp S;have l:=xa _ r S;have m:aY _ ((r::s::t).getLastD r).1=J:=Z.1 _ (xa t s Z.2).1;have X:=λf:aD×By->aD×By=>UH f (s::t) r r;show sO (if 0<sh .. then .ext .. else .br ..) _;generalize (r::s::t).getLastD r=L at l m X |-
    have c:=(kc r.1 L.1).1;have o:=UI r.1 L.1;have F:=λe W=>
     between _ _ _ (me (P:=λe=>iG r.1 _) W (.inl rfl) λh=>.inr (Z.1 e h)) ((l.2 e W).imp (cA _) id)
    generalize w:sh ..=n at c o F |-
    refine iteInduction (motive:=λN=>sO N _) (λf=>?_) λf=>?_
    .have p:=cK.trans (fM c);have Z:eP ((r::s::t).map λe=>(e.1.drop n,e.2)):=He.mpr (ab6 (λ{a b} i u h=>Dt _ _ _ ((F a i).trans (F b u).symm) h) S);have i:=j _ Z λe W=>(ch.mp W).elim λa y=>by
      have q:=K _ y.1;rw[<- y.2];exact⟨q.1.drop _,q.2,ak (c9 (kG 2 (aq cY)) 2) (Ix q.3 f (Iw (cK.symm.trans ((cA _ (F _ y.1)).trans cK)) c))⟩
     have a:=kp (P:=λk=>hF (d_ k ((r::s::t).map λe=>(e.1.drop n,e.2)))=J) (jK (uh (K r (.head _)).3)) λk d=>by
      show hF (if 0<sh .. then _ else Nd.br ..)=J;rw[X λe=>(e.1.drop n,e.2),o];rfl
     refine⟨.inr ⟨λz=>d1 0 (Hf f (p.symm.trans (cA _ z))),(K r (.head _)).1.take _,a,i.1.resolve_left (i.2 nofun)⟩,λd=>nofun,λq=>?_⟩;have split:=λe W=>(qS n _).symm.trans (cA (·++_) (F e W));refine iE _ q (G:=λq=>lk _ q=val _ q) (λu=>dM.trans ((i.3 u).trans (Du Z S λv=>⟨λh=>(ch.mp h).elim λe y=>?_,λh=>ch.mpr ⟨_,h,cA (·,v) ((cA (List.drop · _) p.symm).trans dI)⟩⟩))) λF d=>(lI F).trans (nv λx g z=>F _ (z.symm.trans (split x g))).symm;have p:=ym y.2;rw[show(r.1.take n++u,v)=e from Prod.ext ((cA _ p.1.symm).trans (split e y.1).symm) p.2.symm];exact y.1
    .have F:=λi=>j _ (S.cs i) λe W=>⟨(K _ (lJ.mp W)).1.tail,(K _ (lJ.mp W)).2,zn (K _ (lJ.mp W)).3⟩;refine⟨.inr ⟨λi=>?_,UJ (.head _) l.1 m (w.trans (Nat.eq_zero_of_not_pos f)) (λi p v h=>(F i).2 (List.ne_nil_of_mem (lJ.mpr h))) λe=>e▸(pH S (.head _)).symm▸(K r (.head _)).2⟩,λd=>nofun,λq=>?_⟩
     .exact UK (λy W=>(K _ (lJ.mp W)).1.head) (F i)
     .cases q with
      |nil=>rfl
      |cons x u=>exact((F x).3 u).trans (Du (S.cs x) S λv=>lJ)
def bZ(f:By->By)(x:PV):PV:=if(enc x).length<32 then x else .bytes (f (enc x))
def form(f:By->By):Nd->PV
 |.nil=>.bytes []
 |.leaf p v=>.U [.bytes (pk p J),.bytes v]
 |.ext p k=>.U [.bytes (pk p V),bZ f (form f k)]
 |.br ks v=>.U (cn.map (λi=>bZ f (form f (ks i)))++ [.bytes v])
def Sm:Nd->Prop
 |.nil=>True
 |.leaf p v=>p.length<=200/\v.length<=200
 |.ext p k=>p.length<=200/\Sm k
 |.br ks v=>(∀i,Sm (ks i))/\v.length<=200
def sP(h:n<256^8):1<=(hd a n).length/\(hd a n).length<=9:=
 iteInduction (motive:=λb:By=>1<=b.length/\b.length<=9) (λF=>And.intro (aL 1) (show 1<=9 by decide)) λF=>And.intro (cG 1 _) (dA (np h))
def Dv low n:1<=(hd low n).length:=iteInduction (motive:=λb:By=>1<=b.length) (λF=>aL 1) λF=>cG 1 _
def nw(b:By)(h:b.length<256^8):(enc (.bytes b)).length<=b.length+9:=
 iteInduction (motive:=λe:By=>e.length<=b.length+9) (λF=>bl ..) λF=>ak (aq (az.trans (cR ..))) (bH (sP h).2 _)
def UM a b:cb (a++b)=cb a++cb b:=by
 induction a with
 |nil=>rfl
 |cons x a F=>exact(cA _ F).trans (cz ..).symm
def xc:∀x:PV,bO x=J->high x+1<=(enc x).length:=
 C2 (λb=>iteInduction (motive:=λe:By=>1<=e.length) (λh=>aq h.1.symm) λF=>ak (Dv ..) (ak (bl ..) (aq az.symm)))
  (λl F K=>ak (aq (cR ..)) (ak (ec (Dv ..) K) (aq az.symm))) (aL 0)
  λx r F F F K=>ak (Nat.max_le.mpr ⟨ak F (bl ..),ak K (cG ..)⟩) (aq az.symm)
inductive Dg(f:By->By):Prop |mk
 (F:∀b,(f b).length=32)
abbrev Bi(K L:Nat)(x:PV):Prop:=A3 (bO x=J) (high x<=K) ((enc x).length<=L)
abbrev fG(K L:Nat)(l:List PV):Prop:=A3 (c4 l=J) (highs l<=K) ((cb l).length<=L)
def Bi.to(h:Bi a L x)(k:cc a b=J)(m:cc L c=J):Bi b c x:=⟨h.1,a1 h.2 k,a1 h.3 m⟩
def Bi.up(h:Bi a L x)(k:cc a b=J):Bi b L x:=⟨h.1,a1 h.2 k,h.3⟩
def Bi.lK(h:b.length<=L)(a:cc (L+1) (256^8)=J):Bi 0 (L+9) (.bytes b):=⟨rfl,aL 0,ak (nw b (a2 h a)) (c9 h 9)⟩
def fG.nil:fG a 0 []:=⟨rfl,bn _,aL 0⟩
def fG.cons{a L M:Nat}{x:PV}{l:List PV}(h:Bi a L x)(t:fG (a+1) M l):fG (a+1) (L+M) (x::l):=
 ⟨cH.mpr ⟨h.1,t.1⟩,Nat.max_le.mpr ⟨dA h.2,t.2⟩,ak (aq az) (ec h.3 t.3)⟩
def fG.lst(h:fG a L l)(b:cc (L+1) (256^8)=J):Bi a (L+9) (.U l):=
 ⟨h.1,h.2,ak (aq (az.trans (cR ..))) (ec h.3 (sP (a2 h.3 b)).2)⟩
def fG.map{b L M:Nat}{c:Type}{g:c->PV}(d:∀a,Bi b L (g a))(e:fG (b+1) M t)(l:List _):fG (b+1) (l.foldr (λF m=>L+m) M) (l.map g++t):=by
 induction l with
 |nil=>exact e
 |cons a l F=>exact fG.cons (d a) F
def pI(a:Dg f)(h:bO x=J):Bi 30 41 (bZ f x):=
 iteInduction (λq=>⟨h,Iz (xc x h) q,a3 q rfl⟩) λF=>(Bi.lK (aq (a.1 _)) rfl).to rfl rfl
def pairs_len p:(pairs p).length<=p.length:=by
 induction p using two_ind with
 |n=>exact aL _
 |o a=>exact bn _
 |t a b r F=>exact dA (hW F)
def sQ p l:(pk p l).length<=p.length+2:=
 ak (pairs_len _) (ak (aq (az.trans (cR ..))) (bH (iteInduction (t:=[lF l+1]) (e:=[lF l,0]) (motive:=λq:aD=>q.length<=2) (λF=>fy 1) λF=>aL 2) _))
def hH(a:Dg f) n:Sm n->Bi 31 1000 (form f n):=by
 have K:=λ{p:aD} {l:Bool} (h:p.length<=200)=>Bi.lK (ak (sQ p l) (c9 h 2)) rfl
 induction n with
 |nil=>exactλF=>⟨rfl,bn _,bw rfl⟩
 |leaf p v=>exactλh=>(fG.cons (K h.1) (.cons (.lK h.2 rfl) .nil)).lst rfl |>.to rfl rfl
 |ext p k F=>exactλh=>(fG.cons ((K h.1).up rfl) (.cons (pI a (F h.2).1) .nil)).lst rfl |>.to rfl rfl
 |br K v F=>exactλh=>(fG.map (λi=>pI a (F i (h.1 i)).1) (.cons ((Bi.lK h.2 rfl).up rfl) .nil) _).lst zK |>.to rfl zK
def dec(b:By):Option PV:=match rd 61 b with
 |some (x,c)=>if c=b.length then D x else I
 |none=>I
def Dw(a:Dg f)(h:Sm n):dec (enc (form f n))=D (form f n):=by
 have i:=hH a n h;have e:=Uw 61 _ [] i.1 (a2 i.2 rfl) (aT i.3 zD);rw[ci]at e;unfold dec;rw[e];exact iP rfl
def cC:PV->Bool
 |.U l=>decide ((enc (.U l)).length<32)
 |.bytes b=>b.length==32
 |_=>V
noncomputable def bu:PV->Bool
 |.bytes []=>V
 |_=>J
set_option genCtorIdx true in
inductive Out where
 |done (v:By) |go (x:PV) (q:aD)
def kg:List PV->Option Nat
 |[]=>D 0
 |x::r=>cond (bu x) (cond (cC x) ((kg r).map uz) I) (kg r)
noncomputable def ge(v:By):Nat:=cond v.isEmpty 0 1
def dt(k:Nat)(a:List PV):Bool:=((kg a).map λc=>cc 2 (k+c)).getD V
def fH(l:List PV)(v:By)(q:aD):Option Out:=match q with
 |[]=>D (.done v)
 |i::q'=>(l[i.toNat]?:Option PV).map λy=>cond (bu y) (.go y q') (.done [])
def gf(l:List PV)(q:aD):Option Out:=((l[16]?:Option PV).bind ej).bind λv=>cond (dt (ge v) (l.take 16)) (fH l v q) I
def sR(x:PV):Option (aD×Bool):=(ej x).bind un
def lL(y:PV)(w:aD)(a:Bool):Bool:=cond a (isBytes y && bu y) (!w.isEmpty && cC y)
def j9(y:PV)(w q:aD)(a:Bool):Out:=cond a (.done (if w=q then(ej y).getD []else[])) (if q.take w.length=w then .go y (q.drop w.length)else .done [])
def hM(x y:PV)(q:aD):Option Out:=(sR x).bind λF=>cond (lL y F.1 F.2) (D (j9 y F.1 q F.2)) I
noncomputable def lM(l:List PV):Option (PV×PV):=match l with
 |[x,y]=>D (x,y)
 |_=>I
def stepI(l:List PV)(q:aD)(a:Bool):Option Out:=if l.length=17 then gf l q else cond a I ((lM l).bind λp=>hM p.1 p.2 q)
noncomputable def js(a:List By)(v:By):Option By:=if a=[]then D v else I
def UN(f:By->By)(d:By)(a:List By)(K:PV->List By->Option By):Option By:=match a with
 |[]=>I
 |r::rs=>if f r=d/\32<=r.length then K ((dec r).getD .none) rs else I
def nx(f:By->By)(a:List By)(y:PV)(K:PV->List By->Option By):Option By:=match y with
 |.U m=>K (.U m) a
 |.bytes d=>UN f d a K
 |_=>I
noncomputable abbrev xd{c:Type}(o:Out)(a:By->c)(b:PV->aD->c):c:=match o with
 |.done v=>a v
 |.go y q=>b y q
noncomputable def iH:PV->Option (List PV)
 |.U l=>D l
 |_=>I
def c8(f:By->By):Nat->PV->aD->Bool->List By->Option By
 |0,_,_,_,_=>I
 |k+1,x,q,bx,rows=>(iH x).bind λl=>(stepI l q bx).bind λo=>xd o (js rows) λy F=>nx f rows y λy K=>c8 f k y F (l.length==2) K
def lN(f:By->By)(x:PV)(q:aD)(a:List By):Option By:=cond (bu x) (c8 f (q.length+1) x q V a) (js a [])
def hN(f:By->By)(b:By)(q:aD)(a:List By):Option By:=match a with
 |[]=>I
 |r::rs=>if f r=b then lN f ((dec r).getD .none) q rs else I
def own(f:By->By)(n:Nd):List By:=if 32<=(enc (form f n)).length then[enc (form f n)]else[]
def cD(f:By->By):Nd->aD->List By
 |.nil,_=>[]
 |.leaf _ _,_=>[]
 |.ext p k,q=>if q.take p.length=p then own f k++cD f k (q.drop p.length)else[]
 |.br _ _,[]=>[]
 |.br ks _,x::q=>own f (ks x)++cD f (ks x) q
def xe(h:n≠.nil):∃l,form f n=.U l:=by
 cases n with
 |nil=>exact(h rfl).elim
 |_=>exact⟨_,rfl⟩
def xf(a:Dg f)(h:n≠.nil):cC (bZ f (form f n))=J/\bu (bZ f (form f n))=J:=by
 obtain⟨l,e⟩:=xe h;unfold bZ;by_cases q:(enc (form f n)).length<32
 .rw[iP q];rw[e]at q |-
  exact⟨dT q,rfl⟩
 .rw[iN q];have F:=a.1 (enc (form f n));refine⟨bE.mpr F,?_⟩;cases K:f _ with
  |nil=>replace F:=K▸F;cases F
  |cons a r=>rfl
def Dx:bZ f (form f .nil)=.bytes []:=by
 unfold bZ form;exact(iP zD)
def UO(h:Ok (.br a v)):2<=ge v+(fk a).length:=by
 rcases h.2 with⟨K,i,F⟩ |⟨i,j,pn,F,hj⟩
 .cases v with
  |nil=>exact(K rfl).elim
  |cons=>exact bH (yX (ke.mpr ⟨(h.cW F).1,F⟩)) 1
 .have K:=ke.mpr ⟨(h.cW F).1,F⟩;have F:=ke.mpr ⟨(h.cW hj).1,hj⟩;cases P:fk _ with
  |nil=>rw[P]at K;exact z7 K
  |cons a r=>
   cases r with
   |nil=>rw[P]at K F;exact aB ((bq.mp K).trans (bq.mp F).symm) pn
   |cons b r=>exact yc (cG 2 _)
def UP{p:Int->Bool}(h:∀i,bu (g i)=p i)(a:∀i,p i=J->cC (g i)=J)(L:List _):kg (L.map g)=D (L.filter p).length:=by
 induction L with
 |nil=>rfl
 |cons i L F=>
  show cond ..=_;rw[h,F];cases q:p i with
  |false=>rw[Hg (by rw[q];exact ei)];rfl
  |true=>rw[Hh q,a i q];rfl
def UQ{z:PV}(h:Vn x):(cn.map g++ [z])[x.toNat]?=D (g x):=by
 have F:=zo (h.2);have e:cn[x.toNat]?=D x:=by
  rw[dG,yx F];show D (x.toNat:Int)=_;rw[jz h.1]
 rw[cX F,dG,e];rfl
def Dy(a:Dg f) n:bu (bZ f (form f n))= !isNil n:=by
 cases e:isNil n with
 |true=>rw[hG.mp e,Dx];rfl
 |false=>exact(xf a λz=>ei (e.symm.trans (hG.mpr z))).2
def US(a:Dg f)(h:Ok (.br b v)) q:
  gf (cn.map (λi=>bZ f (form f (b i)))++ [.bytes v]) q=fH (cn.map (λi=>bZ f (form f (b i)))++ [.bytes v]) v q:=by
 have e:dt (ge v) ((cn.map (λi=>bZ f (form f (b i)))++ [PV.bytes v]).take 16)=J:=by
  unfold dt;rw[(UP (λi=>Dy a _) (λi F=>(xf a λz=>by replace F:=z▸F;cases F).1) cn)];exact Hi (UO h)
 show cond ..=_;rw[e];rfl
def UT(a:Dg f){b:Int->Nd}(h:Vn i):
  fH (cn.map (λi=>bZ f (form f (b i)))++ [.bytes v]) v (i::q)=D (cond (!isNil (b i)) (.go (bZ f (form f (b i))) q) (.done [])):=by
 show Option.map ..=_;rw[UQ h,<- Dy a];rfl
def Dz(a:Dg f)(h:Ok m)(b:Sm m) R K:nx f (own f m++R) (bZ f (form f m)) K=K (form f m) R:=by
 obtain⟨l,e⟩:=xe h.ne_nil;unfold own bZ;by_cases q:(enc (form f m)).length<32
 .rw[iP q,iN (aM.mpr q),e];rfl
 .rw[iN q,iP (ar.mp q)];exact(iP ⟨rfl,ar.mp q⟩).trans (by rw[Dw a b];rfl)
def DA(b:iH x=D l)(e:stepI l q c=D o):c8 f (k+1) x q c a=xd o (js a) λy F=>nx f a y λy K=>c8 f k y F (l.length==2) K:=by
 show(iH x).bind _=_;rw[b];show(stepI l q _).bind _=_;rw[e];rfl
def lO(e:stepI l q a=D o):c8 f (k+1) (.U l) q a rows=xd o (js rows) λy F=>nx f rows y λy K=>c8 f k y F (l.length==2) K:=DA rfl e
def UU{p q:aD}(c:q.take p.length=p)(h:p≠[])(a:q.length<k+1):(q.drop p.length).length<k:=by
 have F:=cA gS c;rw[cK]at F;rw[cY];exact IB (mH.mpr h) F a
def UV:cD f (.ext p m) (p++r)=own f m++cD f m r:=(iP fS).trans (cA (λq=>own f m++cD f m q) dI)
def UW(a:Dg f)(b:Vp p)(c:p≠[])(d:Ok m) q:stepI [PV.bytes (pk p V),bZ f (form f m)] q V=D (if q.take p.length=p then .go (bZ f (form f m)) (q.drop p.length)else .done []):=by
 show(un _).bind _=_;rw[C_ b];show cond (!p.isEmpty && cC _) ..=_;rw[(xf a d.ne_nil).1];cases p with
 |nil=>exact(c rfl).elim
 |cons=>rfl
def UX(a:Dg f):Ok n->Sm n->∀{k:Nat} {q:aD} {bx:Bool},Vp q->q.length<k->(bx=J->hF n=J)->c8 f k (form f n) q bx (cD f n q)=D (lk n q):=by
 induction n with
 |nil=>exactλh=>h.elim
 |leaf p v=>
  intro F P k q bx S K W;cases bx with
  |true=>exact z1 (W rfl)
  |false=>
   refine kp K λk X=>lO (o:=.done _) ?_;show(un _).bind _=_;rw[C_ F.1];clear P W;cases v with
   |nil=>exact(F.2 rfl).elim
   |cons=>rfl
 |ext p m Z=>
  intro F P k q bx S K W;cases bx with
  |true=>exact z1 (W rfl)
  |false=>
   refine kp K (λk X=>?_) K;have s:=UW a F.2 F.1 F.4;refine iE p q (G:=λq=>Vp q->q.length<k+1->c8 f _ _ q ..=D _) (λr S K=>?_) (λb c X X=>?_) S
   .rw[UV,dM];exact(lO ((s _).trans (cA _ ((iP fS).trans (cA _ dI))))).trans ((Dz a F.4 P.2 ..).trans (Z F.4 P.2 S.right (Nat.lt_of_add_lt_add_left (bc (az▸K) (cR k 1▸c9 (mH.mpr F.1) k))) λX=>F.3))
   .rw[show cD f (.ext p m) q=[]from iN c,lI b];exact lO ((s q).trans (cA _ (iN c)))
 |br b v Z=>
  refineλF P k q bx S K W=>kp K (λk X K=>?_) K;have s:∀q,stepI (cn.map _++ [PV.bytes v]) q bx=_:=λq=>(iP rfl).trans (US a F q);cases q with
  |nil=>exact lO (s [])
  |cons x r=>
   have e:=(s (x::r)).trans (UT a S.head);show c8 f _ _ _ _ (own f _++cD f _ r)=D (lk _ r);cases X:isNil _ with
   |true=>
    rw[X]at e;rw[hG.mp X];exact lO e
   |false=>
    rw[X]at e;have W:=λz=>ei (X.symm.trans (hG.mpr z));exact(lO e).trans ((Dz a (F.cW W).2 (P.1 x) ..).trans (Z x (F.cW W).2 (P.1 x) S.tail (jK K) λz=>nomatch z))
def proof(f:By->By)(n:Nd)(q:aD):List By:=enc (form f n)::cD f n q
def lP(a:Dg f)(h:bP n)(b:Sm n)(c:Vp q):hN f (f (enc (form f n))) q (proof f n q)=D (lk n q):=by
 refine(iP rfl).trans ?_;rw[Dw a b];rcases h with rfl |h
 .rfl
 .have:=UX a h b c (aL _) (bx:=V) λz=>nomatch z;obtain⟨l,e⟩:=xe h.ne_nil;rw[e]at this |-
  exact this
def pJ{c d:Type}{v:Option _}{g:c->Option _}{b:d}(h:v.bind g=D b){G:Prop}(k:∀a,v=D a->g a=D b->G):G:=by
 cases v with
 |none=>exact z3 h
 |some a=>exact k a rfl h
def iJ{a:Type}[Decidable c]{v:Option _}{b:a}(h:(if c then v else I)=D b){G:Prop}(k:c->v=D b->G):G:=by
 by_cases q:c
 .rw[iP q]at h;exact k q h
 .rw[iN q]at h;exact z3 h
def Inj(f:By->By)(R c:List By):Prop:=∀a∈R,∀b∈c,f a=f b->a=b
def Inj.tail(h:Inj f (a::c) (b::d)):Inj f c d:=λa F b K=>h a (.tail _ F) b (.tail _ K)
def DB(h:js a w=D v)(b:js c w=D d):a=c/\v=d:=
 iJ h λr h=>iJ b λF b=>⟨r.trans F.symm,aE (h.symm.trans b)⟩
def UY(g:Inj f b c)(i:∀y b c,Inj f b c->K y b=D v->K y c=D a->b=c/\v=a)(h:nx f b y K=D v)(e:nx f c y K=D a):b=c/\v=a:=by
 cases y with
 |U m=>exact i _ _ _ g h e
 |bytes d=>
  cases b with
  |nil=>exact z3 h
  |cons a b=>
   cases c with
   |nil=>exact z3 e
   |cons b c=>
    refine iJ h λc h=>iJ e λF e=>?_;obtain rfl:a=b:=g a (.head _) b (.head _) (c.1.trans F.1.symm);have z:=i _ _ _ g.tail h e;exact⟨cA _ z.1,z.2⟩
 |_=>exact z3 h
def UZ k:∀{x:PV} {q:aD} {F:Bool} {a b:List _},Inj f a b->c8 f k x q F a=D v->c8 f k x q F b=D c->a=b/\v=c:=by
 induction k with
 |zero=>exactλP h=>z3 h
 |succ k X=>
  intro x q F a b S h F;refine pJ h λl Z h=>pJ h λo W h=>?_;have F:=(DA Z W).symm.trans F;clear W;cases o with
  |done w=>exact DB h F
  |go y W=>exact UY (K:=λy W=>c8 f k y ..) S (λP P P S=>X S) h F
def DC(g:Inj f b c)(h:hN f a q b=D v)(d:hN f a q c=D e):b=c/\v=e:=by
 cases b with
 |nil=>exact z3 h
 |cons a b=>
  cases c with
  |nil=>exact z3 d
  |cons b c=>
   refine iJ h λc h=>iJ d λF d=>?_;obtain rfl:a=b:=g a (.head _) b (.head _) (c.trans F.symm);unfold lN at h d;have z:=by
    cases e:bu _ with
    |true=>rw[e]at h d;exact UZ _ g.tail h d
    |false=>rw[e]at h d;exact DB h d
   exact⟨cA _ z.1,z.2⟩
def kh(n:Nat):By:=cT 4 n++(cT 8 (n*281479271743489% 18446744073709551616)).reverse++(cT 20 (605153021707326989568713251046585937826284568576+n)).reverse
def fK(a:List By)(b:By):By:=kh (a.idxOf b+1)
def U0 n:(kh n).length=32:=by
 unfold kh;simp only[az,qH,sE]
def U1(c:a<2^32)(d:b<2^32)(h:kh a=kh b):a=b:=by
 have e:∀n,(kh n).take 4=cT 4 n:=λn=>by
  rw[kh,cz];exact(cA (List.take · _) (sE 4 n).symm).trans fS
 exact(qq c).symm.trans ((w0 4 a).symm.trans ((cA (λl=>ba _) ((e a).symm.trans ((cA _ h).trans (e b)))).trans ((w0 4 b).trans (qq d))))
def cE KN:Dg (fK KN):=⟨λb=>U0 _⟩
def DD(f:c.length<2^31)(d:a∈c)(e:b∈c)(h:fK c a=fK c b):a=b:=by
 have P:∀{x},x∈c->c.idxOf x+1<2^32:=λK=>aT (iY (Hj K)) (bc f zD);have F:∀{x},x∈c->c[c.idxOf x]?=D x:=λK=>(bI (Hj K)).trans (cA _ (List.getElem_idxOf _));exact aE ((F d).symm.trans ((cA _ (h9 (U1 (P d) (P e) h))).trans (F e)))
def pK(h:b∈a):fK (a++t) b=fK a b:=by
 unfold fK;rw[List.idxOf_append,iP h]
def bo:aI=16777216:=rfl
def pL{f:List _}(e:Y0 (cmp d (.int i) (.int j)) (.bool c))(k:∀a b:Nat,i=a->j=b->wN d a b c):cF d (.int i) (.int j) f c:=by
 cases i with
 |negSucc=>exact e
 |ofNat a=>cases j with
  |negSucc=>exact e
  |ofNat b=>exact k a b rfl rfl
def pM[Decidable P](h:decide P=c)(w:P↔Q):tf Q c:=by
 cases c with
 |true=>exact w.mp (of_decide_eq_true h)
 |false=>exactλz=>of_decide_eq_false h (w.mpr z)
def U2{os:List av}(h:decide (i<j)=c):cF .Lt (.int i) (.int j) os c:=pL (λF=>by rw[<- h];rfl) λa b x y=>pM h (by rw[x,y];exact ed)
def pN{os:List av}(h:decide (j<i)=c):cF .Gt (.int i) (.int j) os c:=pL (λF=>by rw[<- h];rfl) λa b x y=>pM h (by rw[x,y];exact ed)
def lQ{os:List av}(h:decide (i=j)=c):cF .Eq (.int i) (.int j) os c:=pL (λF=>by rw[<- h];rfl) λa b x y=>pM h (by rw[x,y];exact uH)
def xg{os:List av}(h:decide (j<=i)=c):cF .GtE (.int i) (.int j) os c:=pL (λF=>by rw[<- h];rfl) λa b x y=>pM h (by rw[x,y];exact mj)
def DE{os:List av}(h:decide (i≠j)=c):cF .NotEq (.int i) (.int j) os c:=pL (λF=>by rw[<- h,decide_not];rfl) λa b x y=>pM h (by rw[x,y];exact not_congr uH)
def U3(x:Nat):Y0 (method "bit_length" (.int x) []) (.int (ic x)):=λF=>by
 rfl
def DF(x k:Nat) e(a:k<=64)(b:x<256^k):method "to_bytes" (.int x) [.int k,.str e]=λF=>if e=="big" then D (.ok (.bytes (cT k x).reverse),F)else if e=="little" then D (.ok (.bytes (cT k x)),F)else I:=by
 funext F
 refine(congrFun (iP (show 0<=(x:Int)/\(0<=(k:Int)/\((k:Int)<=64/\(x:Int) <256^ (k:Int).toNat))from⟨da x,da k,mj.mpr a,by exact_mod_cast b⟩)) _).trans ?_;cases e=="big" with
 |true=>rfl
 |false=>cases e=="little" <;> rfl
def xh(x k:Nat)(a:k<=64)(b:x<256^k):Y0 (method "to_bytes" (.int x) [.int k,.str "big"]) (.bytes (cT k x).reverse):=λF=>by
 rw[DF x k _ a b];exact iP zK
def U4(x k:Nat)(a:k<=64)(b:x<256^k):Y0 (method "to_bytes" (.int x) [.int k,.str "little"]) (.bytes (cT k x)):=λF=>by
 rw[DF x k _ a b];exact(iN zK).trans (iP zK)
def sS(a b:Nat)(h:0<b/\b<2^63):Y0 (binop .FloorDiv V (.int a) (.int b)) (.int (a / b:Nat)):=congrFun (iP ⟨ed.mpr h.1,I7 h⟩)
def iK(a b:Nat)(h:0<b):Y0 (binop .Mod V (.int a) (.int b)) (.int (a% b:Nat)):=congrFun (iP (ed.mpr h))
def U5(i:Nat)(h:i<256):Y0 (binop .RShift V (.int i) (.int 4)) (.int (i / 16:Nat)):=congrFun (iP ⟨da i,ed.mpr h,rfl⟩)
def U6(i:Nat)(h:i<256):Y0 (binop .BitAnd V (.int i) (.int 15)) (.int (i% 16:Nat)):=congrFun (iP ⟨da i,ed.mpr h,rfl⟩)
def ki(h:v=D a):a_ v f b=f a b:=by rw[h];rfl
def sT{a:List _}(h:a[n]?=D (.list b)):em (.loc n) f ⟨l,a⟩=f b ⟨l,a⟩:=ki (k_ h)
def dx{a:List _}(h:a[n]?=D x):ia n f ⟨l,a⟩=f x ⟨l,a⟩:=ki h
def hO(h:bytesOf a=D b)(c:b.length<=aI):Y0 (et V "bytes" [.U a]) (.bytes b):=λF=>(ki h).trans (congrFun (iP c) _)
def U7 os(h:bytesOf a=D b)(c:b.length<=aI)(d:os[n]?=D (.list a)):Y (et V "bytes" [.loc n]) os (.bytes b) os:=λl=>(sT d).trans ((ki h).trans (congrFun (iP c) _))
def dy(a b:By)(h:(a++b).length<=aI):Y0 (binop .Add V (.bytes a) (.bytes b)) (.bytes (a++b)):=λF=>congrFun (iP h) _
def xi a b(h:(a++b).length<=aI):Y0 (binop .Add V (.tup a) (.tup b)) (.tup (a++b)):=λF=>congrFun (iP h) _
def xj{m:Nat}(h:m<256):q9 (.int m)=D m.toUInt8:=iP ⟨da m,ed.mpr h⟩
def lR{m:Nat}(h:m<256):bytesOf [.int m]=D [m.toUInt8]:=cA (Option.bind · λb=>D [b]) (xj h)
def xk{a:List _}(h:a[n]?=D (.list c))(d:f c=D b)(e:b.length<=aI):app n f ⟨l,a⟩=D (.ok .none,⟨l,a.set n (.list b)⟩):=by
 unfold app;rw[h];exact(ki d).trans (iP e)
def nA(h:lc d a b=D c):uU f a b d=D (.ok (.bool (f c)),d):=ki h
def eQ os n xs v(h:os[n]?=D (.list xs))(a:xs.length<aI):Y (method "append" (.loc n) [v]) os .none (os.set n (.list (xs++ [v]))):=λl=>xk h rfl (by rw[az];exact a)
def xl os n xs(h:os[n]?=D (.list xs))(a:xs.length<=aI):Y (et V "tuple" [.loc n]) os (.tup xs) os:=λl=>(sT h).trans (congrFun (iP a) _)
def xm(h:m<n):Mine.place n m=D m:=iP ((de ..).mpr ⟨dT (da m),dT (ed.mpr h)⟩)
def DG{m:Nat}(h:a[m]?=D v) st:jQ a m st=D (.ok v,st):=ki ((cA (Option.bind · _) (xm (cQ.mp h).1)).trans h)
def bv{m:Nat}(h:xs[m]?=D v):Y0 (item (.tup xs) (.int m)) v:=DG h
def dg{m:Nat}(h:xs[m]?=D v):Y0 (item (.U xs) (.int m)) v:=DG h
def gH{m:Nat}(h:b[m]?=D c):Y0 (item (.bytes b) (.int m)) (.int c.toNat):=λF=>ki ((cA (Option.bind · _) (xm (cQ.mp h).1)).trans h)
def iM(h:m c=D (.ok a,b)):bd m f c=f a b:=by unfold bd;rw[h]
def hQ(h:t d=D (.ok J,c))(e:b c=D (.ok .next,a)):cB t b (n+1) d=cB t b n a:=(iM h).trans (iM e)
def kj(h:t c=D (.ok V,a)):cB t b (n+1) c=D (.ok .next,a):=iM h
def w_count(S:Nat->St)(d:∀i,i<c->t (S i)=D (.ok J,S i))(e:∀i,i<c->b (S i)=D (.ok .next,S (i+1)))(f:t (S c)=D (.ok V,S c))(a:c<k):cB t b k (S 0)=D (.ok .next,S c):=by
 have F:∀j i,i+j=c->∀k,j<k->cB t b k (S i)=D (.ok _,S c):=λj=>by
  induction j with
  |zero=>exactλi h k a=>kp a λK K=>kj (h▸f)
  |succ j K=>exactλi h k a=>kp a λk a=>(hQ (d i (uP h)) (e i (uP h))).trans (K _ (zB h) k (nZ a))
 exact F c 0 (ee c) k a
def xn(h:t d=D (.ok J,c))(e:b c=D (.ok (.ret v),a)):cB t b (n+1) d=D (.ok (.ret v),a):=(iM h).trans (iM e)
def DH(h:t d=D (.ok J,c))(e:b c=D (.error x,a)):cB t b (n+1) d=D (.error x,a):=(iM h).trans (wQ e)
noncomputable abbrev okN(a:St):Option (Except Exc Fl×St):=D (.ok .next,a)
def d'(h:b x c=D (.ok .next,a)):c0 b (x::r) c=c0 b r a:=iM h
noncomputable def iL(p:aD):List PV:=p.map .int
def ints_append a b:iL (a++b)=iL a++iL b:=jH
def ints_length p:(iL p).length=p.length:=bN _
def iO{m:Nat}(h:p[m]?=D x):(iL p)[m]?=D (.int x):=by rw[dG,h];rfl
def U8 p:bX (iL p)=J:=by
 induction p with
 |nil=>rfl
 |cons x r F=>exact F
def cw(h:aO a=J)(c:aO b=J):bX [a,b]=J:=cH.mpr ⟨h,cH.mpr ⟨c,rfl⟩⟩
def iQ(h:aO a=J):bX [a]=J:=cH.mpr ⟨h,rfl⟩
def U9(h:aO v=J):Y0 (mN v) v:=λF=>by
 cases v with
 |loc n=>cases h
 |_=>rfl
def U_ l(h:bX l=J):Y0 (q8 l) l:=λF=>by
 induction l with
 |nil=>rfl
 |cons v r F=>exact(iM (U9 (cH.mp h).1 _)).trans ((iM (F (cH.mp h).2)).trans rfl)
def bk v(h:aO v=J):Y0 (freeze v) v:=λF=>by
 cases v with
 |tup F=>exact iM (U_ _ h _)
 |loc n=>cases h
 |_=>rfl
def bp p:aO (.tup (iL p))=J:=U8 p
def pO p:intsOf (iL p)=D p:=by
 induction p with
 |nil=>rfl
 |cons x r F=>exact cA (Option.map _) F
def DI p q st:lc st (.tup (iL p)) (.tup (iL q))=D (decide (p=q)):=by
 show jd ..=_;rw[pO,pO,<- pu];rfl
noncomputable abbrev nB(b:Option PV)(a:List PV)(c:Option PV):St:=⟨[b,D (.loc 0),c],[.list a]⟩
def U' F c acc s0 s2(h:acc.length+2<aI):
  cl F 0 0 (d5 c) (nB s0 acc s2)=D (.ok .next,nB s0 (acc++ [.int (c.toNat / 16:Nat)]++ [.int (c.toNat% 16:Nat)]) (D (d5 c))):=
 c7 [tV 26 (U5 _ c.toNat_lt),tO 8 (eQ [.list _] 0 _ (.int (c.toNat / 16:Nat)) rfl (aT (bl ..) h)),tV 27 (U6 _ c.toNat_lt),tO 8 (eQ [.list (acc++ [.int (c.toNat / 16:Nat)])] 0 _ (.int (c.toNat% 16:Nat)) rfl (az.symm▸bj h))]
def Va F s0 b:∀K P,K.length+2*b.length<aI->∃S,c0 (cl F 0 0) (b.map d5) (nB s0 K P)=D (.ok .next,nB s0 (K++iL (aF b)) S):=by
 induction b with
 |nil=>exactλK P S=>⟨P,cA (λa=>okN (nB _ a _)) (ci _).symm⟩
 |cons c r S=>
  exactλK P h=>(S _ _ (by rw[cz,az];exact zz h)).elim λt e=>
   ⟨t,(d' (U' F c _ _ _ (f2 h))).trans (e.trans (cA (λa=>okN (nB _ a t)) ((cz ..).trans (cz _ ..))))⟩
def sU n o(b:By)(h:b.length<=1000000):ag (n+1) 0 [.bytes b] o=D (.ok (.tup (iL (aF b))),o):=
 (Va (ag n) (D (.bytes b)) b [] I (FL (f6 h rfl))).elim λF F=>
  au [tL F,tO 31 (xl [.list _] 0 _ rfl ((ints_length _).trans (jr b)▸f5 h rfl)),tV 5 (bk _ (bp (aF b)))] rfl (bp _)
def DJ p:∀q m,m<sh p q->∃x,p[m]?=D x/\q[m]?=D x:=by
 induction p with
 |nil=>exactλF F h=>aB h (eX _)
 |cons a p F=>
  intro q m h;cases q with
  |nil=>exact aB h (eX _)
  |cons b q=>
   by_cases e:a=b
   .cases m with
    |zero=>exact⟨a,rfl,cA _ e.symm⟩
    |succ m=>exact F q m (nZ (Hf h (nt e)))
   .exact aB (Hf h (pD e)) (eX _)
def DK p:∀q,sh p q<min p.length q.length->E2 λx y=>A3 (p[sh p q]?=D x) (q[sh p q]?=D y) (x≠y):=by
 induction p with
 |nil=>exactλF h=>aB (bc h (eA ..)) (eX _)
 |cons a p F=>
  intro q h;cases q with
  |nil=>exact aB (bc h (eY ..)) (eX _)
  |cons b q=>
   by_cases e:a=b
   .rw[nt e];exact F q (Jo (nt e▸h))
   .rw[pD e];exact⟨a,b,rfl,rfl,e⟩
noncomputable def nC(p q:aD)(m:Nat):St:=⟨[D (.tup (iL p)),D (.tup (iL q)),D (.int ((min p.length q.length:Nat):Int)),D (.int (m:Int))],[]⟩
def Vb F(h:m<sh p q):dw F 1 0 (nC p q m)=D (.ok J,nC p q m):=
 (DJ p q m h).elim λx y=>ew [t1 (bc h (FQ (kc p q).1 (kc p q).2)),tV 1 (bv (iO y.1)),tV 1 (bv (iO y.2)),t1 (lQ (os:=[]) (dT (ct x)))]
def Vc F p q:dw F 1 0 (nC p q (sh p q))=D (.ok V,nC p q (sh p q)):=
 (Ha ..).elim (λh=>(DK p q h).elim λx y e=>ew [t1 h,tV 1 (bv (iO e.1)),tV 1 (bv (iO e.2)),t0 (lQ (os:=[]) (dF e.3))]) λh=>ew [t0 (ar.mpr h)]
def Vd F p q k(h:sh p q<k):cB (dw F 1 0) (cM F 1 0) k (nC p q 0)=D (.ok .next,nC p q (sh p q)):=
 w_count _ (λK h=>Vb F h) (λK K=>c3 []) (Vc F p q) h
def DL(a b:Nat):Y0 (et V "min" [.int a,.int b]) (.int (min a b:Nat)):=λF=>by
 have e:(if b<(a:Int)then(b:Int)else a)=(min a b):=by split <;> (first |exact Jp zA |exact Jq zA)
 rw[<- e];rfl
def DM n o p q(a:p.length<100000):ag (n+1) 1 [.tup (iL p),.tup (iL q)] o=D (.ok (.int (sh p q)),o):=
 au [tV 36 (show Y0 (et V "min" [.int ((iL p).length),.int ((iL q).length)]) (.int (min p.length q.length:Nat))from ints_length p▸ints_length q▸DL _ _),tL (Vd (ag n) p q gv (i9 (aT (kc p q).1 a) zD))] (cw (bp p) (bp q))
def Ve n o(x:Nat)(a:x<256^8):ag (n+1) 4 [.int x] o=D (.ok (.bytes (be x)),o):=
 have F:=by
  have:=np a;rw[C5]at this;exact a1 this rfl
 au [t0 (eX x),tV 8 (U3 x),tV 23 (sS (ic x+7) 8 zD),tV 8 (xh x _ F (C4 x))]
def DN n o(b a:Nat)(c:b=128\/b=192)(d:a<256^8):ag (n+2) 6 [.int b,.int a] o=D (.ok (.bytes (hd b a)),o):=by
 have F:=np d;by_cases h:a<=55
 .rw[pB h];exact au [t1 h,tV 33 (hO (lR (J4 c h)) (bw rfl))]
 .rw[pC (aM.mp h)];exact au [t0 h,tF (Ve n [] _ d),tV 33 (hO (lR (J5 c F)) (bw rfl)),tV 20 (dy [(b+55+(be a).length).toUInt8] (be _) (by rw[az,bo];exact a7 F rfl))]
def eR:∀x:PV,bO x=J->aO x=J:=C2 (λF=>rfl) (λF F h=>h) rfl λF F F F F K=>cH.mpr ⟨F,K⟩
def DO:∀l:List _,c4 l=J->bX l=J:=Un rfl λx r F K K=>cH.mpr ⟨eR x F,K⟩
def iR y r:cb (y::r)=enc y++cb r:=rfl
def nD l:enc (.U l)=hd 192 (cb l).length++cb l:=by rfl
noncomputable abbrev xo(x:PV)(d:Nat)(a:By)(b:Option PV):St:=⟨[D x,D (.int (d:Int)),D (.bytes a),b],[]⟩
def Vf F x d l:∀K P,(K++cb l).length<=aI->(∀y∈l,F 7 [y,.int (d+1:Nat)] []=D (.ok (.bytes (enc y)),[]))->∃S,c0 (cl F 7 0) l (xo x d K P)=D (.ok .next,xo x d (K++cb l) S):=by
 induction l with
 |nil=>exactλK P S S=>⟨P,cA (λa=>okN (xo x d a _)) (ci _).symm⟩
 |cons y r W=>
  intro K P P S;have X:K++cb (y::r)=K++enc y++cb r:=(cz ..).symm;rw[X]at P |-
  refine(W _ (D y) P λz P=>S z (.tail _ P)).elim λs e=>⟨s,(d' (c7 [tF (S y (.head _)),tV 20 (dy _ _ (qQ (az▸P)))])).trans e⟩
def sV l y(h:y∈l):high y+1<=highs l:=by
 induction l with
 |nil=>exact z7 h
 |cons x r F=>exact me h (FM ..) λh=>ak (F h) (Zh ..)
def xp l y(h:y∈l):(enc y).length<=(cb l).length:=by
 induction l with
 |nil=>exact z7 h
 |cons x r F=>exact ak (me h (bl ..) λh=>b7 (F h)) (aq az.symm)
def xq l y(a:c4 l=J)(h:y∈l):bO y=J:=by
 induction l with
 |nil=>exact z7 h
 |cons x r F=>exact me h (hA a).1 (F (hA a).2)
def Vg n d l o(b:d<=60)(c:c4 l=J)(a:(enc (.U l)).length<=1000000)(e:∀y∈l,ag (n+2) 7 [y,.int (d+1:Nat)] []=D (.ok (.bytes (enc y)),[])):
  ag (n+3) 7 [.U l,.int d] o=D (.ok (.bytes (enc (.U l))),o):=by
 replace a:=az▸a;exact bi (Vf _ (.U l) d l [] I (a5 a rfl) e) λF F=>au [t0 (ar.mpr b),tL F,tF (DN n [] _ _ (.inr rfl) (di (a5 a rfl))),tV 20 (dy _ _ (by rw[az,bo];exact a1 a rfl))] (cw (DO l c) rfl)
def DP(h:c.toNat<128):enc (.bytes [c])=[c]:=(iP ⟨rfl,h⟩)
def nE(h:¬(b.length=1/\(b.headD 0).toNat<128)):enc (.bytes b)=hd 128 b.length++b:=(iN h)
def Vh(n d:Nat)(b:By) o(a:d<=60)(c:(enc (.bytes b)).length<=1000000):ag (n+3) 7 [.bytes b,.int d] o=D (.ok (.bytes (enc (.bytes b))),o):=by
 have F:¬(b.length=1/\(b.headD 0).toNat<128)->ag _ 6 _ _=D _/\Y0 _ _:=λh=>by
  rw[nE h,az]at c;exact⟨DN n [] _ _ (.inl rfl) (di (a5 c rfl)),dy _ _ (by rw[az,bo];exact a1 c rfl)⟩
 by_cases P:b.length=1
 .clear c;obtain⟨c,rfl⟩:=fP.mp P;by_cases K:c.toNat<128
  .rw[DP K];exact au [t0 (ar.mpr a),t1 (ct 1),t1 K]
  .have h:¬([c].length=1/\([c].headD 0).toNat<128):=λz=>K z.2;refine eD (λS W=>?_) (F h);rw[nE h];exact au [t0 (ar.mpr a),t1 (ct 1),t0 K,tF S,tV 20 W]
 .have h:¬(b.length=1/\(b.headD 0).toNat<128):=λz=>P z.1;obtain⟨S,W⟩:=F h;rw[nE h];exact au [t0 (ar.mpr a),t0 P,tF S,tV 20 W]
abbrev R7(m:Nat)(x:PV)(d n:Nat)(o:List av):Prop:=bO x=J->high x<=m->m+d<=60->(enc x).length<=1000000->ag (n+m+3) 7 [x,.int (d:Int)] o=D (.ok (.bytes (enc x)),o)
def Vi m:∀x d n o,R7 m x d n o:=by
 have Z:∀{m d n o},(∀l,c4 l=J->highs l<=m->m+d<=60->(enc _).length<=1000000->∀y∈l,ag _ 7 ..=D _)->∀x,R7 m x d n o:=λ{m d n o} h x K=>ex (P:=λx=>R7 m x d n o) K (λl K W F S=>Vg _ d l o (a5 F rfl) K S (h l K W F S)) (λb X X F S=>Vh _ d b o (a5 F rfl) S) K
 induction m with
 |zero=>exactλx d n o=>Z (λl X W X X y X=>aB (ak (sV l y X) W) (yU _)) x
 |succ m a=>exactλx d n o=>Z (m:=m+1) (λl K W F S y X=>a y _ n _ (xq l y K X) (jK (ak (sV l y X) W)) (J6 F) (ak (xp l y X) (uh (az▸S)))) x
def pP m x n o(a:bO x=J)(b:high x<=m)(c:m<=60)(d:(enc x).length<=1000000):ag (n+m+4) 8 [x] o=D (.ok (.bytes (enc x)),o):=
 au [tF (Vi m x 0 n [] a b c d)] (iQ (eR x a))
def DQ os(h:decide (i≠0)=c):Y (truth (.int i)) os c os:=λl=>
 cA (λc=>D (Except.ok c,(⟨l,os⟩:St))) (((cA _ pu).trans decide_not.symm).trans h)
def Vj i:Y0 (binop .Mult V (.int 16) (.int i)) (.int (16*i)):=λK=>by
 show(if(16:Int).natAbs<2^64\/i.natAbs<2^64 then rt _ else aC) _=_;exact congrFun (iP (.inl zD)) _
def sX(n m:Nat):clip n m=min m n:=K7
def Vk{b:Type}(a:List b) m:a.drop (min m a.length)=a.drop m:=by
 by_cases h:m<=a.length
 .rw[fM h]
 .rw[FD (yY h),mF,qI (yY h)]
def nF(a:List b)(m:Nat):cut a (D m) I=a.drop m:=(congr (cA _ (sX ..)) uy).trans (Vk _ m)
def kl(a:List b)(m:Nat):cut a I (D m)=a.take m:=(cA (List.take · _) (sX ..)).trans abc.symm
def Vl(c:List d)(a b:Nat):cut c (D a) (D b)=(c.drop a).take (b - a):=by
 show(c.take (clip _ b)).drop (clip _ a)=_;rw[sX,sX,<- abc,<- qC];by_cases h:a<=c.length
 .rw[fM h]
 .rw[FD (yY h),qI (abd ..),qI (ak (abd ..) (yY h))]
def pQ xs(m:Nat):Y0 (er (.tup xs) (D (.int m)) I) (.tup (xs.drop m)):=λK=>cA (λl=>rt ..) (nF _ m)
def Vm xs(m:Nat):Y0 (er (.tup xs) I (D (.int m))) (.tup (xs.take m)):=λK=>cA (λl=>rt ..) (kl _ m)
def xr(a:By)(m:Nat):Y0 (er (.bytes a) I (D (.int m))) (.bytes (a.take m)):=λK=>cA (λl=>rt ..) (kl _ m)
def sY(c:By)(a b:Nat):Y0 (er (.bytes c) (D (.int a)) (D (.int b))) (.bytes ((c.drop a).take (b - a))):=λK=>cA (λl=>rt ..) (Vl _ a b)
def DR(b:By)(h:b.length<=1048576):Y0 (rl [.bytes b,.str "big"]) (.int (ba b)):=congrFun (iP ⟨by decide+kernel,h⟩)
noncomputable abbrev DS(s0 s1 s2:Option PV):St:=⟨[s0,s1,s2,I,I,I,I,I],[]⟩
def Vo F s0 s1 p:∀s2,Vp p->∃K,c0 (cl F 2 0) (iL p) (DS s0 s1 s2)=D (.ok .next,DS s0 s1 K):=by
 induction p with
 |nil=>exactλs2 K=>⟨s2,rfl⟩
 |cons x r K=>
  exactλs2 h=>(K (D (.int x)) h.tail).imp λs e=>(d' (c7 [t0 (U2 (os:=[]) (dF (aK.mpr h.head.1))),t0 (pN (os:=[]) (dF (K8 h.head.2)))])).trans e
noncomputable def lS:Nat->Nat->List PV
 |_,0=>[]
 |a,n+1=>.int (a:Int)::lS (a+2) n
def Vq n:∀a:Nat,(List.range n).map (λ(i:Nat)=>PV.int (a+2*i))=lS a n:=by
 induction n with
 |zero=>exactλK=>rfl
 |succ n P=>
  intro a;rw[Hk,i8,gR];exact congr (cA _ rfl) ((jJ λi K=>cA _ K9).trans (P _))
def sZ{k:Nat}(d: -16777216<=a/\a<=16777216)(f: -16777216<=b/\b<=16777216)(g:c=1\/c=2\/c= -1)(h:k<=2000000)(e:iZ a b c=k)(j:(List.range k).map (λ(i:Nat)=>PV.int (a+i*c))=L):fV a b c=D L:=by
 unfold fV;rw[e,e0,iP ⟨d,f,g,a1 h rfl⟩,j]
def Vr(n:Nat)(h:n<=1000000):Y0 (jV [.int 0,.int n,.int 2]) (.seq (lS 0 ((n+1) / 2))):=λK=>by
 have e:fV 0 n 2=D (lS 0 _):=sZ ⟨by decide,by decide⟩ ⟨gk (ql zD) (da _),uQ h⟩ (.inr (.inl rfl)) (ak (Nat.div_le_self ..) (a6 h rfl)) (by unfold iZ;rw[iP zD];split <;> (first |exact K_ |exact K' zA)) (by rw[<- Vq];exact jJ λi K=>cA _ (cA _ (Fz ..)));show jM ..=_;rw[e];rfl
def oct(b:By):List PV:=b.map d5
def pR b:bytesOf (oct b)=D b:=by
 induction b with
 |nil=>rfl
 |cons c r K=>
  show(q9 _).bind _=_;rw[((xj c.toNat_lt).trans (cA _ (w5 rfl))),K];rfl
def Vs(h:0<=x)(b:x.toNat<256):oct (a++ [x.toNat.toUInt8])=oct a++ [.int x]:=
 jH.trans (cA (λy:Int=>oct _++ [PV.int y]) ((cA _ (jq b)).trans (jz h)))
section
variable (F:Call) (s0 s1 s2 s3 s4:Option PV)
noncomputable abbrev pS(a:aD)(b:List PV)(c:Option PV):St:=⟨[s0,s1,s2,s3,s4,D (.tup (iL a)),D (.loc 0),c],[.list b]⟩
def Vt s7 row(a:Nat) x y acc(d:row[a]?=D x)(e:row[a+1]?=D y)(b:Vn x)(c:Vn y)(f:acc.length<aI):
  cl F 2 1 (.int a) (pS s0 s1 s2 s3 s4 row (oct acc) s7)=D (.ok .next,pS s0 s1 s2 s3 s4 row (oct (acc++ [(16*x+y).toNat.toUInt8])) (D (.int a))):=by
 rw[Vs (La b.1 c.1) (zs b.2 c.2)];exact c7 [tV 1 (bv (iO d)),tV 22 (Vj x),tV 1 (bv (iO e)),tO 8 (eQ [.list (oct _)] 0 _ (.int (16*x+y)) rfl (aT (aq (bN _)) f))]
def Vu row(b:Vp row)(c:row.length<=1000000) n:∀a K P,a+2*n=row.length->K.length<=a->
  ∃S,c0 (cl F 2 1) (lS a n) (pS s0 s1 s2 s3 s4 row (oct K) P)=D (.ok .next,pS s0 s1 s2 s3 s4 row (oct (K++pairs (row.drop a))) S):=by
 induction n with
 |zero=>exactλa K P h S=>⟨P,cA (λl=>okN (pS ..)) ((cA (λr=>K++pairs r) (qI (Lb h))).trans (ci _)).symm⟩
 |succ n S=>
  refineλa K P h P=>(S _ (K++ [(16*row[a]+row[a+1]).toNat.toUInt8]) _ (Ld h) (ak (aq az) (ec P (fy 1)))).imp λs e=>(d' (Vt F _ _ _ _ _ _ _ a _ _ _ (bI (zH h)) (bI (zI h)) (b _ (gr _)) (b _ (gr _)) (Lc h c P))).trans (e.trans ?_);rw[k4 (zH h),k4 (zI h),cz];rfl
end
def DT{R:List _}(c:iL (rowOf p leaf)=R)(d:Vp p)(a:R.length<=1002) s2 s3 s4{G:Prop}(K:∀b,Y0 (jV [.int 0,.int R.length,.int 2]) (.seq (lS 0 ((R.length+1) / 2)))->
  c0 (cl (ag n) 2 1) (lS 0 ((R.length+1) / 2)) ⟨[D (.tup (iL p)),D (.bool leaf),s2,s3,s4,D (.tup R),D (.loc 0),I],[.list []]⟩=D (.ok .next,⟨[D (.tup (iL p)),D (.bool leaf),s2,s3,s4,D (.tup R),D (.loc 0),b],[.list (oct (pk p leaf))]⟩)->
  Y (et V "bytes" [.loc 0]) [.list (oct (pk p leaf))] (.bytes (pk p leaf)) [.list (oct (pk p leaf))]->G):G:=by
 subst c;have e:=ints_length (rowOf p leaf);exact(Vu _ _ _ _ _ _ _ (w7 d _) (a1 (e▸a) rfl) _ 0 [] _ (e.symm▸Le (sJ p _)) (aL _)).elim λb P=>
  K _ (Vr _ (a1 a rfl)) P (U7 _ (pR _) (a1 (ak (pairs_len _) (e▸a)) rfl) rfl)
def run2 n o p leaf(a:Vp p)(b:p.length<=1000):ag (n+1) 2 [.tup (iL p),.bool leaf] o=D (.ok (.bytes (pk p leaf)),o):=by
 refine(Vo (ag n) (D (.tup (iL p))) (D (.bool leaf)) p I a).elim λs2 c=>?_;have P:∀{f:Int},f=lF _->∃S,ga (ag n) 2 2 ⟨[D (.tup (iL p)),D (.bool leaf),s2,D (.int f),I,I,I,I],[]⟩=D (.ok (.ret (.bytes (pk p leaf))),S):=λ{f} d=>by
  have e:=iK (iL p).length 2 zD;have W:=ints_length p;have g:((((iL p).length% 2:Nat):Int)≠0)↔p.length% 2=1:=W▸Lf;have K:∀H:List PV,H.length<=2->(H++iL p).length<=1002:=λH h=>ak (aq (az.trans (cA (H.length+·) W))) (a8 h b rfl);by_cases h:p.length% 2=1
  .exact DT (n:=n) (leaf:=leaf) (R:=.int (f+1)::iL p) (d▸cA (λq=>iL (q++p)) (iP h)) a (K [_] (fy 1)) s2 (D (.int f)) (D (.tup [.int (f+1)])) λW X Z b=>
    ⟨⟨[D (.tup (iL p)),D (.bool leaf),s2,D (.int f),D (.tup [.int (f+1)]),D (.tup (.int (f+1)::iL p)),D (.loc 0),W],[.list (oct (pk p leaf))]⟩,cm [tV 24 e,tB (DQ [] (dT (g.mpr h))),tV 20 (xi [.int (f+1)] (iL p) (a1 (K [_] (fy 1)) rfl)),tR X,tL Z,tO 33 b]⟩
  .exact DT (n:=n) (leaf:=leaf) (R:=.int f:: .int 0::iL p) (d▸cA (λq=>iL (q++p)) (iN h)) a (K [_,_] (aL 2)) s2 (D (.int f)) (D (.tup [.int f,.int 0])) λW X Z b=>
    ⟨⟨[D (.tup (iL p)),D (.bool leaf),s2,D (.int f),D (.tup [.int f,.int 0]),D (.tup (.int f:: .int 0::iL p)),D (.loc 0),W],[.list (oct (pk p leaf))]⟩,cm [tV 24 e,tB (DQ [] (dF λz=>h (g.mp z))),tV 20 (xi [.int f,.int 0] (iL p) (a1 (K [_,_] (aL 2)) rfl)),tR X,tL Z,tO 33 b]⟩
 cases leaf with
 |true=>exact(P rfl).elim λS e=>au [tL c,tZ 4 e] (cw (bp p) rfl)
 |false=>exact(P rfl).elim λS e=>au [tL c,tZ 4 e] (cw (bp p) rfl)
noncomputable def xt(b:By):Except Exc PV:=match un b with
 |some (p,l)=>.ok (.tup [.tup (iL p),.bool l])
 |none=>.error .bU
def Vv n o(b:By)(h:b.length<=1000000):ag (n+2) 3 [.bytes b] o=D (xt b,o):=by
 have F:=sU n [] b h;unfold xt un;cases e:aF b with
 |nil=>
  replace F:=e▸F;exact au [tF F]
 |cons f r=>
  replace F:=e▸F;dsimp only;by_cases K:3<f
  .rw[iP K];exact au [tF F,tV 1 (bv (xs:=iL (f::r)) (m:=0) rfl),t1 (pN (os:=[]) (dT K))]
  .rw[iN K];by_cases P:f% 2=1
   .rw[iP P];exact au [tF F,tV 1 (bv (xs:=iL (f::r)) (m:=0) rfl),t0 (pN (os:=[]) (dF K)),tV 1 (bv (xs:=iL (f::r)) (m:=0) rfl),tC (decide (2<=f)) (xg (os:=[]) (ct (decide (2<=f)))),tV 1 (bv (xs:=iL (f::r)) (m:=0) rfl),t1 (lQ (os:=[]) (dT P)),tV 2 (pQ (iL (f::r)) 1)] rfl (cw (bp r) rfl)
   .rw[iN P];cases r with
    |nil=>
     have:=cA gS e;rw[jr]at this;exact(LZ this).elim
    |cons z r=>
     dsimp only;by_cases S:z=0
     .rw[iP S];exact au [tF F,tV 1 (bv (xs:=iL (f::z::r)) (m:=0) rfl),t0 (pN (os:=[]) (dF K)),tV 1 (bv (xs:=iL (f::z::r)) (m:=0) rfl),tC (decide (2<=f)) (xg (os:=[]) (ct (decide (2<=f)))),tV 1 (bv (xs:=iL (f::z::r)) (m:=0) rfl),t0 (lQ (os:=[]) (dF P)),tV 1 (bv (xs:=iL (f::z::r)) (m:=1) rfl),t0 (DE (os:=[]) (dF (nN S))),tV 2 (pQ (iL (f::z::r)) 2)] rfl (cw (bp r) rfl)
     .rw[iN S];exact au [tF F,tV 1 (bv (xs:=iL (f::z::r)) (m:=0) rfl),t0 (pN (os:=[]) (dF K)),tV 1 (bv (xs:=iL (f::z::r)) (m:=0) rfl),tC (decide (2<=f)) (xg (os:=[]) (ct (decide (2<=f)))),tV 1 (bv (xs:=iL (f::z::r)) (m:=0) rfl),t0 (lQ (os:=[]) (dF P)),tV 1 (bv (xs:=iL (f::z::r)) (m:=1) rfl),t1 (DE (os:=[]) (dT S))]
def Vx n o(b:By)(h:b.length<=64):ag (n+1) 5 [.bytes b] o=D (if b.take 1=[0]then .error .co else .ok (.int (ba b)),o):=by
 by_cases q:b.take 1=[0]
 .rw[iP q];exact au [tV 2 (xr b 1),t1 q]
 .rw[iN q];exact au [tV 2 (xr b 1),t0 q,tV 10 (DR b (a1 h rfl))]
def s_(b:By)(p m:Nat):Except Exc PV:=if b.length<p+m then .error .co else if((b.drop p).take m).take 1=[0]then .error .co else if ba ((b.drop p).take m)<=55 then .error .co else .ok (.int (ba ((b.drop p).take m):Int))
def Vy n o(b:By)(p m:Nat)(a:m<=64):ag (n+2) 9 [.bytes b,.int p,.int m] o=D (s_ b p m,o):=by
 unfold s_;by_cases F:b.length<p+m
 .rw[iP F];exact au [t1 F]
 .rw[iN F];have K:=Vx n [] ((b.drop p).take m) (by rw[cK];exact ak (eA ..) a);have P:=sY b p (p+m);rw[gQ]at P;by_cases S:((b.drop p).take m).take 1=[0]
  .rw[iP S]at K |-
   exact au [t0 F,tV 2 P,tG K]
  .rw[iN S]at K |-
   by_cases S:ba ((b.drop p).take m)<=55
   .rw[iP S];exact au [t0 F,tV 2 P,tF K,t1 S]
   .rw[iN S];exact au [t0 F,tV 2 P,tF K,t0 S]
def xu(a:x=cv l+z)(h:z<64):tf (192<=x) l:=by
 cases l with
 |false=>exact zr h a
 |true=>exact ak (bl _ z) (aq a.symm)
def iS(a b:Nat)(h:b<=a):Y0 (binop .Sub V (.int a) (.int b)) (.int (a - b:Nat)):=λF=>by
 rw[Int.ofNat_sub h];rfl
def nG(b:By)(p:Nat):Except Exc PV:=match eO (b.drop p)with
 |some (l,h,n)=>.ok (.tup [.bool l,.int ((p+h:Nat):Int),.int ((p+h+n:Nat):Int)])
 |none=>.error .co
def Vz{r:By}(g:¬b.length<=p)(k:b[p]?=D f)(c:b.drop (p+1)=r)(i:p+1+r.length=b.length){l:Bool}(e:f.toNat=cv l+z)(d:z<64)(a:55<z):
  ag (n+3) 10 [.bytes b,.int p] o=D ((match (if r.length<z - 55\/(r.take (z - 55)).headD 0=0\/ba (r.take (z - 55))<=55\/r.length<z - 55+ba (r.take (z - 55))then I else D (l,1+(z - 55),ba (r.take (z - 55))))with
   |some (l,h,n)=>.ok (.tup [.bool l,.int ((p+h:Nat):Int),.int ((p+h+n:Nat):Int)])
   |none=>.error .co:Except Exc PV),o):=by
 have P:=Vy n [] b (p+1) (z - 55) (by exact bj (Nat.sub_lt_of_lt d));have K:s_ b (p+1) (z - 55)=if r.length<z - 55\/(r.take (z - 55)).headD 0=0\/ba (r.take (z - 55))<=55 then .error .co else .ok (.int (ba (r.take (z - 55)):Int)):=by
  unfold s_;rw[c];by_cases F:r.length<z - 55
  .rw[iP (by exact g9 (Eq.symm i) (G_ F _)),iP (.inl F)]
  .rw[iN (by exact L0 i F)];have X:(r.take (z - 55)).take 1=[0]↔(r.take (z - 55)).headD 0=0:=by
    cases S:r.take (z - 55)with
    |nil=>
     have:=cA gS S;rw[cK]at this;exact(L1 a this F).elim
    |cons c t=>simp
   by_cases c:(r.take (z - 55)).headD 0=0
   .rw[iP (X.mpr c),iP (.inr (.inl c))]
   .rw[iN (λq=>c (X.mp q))];by_cases Z:ba (r.take (z - 55))<=55
    .rw[iP Z,iP (.inr (.inr Z))]
    .rw[iN Z,iN (λq=>by rcases q with q |q |q <;> contradiction)]
 replace P:=K▸P;have S:¬f.toNat<128:=by have:=nq l;exact zM this e
 have j:tf (192<=f.toNat) l:=xu e d;have F:=iS f.toNat (cv l) (by exact g8 e (bl _ _));replace F:=(show f.toNat - cv l=z from by exact uN e)▸F;have K:=iS z 55 (by exact bj a);have W:=gH k;generalize ba (r.take (z - 55))=m at P |-
 by_cases q:r.length<z - 55\/(r.take (z - 55)).headD 0=0\/m<=55
 .rw[iP q]at P;rw[iP (by rcases q with q |q |q;exact .inl q;exact .inr (.inl q);exact .inr (.inr (.inl q)))];exact au [t0 g,tV 1 W,t0 S,tC l j,tV 21 F,t1 a,tV 21 K,tG P] (e:=(by cases l <;> kernel_rfl))
 .rw[iN q]at P;by_cases X:r.length<z - 55+m
  .rw[iP (.inr (.inr (.inr X)))];exact au [t0 g,tV 1 W,t0 S,tC l j,tV 21 F,t1 a,tV 21 K,tF P,t1 (show b.length<p+1+(z - 55)+m by exact L2 i X)] (e:=(by cases l <;> kernel_rfl))
  .rw[iN (λx=>X (((x.resolve_left λh=>q (.inl h)).resolve_left λh=>q (.inr (.inl h))).resolve_left λh=>q (.inr (.inr h))))];have e:p+(1+(z - 55))=p+1+(z - 55):=by exact Eq.symm (c_ _ _ _)
   dsimp only;rw[e];have c:¬m=1:=λe=>q (.inr (.inr (Mine.e3 e rfl)));have Z:¬b.length<p+1+(z - 55)+m:=by exact L3 i X
   cases l with
   |true=>
    exact au [t0 g,tV 1 W,t0 S,t1 j,tV 21 F,t1 a,tV 21 K,tF P,t0 Z]
   |false=>
    exact au [t0 g,tV 1 W,t0 S,t0 j,tV 21 F,t1 a,tV 21 K,tF P,t0 Z,t0 c]
def VA{r:By}(d:¬b.length<=p)(i:b[p]?=D f)(j:b.drop (p+1)=r)(g:p+1+r.length=b.length){l:Bool}(c:f.toNat=cv l+z)(a:¬55<z):
  ag (n+3) 10 [.bytes b,.int p] o=D ((match (if r.length<z\/(l=V/\(z=1/\(r.headD 0).toNat<128))then I else D (l,1,z))with
   |some (l,h,n)=>.ok (.tup [.bool l,.int (p+h:Nat),.int (p+h+n:Nat)])
   |none=>.error .co:Except Exc PV),o):=by
 have K:=zM (nq l) c;have W:=xu c (Mine.a2 (ml a) rfl);have F:=iS f.toNat (cv l) (g8 c (bl ..));replace F:=(show f.toNat - cv l=z from uN c)▸F;have P:=gH i;by_cases q:r.length<z
 .rw[iP (.inl q)];exact au [t0 d,tV 1 P,t0 K,tC l W,tV 21 F,t0 a,t1 (show b.length<p+1+z by exact g9 (Eq.symm g) (G_ q _))] (e:=(by cases l <;> kernel_rfl))
 .have X:=L4 g q;clear c;cases l with
  |true=>
   rw[iN (λx=>by rcases x with x |⟨x,_⟩;exact q x;exact Mine.z2 x)];exact au [t0 d,tV 1 P,t0 K,t1 W,tV 21 F,t0 a,t0 X]
  |false=>
   by_cases b:z=1
   .subst b;clear g;cases r with
    |nil=>simp at q
    |cons c t=>
     have Z:=by
      have:=cA (λl=>l[0]?) j;rw[abe]at this;exact this
     have S:=gH Z;by_cases Z:c.toNat<128
     .rw[iP (.inr ⟨rfl,rfl,Z⟩)];exact au [t0 d,tV 1 P,t0 K,t0 W,tV 21 F,t0 a,t0 X,t1 (ct 1),t1 (ct (p+1)),tV 1 S,t1 Z]
     .rw[iN (λx=>by rcases x with x |⟨_,_,x⟩;exact q x;exact Z x)];exact au [t0 d,tV 1 P,t0 K,t0 W,tV 21 F,t0 a,t0 X,t1 (ct 1),t1 (ct (p+1)),tV 1 S,t0 Z]
   .rw[iN (λx=>by rcases x with x |⟨_,x,_⟩;exact q x;exact b x)];exact au [t0 d,tV 1 P,t0 K,t0 W,tV 21 F,t0 a,t0 X,t0 b]
def VB n o(b:By)(p:Nat):ag (n+3) 10 [.bytes b,.int p] o=D (nG b p,o):=by
 unfold nG;by_cases F:b.length<=p
 .exact(qI F)▸(au [t1 F])
 .haveI S:=bI (aM.mp F);rw[k4 (aM.mp F)];have W:p+1+(b.drop (p+1)).length=b.length:=by rw[cY];exact L5 F
  by_cases K:b[p].toNat<128
  .have e:eO (b[p]::b.drop (p+1))=D (V,0,1):=by unfold eO;exact(iP K)
   exact e▸(au [t0 F,tV 1 (gH S),t1 K])
  .obtain⟨l,z,P⟩:=w6 _ K;rw[nr P.1 P.2];by_cases K:55<z
   .rw[iP K];exact Vz F S rfl W P.1 P.2 K
   .rw[iN K];exact VA F S rfl W P.1 K
def km(k:Nat)(b:By)(p:Nat):Except Exc PV:=match rd k (b.drop p)with
 |some (x,c)=>.ok (.tup [x,.int ((p+c:Nat):Int)])
 |none=>.error .co
def DU(h:rd k b=D (x,c)):aO x=J:=eR x (C9 _ _ _ _ h).1
def ta(h:rd k (b.drop p)=D y):km k b p=.ok (.tup [y.1,.int (p+y.2:Nat)]):=by delta km;rw[h]
def pT(h:rd k (b.drop p)=I):km k b p=.error .co:=by delta km;rw[h]
def VC(e:eO (b.drop p)=D (l,h,m)):nG b p=.ok (.tup [.bool l,.int (p+h:Nat),.int (p+h+m:Nat)]):=by delta nG;rw[e]
def VD(e:eO (b.drop p)=I):nG b p=.error .co:=by delta nG;rw[e]
def VE k b p:nl (km k b p)=J:=
 oe _ (λh=>pT h▸rfl) λy h=>ta h▸cw (DU h) rfl
noncomputable def fI(b:By)(p d s e:Nat)(a:List PV)(z:Option PV):St:=⟨[D (.bytes b),D (.int (p:Int)),D (.int (d:Int)),D (.bool J),D (.int (s:Int)),D (.int (e:Int)),D (.loc 0),z],[.list a]⟩
def VF(F:Call){p d s e c:Nat}(h:F 11 [.bytes b,.int s,.int (d+1:Nat)] [.list a]=D (.ok (.tup [x,.int (s+c:Nat)]),[.list a]))(f:a.length<aI):
  cM F 11 0 (fI b p d s e a z)=D (.ok .next,fI b p d (s+c) e (a++ [x]) (D x)):=
 c3 [tF h,tO 8 (eQ [.list _] 0 _ x rfl f)]
def VG(F:Call){p d s e:Nat}(h:F 11 [.bytes b,.int s,.int (d+1:Nat)] [.list a]=D (.error .co,[.list a])):
  cM F 11 0 (fI b p d s e a z)=D (.error .co,fI b p d s e a z):=
 c3 [tG h]
def pU F(h:s<e):dw F 11 0 (fI b p d s e a z)=D (.ok J,fI b p d s e a z):=ew [t1 h]
def DV F(h:¬s<e):dw F 11 0 (fI b p d s e a z)=D (.ok V,fI b p d s e a z):=ew [t0 h]
def VH(q:e<=b.length)(v:b.length<=100000)(n:∀s o,F 11 [.bytes b,.int s,.int (d+1:Nat)] o=D (km k b s,o)) a:∀s P z K,s<=e->e - s<a->a<K->P.length<=s->∀{G:Prop},
  (∀m c,dW (rd k) a ((b.drop s).take (e - s))=D m->cB (dw F 11 0) (cM F 11 0) K (fI b p d s e P z)=D (.ok .next,fI b p d e e (P++m) c)->G)->
  (∀o,dW (rd k) a ((b.drop s).take (e - s))=I->cB (dw F 11 0) (cM F 11 0) K (fI b p d s e P z)=D (.error .co,o)->G)->
  (∀i S c,dW (rd k) a ((b.drop s).take (e - s))=I->i≠e->cB (dw F 11 0) (cM F 11 0) K (fI b p d s e P z)=D (.ok .next,fI b p d i e S c)->G)->G:=by
 induction a with
 |zero=>exactλs P z K x h=>aB h (eX _)
 |succ a r=>
  intro s P z K Z w h u G j l g;haveI X:((b.drop s).take _).length=e - s:=cK.trans (fM (ak (uK q _) (aq cY.symm)));revert j l g;refine kp h λK h j l g=>?_;by_cases W:(b.drop s).take (e - s)=[]
  .have S:=JY ((cA gS W).symm.trans X) Z;exact j [] z (iP W) ((kj (DV F (FN (aq S.symm)))).trans (by rw[S,ci]))
  .have S:=Nat.lt_of_sub_pos (X▸mH.mpr W);haveI Z:=n s [.list P];haveI X:=Us (f:=rd k) (n:=a) W;replace X:=Uv▸X;refine Mine.oe (rd k (b.drop s)) (λW=>?_) λy W=>?_
   .
    rw[pT W]at Z;replace X:=W▸X;exact l _ X (DH (pU F S) (VG F Z))
   .
    rw[ta W]at Z;rw[W]at X;have t:=VF F (e:=e) (p:=p) (z:=z) Z (g2 (aT u S) q (ak v zD));haveI Z:=(sI W).2;by_cases W:y.2<=e - s
    .haveI k:((b.drop s).take (e - s)).drop y.2=(b.drop _).take (e - (s+y.2)):=by
      rw[qC,yZ,abf]
     replace X:=X.trans ((cA (Option.bind · _) (iP W)).trans (cA (λq=>(dW _ a q).map _) k));exact r _ (P++ [y.1]) _ K (L6 Z W) (L7 Z w W) (nZ h) (ak (aq az) (ec u Z))
      (λm c q w=>j _ c (X.trans (cA _ q)) ((hQ (pU F S) t).trans (w.trans (cA (λa=>okN (fI b p d e e a c)) (cz P ..)))))
      (λo q w=>l o (X.trans (cA _ q)) ((hQ (pU F S) t).trans w))
      λi a c q n w=>g i a c (X.trans (cA _ q)) n ((hQ (pU F S) t).trans w)
    .exact kp (nZ h) (λK x g=>g (s+y.2) (P++ [y.1]) (D y.1) (X.trans (cA (Option.bind · _) (iN W))) (L8 W) ((hQ (pU F S) t).trans (kj (DV F (L9 W))))) g
def VI(b:By)(c:b.length<=100000) k:∀(d p n:Nat) o,d+k=61->ag (n+k+4) 11 [.bytes b,.int p,.int d] o=D (km k b p,o):=by
 induction k with
 |zero=>exactλd p n o a=>au [t1 (show 60<d from abg (e2 a rfl))]
 |succ k g=>
  intro d p n o a;have K:=zE a;have F:=VB (n+k+1) [] b p;have P:=VE (k+1) b p;cases X:eO _ with
  |none=>
   rw[VD X]at F;rw[pT (show rd _ _=I by unfold rd;rw[X])];exact au [t0 K,tG F]
  |some y=>
   refine aH λG e=>?_;obtain⟨l,h,m⟩:=y;have W:=C7 X;rw[VC X]at F;have Z:=lD (k:=k) W;rw[yZ]at Z;have S:=cY▸W.fits.1;have f:=(c_ p h m).symm;clear X;cases l with
   |false=>
    have X:=sY b (p+h) (p+h+m);rw[gQ]at X;refine e ?_;rw[ta Z];rw[f];exact au [t0 K,tF F,tV 2 X]
   |true=>
    have X:=gQ (p+h) m;refine e (VH (p:=p) (L_ W.fits.2 S) c (λs o=>g (d+1) s n o (Ma a)) (m+1) (p+h) [] I gv (bl ..) (g9 X (fN _)) (Mb S c) (bn _) (λS W q w=>?_) (λS q w=>?_) λS S W q S w=>?_)
    .rw[X]at q;rw[ta (Z.trans (cA (Option.map _) q))]at P |-
     replace P:=P;rw[f]at P |-
     exact au [t0 K,tF F,tL w,t0 (nN (ct (p+h+m)))] rfl P
    .rw[X]at q;exact(pT (Z.trans (cA (Option.map _) q)))▸au [t0 K,tF F,tL w]
    .rw[X]at q;exact(pT (Z.trans (cA (Option.map _) q)))▸au [t0 K,tF F,tL w,t1 S]
def xv(b:By):Except Exc PV:=match dec b with
 |some x=>.ok x
 |none=>.error .co
def nH(h:dec b=D x):A3 (bO x=J) (high x<=60) (enc x=b):=by
 delta dec at h;refine Mine.oe (rd 61 b) (λF=>?_) λy F=>?_
 .replace h:=F▸h;exact z3 h
 .
  rw[F]at h;refine iJ h λK h=>?_;haveI s:=C9 _ b _ _ F;exact(aE h)▸⟨s.1,a3 s.2 rfl,s.3.trans (K▸uy)⟩
def VJ n(b:By)(a:b.length<=100000) o:ag (n+66) 12 [.bytes b] o=D (xv b,o):=by
 haveI h:=VI b a 61 0 0 n [] rfl;unfold km at h;rw[abh]at h;unfold xv;haveI F:∀x,dec b=D x->aO x=J:=λx e=>eR x (nH e).1;unfold dec at F |-
 cases K:rd _ b with
 |none=>
  rw[K]at h;exact au [tG h]
 |some y=>
  obtain⟨x,c⟩:=y;rw[K]at h F;dsimp only at h;rw[ee]at h;dsimp only at F |-;by_cases K:c=b.length
  .rw[iP K]at F |-
   exact au [tF h,t0 (nN K),tV 5 (bk x (F x rfl))] rfl (F x rfl)
  .rw[iN K];exact au [tF h,t1 K]
def pv:Nd->PV
 |.nil=>.none
 |.leaf p v=>.tup [.str "leaf",.tup (iL p),.bytes v]
 |.ext p k=>.tup [.str "ext",.tup (iL p),pv k]
 |.br ks v=>.tup [.str "branch",.tup (cn.map λi=>pv (ks i)),.bytes v]
def dO(a:Int->Nd):List PV:=cn.map λi=>pv (a i)
def tb ks:(dO ks).length=16:=rfl
def nI:∀l:List _,(∀x∈l,aO x=J)->bX l=J
 |[],_=>rfl
 |x::r,h=>by
  dsimp only[bX];rw[h x (.head _),nI r λy F=>h y (.tail _ F)];rfl
def aN N:aO (pv N)=J:=by
 induction N with
 |nil=>rfl
 |leaf p v=>exact cA (λb=>J && (b && (J && J))) (bp p)
 |ext p k F=>exact congr (cA (λa b=>J && (a && (b && J))) (bp p)) F
 |br K v F=>exact cA (λb=>J && (b && (J && J))) (nI (dO _) λx K=>(ch.mp K).elim λi y=>y.2▸F i)
def Vn.nat(h:Vn x):∃m:Nat,x=m/\m<16:=⟨x.toNat,(jz h.1).symm,zo (h.2)⟩
def VK{m:Nat}(h:m<16):cn[m]?=D (m:Int):=by
 rw[dG,yx h];rfl
def ko{m:Nat}(h:m<16):(dO ks)[m]?=D (pv (ks m)):=by
 rw[dG,VK h];rfl
def VL(h:m<16):(dO a).set m (pv k)=dO (upd a m k):=by
 refine uo λj=>?_;rw[List.getElem?_set];by_cases e:m=j
 .subst e;rw[iP rfl,iP h,ko h];unfold upd;rw[iP rfl]
 .rw[iN e];by_cases F:j<16
  .rw[ko F,ko F];unfold upd;rw[iN (Mc e)]
  .rw[kS (ar.mp F),kS (ar.mp F)]
def VM{os:List _}(h:xs.length<=aI):Y (et J "list" [.tup xs]) os (.loc os.length) (os++ [.list xs]):=λl=>by
 refine(iP h).trans ?_;rfl
def lU{os:List _} xs(m:Nat) v(h:os[n]?=D (.list xs))(a:m<xs.length):Y (setItem (.loc n) (.int m) v) os () (os.set n (.list (xs.set m v))):=λl=>by
 refine(dx h).trans ?_;show(if 0<=(m:Int)/\(m:Int) <xs.length then ib n _ else aC) _=_;rw[iP ⟨da m,ed.mpr a⟩];rfl
def cN(h:aO a=J)(d:aO b=J)(e:aO c=J):bX [a,b,c]=J:=by dsimp only[bX,bX,bX,bX];rw[h,d,e];rfl
def xw n o ks v(m:Nat)(a:m<16) k:ag (n+1) 13 [pv (.br ks v),.int m,pv k] o=D (.ok (pv (.br (upd ks m k) v)),o):=by
 haveI F:=lU (os:=[.list (dO ks)]) (n:=0) _ m (pv k) rfl a;rw[VL a]at F;exact au [tO 32 (VM (os:=[]) (xs:=dO ks) (by rw[tb,bo];decide)),tU F,tO 31 (xl [.list (dO (upd ks m k))] 0 _ rfl (by rw[tb,bo];decide))] (cN (aN _) rfl (aN _)) (aN _)
def VN os:Y (truth (.tup (iL []))) os V os:=λl=>rfl
def tc os x(r:aD):Y (truth (.tup (iL (x::r)))) os J os:=λl=>rfl
def ds(a:Int->Nd)(w v:By)(b:Int->aD->Nd):aD->Nd
 |[]=>.br a v
 |x::r=>.br (upd a x (b x r)) w
def xx n o ks(w v:By) p(a:Vp p) N'(h:∀x r,p=x::r->ag (n+1) 16 [pv (ks x),.tup (iL r),.bytes v] []=D (.ok (pv (N' x r)),[])):
  ag (n+2) 14 [pv (.br ks w),.tup (iL p),.bytes v] o=D (.ok (pv (ds ks w v N' p)),o):=by
 cases p with
 |nil=>exact au [] (cN (aN _) rfl rfl) (aN _)
 |cons x r=>
  obtain⟨m,F⟩:=a.head.nat;clear a;obtain rfl:=F.1;exact au [tB (tc [] m r),tV 1 (bv (xs:=iL (m::r)) (m:=0) rfl),tV 1 (bv (xs:=iL (m::r)) (m:=0) rfl),tV 1 (bv (ko (ks:=ks) F.2)),tV 2 (pQ (iL (m::r)) 1),tF (h _ _ rfl),tF (xw n [] ks w m F.2 (N' m r))] (cN (aN _) (bp _) rfl) (aN _)
def dh p(m:Nat):Y0 (er (.tup (iL p)) (D (.int m)) I) (.tup (iL (p.drop m))):=by
 have:=pQ (iL p) m;unfold iL at this |-
 exact Hl▸this
def kq p(m:Nat):Y0 (er (.tup (iL p)) I (D (.int m))) (.tup (iL (p.take m))):=by
 have:=Vm (iL p) m;unfold iL at this |-
 exact abi▸this
def xy n o p(v:By):ag (n+1) 16 [.none,.tup (iL p),.bytes v] o=D (.ok (pv (.leaf p v)),o):=
 au [] (cN rfl (bp p) rfl) (aN _)
def VO n o way(a:Vp way) held(s:Nat):ag (n+3) 15 [pv (.leaf way held),.int s] o=D (.ok (pv (ds dN [] held (λF r=>.leaf r held) (way.drop s))),o):=by
 haveI h:=xx n [] dN [] _ _ (a.drop s) _ λx r F=>xy n _ r held;generalize ds _ _ _ ..=N at h |-
 exact au [tV 2 (dh way s),tF h,tV 5 (bk _ (aN N))] (cw (aN _) rfl) (aN _)
def VP n o way(b:Vp way) k s x(r:aD)(a:way.drop s=x::r):ag (n+3) 15 [pv (.ext way k),.int s] o=D (.ok (pv (.br (upd dN x (gd r k)) [])),o):=by
 obtain⟨m,P⟩:=((a▸b.drop s).head).nat;obtain rfl:=P.1;haveI K:=dh way s;rw[a]at K;have S:=bv (xs:=iL (m::r)) (m:=0) rfl;have F:=xw (n+1) [] dN [] m P.2 (gd r k);clear a;cases r with
 |nil=>exact au [tV 2 K,tF F] (cw (aN _) rfl) (aN _)
 |cons y t=>
  exact au [tV 2 K,tV 1 S,tV 2 (dh (m::y::t) 1),tF F] (cw (aN _) rfl) (aN _)
def xz{p:aD}(h:0<s)(a:s<=p.length) N:wrap (p.take s) N=.ext (p.take s) N:=by
 cases F:p.take s with
 |nil=>have:=cA gS F;rw[cK]at this;exact(Iy h this a).elim
 |cons x r=>rfl
def DW{node:Nd}(c:Vp p)(b:∀y t,p.drop (sh a p)=y::t->ks y=.nil):ag (n+2) 14 [pv (.br ks w),.tup (iL (p.drop (sh a p))),.bytes v] []=D (.ok (pv (dX ks w (p.drop (sh a p)) (λr=>.leaf r v) v)),[]):=by
 refine(xx n _ _ w v _ (c.drop _) _ (λx r e=>by rw[b x r e];exact xy n _ r v)).trans ?_;cases p.drop _ <;> rfl
def VQ n o way p(d:Vp way)(f:Vp p)(b:way.length<100000)(a v:By):ag (n+4) 16 [pv (.leaf way a),.tup (iL p),.bytes v] o=D (.ok (pv (put (.leaf way a) p v)),o):=by
 have S:=DM (n+2) [] way p b;have c:=kc way p;have P:=ints_length way;have W:=ints_length p;have X:bX [pv (.leaf way a),.tup (iL p),.bytes v]=J:=cN (aN _) (bp p) rfl;by_cases Z:sh way p=way.length/\sh way p=p.length
 .have e:put (.leaf way a) p v=.leaf p v:=iP Z;rw[e];exact au [tF S,t1 (Z.1.trans P.symm),t1 (Z.2.trans W.symm)] X (aN _)
 .have F:=VO n [] way d a (sh way p);obtain⟨K,w,d,g,h⟩:E2 λK w=>A3 (ds dN [] a (λb r=>.leaf r a) (way.drop (sh way p))=Nd.br K w) (∀y t,p.drop (sh way p)=y::t->K y=.nil) (put (.leaf way a) p v=wrap (p.take (sh way p)) (dX K w (p.drop (sh way p)) (λr=>.leaf r v) v)):=by
   rw[show put (.leaf way a) p v=_ from iN Z];cases i:way.drop (sh way p)with
   |nil=>exact⟨dN,a,rfl,λb b b=>rfl,rfl⟩
   |cons x r=>exact⟨upd dN x (.leaf r a),[],rfl,λy t e=>iN λz=>Dd way p x y r t i e z.symm,rfl⟩
  rw[d]at F;have a:=DW (n:=n+1) (node:=.nil) (v:=v) (w:=w) f g;rw[h];generalize dX K w (p.drop (sh way p)) (λr=>.leaf r v) v=N at a |-
  have d:=abj (sh way p);by_cases b:sh way p=way.length
  .have K:¬sh way p=(iL p).length:=λz=>Z ⟨b,z.trans W⟩;rcases d with hz |hz
   .rw[show wrap (p.take (sh way p)) N=N from by rw[hz];rfl];exact au [tF S,t1 (b.trans P.symm),t0 K,tF F,tV 2 (dh p (sh way p)),tF a,t1 hz,tV 5 (bk _ (aN N))] X (aN _)
   .rw[xz hz c.2];exact au [tF S,t1 (b.trans P.symm),t0 K,tF F,tV 2 (dh p (sh way p)),tF a,t0 (bf hz),tV 2 (kq p (sh way p)),tV 5 (bk _ (aN (.ext (p.take (sh way p)) N)))] X (aN _)
  .have K:¬sh way p=(iL way).length:=λz=>b (z.trans P);rcases d with hz |hz
   .rw[show wrap (p.take (sh way p)) N=N from by rw[hz];rfl];exact au [tF S,t0 K,tF F,tV 2 (dh p (sh way p)),tF a,t1 hz,tV 5 (bk _ (aN N))] X (aN _)
   .rw[xz hz c.2];exact au [tF S,t0 K,tF F,tV 2 (dh p (sh way p)),tF a,t0 (bf hz),tV 2 (kq p (sh way p)),tV 5 (bk _ (aN (.ext (p.take (sh way p)) N)))] X (aN _)
def VS n o way p(c:Vp way)(d:Vp p)(a:way.length<100000) k(v:By)(b:ag (n+3) 16 [pv k,.tup (iL (p.drop (sh way p))),.bytes v] []=D (.ok (pv (put k (p.drop (sh way p)) v)),[])):
  ag (n+4) 16 [pv (.ext way k),.tup (iL p),.bytes v] o=D (.ok (pv (put (.ext way k) p v)),o):=by
 haveI W:=DM (n+2) [] way p a;haveI a:=kc way p;have F:=ints_length way;have X:bX [pv (.ext way k),.tup (iL p),.bytes v]=J:=cN (aN _) (bp p) rfl;by_cases K:sh way p=way.length
 .have e:put (.ext way k) p v=.ext way (put k (p.drop (sh way p)) v):=iP K;rw[e];generalize put k (p.drop (sh way p)) v=N at b |-
  exact au [tF W,t1 (K.trans F.symm),tV 2 (dh p (sh way p)),tF b,tV 5 (bk _ (aN (.ext way N)))] X (aN _)
 .cases S:way.drop (sh way p)with
  |nil=>
   have:=cA gS S;rw[cY]at this;exact(Md this a K).elim
  |cons x r=>
   have P:=VP n [] way c k (sh way p) x r S;have b:put (.ext way k) p v=wrap (p.take (sh way p)) (dX (upd dN x (gd r k)) [] (p.drop (sh way p)) (λr=>.leaf r v) v):=by
    show(if sh way p=way.length then _ else wrap (p.take (sh way p)) (match way.drop (sh way p)with
     |[]=>Nd.nil
     |x::r=>dX (upd dN x (gd r k)) [] (p.drop (sh way p)) (λr=>.leaf r v) v))=_
    rw[iN K,S]
   have Z:=DW (n:=n+1) (node:=.nil) (v:=v) (w:=[]) (ks:=upd dN x (gd r k)) d (λy t e=>iN λz=>Dd way p x y r t S e z.symm);rw[b];generalize dX (upd dN x (gd r k)) [] (p.drop (sh way p)) (λr=>.leaf r v) v=N at Z |-
   have S:¬sh way p=(iL way).length:=λz=>K (z.trans F);rcases abj (sh way p)with hz |hz
   .rw[show wrap (p.take (sh way p)) N=N from by rw[hz];rfl];exact au [tF W,t0 S,tF P,tV 2 (dh p (sh way p)),tF Z,t1 hz,tV 5 (bk _ (aN N))] X (aN _)
   .rw[xz hz a.2];exact au [tF W,t0 S,tF P,tV 2 (dh p (sh way p)),tF Z,t0 (bf hz),tV 2 (kq p (sh way p)),tV 5 (bk _ (aN (.ext (p.take (sh way p)) N)))] X (aN _)
def Ht:Nd->Nat->Prop
 |.nil,_=>True
 |.leaf p _,_=>Vp p/\p.length<=100
 |.ext p k,h=>∃F,A4 (h=F+1) (Vp p) (p.length<=100) (Ht k F)
 |.br ks _,h=>∃F,h=F+1/\∀i,Ht (ks i) F
def VT:∀N h n p (v:By) o,Ht N h->Vp p->ag (n+2*h+4) 16 [pv N,.tup (iL p),.bytes v] o=D (.ok (pv (put N p v)),o):=by
 intro N
 induction N with
 |nil=>intro h n p v o _ _;exact xy _ o p v
 |leaf P F=>intro h n p v o K F;exact VQ _ o _ p K.1 F (a2 (K.2) rfl) _ v
 |ext P k S=>
  intro h n p v o K F;obtain⟨W,rfl,a,b,c⟩:=K;have:=S _ (n+1) (p.drop (sh P p)) v [] c (F.drop _);rw[Me]at this;exact VS _ o _ p a F (a2 b rfl) k v this
 |br P w S=>
  intro h n p v o K F;obtain⟨W,rfl,a⟩:=K;haveI K:=xx _ [] _ w v p F _ (λx r e=>S x _ n r v _ (a x) (by rw[e]at F;exact F.tail));have e:put (.br P w) p v=ds P w v (λx r=>put (P x) r v) p:=by cases p <;> rfl
  rw[e];generalize ds P w v (λx r=>put (P x) r v) p=N at K |-
  exact au [tF K,tV 5 (bk _ (aN N))] (cN (aN (.br P w)) (bp p) rfl) (aN _)
def fJ p q os(h:decide (p=q)=c):cF .Eq (.tup (iL p)) (.tup (iL q)) os c:=λl=>h▸nA (DI p q _)
def iT p q os(h:(!decide (p=q))=c):cF .NotEq (.tup (iL p)) (.tup (iL q)) os c:=λl=>h▸nA (DI p q _)
def DX a b(h:a.length+b.length<=aI):Y0 (binop .Add V (.tup (iL a)) (.tup (iL b))) (.tup (iL (a++b))):=by
 rw[ints_append];exact xi _ _ (by rw[az,ints_length,ints_length];exact h)
def eS xs(h:xs.length<=aI):Y0 (bV V xs) (.U xs):=λF=>iP h
def lV{os:List _} f c
  (h:∀x∈c,∀b:List _,b.length=n->∃a,a.length=n/\turn x ⟨b++L,os⟩=D (.ok (f x),⟨a++L,os⟩)):
  dp n (dV (.seq c) turn) ⟨L,os⟩=D (.ok (c.filterMap f),⟨L,os⟩):=by
 haveI W:∀c F b,b.length=n->(∀x∈c,∀b:List _,b.length=n->∃a,a.length=n/\turn x ⟨b++L,os⟩=D (.ok (f x),⟨a++L,os⟩))->
   ∃a,gw turn F c ⟨b++L,os⟩=D (.ok (F++c.filterMap f),⟨a++L,os⟩):=by
  intro c
  induction c with
  |nil=>intro F b _ _;exact⟨b,by rw[abk,ci];rfl⟩
  |cons x r S=>
   intro F b P h;obtain⟨a,K⟩:=h x (.head _) _ P;haveI e:gw turn _ (x::r) _=(match f x with
    |some v=>gw _ _ r
    |none=>gw _ F r) _:=by
    show bd ..=_;dsimp only[bd];rw[K.2]
    all_goals (cases f x <;> rfl)
   rw[e,hY];cases f x with
   |none=>exact S _ _ K.1 λy P=>h y (.tail _ P)
   |some v=>
    obtain⟨F,X⟩:=S _ _ K.1 λy P=>h y (.tail _ P);exact⟨F,by dsimp only;rw[X,cz];rfl⟩
 refine bi (W _ [] (bF n I) fx h) λa e=>?_;delta dp dV;dsimp only;rw[e];rfl
def DY n o way(a:way.length<=100) N(b:∀p,(∃v,N=.leaf p v)\/(∃k,N=.ext p k)->p.length<=1000000):ag (n+1) 17 [.tup (iL way),pv N] o=D (.ok (pv (ey way N)),o):=by
 have F:=cw (bp way) (aN N);cases way with
 |nil=>
  cases N with
  |nil=>exact au [] F
  |leaf p v=>exact au [] F (aN _)
  |ext p k=>exact au [tV 5 (bk _ (aN (.ext p k)))] F (aN _)
  |br K v=>exact au [] F (aN _)
 |cons x r=>
  cases N with
  |nil=>exact au [] F
  |leaf p v=>
   have:=b p (.inl ⟨v,rfl⟩);exact au [tV 20 (DX _ p (by rw[bo];exact a8 a this rfl))] F (aN _)
  |ext p k=>
   have:=b p (.inr ⟨k,rfl⟩);exact au [tV 20 (DX _ p (by rw[bo];exact a8 a this rfl)),tV 5 (bk _ (aN (.ext (x::r++p) k)))] F (aN _)
  |br K v=>exact au [tV 5 (bk _ (aN (.ext (x::r) (.br K v))))] F (aN _)
def pV(h:isNil N=V):∃l,pv N=.tup l:=by
 cases N with
 |nil=>cases h
 |_=>exact⟨_,rfl⟩
def td(a:Int->Nd):PV->Option PV
 |.int i=>if isNil (a i)then I else D (.int i)
 |_=>I
def VU ks(l:List _):(iL l).filterMap (td ks)=iL (l.filter λi=>!isNil (ks i)):=by
 induction l with
 |nil=>rfl
 |cons i r F=>
  refine hY.trans ?_;rw[abl];haveI e:td _ (.int i)=if isNil (ks i)then I else D _:=rfl
  rw[e];cases isNil _ with
  |true=>exact F
  |false=>exact cA _ F
def VV F ks a b d:dp 1 (dV (.seq (iL cn)) (fi F 18 0)) ⟨[a,D (.tup (dO ks)),b,d],[]⟩=D (.ok (iL (fk ks)),⟨[a,D (.tup (dO ks)),b,d],[]⟩):=by
 unfold fk;rw[<- VU];refine lV _ _ λx P K S=>?_;obtain⟨i,K⟩:=ch.mp P;rw[<- K.2];obtain⟨P,rfl⟩:=fP.mp S;obtain⟨m,P⟩:=(nu.mp K.1).nat;rw[P.1];refine⟨[D (.int m)],rfl,?_⟩;haveI K:=bv (ko (ks:=ks) P.2);by_cases h:isNil (ks m)=J
 .rw[show td _ (.int m)=I from iP h];rw[hG.mp h]at K;exact fj [tV 1 K]
 .rw[show td _ (.int m)=D _ from iN h];obtain⟨l,e⟩:=pV (kZ _▸h);rw[e]at K;exact fj [tV 1 K]
def xA os xs(h:(!xs.isEmpty)=c):Y (truth (.U xs)) os c os:=λl=>by rw[<- h];rfl
def DZ n o ks v(a:∀i p,(∃v,ks i=.leaf p v)\/(∃k,ks i=.ext p k)->p.length<=1000000):ag (n+2) 18 [pv (.br ks v)] o=D (.ok (pv (settle ks v)),o):=by
 have K:=VV (ag (n+1)) ks (D (pv (.br ks v))) (D (.bytes v)) I;have S:bX [pv (.br ks v)]=J:=iQ (aN _);have F:(fk ks).length<=16:=n_ ..;have P:=eS (iL (fk ks)) (by rw[ints_length,bo];exact a1 F rfl);unfold settle;cases e:fk ks with
 |nil=>
  rw[e]at K P;dsimp only;by_cases F:v=[]
  .rw[iP F];exact au [tK K,tV 15 P,t0 (nN F),t0 (show¬0=1 by decide),tB (xA [] (iL []) rfl)] S
  .rw[iN F];exact au [tK K,tV 15 P,t1 F,tB (xA [] (iL []) rfl)] S
 |cons i r=>
  rw[e]at K P;have X:=xA [] (iL (i::r)) rfl;have W:v≠[]->ag (n+2) 18 [pv (.br ks v)] o=D (.ok (pv (.br ks v)),o):=λF=>
   au [tK K,tV 15 P,t1 F,tB X,tV 5 (bk _ (aN (.br ks v)))] S (aN _)
  cases r with
  |nil=>
   dsimp only;by_cases F:v=[]
   .rw[iP F];have Z:i∈fk ks:=by rw[e];exact .head _
    clear e X;obtain⟨m,rfl,b⟩:=(ke.mp Z).1.nat;exact au [tK K,tV 15 P,t0 (nN F),t1 (ct 1),tV 1 (dg (xs:=iL [m]) (m:=0) rfl),tV 1 (dg (xs:=iL [m]) (m:=0) rfl),tV 1 (bv (ko (ks:=ks) b)),tF (DY n [] [(m:Int)] (bw rfl) (ks (m:Int)) (a _)),tV 5 (bk _ (aN (ey [(m:Int)] (ks (m:Int)))))] S (aN _)
   .rw[iN F];exact W F
  |cons j r=>
   dsimp only;by_cases F:v=[]
   .have Z:¬(iL (i::j::r)).length=1:=by rw[ints_length];simp only[b4];exact zv
    exact au [tK K,tV 15 P,t0 (nN F),t0 Z,tB X,tV 5 (bk _ (aN (.br ks v)))] S (aN _)
   .exact W F
def Kb(N:Nd)(b:Nat):Prop:=∀q,Vp q->lk N q≠[]->q.length<=b
def Kb.root(h:Kb N b)(a:bP N) p(c:(∃v,N=.leaf p v)\/∃k,N=.ext p k):p.length<=b:=by
 rcases c with⟨v,rfl⟩ |⟨k,rfl⟩
 .rcases a with e |ho
  .cases e
  .exact h p ho.1 (by dsimp only[lk];rw[iP rfl];exact ho.2)
 .rcases a with e |ho
  .cases e
  .refine ho.4.key.elim λq F=>?_;have:=h _ (ho.2.append F.1) (by rw[dM];exact F.2);rw[az]at this;exact qQ this
def Kb.ext(h:Kb (.ext w k) b)(a:Vp w):Kb k b:=λq F K=>by
 have:=h _ (a.append F) (by rw[dM];exact K);rw[az]at this;exact uh this
def Kb.cW(h:Kb (.br a v) b)(c:Vn x):Kb (a x) b:=λq F K=>bj (h _ (.cons c F) K)
def Kb.del(h:Kb N b)(a:bP N) p:Kb (del N p) b:=λq K F=>by
 rw[(pG N a p).2 q]at F;by_cases e:q=p
 .rw[iP e]at F;exact(F rfl).elim
 .rw[iN e]at F;exact h q K F
def bP.cW(h:bP (.br a v)) x:bP (a x)/\(a x≠.nil->Vn x):=by
 rcases h with e |h
 .cases e
 .rcases h.1 x with e |e
  .exact⟨.inl e,λz=>(z e).elim⟩
  .exact⟨.inr e.2,λF=>e.1⟩
def VW n o way p v:ag (n+1) 19 [pv (.leaf way v),.tup (iL p)] o=D (.ok (pv (del (.leaf way v) p)),o):=by
 haveI F:bX [pv (.leaf way v),.tup _]=J:=cw (aN _) (bp p);dsimp only[del];by_cases h:way=p
 .rw[iP h];exact au [t1 (fJ _ p [] (dT h))] F
 .rw[iN h];exact au [t0 (fJ _ p [] (dF h))] F (aN _)
def te[Decidable P](h:P):(!decide P)=V:=by rw[dT h];rfl
def tg[Decidable P](h:¬P):(!decide P)=J:=by rw[dF h];rfl
def iU p w:Y0 (er (.tup (iL p)) I (D (.int ((iL w).length)))) (.tup (iL (p.take w.length))):=by
 rw[ints_length];exact kq p _
def nJ p w:Y0 (er (.tup (iL p)) (D (.int ((iL w).length))) I) (.tup (iL (p.drop w.length))):=by
 rw[ints_length];exact dh p _
def VX n o way p k(c:way.length<=100)(a:∀q,(∃v,del k (p.drop way.length)=.leaf q v)\/(∃d,del k (p.drop way.length)=.ext q d)->q.length<=1000000)
  (b:ag (n+1) 19 [pv k,.tup (iL (p.drop way.length))] []=D (.ok (pv (del k (p.drop way.length))),[])):ag (n+2) 19 [pv (.ext way k),.tup (iL p)] o=D (.ok (pv (del (.ext way k) p)),o):=by
 haveI F:bX [pv (.ext way k),.tup _]=J:=cw (aN _) (bp p);by_cases h:p.take way.length=way
 .rw[show del (.ext _ k) p=ey _ _ from iP h];generalize del k _=N at b a |-
  exact au [tV 2 (iU p way),t0 (iT _ _ [] (te h)),tV 2 (nJ p way),tF b,tF (DY n [] way c N a),tV 5 (bk _ (aN (ey way N)))] F (aN _)
 .rw[show del (.ext way k) p=.ext way k from iN h];exact au [tV 2 (iU p way),t1 (iT _ way [] (tg h)),tV 5 (bk _ (aN (.ext way k)))] F (aN _)
def VY:∀N h n p o,Ht N h->bP N->Kb N 1000->Vp p->ag (n+2*h+4) 19 [pv N,.tup (iL p)] o=D (.ok (pv (del N p)),o):=by
 intro N
 induction N with
 |nil=>intro h n p o _ _ _ _;exact au [] (cw rfl (bp p))
 |leaf P F=>intro h n p o _ _ _ _;exact VW _ o P p F
 |ext P k d=>
  intro h n p o e W Z X;obtain⟨S,rfl,a,b,c⟩:=e;have F:bP k:=.inr (W.resolve_left (λz=>by cases z)).4;have K:=Z.ext a;have:=d S (n+1) (p.drop P.length) [] c F K (X.drop _);rw[I8]at this;exact VX _ o P p k b (λq P=>ak ((K.del F _).root (pG k F _).1 q P) (bw rfl)) this
 |br ks v d=>
  intro h n p o e W Z X;obtain⟨S,rfl,a⟩:=e;have c:∀i p,(∃v,ks i=.leaf p v)\/(∃k,ks i=.ext p k)->p.length<=1000000:=λi q P=>by
   have b:ks i≠.nil:=λz=>by rw[z]at P;rcases P with⟨_,e⟩ |⟨_,e⟩ <;> cases e
   exact ak ((Z.cW ((W.cW i).2 b)).root (W.cW i).1 q P) (bw rfl)
  have f:bX [pv (.br ks v),.tup (iL p)]=J:=cw (aN _) (bp p);cases p with
  |nil=>
   exact au [tB (VN []),tF (DZ (n+2*S+3) [] ks [] c),tV 5 (bk _ (aN (settle ks [])))] f (aN _)
  |cons x r=>
   obtain⟨m,b⟩:=X.head.nat;obtain rfl:=b.1;rw[show del (.br ks v) (m::r)=settle (upd ks m (del (ks m) r)) v from rfl];have F:=(W.cW m).1;have K:=Z.cW X.head;have W:=d m S (n+1) r [] (a _) F K X.tail;rw[show n+1+2*S+4=n+2*S+3+2 from I9]at W;have X:=(K.del F r).root (pG _ F r).1;generalize del (ks m) r=N at W X |-;have F:=DZ (n+2*S+3) [] (upd ks m N) v λi q P=>by
    unfold upd at P;by_cases e:i=m
    .rw[iP e]at P;exact ak (X q P) (bw rfl)
    .rw[iN e]at P;exact c i q P
   exact au [tB (tc [] m r),tV 1 (bv (xs:=iL (m::r)) (m:=0) rfl),tV 1 (bv (xs:=iL (m::r)) (m:=0) rfl),tV 1 (bv (ko (ks:=ks) b.2)),tV 2 (dh ((m:Int)::r) 1),tF W,tF (xw (n+2*S+4) [] ks v m b.2 N),tF F,tV 5 (bk _ (aN (settle (upd ks (m:Int) N) v)))] f (aN _)
def dP(N:Nd)(p:aD)(v:By):Nd:=if v=[]then del N p else put N p v
def VZ N h n p(v:By) o(a:Ht N h)(c:bP N)(d:Kb N 1000)(b:Vp p):ag (n+2*h+5) 20 [pv N,.tup (iL p),.bytes v] o=D (.ok (pv (dP N p v)),o):=by
 haveI K:bX [pv N,.tup _,.bytes v]=J:=cN (aN _) (bp p) rfl;unfold dP;by_cases F:v=[]
 .rw[iP F];exact au [t1 F,tF (VY N h n p [] a c d b),tV 5 (bk _ (aN (del N p)))] K (aN _)
 .rw[iN F];exact au [t0 F,tF (VT N h n p v [] a b),tV 5 (bk _ (aN (put N p v)))] K (aN _)
def keyOf(b:By):Int:=(ba (1::b):Int)
def V0(h:keyOf a=keyOf b):a=b:=by
 have F:=pA (c:=1) (r:=a) zD;rw[(uH.mp h),pA zD]at F;exact(dk F).2.symm
def fn:Nat->List By->List (Int×PV)
 |_,[]=>[]
 |i,b::r=>(keyOf b,.int ((i+1:Nat):Int))::fn (i+1) r
def xB:∀i F,(fn i F).length=F.length
 |_,[]=>rfl
 |i,b::r=>cA _ (xB _ r)
def xC i kn b:bR (fn i kn) (keyOf b)=if b∈kn then D (.int (i+kn.idxOf b+1:Nat))else I:=by
 induction kn generalizing i with
 |nil=>rfl
 |cons c r F=>
  unfold bR at F |-
  rw[show fn i _=(keyOf c,.int _)::fn _ r from rfl,i7];by_cases h:c=b
  .rw[dT (cA keyOf h),iP (h▸.head _),h,List.idxOf_cons_self];rfl
  .rw[dF (λz=>h (V0 z))];rw[F,List.idxOf_cons,(beq_eq_false_iff_ne.mpr h),cond_false];by_cases F:b∈r
   .rw[iP F,iP (.tail _ F)];exact cA (λn:Int=>D _) I_
   .rw[iN F,iN (λz=>(bD.mp z).elim (λe=>h e.symm) F)]
def V1 i kn b:fn i kn++ [(keyOf b,.int (i+kn.length+1:Nat))]=fn i (kn++ [b]):=by
 induction kn generalizing i with
 |nil=>rfl
 |cons c r F=>
  show _::(fn _ r++_)=_::fn ..;rw[Eq.symm (F _)];rw[show i+1+r.length+1=i+(c::r).length+1 from Eq.trans (c_ ..) (uL ..)]
def V2 kn b(h:b∉kn):c5 (fn 0 kn) (keyOf b) (.int (kn.length+1:Nat))=fn 0 (kn++ [b]):=by
 haveI F:=xC 0 kn b;rw[iN h]at F;unfold bR at F;haveI K:(fn 0 _).any _=V:=by
  rw[Option.map_eq_none_iff,Hm]at F;rw[GC];exact F
 unfold c5;rw[K,iN ei];have:=V1 0 kn b;rw[ee]at this;exact this
inductive Dig(o:List av)(g d:Nat)(a:List By):Prop |mk
 (F:o[g]?=D (.inst "Numbered" [("known",.loc d)]))
 (F:o[d]?=D (.dict (fn 0 a)))
 (F:g≠d)
noncomputable def aX(a:List By)(b:By):List By:=if b∈a then a else a++ [b]
def putD(o:List av)(d:Nat)(a:List By):List av:=o.set d (.dict (fn 0 a))
def Dig.lt(h:Dig o g d a):d<o.length:=(cQ.mp h.2).1
def Dig.put(h:Dig o g d a) xD:Dig (putD o d xD) g d xD:=
 ⟨(bm h.3.symm).trans h.1,(gn h.lt),h.3⟩
def Dig.same(h:Dig o g d a):putD o d a=o:=by
 refine uo λi=>?_;by_cases e:d=i
 .subst e;rw[gn h.lt,h.2]
 .exact(bm e)
def jt kn b:b∈aX kn b:=by
 refine iteInduction (λh=>?_) λh=>?_
 .exact h
 .exact bB _ (.head _)
def pW kn b:kn <+:aX kn b:=by
 refine iteInduction (λh=>?_) λh=>?_
 .exact bT _
 .exact Hn ..
def nK kn b:(aX kn b).length<=kn.length+1:=by
 unfold aX;by_cases h:b∈kn
 .rw[iP h];exact bl ..
 .rw[iN h,az];exact aL _
def nL(h:Dig o g d a):Y (jS (.loc g) "known") o (.loc d) o:=λl=>by
 refine(dx h.1).trans ?_;rfl
def D0(h:Dig o g d a) b(e:decide (b∈a)=c):Y (cmp .NotIn (.int (ba (1::b))) (.loc d)) o (.bool (!c)) o:=λl=>by
 refine(dx h.2).trans ?_;show D _=_;rw[(xC 0 _ b),<- e];by_cases q:b∈a
 .rw[iP q,dT q];rfl
 .rw[iN q,dF q];rfl
def V3(h:Dig o g d a):Y (et V "len" [.loc d]) o (.int a.length) o:=λl=>by
 refine(dx h.2).trans ?_;show D _=_;rw[xB]
def V4(h:Dig o g d a) b(c:b∉a)(e:a.length<aI):Y (setItem (.loc d) (.int (ba (1::b))) (.int (a.length+1:Nat))) o () (putD o d (a++ [b])):=λl=>by
 refine(dx h.2).trans ?_;show(if(fn 0 _).length<aI then ib d _ else aC) _=_;rw[iP (by rw[xB];exact e),show(ba _)=keyOf b from rfl,V2 _ b c];rfl
def D1(h:Dig o g d a) b(c:b∈a):Y (item (.loc d) (.int (ba (1::b)))) o (.int (a.idxOf b+1:Nat)) o:=λl=>by
 haveI e:=xC 0 a b;rw[iP c,ee]at e;refine(dx h.2).trans ?_;show a_ ..=_;rw[show(ba _)=keyOf b from rfl,e];rfl
def V5 n(h:Dig o g d a)(b:By)(c:b.length<=1000000)(e:a.length<aI):ag (n+1) 65 [.loc g,.bytes b] o=D (.ok (.int ((aX a b).idxOf b+1:Nat)),putD o d (aX a b)):=by
 haveI F:=dy [1] b (a2 c rfl);haveI K:=DR (1::b) (a2 c rfl);unfold aX;by_cases q:b∈a
 .rw[iP q,h.same];exact aQ [tV 20 F,tV 10 K,tO 6 (nL h),t0 (D0 h b (dT q)),tO 6 (nL h),tO 1 (D1 h b q)]
 .rw[iN q];haveI P:=h.put (a++ [b]);exact aQ [tV 20 F,tV 10 K,tO 6 (nL h),t1 (D0 h b (dF q)),tO 6 (nL h),tO 30 (V3 h),tO 6 (nL h),tU (V4 h b q e),tO 6 (nL P),tO 1 (D1 P b (bB _ (.head _)))]
def D3(h:Dig o g d c) m i(a:(List.lookup m [(("known":Str),PV.loc d)]).isNone=J)(b:ig "Numbered" m=D i):Y (eo m (.loc g)) o (D i) o:=λl=>by
 refine(dx h.1).trans ?_;show(if eF _=J/\(List.lookup m _).isNone=J then a_ _ _ else aC) _=_;rw[iP ⟨by decide+kernel,a⟩,b];rfl
def D4(m:Str) d(h:(m=="known")=V):(List.lookup m [("known",PV.loc d)]).isNone=J:=by
 dsimp only[List.lookup];rw[h];rfl
def hS(h:Dig o g d a):Y (eo "of" (.loc g)) o (D 66) o:=D3 h _ _ (D4 _ _ zK) zK
def V6(h:Dig o g d a):Y (eo "number" (.loc g)) o (D 65) o:=D3 h _ _ (D4 _ _ zK) zK
def V7(x:Nat)(h:x<2^32):Y0 (binop .Mult V (.int x) (.int 281479271743489)) (.int (x*281479271743489:Nat)):=(congrFun (iP (.inr zD)))
def V9(n x:Nat)(a:x<2^32)(h:Dig o g d f)(c:ag n 65 [.loc g,.bytes b] o=D (.ok (.int x),e)):ag (n+1) 66 [.loc g,.bytes b] o=D (.ok (.bytes (kh x)),e):=by
 have e3:=xh (605153021707326989568713251046585937826284568576+x) 20 zD (a7 a rfl);have e2:=xh (x*281479271743489% 18446744073709551616) 8 zD (gm _ zD);have e1:=U4 x 4 zD a;have S:=iK (x*281479271743489) 18446744073709551616 zD;have K:(cT 4 x).length=4:=sE ..;have F:(cT 8 (x*281479271743489% 18446744073709551616)).reverse.length=8:=by rfl
 have P:(cT 20 (605153021707326989568713251046585937826284568576+x)).reverse.length=20:=by rfl
 generalize W:cT 4 x=A at e1 K |-
 generalize X:x*281479271743489% 18446744073709551616=Z at e2 S F |-
 generalize i:(cT 8 _).reverse=B at e2 F |-
 generalize j:(cT _ _).reverse=C at e3 P |-
 exact aQ [tM (V6 h),tF c,tV 8 e1,tV 22 (V7 x a),tV 8 e2,tV 20 (dy A B (by rw[az,K,F];decide)),tV 8 e3,tV 20 (dy (A++B) C (by rw[az,az,K,F,P];decide))]
def lX n(h:Dig o g d a)(b:By)(e:b.length<=1000000)(c:a.length<10000000):ag (n+2) 66 [.loc g,.bytes b] o=D (.ok (.bytes (fK (aX a b) b)),putD o d (aX a b)):=V9 _ _ (aT (iY (Hj (jt _ b))) (b2 (nK _ b) c rfl)) h (V5 n h b e (a1 c rfl))
inductive Go(d b:Nat)(o a:List av):Prop |mk
 (F:o.length<=a.length)
 (F:∀i,i<b->i≠d->a[i]?=o[i]?)
def Go.refl d b o:Go d b o o:=⟨aL _,λF F F=>rfl⟩
def Go.trans(h:Go d b o e)(c:Go d b e a):Go d b o a:=⟨ak h.1 c.1,λi F K=>(c.2 i F K).trans (h.2 i F K)⟩
def Go.less(h:Go d b o a)(c:e<=b):Go d e o a:=⟨h.1,λi F K=>h.2 i (bc F c) K⟩
def Go.put d b o kn:Go d b o (putD o d kn):=⟨by rw[dD];exact aL _,λi F F=>bm F.symm⟩
def Go.set d o x(h:b<=L):Go d b o (o.set L x):=⟨by rw[dD];exact aL _,λi F K=>bm (bf (bc F h))⟩
def Go.app d o t:Go d o.length o (o++t):=⟨by rw[az];exact bl ..,λi F K=>cX F⟩
def Dig.pX(h:Dig o g d b)(c:a[g]?=o[g]?)(e:a[d]?=o[d]?):Dig a g d b:=⟨c.trans h.1,e.trans h.2,h.3⟩
def Dig.gI(h:Dig o g d a):g<o.length:=(cQ.mp h.1).1
def Dig.set(h:Dig o g d a) x(b:L≠g)(c:L≠d):Dig (o.set L x) g d a:=h.pX (bm b) (bm c)
def Dig.app(h:Dig o g d a) t:Dig (o++t) g d a:=h.pX (cX h.gI) (cX h.lt)
inductive Tr(g d c:Nat)(o:List av)(b:List By)(e:List av)(a:List By):Prop |mk
 (F:Go d o.length o e)
 (F:Dig e g d a)
 (F:b <+:a)
 (F:a.length<=b.length+c)
def Tr.refl(a:Dig o g d b):Tr g d c o b o b:=⟨.refl ..,a,bT _,bl ..⟩
def Tr.put(a:Dig o g d b) w:Tr g d 1 o b (putD o d (aX b w)) (aX b w):=⟨.put ..,a.put _,pW ..,nK ..⟩
def Tr.trans(a:Tr g d c o k l f)(b:Tr g d c' l f i e)(h:c+c'<=j):Tr g d j o k i e:=
 ⟨a.1.trans (b.1.less a.1.1),b.2,a.3.trans b.3,ak b.4 (ak (c9 a.4 _) (c_ ..▸bH h _))⟩
def Res(g d c:Nat)(o:List av)(e:List By)(a:Option (Except Exc PV×List av))(b:(By->By)->PV):Prop:=
 E3 λx K F=>A6 (a=D (.ok x,K)) (Go d o.length o K) (Dig K g d F) (e <+:F) (F.length<=e.length+c) (∀K,F <+:K->b (fK K)=x)
def pY n(h:Dig o g d a)(b:By)(c:b.length<=1000000)(e:a.length<10000000):Res g d 1 o a (ag (n+2) 66 [.loc g,.bytes b] o) (λf=>.bytes (f b)):=
 ⟨_,_,_,lX n h b c e,.put ..,h.put _,pW ..,nK ..,λF F=>F.elim λt e=>by rw[<- e];exact cA _ (pK (jt ..))⟩
noncomputable def szs(f:Int->Nat):List Int->Nat
 |[]=>0
 |i::r=>f i+szs f r
def sz:Nd->Nat
 |.nil=>0
 |.leaf _ _=>1
 |.ext _ k=>1+sz k
 |.br ks _=>1+szs (λi=>sz (ks i)) cn
def gJ(h:o[L]?=D (.list b))(m:Str)(a:(m=="append" ||m=="extend" ||m=="insert")=J):Y (eo m (.loc L)) o I o:=λl=>(dx h).trans (congrFun (iP a) _)
def nM(h:o[L]?=D (.list a)):Y (freeze (.loc L)) o (.U a) (o.set L .dead):=λl=>by
 show q7 L ..=_;rw[h];rfl
def dY{o:List _}(x:av)(h:L<o.length):(o.set L x)[L]?=D x:=gn h
def aR{o:List _}{x:av}(h:o[L]?=D x):L<o.length:=(cQ.mp h).1
def D6(b:Sm N)(e:a.length+c<10000000)(h:Res g d c o a (ag (n+40) 23 [pv N,.loc g] o) (λf=>form f N)):
  Res g d (c+1) o a (ag (n+41) 24 [pv N,.loc g] o) (λf=>bZ f (form f N)):=by
 refine aH λG X=>?_;refine h.elim λx P a F=>?_;have Z:form _ N=x:=F.6 _ (bT _);obtain⟨K,S,W⟩:=hH (cE _) N b;rw[Z]at K S W;haveI Z:=pP _ x (n+5) P K S zD (a1 W rfl);by_cases q:(enc x).length<32
 .exact X ⟨x,P,a,aQ [tF F.1,tF Z,t1 q,tV 5 (bk x (eR x K))],F.2,F.3,F.4,d9 F.5,λP S=>by
   show bZ ..=_;unfold bZ;rw[show form _ N=x from F.6 _ S,iP q]⟩
 .refine(pY (n+38) F.3 _ (a1 W rfl) (aT F.5 e)).elim λy a W K=>?_;haveI b:=K.6 _ (bT _);subst b;refine X ⟨.bytes (fK W (enc x)),a,W,aQ [tF F.1,tF Z,t0 q,tM (hS F.3),tF K.1],F.2.trans (K.2.less F.2.1),K.3,F.4.trans K.4,b3 K.5 F.5,λP S=>?_⟩;show bZ ..=_;unfold bZ;rw[show form (fK P) N=x from F.6 P (K.4.trans S),iN q];exact K.6 P S
def V_(a:Dig o g d b)(e:Sm N)(i:b.length+c<10000000)(h:Res g d c o b (ag (n+40) 23 [pv N,.loc g] o) (λf=>form f N)):
  Res g d (c+1) o b (ag (n+41) 25 [pv N,.loc g] o) (λf=>.bytes (f (enc (form f N)))):=by
 refine h.elim λx Z P F=>?_;haveI X:form _ N=x:=F.6 _ (bT _);haveI K:=hH (cE P) N e;haveI S:=K.1;haveI W:=K.2;haveI P:=K.3;rw[X]at S W P;refine(pY (n+38) F.3 _ (a1 P rfl) (aT F.5 i)).elim λy b X K=>?_;haveI c:=K.6 _ (bT _);subst c;refine⟨.bytes (fK X (enc x)),b,X,aQ [tM (hS a),tF F.1,tF (pP _ x (n+5) Z S W zD (a1 P rfl)),tF K.1],F.2.trans (K.2.less F.2.1),K.3,F.4.trans K.4,b3 K.5 F.5,λP P=>?_⟩;show PV.bytes _=_;rw[show form _ N=x from F.6 _ (K.4.trans P)];exact K.6 _ P
def V'(m:L≠g)(h:L≠d)
  (u:∀i o a,Vn i->ks i≠.nil->Dig o g d a->a.length+sz (ks i) <10000000->Res g d (sz (ks i)) o a (F 24 [pv (ks i),.loc g] o) (λf=>bZ f (form f (ks i)))) l:
  ∀P o a c,(∀i∈l,Vn i)->Dig o g d a->o[L]?=D (.list P)->P.length+l.length<=20->a.length+szs (λi=>sz (ks i)) l<10000000->
  E4 λn f S e=>A7 (c0 (cl F 23 0) (l.map λi=>pv (ks i)) ⟨[D node,D (.loc g),D kind,D (.tup (dO ks)),D held,D (.loc L),c],o⟩=D (.ok .next,⟨[D node,D (.loc g),D kind,D (.tup (dO ks)),D held,D (.loc L),e],f⟩)) (Go d L o f) (Dig f g d S) (f[L]?=D (.list (P++n))) (a <+:S) (S.length<=a.length+szs (λi=>sz (ks i)) l) (∀W,S <+:W->l.map (λi=>bZ (fK W) (form (fK W) (ks i)))=n):=by
 induction l with
 |nil=>exactλP o a c k K Z k k=>⟨[],o,a,c,rfl,.refl ..,K,(ci P).symm▸Z,bT _,aL _,λk k=>rfl⟩
 |cons i r j=>
  refineλP o a c q K Z p r=>aH λG v=>?_;have s:∀x X b,cl F 23 0 (pv (ks i)) ⟨[D node,D (.loc g),D kind,D (.tup (dO ks)),D held,D (.loc L),c],o⟩=D (.ok .next,⟨[D node,D (.loc g),D kind,D (.tup (dO ks)),D held,D (.loc L),D (pv (ks i))],X⟩)->
    Go d L o X->Dig X g d b->X[L]?=D (.list (P++ [x]))->a <+:b->b.length<=a.length+sz (ks i)->(∀W,b <+:W->bZ (fK W) (form (fK W) (ks i))=x)->G:=λx X b t g c F w d y=>
   (j (P++ [x]) X b (D (pv (ks i))) (λj z=>q j (.tail _ z)) c F (by rw[az];exact ak (aq (uL _ 1 _)) p) (aT (ak (c9 d _) (aq (c_ ..))) r)).elim λn f S e c=>
    v ⟨x::n,f,S,e,(d' t).trans c.1,g.trans c.2,c.3,cz P [x] n▸c.4,w.trans c.5,b3 c.6 d,λW S=>List.cons_eq_cons.mpr ⟨y W (c.5.trans S),c.7 W S⟩⟩
  by_cases e:ks i=.nil
  .exact s (.bytes []) (o.set L (.list (P++ [.bytes []]))) a (e▸c7 [tM (gJ Z "append" zK),tO 8 (eQ o L P (.bytes []) Z (di (a4 p rfl)))])
    (.set _ _ _ (aL _)) (K.set _ m h) (dY _ (aR Z)) (bT _) (bl ..) λk k=>e▸Dx
  .refine(u i o a (q i (.head _)) e K (f3 r)).elim λx X b K=>?_;have W:=K.1;have S:=aR Z;have F:=(K.2.2 L S h).trans Z;refine s x (X.set L (.list (P++ [x]))) b ?_ ((K.2.less (bj S)).trans (.set _ _ _ (aL _))) (K.3.set _ m h) (dY _ (aR F)) K.4 K.5 K.6;obtain⟨y,K⟩:=pV (by cases h:isNil (ks i)with
     |false=>rfl
     |true=>exact aB (hG.mp h) e)
   rw[K]at W |-
   exact c7 [tM (gJ Z "append" zK),tF W,tO 8 (eQ X L P x F (di (a4 p rfl)))]
def pZ(h:N≠.nil):0<sz N:=by
 cases N with
 |nil=>exact(h rfl).elim
 |leaf=>exact mC
 |ext=>exact bl ..
 |br=>exact yb _ zD
def xE:∀N h n g d o P,Ht N h->Sm N->bP N->Dig o g d P->P.length+sz N<10000000->Res g d (sz N - 1) o P (ag (n+2*h+40) 23 [pv N,.loc g] o) (λf=>form f N):=by
 intro N
 induction N with
 |nil=>exactλh n g d o P S S S K S=>⟨.bytes [],o,P,aQ [],.refl ..,K,bT _,aL _,λS S=>rfl⟩
 |leaf p v=>
  exactλh n g d o P e S S K S=>⟨.U [.bytes (pk p J),.bytes v],o,P,aQ [tF (run2 (n+2*h+38) o p J e.1 (a1 (e.2) rfl))],.refl ..,K,bT _,bl ..,λS S=>rfl⟩
 |ext p k l=>
  intro h n g d o P e f q K j;obtain⟨W,rfl,a,b,c⟩:=e;have S:=(q.resolve_left (λz=>by cases z)).4;have i:=j;obtain⟨x,m,Z,X⟩:=(D6 f.2 (Jb i) (l W n g d o P c f.2 (.inr S) K (f2 i)));have i:=pZ S.ne_nil;have S:=eR x (by rw[<- X.6 Z (bT _)];exact(pI (cE Z) (hH (cE Z) k f.2).1).1);refine⟨.U [.bytes (pk p V),x],m,Z,aQ [tF (run2 (n+2*W+40) o p V a (a1 b rfl)),tF X.1,tV 5 (bk (.U [.bytes (pk p V),x]) (show(J && (aO x && J))=J by rw[S];rfl))],X.2,X.3,X.4,?_,λS r=>?_⟩
  .exact zw i X.5
  .show PV.U [.bytes (pk p V),bZ (fK S) (form (fK S) k)]=_;rw[show bZ (fK S) (form (fK S) k)=x from X.6 S r]
 |br ks v l=>
  intro h n g d o P e f q K j;obtain⟨W,rfl,a⟩:=e;rw[show n+2*(W+1)+40=n+2*W+41+1 from by exact rfl];have k:(o++ [av.list []])[o.length]?=D (.list []):=gT;obtain⟨b,m,Z,X,X⟩:=V' (F:=ag (n+2*W+41)) (g:=g) (d:=d) (L:=o.length) (ks:=ks) (node:=pv (.br ks v)) (kind:=.str "branch") (held:=.bytes v) (bf K.gI) (bf K.lt)
   (λi o P h e K j=>by
    have:=D6 (n:=n+2*W) (f.1 i) (c:=sz (ks i) - 1) (by exact zx j) (l i W n g d o P (a i) (f.1 i) ((q.cW i).1) K j);rw[show sz (ks i) - 1+1=sz (ks i)from by exact ud (pZ e)]at this;exact this)
   cn [] (o++ [.list []]) P I (λi h=>nu.mp h) (K.app _) k zD (by exact f2 j);have W:=X.4
  rw[qU]at W;have a:b.length=16:=by rw[<- X.7 Z (bT _),bN];rfl
  refine⟨.U (b++ [.bytes v]),((m.set o.length (.list (b++ [.bytes v]))).set o.length .dead),Z,
   aQ [tO 14 (show Y (bV J []) o (.loc o.length) (o++ [.list []])fromλl=>rfl),tL X.1,tM (gJ W "append" zK),tO 8 (eQ m o.length b (.bytes v) W (by rw[a,bo];decide)),tO 5 (nM (dY (.list (b++ [.bytes v])) (aR W)))],
   (((Go.app d o [.list []]).trans X.2).trans (.set _ _ _ (aL _))).trans (.set _ _ _ (aL _)),(X.3.set _ (bf K.gI) (bf K.lt)).set _ (bf K.gI) (bf K.lt),X.5,?_,λS r=>?_⟩
  .show _<=P.length+(1+szs (λi=>sz (ks i)) cn - 1);exact zy X.6
  .show PV.U (cn.map (λi=>bZ (fK S) (form (fK S) (ks i)))++ [.bytes v])=_;rw[X.7 S r]
def p0:Nd->aD->PV
 |.nil,_=>.none
 |.leaf way v,p=>.tup [.bytes (if way=p then v else[]),.none,.tup []]
 |.ext way k,p=>if p.take way.length=way then .tup [.none,pv k,.tup (iL (p.drop way.length))]else .tup [.bytes [],.none,.tup []]
 |.br ks v,[]=>.tup [.bytes v,.none,.tup []]
 |.br ks v,x::r=>.tup [.none,pv (ks x),.tup (iL r)]
def Wa n o N p(a:N≠.nil)(b:Vp p):ag (n+1) 21 [pv N,.tup (iL p)] o=D (.ok (p0 N p),o):=by
 have K:=cw (aN N) (bp p);cases N with
 |nil=>exact(a rfl).elim
 |leaf F v=>
  rw[show p0 (.leaf F v) p=.tup [.bytes (if F=p then v else[]),.none,.tup []]from rfl];by_cases h:F=p
  .rw[iP h];exact au [t1 (fJ F p [] (dT h))] K
  .rw[iN h];exact au [t0 (fJ F p [] (dF h))] K
 |ext F k=>
  rw[show p0 (.ext F k) p=if p.take F.length=F then .tup [.none,pv k,.tup (iL (p.drop F.length))]else .tup [.bytes [],.none,.tup []]from rfl];by_cases h:p.take F.length=F
  .rw[iP h];have P:aO (.tup [.none,pv k,.tup (iL (p.drop F.length))])=J:=cN rfl (aN k) (bp _);exact au [tV 2 (iU p F),t0 (iT (p.take F.length) F [] (te h)),tV 2 (nJ p F),tV 5 (bk _ P)] K P
  .rw[iN h];exact au [tV 2 (iU p F),t1 (iT (p.take F.length) F [] (tg h))] K
 |br ks v=>
  cases p with
  |nil=>exact au [] K
  |cons x r=>
   obtain⟨m,rfl,F⟩:=b.head.nat;have P:aO (.tup [.none,pv (ks m),.tup (iL r)])=J:=cN rfl (aN _) (bp _);exact au [tV 1 (bv (xs:=iL (m::r)) (m:=0) rfl),tV 1 (bv (ko (ks:=ks) F)),tV 2 (dh (m::r) 1),tV 5 (bk _ P)] K P
noncomputable def am(l:List By):List PV:=l.map .bytes
def kr a b:am (a++b)=am a++am b:=jH
def xF(h:o[L]?=D (.list a))(b:(!a.isEmpty)=c):Y (truth (.loc L)) o c o:=λl=>(sT h).trans (by rw[<- b];rfl)
noncomputable def eT(t:Nat)(a:By)(N:PV)(q:aD)(L:Nat)(w:By)(z:Option PV)(o:List av):St:=⟨[D (.loc t),D (.bytes a),D N,D (.tup (iL q)),D (.loc L),D (.bytes w),z],o⟩
noncomputable def more(a:List By)(w:By):List By:=if a=[]\/32<=w.length then[w]else[]
def Wb(b:o[L]?=D (.list (am a)))(c:a.length<1000000):
  ∃K,A4 (Go 0 L o K) (∀i,i≠L->K[i]?=o[i]?) (K[L]?=D (.list (am (a++more a w)))) (∀r,px F 26 0 1 (eT t key N q L w z K)=D r->cM F 26 0 (eT t key N q L w z o)=D r):=by
 haveI S:am (a++ [w])=am _++ [.bytes w]:=kr ..;haveI F:=eQ o L (am a) (.bytes w) b (by unfold am;rw[bN,bo];exact a1 c rfl);replace F:=S▸F;haveI W:=dY (.list (am (a++ [w]))) (aR b);have Z:=gJ b "append" zK;unfold more;by_cases P:a=[]
 .rw[iP (.inl P)];refine⟨o.set L (.list (am (a++ [w]))),.set _ _ _ (aL _),λi X=>bm X.symm,W,λr h=>?_⟩;exact c3 [tB (xF b (by subst P;rfl)),tM Z,tO 8 F,tZ 4 h]
 .have K:(!(am a).isEmpty)=J:=by
   clear b c S F W;cases a with
   |nil=>exact aB rfl P
   |cons _ _=>rfl
  by_cases S:32<=w.length
  .rw[iP (.inr S)];refine⟨o.set L (.list (am (a++ [w]))),.set _ _ _ (aL _),λi X=>bm X.symm,W,λr h=>?_⟩;exact c3 [tB (xF b K),t1 S,tM Z,tO 8 F,tZ 4 h]
  .rw[iN (λz=>z.elim P S),ci];refine⟨o,.refl ..,λF F=>rfl,b,λr h=>?_⟩;exact c3 [tB (xF b K),t0 S,tZ 4 h]
def xG(h:o[t]?=D (.inst c a)) x v(b:eF c=J)(d:jR x=J)(e:a.lookup x=D v):Y (jS (.loc t) x) o v o:=λl=>by
 refine(dx h).trans ?_;show(if eF c=J/\jR x=J then a_ _ _ else aC) _=_;rw[iP ⟨b,d⟩,e];rfl
def ez(o:List av)(t g:Nat)(N:Nd):Prop:=o[t]?=D (.inst "Trie" [("digest",.loc g),("node",pv N)])
def D7(h:ez o t g N):Y (jS (.loc t) "digest") o (.loc g) o:=xG h _ _ zK zK (by
 rfl)
def th(h:ez o t g N):Y (jS (.loc t) "node") o (pv N) o:=xG h _ _ zK zK (by
 rfl)
def Ht.mono:∀{h F:Nat},Ht N h->h<=F->Ht N F:=by
 induction N with
 |nil=>exactλK K=>trivial
 |leaf=>exactλa K=>a
 |ext p k K=>exactλ{h F} a b=>a.elim λm y=>⟨F - 1,uO (y.1▸b),y.2,y.3,K y.4 (abm (y.1▸b))⟩
 |br P v K=>exactλ{h F} a b=>a.elim λm y=>⟨F - 1,uO (y.1▸b),λi=>K i (y.2 i) (abm (y.1▸b))⟩
def D8:∀{l:List _} {i:Int},i∈l->f i<=szs f l
 |x::r,i,h=>by
  refine Mine.me h ?_ λh=>?_
  .exact bl ..
  .exact b7 (D8 h)
inductive Nx(N:Nd)(q:aD):Prop where
 |stop (a b c:PV) (e:p0 N q=.tup [a,b,c]) (h:(∃v,a=.bytes v)\/(a=.none/\b=.none)) (K:∀f,cD f N q=[])
 |go (k:Nd) (F:aD) (e:p0 N q=.tup [.none,pv k,.tup (iL F)]) (P:k≠.nil) (K:∀f,cD f N q=own f k++cD f k F)
  (f:∀h,Ht N h->Sm N->Vp q->∃K,A6 (h=K+1) (Ht k K) (Sm k) (bP k) (Vp F) (sz k<=sz N))
def D9 f:own f .nil=[]:=iN (show¬32<=(enc (.bytes _)).length by decide)
def Wc N q(h:N≠.nil)(a:bP N):Nx N q:=by
 cases N with
 |nil=>exact(h rfl).elim
 |leaf F v=>exact .stop _ _ _ rfl (.inl ⟨_,rfl⟩) λf=>rfl
 |ext F k=>
  by_cases e:q.take F.length=F
  .exact .go k _ (iP e) (a.resolve_left (λz=>by cases z)).4.ne_nil (λf=>iP e) λh K P F=>by
    obtain⟨S,W⟩:=K;exact W.1▸⟨S,rfl,W.4,P.2,.inr (a.resolve_left (λz=>by cases z)).4,F.drop _,cG ..⟩
  .exact .stop _ _ _ (iN e) (.inl ⟨_,rfl⟩) λf=>iN e
 |br W v=>
  cases q with
  |nil=>exact .stop _ _ _ rfl (.inl ⟨_,rfl⟩) λf=>rfl
  |cons x r=>
   by_cases e:W x=.nil
   .refine .stop _ _ (.tup (iL r)) ?_ (.inr ⟨rfl,rfl⟩) λf=>?_
    .show PV.tup _=_;rw[e];rfl
    .show own f _++cD f _ r=[];rw[e,D9];rfl
   .refine .go _ r rfl e (λf=>rfl) λh K P F=>?_;obtain⟨S,W⟩:=K;exact W.1▸⟨S,rfl,W.2 _,P.1 _,(a.cW _).1,F.tail,ak (D8 (f:=λi=>sz _) (nu.mpr F.head)) (cG ..)⟩
def Wd(i:g[L]?=D (.list (am j)))(f:F 21 [pv N,.tup (iL q)] g=D (.ok (.tup [a,b,c]),g))(k:N≠.nil)(h:(∃v,a=.bytes v)\/(a=.none/\b=.none))
  (d:∀r,px F 26 0 1 (eT t e (pv N) q L w z g)=D r->cM F 26 0 (eT t e (pv N) q L w z o)=D r):
  ∃K,cM F 26 0 (eT t e (pv N) q L w z o)=D (.ok (.ret (.U (am j))),K)/\K.objs=g.set L .dead:=by
 refine(pV (by cases h:isNil N with
  |false=>rfl
  |true=>exact aB (hG.mp h) k)).elim λy F=>?_
 rw[F]at f d |-
 refine aH λG F=>?_;rcases h with⟨v,rfl⟩ |⟨rfl,rfl⟩
 .exact F ⟨⟨[D (.loc t),D (.bytes e),D b,D c,D (.loc L),D (.bytes w),D (.bytes v)],g.set L _⟩,d _ (sD [tF f,tO 5 (nM i)]),rfl⟩
 .exact F ⟨⟨[D (.loc t),D (.bytes e),D .none,D c,D (.loc L),D (.bytes w),D .none],g.set L _⟩,d _ (sD [tF f,tO 5 (nM i)]),rfl⟩
def We(i:e[t]?=D (.inst "Trie" j))(l:j.lookup ("digest":Str)=D (PV.loc g))(b:F 21 [pv N,.tup (iL q)] e=D (.ok (.tup [.none,pv k,.tup (iL m)]),e))(f:N≠.nil)(n:k≠.nil)
  (d:F 23 [pv k,.loc g] e=D (.ok x,h))(p:F 8 [x] h=D (.ok (.bytes (enc x)),h))
  (a:∀r,px F 26 0 1 (eT t c (pv N) q L w z e)=D r->cM F 26 0 (eT t c (pv N) q L w z o)=D r):
  cM F 26 0 (eT t c (pv N) q L w z o)=D (.ok .next,eT t c (pv k) m L (enc x) (D .none) h):=by
 haveI F:=λ{N} f=>pV (by cases h:isNil N with
  |false=>rfl
  |true=>exact aB (hG.mp h) f)
 refine bi (F f) λy P=>?_;obtain⟨K,K⟩:=F n;rw[P]at b a |-
 rw[K]at b d |-
 exact a _ (sD [tF b,tO 6 (xG i _ _ zK zK l),tF d,tF p])
def Wg(d:e[L]?=D (.list (am b)))
  (c:∀r,px F 26 0 1 (eT t a .none q L w z e)=D r->cM F 26 0 (eT t a .none q L w z o)=D r):
  ∃K,cM F 26 0 (eT t a .none q L w z o)=D (.ok (.ret (.U (am b))),K)/\K.objs=e.set L .dead:=
 ⟨eT t a .none q L w z _,c _ (sD [tO 5 (nM d)]),rfl⟩
def D_ F st:dw F 26 0 st=D (.ok J,st):=ew []
def Wh(b:L≠g)(p:L≠d)(c:L≠t)(v:t≠d)(y:t<L)(hl:a.lookup ("digest":Str)=D (PV.loc g)):∀(h:Nat) (N:Nd) (q:aD) (S:List By) (o:List av) (l:List By) (w:By) (z:Option PV) (K:Nat),h<=H->Ht N h->Sm N->bP N->Vp q->h<K->
  Dig o g d l->o[L]?=D (.list (am S))->o[t]?=D (.inst "Trie" a)->S.length+h<1000000->l.length+(h+1)*sz N<10000000->(∀Z,l <+:Z->enc (form (fK Z) N)=w)->
  E4 λR a X W=>A7 (cB (dw (ag (n+2*H+40)) 26 0) (cM (ag (n+2*H+40)) 26 0) K (eT t key (pv N) q L w z o)=D (.ok (.ret (.U (am (S++R)))),W)) (W.objs=a) (Go d L o a) (Dig a g d X) (l <+:X) (X.length<=l.length+h*sz N) (∀Z,X <+:Z->more S w++cD (fK Z) N q=R):=by
 intro h
 induction h with
 |zero=>?_
 |succ h ih=>?_
 all_goals
  intro N q S o l w z K C E O e Q m P f i A B hw;obtain⟨K,rfl⟩:∃j,K=j+1:=⟨K - 1,by(first |exact Jc m |exact Jd m)⟩;refine aH λG x=>?_;obtain⟨r,j⟩:=Wb (F:=ag (n+2*H+40)) (t:=t) (key:=key) (N:=pv N) (q:=q) (z:=z) (w:=w) f (by(first |exact abg A |exact abn A));have G:=P.pX (j.2 g b.symm) (j.2 d p.symm);have s:=(j.2 t c.symm).trans i;have T:Go d L o r:=⟨j.1.1,λi P ψ=>j.2 i (dB P)⟩;have P:∀{W},W.objs=r.set L .dead->(∀f,cD f N q=[])->cM (ag (n+2*H+40)) 26 0 (eT t key (pv N) q L w z o)=D (.ok (.ret (.U (am (S++more S w)))),W)->∀c,E4 λR a X W=>A7 (cB (dw (ag (n+2*H+40)) 26 0) (cM (ag (n+2*H+40)) 26 0) (K+1) (eT t key (pv N) q L w z o)=D (.ok (.ret (.U (am (S++R)))),W)) (W.objs=a) (Go d L o a) (Dig a g d X) (l <+:X) (X.length<=l.length+c) (∀Z,X <+:Z->more S w++cD (fK Z) N q=R):=
   λ{W} X o a c=>⟨more S w,r.set L .dead,l,W,xn (D_ _ _) a,X,T.trans (.set _ _ _ (aL _)),G.set _ b p,bT _,bl _ _,λZ ψ=>by rw[o,ci]⟩
  by_cases u:N=.nil
  .clear E O e B hw;subst u;obtain⟨W,X⟩:=Wg j.3 j.4;exact x (P X.2 (λψ=>rfl) X.1 _)
  .have i:=Wa (n+2*H+39) r N q u Q;rcases Wc N q u e with⟨a,b,c,e,a,o⟩ |⟨k,q',e,D',o,f⟩
   .rw[e]at i;obtain⟨W,X⟩:=Wd j.3 i u a j.4;exact x (P X.2 o X.1 _)
   .obtain⟨X,P⟩:=f _ E O Q;refine x ?_;first
     |exact aB P.1 (yW _).symm
     |(obtain rfl:h=X:=h9 P.1
       rw[e]at i;have f:(h+1)*sz k<=(h+1)*sz N:=kG _ P.6;obtain⟨x,h,a,X⟩:=xE k H n g d r l (P.2.mono (bj C)) P.3 P.4 G (by exact Je B P.6);have l:form (fK a) k=x:=X.6 a (bT _);have b:=hH (cE a) k P.3;have d:=b.1;have e:=b.2;have g:=b.3;rw[l]at d e g;have l:=We (z:=z) (w:=w) s hl i u D' X.1 (pP 31 x (n+2*H+5) h d e zD (a1 g rfl)) j.4;have b:=pZ D';have d:=aR j.3;obtain⟨R,g,e,W,b⟩:=ih k q' (S++more S w) h a (enc x) (D .none) K (bj C) P.2 P.3 P.4 P.5 (jK m) X.3 ((X.2.2 L d p).trans j.3) ((X.2.2 t (i9 y d) v).trans s) (by
         rw[az];have:(more S w).length<=1:=by unfold more;split <;> simp
         exact Jf A this) (by exact Jg f B P.6 X.5) (λZ m=>by rw[show form (fK Z) k=x from X.6 Z m])
       refine⟨more S w++R,g,e,W,by rw[hQ (D_ _ _) l,b.1,cz],b.2,T.trans ((X.2.less (bj d)).trans b.3),b.4,X.4.trans b.5,by exact Jh f b.6 X.5,λZ m=>?_⟩;have K:S++more S w≠[]:=by
        cases S with
        |cons _ _=>simp
        |nil=>unfold more;rw[iP (.inl rfl)];simp
       have:=b.7 Z m;have P:own (fK Z) k=more (S++more S w) (enc x):=by
        unfold own;rw[show form (fK Z) k=x from X.6 Z (b.5.trans m)];generalize S++more S w=a1 at K |-
        unfold more;by_cases c:32<=(enc x).length
        .rw[iP c,iP (.inr c)]
        .rw[iN c,iN (λy=>y.elim K c)]
       rw[o,<- this,P])
def ez.app(h:ez o t g N) x:ez (o++x) t g N:=(cX (aR h)).trans h
def Wi g v:List.lookup ("digest":Str) [("digest",PV.loc g),("node",v)]=D (.loc g):=by
 rfl
def Ea(key:By)(c:key.length<=1000)(T:ez o t g N)(a:Dig o g d e)(b:t≠d)(i:Ht N H)(h:Sm N)(j:bP N)(k:H<=1000)(l:e.length+(H+2)*sz N<10000000):
  Res g d ((H+1)*sz N) o e (ag (n+2*H+41) 26 [.loc t,.bytes key] o) (λf=>.U (am (proof f N (aF key)))):=by
 refine aH λG r=>?_;have f:=T.app [.list []];refine(xE N H n g d (o++ [.list []]) e i h j (a.app [.list []]) (Ji l)).elim λx e S F=>?_;have P:form (fK S) N=x:=F.6 S (bT _);have K:=hH (cE S) N h;haveI m:=K.1;haveI p:=K.2;haveI q:=K.3;rw[P]at m p q;have P:(o++ [av.list []]).length=o.length+1:=by rw[az];rfl
 have K:=aR T;refine(Wh (n:=n) (key:=key) (bf a.gI) (bf a.lt) (bf K) b K (Wi g (pv N)) H N (aF key) [] e S (enc x) I gv (aL _) i h j (gb key) (show H<1000000 by exact aT k zD) F.3 ((F.2.2 o.length (aq P.symm) (bf a.lt)).trans gT)
  ((F.2.2 t (g6 P (ui K)) b).trans f) (di (a7 k rfl)) (Jj l F.5) (λS W=>by rw[show form (fK S) N=x from F.6 S W])).elim λR K X Z K=>?_;have a:=K.2
 subst a;refine r ⟨.U (am R),Z.objs,X,aQ [tO 6 (th T),tF (sU (n+2*H+39) o key (a1 c rfl)),tO 14 (show Y (bV J []) o (.loc o.length) (o++ [.list []])fromλl=>rfl),tO 6 (D7 f),tF F.1,tF (pP 31 x (n+2*H+5) e m p zD (a1 q rfl)),tL K.1],((Go.app d o _).trans (F.2.less (by exact g8 P (bl ..)))).trans K.3,K.4,F.4.trans K.5,by exact Jk K.6 F.5,λS W=>?_⟩;show PV.U (am (proof (fK S) N (aF key)))=_;rw[<- K.7 S W];delta proof more;rw[iP (.inl rfl),show form (fK S) N=x from F.6 S (K.5.trans W)];rfl
def Wj(a:Dig o g d b)(h:Ht N H)(c:Sm N)(i:bP N)(e:b.length+sz N<10000000):Res g d (sz N+1) o b (ag (n+2*H+41) 25 [pv N,.loc g] o) (λf=>.bytes (f (enc (form f N)))):=(V_ a c (zx e) (xE N H n g d o _ h c i a e)).elim λx P K F=>⟨x,P,K,F.1,F.2,F.3,F.4,Jl F.5,F.6⟩
def tj(T:ez o t g N)(m:Str) i(a:(m=="digest")=V)(b:(m=="node")=V)(c:ig "Trie" m=D i):Y (eo m (.loc t)) o (D i) o:=λl=>by
 refine(dx T).trans ?_;haveI e:(List.lookup m [("digest",PV.loc g),("node",pv N)]).isNone=J:=by
  dsimp only[List.lookup];rw[a];rw[b];rfl
 show(if eF _=J/\(List.lookup m _).isNone=J then a_ _ _ else aC) _=_;rw[iP ⟨by decide+kernel,e⟩,c];rfl
def p5(h:o[t]?=D (.inst c a)) x v(b:eF c=J)(d:jR x=J)(e:a.length<100):Y (oq (.loc t) x v) o () (o.set t (.inst c (oo a x v))):=λl=>(dx h).trans (congrFun (iP ⟨b,d,e⟩) _)
def eU(g:Nat)(N:Nd):av:=.inst "Trie" [("digest",.loc g),("node",pv N)]
def Eb n(h:o[t]?=D (.inst "Trie" [])):ag (n+1) 61 [.loc t,.loc g] o=D (.ok .none,(o.set t (.inst "Trie" [("digest",.loc g)])).set t (eU g .nil)):=aQ [tU (p5 h "digest" (.loc g) zK zK zD),tU (p5 (dY (.inst "Trie" [("digest",.loc g)]) (aR h)) "node" .none zK zK (bw rfl))]
def Ec(a v:By)(b:a.length<=32)(T:ez o t g N)(c:Ht N H)(d:bP N)(e:Kb N 1000):ag (n+2*H+6) 62 [.loc t,.bytes a,.bytes v] o=D (.ok .none,o.set t (eU g (dP N (aF a) v))):=aQ [t0 (ar.mpr b),tO 6 (th T),tF (sU (n+2*H+4) o _ (a1 b rfl)),tF (VZ N H n _ v o c d e (gb a)),tU (p5 T "node" (pv (dP N (aF a) v)) zK zK (bw rfl))]
def Ed(T:ez o t g N)(a:Dig o g d b)(c:Ht N H)(e:Sm N)(h:bP N)(i:b.length+sz N<10000000):Res g d (sz N+1) o b (ag (n+2*H+42) 63 [.loc t] o) (λf=>.bytes (f (enc (form f N)))):=by
 refine(Wj (n:=n) a c e h i).elim λx P K F=>?_;haveI S:=F.6 _ (bT _);subst S;exact⟨_,P,K,aQ [tO 6 (th T),tO 6 (D7 T),tF F.1],F.2,F.3,F.4,F.5,F.6⟩
def Fin(x:PV):Prop:=A3 (bO x=J) (high x<=60) ((enc x).length<=60000)
def Fin.mem(h:Fin (.U l))(a:x∈l):Fin x:=by
 haveI F:=h.3;rw[nD,az]at F;exact⟨xq l x h.1 a,abo (ak (sV l x a) h.2),ak (xp l x a) (uh F)⟩
def Fin.aO(h:Fin x):Mine.aO x=J:=eR x h.1
noncomputable def kt(b:Bool):Except Exc PV:=cond b (.ok .none) (.error .bU)
def Ee n o x(h:Fin x):ag (n+65) 27 [x] o=D (kt (cC x),o):=by
 refine ex (P:=λx=>Fin x->ag _ _ [x] o=D (kt _,o)) h.1 (λl h=>?_) (λb F=>?_) h
 .haveI F:=pP _ _ n [] h.1 h.2 (aL _) (a1 h.3 rfl);cases q:cC _ with
  |false=>exact au [tF F,t1 (ar.mp (of_decide_eq_false q))] (iQ h.aO)
  |true=>exact au [tF F,t0 (aM.mpr (of_decide_eq_true q))] (iQ h.aO)
 .cases q:cC _ with
  |true=>exact au [t0 (nN (bE.mp q))]
  |false=>exact au [t1 (beq_eq_false_iff_ne.mp q)]
def Ef(h:bO x=J) os:Y (cmp .NotEq x (.bytes [])) os (.bool (bu x)) os:=
 ex (P:=λx=>Y (cmp _ x _) _ (.bool _) _) h (λl F=>rfl) λb=>by cases b <;> exactλF=>rfl
def p6(h:bO x=J) os:Y (cmp .Eq x (.bytes [])) os (.bool !(bu x)) os:=
 ex (P:=λx=>Y (cmp _ x _) _ (.bool !(bu x)) _) h (λl F=>rfl) λb=>by cases b <;> exactλF=>rfl
noncomputable def ku(a:Option PV)(m:Nat)(x:Option PV):St:=⟨[a,D (.int (m:Int)),x],[]⟩
def Wk(a:bO x=J)(h:F 27 [x] []=D (kt (cC x),[])):cl F 28 0 x (ku s0 m s2)=
  D (cond (bu x && !cC x) (.error .bU) (.ok .next),ku s0 (m+cond (bu x && cC x) 1 0) (D x)):=by
 haveI F:=Ef a [];generalize bu x=c at F |-
 generalize cC x=k at h |-
 cases c with
 |false=>exact c7 [tO 40 F]
 |true=>
  cases k with
  |false=>exact c7 [tO 40 F,tG h]
  |true=>exact c7 [tO 40 F,tF h]
def Wn{G:Prop} l m s2(h:∀x∈l,bO x=J/\F 27 [x] []=D (kt (cC x),[]))
  (a:∀c s,kg l=D c->c0 (cl F 28 0) l (ku s0 m s2)=D (.ok .next,ku s0 (m+c) s)->G)
  (b:∀d,kg l=I->c0 (cl F 28 0) l (ku s0 m s2)=D (.error .bU,d)->G):G:=by
 induction l generalizing m s2 with
 |nil=>exact a 0 _ rfl rfl
 |cons x r K=>
  haveI t:=Wk (m:=m) (s0:=s0) (s2:=s2) (h x (.head _)).1 (h x (.head _)).2;haveI P:=λy F=>h y (.tail _ F);haveI F:kg (x::r)=cond ..:=rfl;generalize bu x=c at t F;generalize cC x=k at t F;cases c with
  |false=>exact K m _ P (λc s q e=>a c s (F.trans q) ((d' t).trans e)) λd q e=>b _ (F.trans q) ((d' t).trans e)
  |true=>
   cases k with
   |false=>exact b _ F (wQ t)
   |true=>exact K _ _ P (λc s q e=>a _ s (F.trans (cA (Option.map _) q)) ((d' t).trans (e.trans (cA (λm=>D (Except.ok _,ku _ m s)) (uL m 1 c))))) λd q e=>b _ (F.trans (cA (Option.map _) q)) ((d' t).trans e)
def xH(a:l.length=n+1)(h:l[n]?=D z):Y0 (item (.U l) (.int (-1))) z:=λF=>by
 show a_ ..=_;haveI e:Mine.place ..=D n:=by
  delta Mine.place seqIndex?;haveI e:(if(-1) <0 then -1+(l.length:Int)else -1)=n:=by rw[iP zD,a];exact Jm
  rw[e];exact iP ((de ..).mpr ⟨dT (da n),dT (by rw[a];exact ed.mpr (fN n))⟩)
 rw[e,qJ,h];rfl
def Wo(a:l.length=n+1)(b:n<=1000):Y0 (er (.U l) I (D (.int (-1)))) (.U (l.take n)):=λF=>by
 haveI e:cut l I (D (-1))=l.take n:=cA l.take (Jn a);rw[<- e];exact iP (by rw[e,cK,bo];exact ak (eA ..) (ak b zD))
def tm(z:PV)(a:List PV):Bool:=((ej z).map λv=>dt (ge v) a).getD V
def Wq n o(b:l.length=17)(a:l[16]?=D z)(h:Fin (.U l)):ag (n+66) 28 [.U l] o=D (kt (tm z (l.take 16)),o):=by
 have X:=iQ h.aO;have F:=xH b a;have Z:=(h.mem (eZ a)).1;clear a;cases z with
 |U m=>exact au [tV 1 F] X
 |bytes v=>
  have S:∀k {G:Prop},(∀W,ga (ag (n+65)) 28 2 (ku (D (.U l)) k I)=D (cond (dt k (l.take 16)) (.ok .next) (.error .bU),W)->G)->G:=λk G K=>by
   have P:=Wo b zD;refine Wn (s0:=D (.U l)) (l.take 16) k I (λx a=>⟨(h.mem (qT a)).1,Ee n [] x (h.mem (qT a))⟩) (λc s q e=>K (ku (D (.U l)) (k+c) s) ?_) λW q e=>K W ?_
   .rw[show dt k (l.take 16)=cc 2 (k+c)from cA (λc=>(Option.map (λc=>cc 2 (k+c)) c).getD V) q];cases K:cc 2 (k+c)with
    |true=>exact cm [tV 2 P,tL e,t0 (ar.mpr (bw K))]
    |false=>exact cm [tV 2 P,tL e,t1 (kM λz=>ei (K.symm.trans (Hi z)))]
   .exact(show dt k (l.take 16)=V from cA (λc=>(Option.map (λc=>cc 2 (k+c)) c).getD V) q)▸cm [tV 2 P,tL e]
  show _=D (kt (dt (ge v) (l.take 16)),o);generalize K:ge v=k;refine S k λW e=>?_;generalize dt k (l.take 16)=b at e |-
  subst K;clear Z;cases v with
  |nil=>exact au [tV 1 F,tV 1 F,tZ 2 e] X (by clear e;cases b <;> rfl) (e:=(by cases b <;> kernel_rfl))
  |cons a v=>exact au [tV 1 F,tV 1 F,tZ 2 e] X (by clear e;cases b <;> rfl) (e:=(by cases b <;> kernel_rfl))
 |_=>cases Z
def Eg(b:By):b.length<=(enc (.bytes b)).length:=by
 by_cases h:b.length=1/\(b.headD 0).toNat<128
 .dsimp only[enc];rw[iP h];exact aL _
 .rw[nE h,az];exact cG ..
def Fin.lK(h:Fin (.bytes b)):b.length<=60000:=ak (Eg b) h.3
def go_inj(h:Out.go a p=.go b q){P:PV->aD->Prop}(k:P a p):P b q:=by cases h;exact k
def Wr(h:gf l q=D (.go y a))(b:Vp q):A3 (a.length<q.length) (Vp a) (y∈l):=
 pJ h λv F h=>by
  have h:=(mO h).2;cases q with
  |nil=>exact nomatch aE h
  |cons i r=>
   obtain⟨x,F⟩:=dS.mp h;haveI h:=F.2;cases K:bu x with
   |false=>rw[K]at h;exact nomatch h
   |true=>
    rw[K]at h;exact go_inj (P:=λy a=>A3 (a.length<(i::r).length) (Vp a) (y∈l)) h ⟨fN _,b.tail,eZ F.1⟩
def Ws(h:hM x z q=D (.go y a))(b:Vp q):A3 (a.length<q.length) (Vp a) (z=y):=
 pJ h λwl S h=>by
  obtain⟨w,F⟩:=wl;haveI K:=(mO h).1;haveI h:=aE (mO h).2;cases F with
  |true=>exact nomatch h
  |false=>
   haveI h:(if q.take _=w then Out.go z _ else .done _)=.go y _:=h;by_cases c:q.take w.length=w
   .rw[iP c]at h;exact go_inj (P:=λy a=>A3 (a.length<q.length) (Vp a) (z=y)) h ⟨UU c (λz=>by rw[z]at K;exact z1 K) (fN _),b.drop _,rfl⟩
   .rw[iN c]at h;exact nomatch h
def p7(h:lM l=D p):l=[p.1,p.2]:=by
 cases l with
 |nil=>exact z3 h
 |cons a r=>cases r with
  |nil=>exact z3 h
  |cons b r=>cases r with
   |nil=>exact cA (λp:PV×PV=>[p.1,p.2]) (aE h)
   |cons=>exact z3 h
def Eh(h:l.length=2):∃p,lM l=D p:=by
 cases l with
 |nil=>cases h
 |cons a r=>cases r with
  |nil=>cases h
  |cons b r=>cases r with
   |nil=>exact⟨_,rfl⟩
   |cons=>cases h
def Ei(h:stepI l q bx=D (.go y q'))(a:Vp q):A3 (q'.length<q.length) (Vp q') (y∈l):=by
 unfold stepI at h;by_cases F:l.length=17
 .rw[iP F]at h;exact Wr h a
 .rw[iN F]at h;cases bx with
  |true=>exact z3 h
  |false=>
   refine pJ h λp e h=>?_;haveI z:=Ws h a;exact⟨z.1,z.2,by rw[p7 e,z.3];exact .tail _ (.head _)⟩
def tn(y:PV):Option (aD×Bool)->Except Exc PV
 |none=>.error .bU
 |some F=>cond (lL y F.1 F.2) (.ok (.tup [.tup (iL F.1),.bool F.2])) (.error .bU)
def Wt n o{x y:PV}(h:Fin (.U [x,y])):ag (n+66) 29 [.U [x,y]] o=D (tn y (sR x),o):=by
 have F:=iQ h.aO;have S:=h.mem (.head _);have K:=S.1;have X:=h.mem (.tail _ (.head _));revert F S;refine ex (P:=λx=>bX [.U [x,y]]=J->Fin x->ag _ _ [.U [x,y]] o=D (tn y (sR x),o)) K (λl F K=>au [] F) λb F S=>?_;have K:=Vv (n+63) [] b (a1 S.lK rfl);show _=D (tn y (un b),o);unfold xt at K;cases e:un b with
 |none=>
  rw[e]at K;exact au [tG K] F
 |some Z=>
  obtain⟨w,W⟩:=Z;rw[e]at K;clear e S;cases W with
  |true=>
   revert F;refine ex (P:=λy=>bX [.U [.bytes b,y]]=J->ag (n+66) 29 [.U [.bytes b,y]] o=D (tn y (D (w,J)),o)) X.1 (λm F=>?_) (λv F=>?_)
   .exact au [tF K] F
   .cases v with
    |nil=>exact au [tF K] F
    |cons a v=>exact au [tF K] F (cw (bp w) rfl)
  |false=>
   cases w with
   |nil=>exact au [tF K] F
   |cons i w=>
    have S:=Ee n [] y X;show _=D (cond (cC y) ..,o);generalize cC y=k at S |-
    cases k with
    |true=>exact au [tF K,tF S] F (cw (bp (i::w)) rfl)
    |false=>exact au [tF K,tG S] F
noncomputable def nO(o:Out)(c:PV):PV:=match o with
 |.done v=>.tup [.bytes v,.bytes [],c]
 |.go y q=>.tup [.none,y,.tup (iL q)]
noncomputable def ju(o:Option Out)(c:PV):Except Exc PV:=match o with
 |none=>.error .bU
 |some o=>.ok (nO o c)
def Ej(a:aO c=J)(b:∀y q,o=.go y q->aO y=J):aO (nO o c)=J:=by
 cases o with
 |done v=>exact cN rfl rfl a
 |go y q=>exact cN rfl (b y q rfl) (bp q)
def Wu n o(h:Fin (.U [x,y])):ag (n+67) 31 [.U [x,y],.tup (iL q)] o=D (ju (hM x y q) (.tup []),o):=by
 have S:=cw h.aO (bp q);haveI F:=Wt n [] h;have Z:=h.mem (.tail _ (.head _));unfold hM;generalize sR x=W at F |-
 cases W with
 |none=>exact au [tG F] S
 |some X=>
  obtain⟨w,K⟩:=X;cases X:lL y w K with
  |false=>
   show _=D (ju (cond (lL y w K) ..) _,o);exact X▸au [tG (F.trans (cA (λb=>D (cond b (Except.ok (PV.tup [.tup (iL w),.bool K])) (.error Exc.bU),[])) X))] S
  |true=>
   have F:=F.trans (cA (λb=>D (cond b (Except.ok (PV.tup [.tup (iL w),.bool K])) (.error Exc.bU),[])) X);show _=D (ju (cond (lL y w K) ..) _,o);rw[X];cases K with
   |true=>
    revert X S F;refine ex (P:=λy=>bX [.U [x,y],.tup (iL q)]=J->lL y w J=J->ag (n+66) 29 [.U [x,y]] []=D (.ok (.tup [.tup (iL w),.bool J]),[])->ag (n+67) 31 [.U [x,y],.tup (iL q)] o=D (ju (D (j9 y w q J)) (.tup []),o)) Z.1 (λK K X=>z1 X) (λv S K F=>?_);show _=D (Except.ok (PV.tup [.bytes (if w=q then v else[]),.bytes [],.tup []]),o);by_cases K:w=q
    .rw[iP K];exact au [tF F,t1 (fJ w q [] (dT K))] S
    .rw[iN K];exact au [tF F,t0 (fJ w q [] (dF K))] S
   |false=>
    show _=D (Except.ok (nO (if q.take w.length=w then Out.go y (q.drop w.length)else .done []) (.tup [])),o);by_cases K:q.take w.length=w
    .rw[iP K];have X:aO (.tup [.none,y,.tup (iL (q.drop w.length))])=J:=cN rfl Z.aO (bp _);exact au [tF F,tV 2 (iU q w),t0 (iT (q.take w.length) w [] (te K)),tV 2 (nJ q w),tV 5 (bk _ X)] S X
    .rw[iN K];exact au [tF F,tV 2 (iU q w),t1 (iT (q.take w.length) w [] (tg K))] S
def xI(h:bu x=V):x=.bytes []:=by
 cases x with
 |bytes b=>cases b with
  |nil=>rfl
  |cons=>exact z2 h
 |_=>exact z2 h
def Wv n o(a:l.length=17)(h:Fin (.U l))(g:Vp q){G:Prop}(k:∀c,aO c=J->ag (n+67) 32 [.U l,.tup (iL q)] o=D (ju (gf l q) c,o)->G):G:=by
 have d:=cw h.aO (bp q);have S:l[16]?=D l[16]:=bI (e2 a rfl);have f:=(h.mem (eZ S)).1;generalize l[16]=z at S f;have F:=Wq n [] a S h;have K:=xH a S;have W:tm z (l.take 16)=V->gf l q=I->G:=λe X=>k .none rfl (by rw[X];rw[e]at F;exact au [tG F] d);have X:gf l q=(ej z).bind λv=>cond (dt (ge v) (l.take 16)) (fH l v q) I:=by unfold gf;rw[S];rfl
 revert W F K X;refine ex (P:=λz=>ag (n+66) 28 [.U l] []=D (kt (tm z (l.take 16)),[])->Y0 (item (.U l) (.int (-1))) z->(tm z (l.take 16)=V->gf l q=I->G)->(gf l q=(ej z).bind λv=>cond (dt (ge v) (l.take 16)) (fH l v q) I)->G) f (λZ Z Z W X=>W rfl X) λv F K W X=>?_;cases Z:dt (ge v) (l.take 16)with
 |false=>exact W Z (X.trans (cA (λb=>cond b (fH l v q) I) Z))
 |true=>
  have X:=X.trans (cA (λb=>cond b (fH l v q) I) Z);have F:=F.trans (cA (λb=>D (kt b,[])) Z);clear W Z S f;replace k:=X▸k;clear X;clear X;cases q with
  |nil=>exact k (.tup []) rfl (au [tF F,tV 1 K] d)
  |cons x r=>
   obtain⟨m,rfl,K⟩:=g.head.nat;have W:=bI (e1 a K rfl);have S:=h.mem (eZ W);generalize l[m]=y at W S;have k:∀c,aO c=J->ag (n+67) 32 [.U l,.tup (iL (m::r))] o=D (Except.ok (nO (cond (bu y) (.go y r) (.done [])) c),o)->G:=λc Z e=>k c Z (e.trans (by
    show _=D (ju (Option.map _ l[(m:Int).toNat]?) c,o);rw[e0,W];rfl))
   have X:=p6 S.1 [];have a:=bv (xs:=iL (m::r)) (m:=0) rfl;cases Z:bu y with
   |true=>
    rw[Z]at X k;have K:aO (.tup [.none,y,.tup (iL r)])=J:=cN rfl S.aO (bp _);exact k .none rfl (au [tF F,tB (tc [] m r),tV 1 a,tV 1 (dg W),tO 40 X,tV 2 (dh (m::r) 1),tV 5 (bk _ K)] d K)
   |false=>
    rw[Z]at X k;rw[xI Z]at X W;have K:aO (.tup [.bytes [],.bytes [],.tup (iL r)])=J:=cN rfl rfl (bp _);exact k (.tup (iL r)) (bp r) (au [tF F,tB (tc [] m r),tV 1 a,tV 1 (dg W),tO 40 X,tV 2 (dh (m::r) 1),tV 5 (bk _ K)] d K)
def Ww n o(h:Fin (.U l))(a:Vp q){G:Prop}(k:∀c,ag (n+68) 33 [.U l,.tup (iL q),.bool bx] o=D (ju (stepI l q bx) c,o)->G):G:=by
 have S:=cN (c:=.bool bx) h.aO (bp q) rfl;have K:=λy q' e=>(h.mem (Ei (bx:=bx) (y:=y) (q':=q') e a).3).aO;unfold stepI at k K;by_cases P:l.length=17
 .rw[iP P]at k K;refine Wv n [] P h a λc X e=>k c ?_;generalize gf l q=s at e K |-
  cases s with
  |none=>exact au [t1 P,tG e] S
  |some W=>
   have F:=Ej X λy q' e=>K y _ (cA D e);exact au [t1 P,tF e,tV 5 (bk (nO W c) F)] S F
 .rw[iN P]at k K;by_cases X:l.length=2
  .have Z:=nN X;cases bx with
   |true=>exact k .none (au [t0 P,t0 Z] S)
   |false=>
    obtain⟨⟨x,y⟩,e⟩:=Eh X;clear X;obtain rfl:=p7 e;have e:=Wu n [] (q:=q) h;refine k (.tup []) ?_;show _=D (ju (hM x y q) _,o);have K:∀a q',hM x y q=D (.go a q')->_:=K;generalize hM x y q=s at e K |-;cases s with
    |none=>exact au [tG e] S
    |some W=>
     have F:=Ej (c:=.tup []) rfl λy q' e=>K y q' (cA D e);exact au [t0 P,t0 Z,tF e,tV 5 (bk (nO W (.tup [])) F)] S F
  .refine k .none ?_;have F:(cond bx I ((lM l).bind λp=>hM p.1 p.2 q))=I:=by
    clear k S K;cases bx with
    |true=>rfl
    |false=>cases e:lM l with
     |none=>rfl
     |some p=>exact aB (cA gS (p7 e)) X
   rw[F];exact au [t0 P,t1 X] S
noncomputable def kv:Option PV->Except Exc PV
 |some x=>.ok x
 |none=>.error .bU
noncomputable def xJ:Option PV->Except Exc Fl
 |some x=>.ok (.ret x)
 |none=>.error .bU
def xK(f:By->By)(w a:By)(b:Bool):Except Exc PV:=cond (decide (f w=a) && (b ||decide (32<=w.length))) (kv (dec w)) (.error .bU)
noncomputable def Ek(w a:By)(b:Bool)(g:Nat)(O:List av):St:=⟨[D (.bytes w),D (.bytes a),D (.bool b),D (.loc g)],O⟩
def El n(a:Dig o g d c)(w b:By) root(e:w.length<=60000)(h:c.length<10000000):
  ag (n+67) 30 [.bytes w,.bytes b,.bool root,.loc g] o=D (xK (fK (aX c w)) w b root,putD o d (aX c w)):=by
 have F:=lX (n+64) a w (a1 e rfl) h;haveI K:=VJ n w (a1 e rfl) (putD o d (aX c w));have S:=hS a;unfold xK;generalize putD o d _=O at F K |-
 generalize fK _=f at F |-
 have P:ga (ag (n+66)) 30 2 (Ek w b root g O)=D (xJ (dec w),Ek w b root g O):=by
  unfold xv at K;cases W:dec w with
  |none=>rw[W]at K;exact cm [tG K]
  |some x=>rw[W]at K;exact cm [tF K,tV 5 (bk x (eR x (nH W).1))]
 have K:∀r,kv (dec w)=r->sB (xJ (dec w))=r:=λr h=>by rw[<- h];cases dec w <;> rfl
 generalize xJ (dec w)=y at P K;generalize kv (dec w)=r at K |-
 rw[<- K r rfl];by_cases K:f w=b
 .rw[dT K];cases root with
  |true=>exact aQ [tM S,tF F,t0 (nN K),tZ 1 P]
  |false=>
   by_cases h:32<=w.length
   .rw[dT h];exact aQ [tM S,tF F,t0 (nN K),t0 (ar.mpr h),tZ 1 P]
   .rw[dF h];exact aQ [tM S,tF F,t0 (nN K),t1 (aM.mp h)]
 .rw[dF K];exact aQ [tM S,tF F,t1 K]
def LS(o:List av)(P:PV)(a:List PV):Prop:=P=.U a\/∃i,P=.loc i/\o[i]?=D (.list a)
def LS.go(h:LS o P a)(g:Go d o.length o b)(c:P≠.loc d):LS b P a:=by
 rcases h with h |⟨i,rfl,h⟩
 .exact .inl h
 .exact .inr ⟨i,rfl,(g.2 i (aR h) (λz=>c (by rw[z]))).trans h⟩
def LS.truth(h:LS o P b)(a:(!b.isEmpty)=c):Y (truth P) o c o:=λl=>by
 rcases h with rfl |⟨i,rfl,h⟩
 .rw[<- a];rfl
 .exact(sT h).trans (by rw[<- a];rfl)
def LS.item(h:LS o P a){m:Nat}(b:a[m]?=D v):Y (item P (.int m)) o v o:=λl=>by
 have e:jQ a m ⟨l,o⟩=D (.ok v,⟨l,o⟩):=by
  unfold jQ;rw[xm (cQ.mp b).1,qJ,b];rfl
 rcases h with rfl |⟨i,rfl,h⟩
 .exact e
 .exact(dx h).trans e
def LS.len(h:LS o P a):Y (et V "len" [P]) o (.int a.length) o:=λl=>by
 rcases h with rfl |⟨i,rfl,h⟩
 .rfl
 .exact dx h
def gK{m:Nat}(h:a[m]?=D w):(am a)[m]?=D (.bytes w):=by rw[dG,h];rfl
def dz rows:(am rows).length=rows.length:=bN _
def gL(a b:Nat):tf (a=b) (a==b):=by
 by_cases h:a=b
 .rw[(bE.mpr h)];exact h
 .rw[(beq_eq_false_iff_ne.mpr h)];exact h
def xL(B:M Fl)(e:Except Exc Fl)(a:St)(O:List av):Prop:=∀{G:Prop},(∀F,B a=D (e,F)->F.objs=O->G)->G
abbrev Em:=PV->aD->Nat->Bool->St->Prop
abbrev nP(f:By->By)(a w:By):Prop:=f w=a/\32<=w.length
def Wx(B:M Fl)(e:Except Exc Fl)(A:Em)(q:aD)(u:Nat)(c:Bool)(a w:By)(f:By->By)(b:St)(O:List av):Prop:=
 ∀{G:Prop},(∀F,B b=D (e,F)->F.objs=O->(nP f a w->dec w=I)->G)->(∀F,B b=D (.ok .next,F)->A ((dec w).getD .none) q (u+1) c F->F.objs=O->nP f a w->G)->G
inductive iV(e:Except Exc Fl)(Z:By->Nat->St->Prop)(g d:Nat)(a:List By)(o:List av)(c:List By)(k:Nat)(x:PV)(q:aD)(f:Bool)(u:Nat)(b:Option (Except Exc Fl×St)):Prop
 |bad (F:St) (K:List By) (e1:b=D (e,F)) (t:Tr g d (a.length - u) o c F.objs K) (v:∀P,K <+:P->c8 (fK P) k x q f (a.drop u)=I)
 |fin (v:By) (S:Nat) (F:St) (K:List By) (e1:b=D (.ok .next,F)) (z:Z v S F) (W:S<=a.length) (t:Tr g d (a.length - u) o c F.objs K) (m:∀i w,u<=i->i<S->a[i]?=D w->w∈K) (r:∀P,K <+:P->c8 (fK P) k x q f (a.drop u)=if S=a.length then D v else I)
def iV.step(h:iV e j g d a p b s v y l c m)(t:Tr g d (c - u) o z p b)(n:c<=a.length)(A:u<=c)(B:∀i w,u<=i->i<c->a[i]?=D w->w∈b)
  (r:∀f,b <+:f->c8 (fK f) k x q C (a.drop u)=c8 (fK f) s v y l (a.drop c)):iV e j g d a o z k x q C u m:=by
 have X:=aq ((cR ..).trans (Nat.sub_add_sub_cancel n A));cases h with
 |bad P S W F v=>exact .bad _ _ W (t.trans F X) λf K=>(r _ (F.3.trans K)).trans (v _ K)
 |fin v Z P S W z P F m Z=>exact .fin v _ _ _ W z P (t.trans F X) (λi w n W S=>(Ha i _).elim (λP=>F.3.subset (B i w n P S)) λP=>m i w P W S) λf K=>(r _ (F.3.trans K)).trans (Z _ K)
def iV.of(h:∀f,c8 f k x q j (b.drop u)=I)(a:Dig o g d l)(m:c=D (e,i))(n:i.objs=o):iV e p g d b o l k x q j u c:=
 .bad _ _ m (by rw[n];exact(Tr.refl a).trans (Tr.refl a) (c':=0) (bn _)) λF F=>h _
def Wy{a:List By}(b:u<=a.length):js (a.drop u) v=if u=a.length then D v else I:=by
 unfold js;by_cases h:u=a.length
 .rw[iP h,iP (by rw[h,mF])]
 .rw[iN h,iN λz=>h (b8 b (aae.mp z))]
def En:c8 f k .none q b a=I:=by cases k <;> rfl
def Eo{T:M Bool}{B:M Fl}{e:Except Exc Fl}{A:Em}{C:By->Nat->St->Prop}{g d:Nat}{a:List By}
 (n:∀{K:Nat} {b c:St},T b=D (.ok J,b)->B b=D (e,c)->cB T B (K+1) b=D (e,c))
 (s:∀{x q u j b},A x q u j b->T b=D (.ok J,b))
 (t:∀{v u b},C v u b->T b=D (.ok V,b))
 (f:∀{x q u j b},A x q u j b->iH x=I->bO x=J\/x=.none->xL B e b b.objs)
 (i:∀{l q u j b},A (.U l) q u j b->Fin (.U l)->Vp q->stepI l q j=I->xL B e b b.objs)
 (r:∀{l q u j b v},A (.U l) q u j b->Fin (.U l)->Vp q->stepI l q j=D (.done v)->∀{G:Prop},(∀c,B b=D (.ok .next,c)->C v u c->c.objs=b.objs->G)->G)
 (N:∀{l q u j b m p},A (.U l) q u j b->Fin (.U l)->Vp q->stepI l q j=D (.go (.U m) p)->∀{G:Prop},(∀c,B b=D (.ok .next,c)->A (.U m) p u (l.length==2) c->c.objs=b.objs->G)->G)
 (E:∀{l q u j b H p},A (.U l) q u j b->Fin (.U l)->Vp q->stepI l q j=D (.go (.bytes H) p)->LS b.objs h (am a)->u=a.length->xL B e b b.objs)
 (O:∀{l q u j b H p w o},A (.U l) q u j b->Fin (.U l)->Vp q->stepI l q j=D (.go (.bytes H) p)->LS b.objs h (am a)->LS (putD b.objs d (aX o w)) h (am a)->u≠a.length->a[u]?=D w->w.length<=60000->Dig b.objs g d o->o.length<10000000->Wx B e A p u (l.length==2) H w (fK (aX o w)) b (putD b.objs d (aX o w)))
 (L:∀w∈a,w.length<=60000)(Ep:h≠.loc d) k:∀{x:PV} {q:aD} {j:Bool} {u K:Nat} {b:St} {o:List By},Fin x\/x=.none->Vp q->q.length<k->k<K->u<=a.length->A x q u j b->LS b.objs h (am a)->Dig b.objs g d o->o.length+(a.length - u) <10000000->
  iV e C g d a b.objs o k x q j u (cB T B K b):=by
 induction k with
 |zero=>exactλψ ψ h=>((eX _) h).elim
 |succ k ih=>
  intro x q j u K b o A hq hk X hu G hP F Q;cases K with
  |zero=>exact aB X (eX _)
  |succ K=>
   haveI X:=nZ X;have hy:=s G;refine Mine.oe (iH x) (λZ=>?_) λl Z=>?_
   .exact f G Z (A.imp_left (·.1)) λc W S=>.of (λf=>by show(iH x).bind _=I;rw[Z];rfl) F (n hy W) S
   .
    obtain rfl:x=.U l:=by
     clear A G;cases x with
     |U=>exact cA _ (aE Z)
     |_=>exact z3 Z
    have A:=A.resolve_right nofun;refine Mine.oe (stepI l q j) (λZ=>?_) λs Z=>?_
    .exact i G A hq Z λc W S=>.of (λf=>by show(stepI l q j).bind _=I;rw[Z];rfl) F (n hy W) S
    .
     haveI x:=λf=>lO (f:=f) (k:=k) (rows:=a.drop u) Z;cases s with
     |done v=>
      refine r G A hq Z λc W z S=>.fin v u c o ?_ z hu (by rw[S];exact(Tr.refl F).trans (Tr.refl F) (c':=0) (bn _)) (λi w v h2=>aB h2 (ar.mpr v)) λr ψ=>(x _).trans (Wy hu);cases K with
      |zero=>exact aB X (eX _)
      |succ K=>exact(hQ hy W).trans (kj (t z))
     |go y p=>
      have s:=Ei Z hq;have t:=A.mem s.3;have r_:=bc s.1 (fu hk);have Er:=s.2;have v:=t.1;revert Z x t;refine ex (P:=λy=>stepI l q j=D (.go y p)->(∀f,c8 f (k+1) (.U l) q j (a.drop u)=nx f (a.drop u) y λy rs=>c8 f k y p (l.length==2) rs)->Fin y->iV e C g d a b.objs o (k+1) (.U l) q j u (cB T B (K+1) b)) v (λm Z x t=>?_) λH Z x t=>?_
      .refine N G A hq Z λc W e S=>?_;rw[hQ hy W];have g:=ih (.inl t) Er r_ X hu e (S▸hP) (S▸F) Q;rw[S]at g;exact g.step (qu u▸Tr.refl F) hu (aL _) (λi w v h2=>aB h2 (ar.mpr v)) λr ψ=>x _
      .by_cases b:u=a.length
       .exact E G A hq Z hP b λc W S=>.of (λf=>(x f).trans (by rw[b,mF];rfl)) F (n hy W) S
       .have K:=FR hu b;have B:=bI K;have f:=k4 K;have d:=gr K;generalize a[u]=w at B f d;have t:=Tr.put F w;have m:∀r,aX o w <+:r->c8 (fK r) (k+1) (.U l) q j (a.drop u)=if nP (fK (aX o w)) H w then c8 (fK r) k ((dec w).getD .none) p (l.length==2) (a.drop (u+1))else I:=λr a=>a.elim λs X=>by
         have a:=X▸pK (jt o w);refine(x _).trans ?_;rw[f];show(if fK r w=H/\32<=w.length then _ else _)=_;rw[a]
        refine O G A hq Z hP (hP.go t.1 Ep) b B (L w d) F (aT (bl ..) Q) (λc W S h=>.bad c (aX o w) (n hy W) (by rw[S];exact t.trans (Tr.refl t.2) (c':=0) (qm K)) λr X=>(m r X).trans ?_) λc W e S h=>?_
        .by_cases c:nP (fK (aX o w)) H w
         .rw[iP c,h c];exact En
         .exact iN c
        .rw[hQ hy W];have a:Fin ((dec w).getD .none)\/(dec w).getD .none=.none:=by
          cases F:dec w with
          |none=>exact .inr rfl
          |some y=>have z:=nH F;exact .inl ⟨z.1,z.2,z.3▸L w d⟩
         have g:=ih a Er r_ X K e (S▸hP.go t.1 Ep) (S▸t.2) (Jr Q hu t.4 b);rw[S]at g;exact g.step (gQ u 1▸t) K (fy u) (λi F v h2 F=>by
          rw[Nat.eq_of_le_of_lt_succ v h2]at F;exact aE (B.symm.trans F)▸jt o w) λr X=>(m r X).trans (iP h)
noncomputable def hT(a b:By)(P:PV)(g:Nat)(x q:PV)(u:Nat)(v:PV)(c:Bool)(z:Option PV)(o:List av):St:=
 ⟨[D (.bytes a),D (.bytes b),D P,D (.loc g),D x,D q,D (.int (u:Int)),D v,D (.bool c),z],o⟩
inductive Es(a b:By)(P:PV)(g:Nat)(x:PV)(q:aD)(u:Nat)(c:Bool):St->Prop
 |mk (z:Option PV) (o:List av):Es a b P g x q u c (hT a b P g x (.tup (iL q)) u .none c z o)
inductive tq(a b:By)(P:PV)(g:Nat)(v:By)(u:Nat):St->Prop
 |mk (x q:PV) (F:Bool) (z:Option PV) (o:List av):tq a b P g v u (hT a b P g x q u (.bytes v) F z o)
def LS.last(h:LS o P (am a)):Y (et V "len" [P]) o (.int a.length) o:=dz _▸h.len
def p8 n o(h:Fin (.U l))(a:Vp q)(b:stepI l q d=s){G:Prop}(k:∀c,ag (n+68) 33 [.U l,.tup (iL q),.bool d] o=D (ju s c,o)->G):G:=by
 subst b;exact Ww n o h a k
def Wz n(h:iH x=I)(a:bO x=J\/x=.none) o q b:ag (n+1) 33 [x,.tup (iL q),.bool b] o=D (.error .bU,o):=by
 rcases a with a |rfl
 .revert h;exact ex (P:=λx=>iH x=I->ag _ _ [x,.tup _,.bool _] o=D _) a (λl h=>z4 h) λb F=>au [] (cN rfl (bp q) rfl)
 .exact au [] (cN rfl (bp q) rfl)
def WA{st:St}(c:∀w∈a,w.length<=60000)(e:b≠.loc d) k:Fin x\/x=.none->Vp q->q.length<k->k<K->u<=a.length->Es i j b g x q u p st->LS st.objs b (am a)->Dig st.objs g d r->r.length+(a.length - u) <10000000->
  iV (.error .bU) (tq i j b g) g d a st.objs r k x q p u (cB (dw (ag (n+68)) 34 0) (cM (ag (n+68)) 34 0) K st):=by
 refine Eo DH ?_ ?_ ?_ ?_ ?_ ?_ ?_ ?_ c e k
 .intro x q u p st h;cases h;exact ew []
 .intro v u st h;cases h;exact ew []
 .intro x q u p st K h F G k;cases K with
  |mk z o=>exact k (hT i j b g x (.tup (iL q)) u .none p z o) (c3 [tG (Wz (n+67) h F o q p)]) rfl
 .intro l q u p st K h S W G k;refine aH λG F=>?_;cases K with
  |mk z o=>exact F (p8 n o h S W λc e=>k (hT i j b g (.U l) (.tup (iL q)) u .none p z o) (c3 [tG e]) rfl)
 .intro l q u p st v K h S W G k;cases K with
  |mk z o=>exact p8 n o h S W λc e=>k (hT i j b g (.U l) c u (.bytes v) (l.length==2) (D (.bytes [])) o) (c3 [tF e,tC (l.length==2) (gL l.length 2)]) (.mk ..) rfl
 .intro l q u p st m X K h S W G k;cases K with
  |mk z o=>exact p8 n o h S W λc e=>k (hT i j b g (.U m) (.tup (iL X)) u .none (l.length==2) (D (.U m)) o) (c3 [tF e,tC (l.length==2) (gL l.length 2)]) (.mk ..) rfl
 .intro l q u p st P X K h S W a m G k;cases K with
  |mk z o=>exact p8 n o h S W λc e=>k (hT i j b g (.U l) (.tup (iL X)) u .none (l.length==2) (D (.bytes P)) o) (c3 [tF e,tC (l.length==2) (gL l.length 2),tO 30 a.last,t1 m]) rfl
 .intro l q u p st P X w r K h S W a p m s q F t G k Z;clear p;cases K with
  |mk z o=>
   refine p8 n o h S W λc e=>?_;haveI K:ag (n+68) 30 [.bytes w,.bytes P,.bool V,.loc g] o=D (xK (fK (aX r w)) w P V,putD o d (aX r w)):=El (n+1) F w P V q t;have c:=a.item (gK s);have h:=a.last;have k:∀F:St,_->F.objs=putD o d (aX r w)->_:=k;have Z:∀F:St,_->_->F.objs=putD o d (aX r w)->_:=Z;generalize putD o d (aX r w)=O at K k Z;generalize fK (aX r w)=f at K k Z;have F:ag (n+68) 30 [.bytes w,.bytes P,.bool V,.loc g] o=D (.error .bU,O)->(nP f P w->dec w=I)->G:=λK=>
    k (hT i j b g (.U l) (.tup (iL X)) u .none (l.length==2) (D (.bytes P)) O) (c3 [tF e,tC (l.length==2) (gL l.length 2),tO 30 h,t0 m,tO 1 c,tG K]) rfl
   by_cases S:nP f P w
   .have K:_=D (cond (decide (f w=P) && decide (32<=w.length)) (kv (dec w)) _,O):=K;replace K:=(dT S.2)▸(dT S.1)▸K;cases W:dec w with
    |none=>rw[W]at K;exact F K λa=>W
    |some y=>
     rw[W]at K Z;exact Z (hT i j b g y (.tup (iL X)) (u+1) .none (l.length==2) (D (.bytes P)) O) (c3 [tF e,tC (l.length==2) (gL l.length 2),tO 30 h,t0 m,tO 1 c,tF K]) (.mk ..) rfl S
   .refine F (K.trans ?_) λz=>aB z S;show D (cond (decide (f w=P) && decide (32<=w.length)) ..,O)=_;rw[<- Bool.decide_and,dF S];rfl
inductive Et(R:Option By->Except Exc PV)(g d:Nat)(o:List av)(f:List By)(b:By)(q:aD)(a:List By)(c:Option (Except Exc PV×List av)):Prop
 |mk (v:Option By) (K:List av) (F:List By) (e:c=D (R v,K)) (t:Tr g d a.length o f K F) (m:v≠I->∀w∈a,w∈F) (r:∀K,F <+:K->hN (fK K) b q a=v)
inductive nQ(R:Option By->Except Exc Fl)(g d:Nat)(c:List By)(x:PV)(q:aD)(a:List By)(o:List av)(b:Option (Except Exc Fl×St)):Prop
 |mk (v:Option By) (K:St) (F:List By) (e:b=D (R v,K)) (t:Tr g d a.length o c K.objs F) (m:v≠I->∀w∈a,w∈F) (r:∀K,F <+:K->lN (fK K) x q a=v)
noncomputable def xM:Option By->Except Exc PV
 |none=>.error .bU
 |some v=>.ok (.bytes v)
noncomputable def Eu:Option By->Except Exc Fl
 |none=>.error .bU
 |some v=>.ok (.ret (.bytes v))
def nQ.of(h:iV e j g d (w::i) o l (q.length+1) x q V 1 c)(m:bu x=J)(n:∀a,c=D (e,a)->b=D (f I,a))(k:∀v u a,c=D (.ok .next,a)->j v u a->Go d o.length o a.objs->∀r,(u=(w::i).length/\r=D v\/u≠(w::i).length/\r=I)->b=D (f r,a)):nQ f g d l x q i o b:=by
 have P:∀f,lN f x q i=c8 f _ x q _ i:=λf=>cA (λb=>cond b ..) m;cases h with
 |bad a S K t v=>exact .mk _ _ _ (n _ K) t (aB rfl) λW F=>(P _).trans (v _ F)
 |fin v u a S K z S t m r=>
  by_cases c:u=(w::i).length
  .exact .mk _ _ _ (k v u _ K z t.1 _ (.inl ⟨c,rfl⟩)) t (λS y X=>by
    obtain⟨i,S⟩:=List.getElem?_of_mem X;exact m _ y (cG ..) (c▸abp (cQ.mp S).1) S) λW F=>(P _).trans ((r _ F).trans (iP c))
  .exact .mk _ _ _ (k v u _ K z t.1 _ (.inr ⟨c,rfl⟩)) t (aB rfl) λW F=>(P _).trans ((r _ F).trans (iN c))
def nQ.nil(a:Dig o g d f)(i:bu x=V)(j:st'.objs=o)(h:∀r,(e=[]/\r=D []\/e≠[]/\r=I)->b=D (c r,st')):nQ c g d f x q e o b:=by
 haveI F:∀f,lN f x q e=js e _:=λf=>cA (λb=>cond b ..) i;haveI t:Tr g d e.length o _ st'.objs _:=by rw[j];exact(Tr.refl a).trans (Tr.refl a) (c':=0) (bn _)
 by_cases c:e=[]
 .exact .mk _ _ _ (h _ (.inl ⟨c,rfl⟩)) t (λK y P=>by rw[c]at P;exact z7 P) λP K=>(F _).trans (iP c)
 .exact .mk _ _ _ (h _ (.inr ⟨c,rfl⟩)) t (aB rfl) λP K=>(F _).trans (iN c)
noncomputable def WB(a b:By)(P:PV)(g:Nat)(x q:PV)(o:List av):St:=⟨[D (.bytes a),D (.bytes b),D P,D (.loc g),D x,D q,D (.int 1),I,I,I],o⟩
noncomputable def tt(b a:By)(P:PV)(g:Nat)(o:List av):St:=hT b a P g (.bytes []) (.tup (iL (aF a))) 1 (.bytes []) V I o
def Ev(h:tq e f b g v u d)(i:LS d.objs b (am (w::a)))(c:u=(w::a).length/\r=D v\/u≠(w::a).length/\r=I):ga F 34 4 d=D (Eu r,d):=by
 cases h with
 |mk x q F z o=>
  haveI F:=i.last;rcases c with⟨c,rfl⟩ |⟨c,rfl⟩
  .exact cm [tO 30 F,t0 (nN c)]
  .exact cm [tO 30 F,t1 c]
def WC(f:∀w∈c,w.length<=60000)(m:w.length<=60000)(j:b.length<=1000)(i:e≠.loc d)(k:LS o e (am (w::c)))(a:Dig o g d h)(p:h.length+c.length<10000000)(l:Fin x):
  nQ Eu g d h x (aF b) c o (ga (ag (n+68)) 34 2 (WB top b e g x (.tup (iL (aF b))) o)):=by
 haveI P:=p6 l.1 o;cases S:bu x with
 |false=>
  clear P;clear l;obtain rfl:=xI S;haveI W:cB (dw (ag (n+68)) 34 0) (cM (ag (n+68)) 34 0) gv (tt top b e g o)=D (.ok .next,tt top b e g o):=kj (ew []);haveI z:tq top b e g [] 1 (tt top b e g o):=.mk ..;exact .nil (st':=tt top b e g o) a S rfl λr h=>cm [tL W,tZ 2 (Ev (F:=ag (n+68)) z k (h.imp (λz=>⟨by rw[z.1];rfl,z.2⟩) λz=>⟨λc=>z.1 (n0.mp (h9 c).symm),z.2⟩))]
 |true=>
  replace P:=S▸P;exact .of (WA (n:=n) (st:=hT top b e g x (.tup (iL (aF b))) 1 .none V I o) (dH.mpr ⟨m,f⟩) i ((aF b).length+1) (K:=gv) (.inl l) (gb b) (fN _) (by rw[jr];exact abp (f6 j rfl)) (cG 1 _) (.mk ..) k a p) S (λst' e=>cm [tO 40 P,tL e]) λv u st' e z t r h=>cm [tO 40 P,tL e,tZ 2 (Ev (F:=ag (n+68)) z (k.go t i) h)]
def WD top f rows(k:f.length<=1000)(e:∀w∈rows,w.length<=60000)(l:i≠.loc d)(j:LS o i (am rows))(a:Dig o g d b)(h:b.length+rows.length<10000000):
  Et xM g d o b top (aF f) rows (ag (n+69) 34 [.bytes top,.bytes f,i,.loc g] o):=by
 cases rows with
 |nil=>exact .mk I o b (aQ [tT (j.truth rfl)]) (.refl a) (aB rfl) λF F=>rfl
 |cons w P=>
  have X:=e w (.head _);haveI F:=El (n+1) a w top J X (aT (bl ..) h);haveI q:=sU (n+67) (putD o d (aX b w)) f (a1 k rfl);have t:=Tr.put a w;have p:∀K,aX b w <+:K->hN (fK K) top (aF f) (w::P)=if fK (aX b w) w=top then lN (fK K) ((dec w).getD .none) (aF f) P else I:=λK S=>S.elim λs W=>by
   have S:=W▸pK (jt b w);show(if fK K w=top then _ else _)=_;rw[S]
  have y:=jt b w;have s:=j.truth (c:=J) rfl;have u:=j.item (m:=0) rfl;have j:=j.go t.1 l;have a:=zC h t.4;generalize putD o d (aX b w)=O at F q t j;generalize aX b w=S at F t p y a;have Z:ag (n+68) 30 [.bytes w,.bytes top,.bool J,.loc g] o=D (.error .bU,O)->(∀K,S <+:K->hN (fK K) top (aF f) (w::P)=I)->Et xM g d o b top (aF f) (w::P) (ag (n+69) 34 [.bytes top,.bytes f,i,.loc g] o):=λF h=>
   .mk I O S (aQ [tT s,tO 1 u,tG F]) (t.trans (.refl t.2) (c':=0) (cG 1 _)) (aB rfl) h
  by_cases c:fK S w=top
  .have F:=F.trans (cA (λb=>D (cond b (kv (dec w)) (.error .bU),O)) ((Gc _).trans (dT c)));refine aH λG d=>?_;cases P:dec w with
   |none=>exact d (Z (F.trans (cA (λx=>D (kv x,O)) P)) λK W=>(p K W).trans ((iP c).trans (by rw[P];exact En)))
   |some x=>
    have F:=F.trans (cA (λx=>D (kv x,O)) P);have z:=nH P;have S:=WC (n:=n) (top:=top) (λw h=>e w (.tail _ h)) X k l j t.2 a ⟨z.1,z.2,z.3▸X⟩;cases S with
    |mk v S X e a m r=>
     have e:ag (n+69) 34 [.bytes top,.bytes f,i,.loc g] o=D (xM v,S.objs):=by
      clear r m Z;cases v with
      |none=>exact aQ [tT s,tO 1 u,tF F,tF q,tZ 4 e]
      |some v=>exact aQ [tT s,tO 1 u,tF F,tF q,tZ 4 e]
     exact d (.mk v S.objs X e (t.trans a (aq (cR ..))) (λh=>dH.mpr ⟨a.3.subset y,m h⟩) λK W=>(p K (a.3.trans W)).trans ((iP c).trans (by rw[P];exact r K W)))
  .exact Z (F.trans (cA (λb=>D (cond b (kv (dec w)) (.error .bU),O)) ((Gc _).trans (dF c)))) λK W=>(p K W).trans (iN c)
def WE os n xs ys(h:os[n]?=D (.list xs))(a:(xs++ys).length<=aI):Y (method "extend" (.loc n) [.U ys]) os .none (os.set n (.list (xs++ys))):=λl=>xk h rfl a
def WF F s0 b:∀K S,K.length+2*b.length<aI->
  ∃P,c0 (cl F 39 0) (b.map d5) ⟨[s0,D (.loc 0),S],[.list (iL K)]⟩=D (.ok .next,⟨[s0,D (.loc 0),P],[.list (iL (K++aF b))]⟩):=by
 induction b with
 |nil=>exactλK S W=>⟨S,by delta aF;rw[ci];rfl⟩
 |cons c r W=>
  refineλK S h=>(W (K++ [(c.toNat:Int) / 16,c.toNat% 16]) (D (d5 c)) (by rw[az];exact zz h)).elim λP e=>⟨P,?_⟩;rw[ints_append,cz]at e;exact(d' (c7 [tO 8 (WE [.list (iL _)] 0 _ [.int (c.toNat / 16),.int (c.toNat% 16)] rfl (by rw[az,ints_length];exact f2 h))])).trans e
def kx n o(b:By)(h:b.length<=1000000):ag (n+1) 39 [.bytes b] o=D (.ok (.tup (iL (aF b))),o):=by
 refine bi (WF (ag n) (D (.bytes b)) b [] I (FL (f6 h rfl))) λF F=>?_;haveI K:(iL _).length<=aI:=by rw[ints_length,jr,bo];exact f5 h rfl
 exact au [tL F,tO 31 (xl [.list _] 0 _ rfl K),tV 5 (bk _ (bp (aF b)))] rfl (bp _)
noncomputable def p9(T:Nat):aD->Nat
 |[]=>T
 |x::r=>p9 (T*16+x.toNat) r
def WG p:∀T:Nat,Vp p->p.length% 2=0->p9 T p=T*256^ (pairs p).length+ba (pairs p):=by
 induction p using two_ind with
 |n=>exactλT F F=>((yD _).trans (Nat.mul_one T)).symm
 |o a=>exactλT F h=>aB h aba
 |t a b r S=>
  refineλT F h=>F.head.nat.elim λx K=>F.tail.head.nat.elim λy P=>?_;rw[K.1,P.1];refine(S _ F.tail.tail (zt h)).trans ?_;show((T*16+x)*16+y)*_+_=_*256^ ((pairs r).length+1)+ba ((16*x+y).toUInt8::pairs r);rw[jp,jq (Js K.2 P.2),uI,Jt,yS,G9,qR 256 _,c_]
def WH F s0 s1 p:∀(T:Nat) P,Vp p->∃K,c0 (cl F 41 0) (iL p) ⟨[s0,s1,D (.int T),P],[]⟩=D (.ok .next,⟨[s0,s1,D (.int (p9 T p)),K],[]⟩):=by
 induction p with
 |nil=>exactλT P S=>⟨P,rfl⟩
 |cons x r S=>
  refineλT P h=>h.head.nat.elim λm P=>?_;rw[P.1];haveI P:Y0 (binop .Mult V (.int T) (.int 16)) _:=λW=>congrFun (iP (.inr zD)) _;exact(S _ (D (.int m)) h.tail).elim λK e=>⟨K,(d' (c7 [tV 22 P])).trans e⟩
noncomputable def hU:Nat->List PV
 |0=>[]
 |n+1=>.int (n:Int)::hU n
def Ew n:(List.range n).map (λ(i:Nat)=>PV.int ((n - 1) - i))=hU n:=by
 induction n with
 |zero=>rfl
 |succ n F=>
  rw[Hk,i8,gR];exact congr (cA _ (cA _ Ju)) ((jJ λi K=>cA _ Jv).trans F)
def WI(n:Nat)(h:n<=1000000):Y0 (jV [.int n,.int (-1),.int (-1)]) (.seq (hU (n+1))):=λF=>by
 haveI e:fV n (-1) _=D (hU _):=sZ ⟨gk (ql zD) (da _),uQ h⟩ ⟨by decide,by decide⟩ (.inr (.inr rfl)) (a6 h rfl) (by unfold iZ;rw[iN zD];split <;> (first |exact Jw |exact Jx zA)) (by rw[<- Ew];exact jJ λi F=>cA _ Jy);show jM ..=_;rw[e];rfl
noncomputable def xN(T:Nat):PV->Option PV
 |.int i=>D (.int ((T / 256^i.toNat% 256:Nat):Int))
 |_=>I
def WJ(b:By):∀c:Nat,(hU b.length).filterMap (xN (ba b+c*256^b.length))=oct b:=by
 induction b with
 |nil=>exactλF=>rfl
 |cons x r F=>
  refineλc=>?_;haveI e:ba (x::r)+c*256^ (x::r).length=ba r+(x.toNat+c*256)*256^r.length:=by
   rw[jp,b4,uI,yS,qR _ 256,G9];exact Eq.trans (c_ ..) (FJ ..)
  haveI K:xN _ (.int _)=D (d5 x):=by
   show D (PV.int ((ba r+(x.toNat+c*256)*256^ ((r.length:Int)).toNat) / 256^ ((r.length:Int)).toNat% 256:Nat))=_;rw[e0,Nat.add_mul_div_right _ _ (G' zD),aa6 (nk r),ee];exact cA (λn:Nat=>D (PV.int n)) (Jz x.toNat_lt)
  rw[e];exact(ZZ K).trans (cA _ (F _))
def Ex(a:Nat)(h:a<=63):Y0 (binop .Pow V (.int 256) (.int a)) (.int (256^a:Nat)):=λF=>by
 show(if(256:Int).natAbs<2^64/\(0<=(a:Int)/\(a:Int)<=64)then rt _ else aC) _=_;rw[iP ⟨by decide,da a,JA h⟩,e0,Int.natCast_pow];rfl
def WK(a b:Nat)(h:0<b/\b<2^512):Y0 (binop .FloorDiv V (.int a) (.int b)) (.int (a / b:Nat)):=λF=>by
 show(if 0<(b:Int)/\(b:Int) <2^512 then rt _ else aC) _=_;rw[iP ⟨ed.mpr h.1,by exact_mod_cast h.2⟩];rfl
def WL(h:a<=63):256^a<2^512:=aT (yT zD h) zD
def WM F(T n:Nat)(b:n<=64) s0 s1 s3:dp 1 (dV (.seq (hU n)) (fi F 41 1)) ⟨[s0,s1,D (.int T),s3],[]⟩=D (.ok ((hU n).filterMap (xN T)),⟨[s0,s1,D (.int T),s3],[]⟩):=by
 refine lV _ _ λx S K K=>?_;obtain⟨P,rfl⟩:=fP.mp K;have K:∀n,n<=64->x∈hU n->∃a:Nat,x=.int a/\a<=63:=by
  intro n
  induction n with
  |zero=>exactλP h=>Mine.z7 h
  |succ n W=>
   refineλP h=>Mine.me h ?_ λh=>?_
   .exact⟨n,rfl,a3 P rfl⟩
   .exact W (bj P) h
 refine bi (K n b S) λa K=>?_;rw[K.1];haveI P:=iK (T / 256^a) 256 zD;exact⟨[D (.int a)],rfl,fj [tV 25 (Ex a K.2),tV 23 (WK T _ ⟨G' zD,WL K.2⟩)]⟩
def WN:∀r:aD,r.length% 2=0->(pairs r).length=r.length / 2:=λr=>by
 induction r using pairs.induct with
 |case1 a b r F=>exactλh=>(cA _ (F (Eq.trans (Zi _ 2).symm h))).trans (Nat.add_div_right _ zD).symm
 |case2 r F=>
  intro h;cases r with
  |nil=>rfl
  |cons a t=>cases t with
   |nil=>cases h
   |cons b t=>exact aB rfl (F a b t)
def WO p leaf:(pk p leaf).length=p.length / 2+1:=by
 refine(WN _ (sJ p _)).trans ?_;unfold rowOf
 split <;> simp only[az,b4,eE] <;> (first |exact JB zA |exact JC)
def Ey(b:Vp p)(c:p.length<=120)(d:p9 T p=p9 0 (rowOf p leaf)){G:Prop}
  (e:∀a,ga (ag n) 41 2 ⟨[D (.tup (iL p)),D (.bool leaf),D (.int T),I],[]⟩=D (.ok (.ret (.bytes (pk p leaf))),⟨[D (.tup (iL p)),D (.bool leaf),D (.int (ba (pk p leaf))),a],[]⟩)->G):G:=by
 refine bi (WH (ag n) (D (.tup (iL p))) (D (.bool leaf)) p T I b) λa S=>e a ?_;have F:=WG _ 0 (w7 b _) (sJ p leaf);rw[yR,ee]at F;rw[d,F]at S;have F:=WO p leaf;have K:p.length / 2<=60:=Nat.div_le_div_right c;have P:=WJ (pk p leaf) 0;rw[yR,yD,F]at P;have W:=WM (ag n) (ba (pk p leaf)) (p.length / 2+1) (a6 K rfl) (D (.tup (iL p))) (D (.bool leaf)) a;rw[P]at W;have P:=sS (iL p).length 2 zD;rw[show(iL p).length / 2=p.length / 2 from by rw[ints_length p]]at P;exact cm [tL S,tV 23 P,tR (WI _ (ak K zD)),tK W,tV 15 (eS (oct _) (by unfold oct;rw[bN,F,bo];exact a6 K rfl)),tV 33 (hO (pR _) (by rw[F,bo];exact a6 K rfl))]
def p_ n o p leaf(a:Vp p)(c:p.length<=120):ag (n+1) 41 [.tup (iL p),.bool leaf] o=D (.ok (.bytes (pk p leaf)),o):=by
 haveI F:=iK (iL p).length 2 zD;replace F:=(show(iL p).length% 2=p.length% 2 from by rw[ints_length p])▸F;have K:=cw (b:=PV.bool leaf) (bp p) rfl;by_cases h:p.length% 2=1
 .rw[h]at F;refine Ey (n:=n) (leaf:=leaf) (T:=(if leaf then 2 else 0)+1) a c (by unfold rowOf;rw[iP h];cases leaf <;> rfl) λP e=>?_;exact au [tV 24 F,tV 24 F,tZ 2 e] K (e:=(by cases leaf <;> kernel_rfl))
 .rw[((Zk _).resolve_right h)]at F;refine Ey (n:=n) (leaf:=leaf) (T:=(if leaf then 2 else 0)*16) a c (by unfold rowOf;rw[iN h];cases leaf <;> rfl) λP e=>?_;exact au [tV 24 F,tV 24 F,tZ 2 e] K (e:=(by cases leaf <;> kernel_rfl))
noncomputable def qa(b:By):PV:=match un b with
 |none=>.none
 |some (p,l)=>.tup [.tup (iL p),.bool l]
def WP n o(b:By)(h:b.length<=1000000):ag (n+2) 42 [.bytes b] o=D (.ok (qa b),o):=by
 have S:=kx n [] b h;clear h;cases b with
 |nil=>exact au [t1 (ct ([]:By))]
 |cons c t=>
  have W:=gH (b:=c::t) (m:=0) rfl;have K:¬c::t=[]:=Mine.z6;by_cases X:63<c.toNat
  .have e:qa (c::t)=.none:=by
    unfold qa un aF;dsimp only;rw[iP (JD X)]
   rw[e];exact au [t0 K,tV 1 W,t1 X]
  .have a:=sS c.toNat 16 zD;have P:un (c::t)=if(c.toNat:Int) / 16% 2=1 then D ((c.toNat:Int) % 16::aF t,decide (2<=(c.toNat:Int) / 16))else if(c.toNat:Int) % 16=0 then D (aF t,decide (2<=(c.toNat:Int) / 16))else I:=by
    unfold un;rw[show aF (c::t)=(c.toNat:Int) / 16::(c.toNat:Int) % 16::aF t from rfl];dsimp only;exact(iN (by exact JE X))
   have d:decide (2<=(c.toNat:Int) / 16)=decide (1<c.toNat / 16):=decide_eq_decide.mpr (by exact JF);rw[d]at P;have F:tf (1<c.toNat / 16) (decide (1<c.toNat / 16)):=by
    by_cases q:1<c.toNat / 16
    .rw[dT q];exact q
    .rw[dF q];exact q
   unfold qa;rw[P];generalize Z:c.toNat / 16=b at a F d |-
   by_cases d:(c.toNat:Int) / 16% 2=1
   .rw[iP d];have P:b% 2=1:=by exact JG d Z
    exact au [t0 K,tV 1 W,t0 X,tF S,tV 1 W,tV 23 a,t1 P,tV 2 (dh (aF (c::t)) 1),tC (decide (1<b)) F] rfl (cw (bp _) rfl)
   .rw[iN d];have P:¬b% 2=1:=by exact JH Z d
    have d:=bv (xs:=iL (aF (c::t))) (m:=1) (v:=.int ((c.toNat% 16:Nat):Int)) rfl;by_cases Z:(c.toNat:Int) % 16=0
    .rw[iP Z];exact au [t0 K,tV 1 W,t0 X,tF S,tV 1 W,tV 23 a,t0 P,tV 1 d,t0 (show¬c.toNat% 16≠0 by exact JI Z),tV 2 (dh (aF (c::t)) 2),tC (decide (1<b)) F] rfl (cw (bp _) rfl)
    .rw[iN Z];exact au [t0 K,tV 1 W,t0 X,tF S,tV 1 W,tV 23 a,t0 P,tV 1 d,t1 (show c.toNat% 16≠0 by exact JJ Z)]
def WQ(h:0<x)(a:x<256):be x=[x.toUInt8]:=by
 haveI F:=jq a;have:=pA (r:=[]) λz=>d1 0 (bc h (aq (F.symm.trans (cA _ z))));rw[sF,F]at this;exact this
def WR(h:256<=x)(a:x<65536):be x=[(x / 256).toUInt8,(x% 256).toUInt8]:=by
 haveI F:((x / 256).toUInt8).toNat=x / 256:=jq (abq a);haveI K:((x% 256).toUInt8).toNat=x% 256:=jq (gm _ zD);have:=pA (r:=[(x% 256).toUInt8]) λz=>bf (Nat.div_pos h (fv _)) (F.symm.trans (cA _ z));rw[jp,sF,F,K]at this;rw[<- this]
 congr 1
 exact JK
def tu{m:Nat}(h:m<256)(a:bytesOf r=D b):bytesOf (.int m::r)=D (m.toUInt8::b):=by
 show(q9 _).bind _=_;rw[xj h];rw[a];rfl
def tv n o(c:Nat)(b:By)(d:c=128\/c=192)(e:b.length<65536):ag (n+1) 43 [.int c,.bytes b] o=D (.ok (.bytes (hd c b.length++b)),o):=by
 have W:∀a:By,a.length<=3->(a++b).length<=aI:=λa F=>by rw[az,bo];exact a3 (Nat.add_lt_add_of_le_of_lt F e) rfl
 by_cases h:b.length<56
 .rw[pB (a3 h rfl)];exact au [t1 h,tV 33 (hO (lR (JL d h)) (bw rfl)),tV 20 (dy [(c+b.length).toUInt8] b (W _ (bw rfl)))]
 .rw[pC (ar.mp h)];by_cases K:b.length<256
  .rw[WQ (e9 h rfl) K];exact au [t0 h,t1 K,tV 33 (hO (tu (JM d) (lR K)) (bw rfl)),tV 20 (dy [(c+55+1).toUInt8,b.length.toUInt8] b (W _ (bw rfl)))]
  .rw[WR (ar.mp K) e];have Z:=sS b.length 256 zD;have X:=iK b.length 256 zD;have P:b.length / 256<256:=abq e;have S:b.length% 256<256:=gm _ zD;generalize b.length / 256=F at Z P |-
   generalize b.length% 256=M at X S |-
   exact au [t0 h,t0 K,tV 24 X,tV 33 (hO (tu (JN d) (tu P (lR S))) (bw rfl)),tV 20 (dy [(c+55+2).toUInt8,F.toUInt8,M.toUInt8] b (W _ (bw rfl)))]
def tw:∀l:List _,gX (am l)=D l
 |[]=>rfl
 |b::r=>by
  show(gX _).map _=_;rw[tw r];rfl
def Ez l(h:l.flatten.length<=aI):Y0 (method "join" (.bytes []) [.U (am l)]) (.bytes l.flatten):=λF=>by
 show a_ ..=_;rw[tw];exact congrFun (iP h) _
def tz:∀l:List _,(l.map enc).flatten=cb l
 |[]=>rfl
 |x::r=>by rw[i8,y_,tz r,iR]
def filterMap_some{a b:Type}(f:a->b):∀l:List _,l.filterMap (λx=>D (f x))=l.map f
 |[]=>rfl
 |x::r=>cA _ (filterMap_some f r)
def EA n l o(b:c4 l=J)(a:(enc (.U l)).length<65536)(c:∀y∈l,ag (n+1) 44 [y] []=D (.ok (.bytes (enc y)),[])):ag (n+2) 44 [.U l] o=D (.ok (.bytes (enc (.U l))),o):=by
 replace a:=az▸a;have F:dp 1 (dV (.seq l) (fi (ag (n+1)) 44 0)) ⟨[D (.U l)],[]⟩=D (.ok (am (l.map enc)),⟨[D (.U l)],[]⟩):=by
  have e:=lV (turn:=fi (ag (n+1)) 44 0) (L:=[D (.U l)]) (os:=[]) (λx=>D (.bytes (enc x))) l λx K P P=>by
   obtain⟨S,rfl⟩:=fP.mp P;exact⟨[D x],rfl,fj [tF (c x K)]⟩
  rw[filterMap_some]at e;unfold am;rw[gR];exact e
 have K:l.length<=(cb l).length:=by
  clear F c a
  induction l with
  |nil=>exact bn _
  |cons x r P=>
   dsimp only[c4]at b;rw[de]at b;rw[iR,az,b4];have:=P b.2;exact JO (xc x b.1) zA
 have P:=Ez (l.map enc) (by rw[tz,bo];exact ak (cG ..) (a3 a rfl));rw[tz]at P;exact au [tK F,tV 15 (eS (am (l.map enc)) (by unfold am;rw[bN,bN,bo];exact ak (yc K) (a3 a rfl))),tV 8 P,tF (tv n [] 192 (cb l) (.inr rfl) (a5 a rfl))] (iQ (DO l b))
def EB n(b:By) o(a:(enc (.bytes b)).length<65536):ag (n+2) 44 [.bytes b] o=D (.ok (.bytes (enc (.bytes b))),o):=by
 have F:=tv n [] _ b (.inl rfl) (aT (Eg b) a);by_cases P:b.length=1
 .clear a;obtain⟨c,rfl⟩:=fP.mp P;have S:=gH (b:=[c]) (m:=0) rfl;by_cases K:c.toNat<128
  .rw[DP K];exact au [tV 1 S,t1 K]
  .rw[nE (b:=[c]) (λz=>K z.2)];exact au [tV 1 S,t0 K,tF F]
 .rw[nE (λz=>P z.1)];exact au [t0 P,tF F]
def lY m:∀x n o,bO x=J->high x<=m->(enc x).length<65536->ag (n+m+2) 44 [x] o=D (.ok (.bytes (enc x)),o):=by
 induction m with
 |zero=>
  exactλx n o F=>ex (P:=λx=>bO x=J->high x<=0->(enc x).length<65536->ag _ _ [x] o=D (.ok (.bytes _),o)) F (λl=>by
   cases l with
   |nil=>exactλF S K=>EA n _ o rfl K λy W=>z7 W
   |cons y r=>exactλF S K=>(JP S).elim) (λb F S K=>EB n b o K) F
 |succ m X=>
  exactλx n o F=>ex (P:=λx=>bO x=J->high x<=m+1->(enc x).length<65536->ag _ _ [x] o=D (.ok (.bytes _),o)) F (λl F S K=>EA _ l o F K λy W=>by
   rw[nD,az]at K;exact X y n _ (xq l y F W) (jK (ak (sV l y W) S)) (aT (xp l y W) (Nat.lt_of_add_left_lt K))) (λb F S K=>EB _ b o K) F
def EC n x o(a:bO x=J)(c:high x<=60)(d:(enc x).length<65536):ag (n+63) 49 [x] o=D (.ok (.bool (cC x)),o):=by
 cases x with
 |U l=>
  haveI F:tf _ (cC (.U l)):=by
   show tf _ (decide _);by_cases q:(enc (.U l)).length<32
   .rw[dT q];exact q
   .rw[dF q];exact q
  exact au [tF (lY _ _ n [] a c d),tC (cC (.U l)) F] (iQ (eR _ a))
 |bytes b=>exact au [tC (b.length==32) (gL b.length 32)]
 |_=>cases a
noncomputable def ups:Nat->Nat->List PV
 |_,0=>[]
 |a,n+1=>.int (a:Int)::ups (a+1) n
def WS n:∀a:Nat,(List.range n).map (λ(i:Nat)=>PV.int (a+i*1))=ups a n:=by
 induction n with
 |zero=>exactλF=>rfl
 |succ n K=>
  refineλa=>?_;rw[Hk,i8,gR];exact congr (cA _ (cA _ JQ)) ((jJ λi F=>cA _ JR).trans (K _))
def WT n:∀a:Nat,ups a (n+1)=ups a n++ [.int (a+n:Nat)]:=by
 induction n with
 |zero=>exactλF=>rfl
 |succ n F=>exactλa=>cA _ ((F _).trans (cA (λz:Nat=>ups _ n++ [.int z]) (uL a 1 n)))
def ED:∀{a:Nat} {x:PV},x∈ups a n->∃i:Nat,A3 (x=.int i) (a<=i) (i<a+n):=by
 induction n with
 |zero=>exact z7
 |succ n F=>exactλ{a x} h=>Mine.me h ⟨a,rfl,aL _,di (bl ..)⟩ λh=>(F h).elim λi y=>⟨i,y.1,bj y.2,JS y.3⟩
def qb(n:Nat)(h:n<=1000000):Y0 (jV [.int n]) (.seq (ups 0 n)):=λF=>by
 show jM ..=_;rw[(sZ ⟨by decide,by decide⟩ ⟨gk (ql zD) (da _),uQ h⟩ (.inl rfl) (a1 h rfl) (by unfold iZ;rw[iP zD];split <;> (first |exact JT |exact JU zA)) (WS n 0))];rfl
noncomputable def nR:By->aD
 |[]=>[]
 |c::r=>nR r++ [((c.toNat*256^r.length:Nat):Int)]
def WU w:(nR w).sum=(ba w):=by
 induction w with
 |nil=>rfl
 |cons c r F=>exact List.sum_append.trans ((congr (cA _ F) (iX _)).trans ((Y9 ..).trans (cA _ (jp c r).symm)))
noncomputable def sumF(w:By):PV->Option PV
 |.int i=>D (.int (((w.getD (w.length - 1 - i.toNat) 0).toNat*256^i.toNat:Nat):Int))
 |_=>I
def WV{a b:Type}{f g:a->Option b}(l:List _):(∀x∈l,f x=g x)->l.filterMap f=l.filterMap g:=by
 induction l with
 |nil=>exactλF=>rfl
 |cons x r F=>exactλh=>hY.trans ((congr (cA (λo l=>match o with |none=>l |some b=>b::l) (h x (.head _))) (F λy F=>h y (.tail _ F))).trans hY.symm)
def EE w:(ups 0 w.length).filterMap (sumF w)=iL (nR w):=by
 induction w with
 |nil=>rfl
 |cons c r F=>
  rw[b4,WT,Ho];refine(congr (cA _ ((WV _ λx K=>(ED K).elim λi y=>?_).trans F)) ?_).trans (ints_append ..).symm
  .rw[y.1];show D _=D _;rw[e0,JV y.3,List.getD_cons_succ]
  .rw[ee];show[PV.int _]=_;rw[e0,b4,Hp,qu];rfl
def WW p:Y0 (et V "sum" [.U (iL p)]) (.int p.sum):=λF=>by
 show a_ ..=_;rw[pO];rfl
noncomputable def gM(b:By)(p e d f c z:Nat)(m:Option PV)(a:Nat)(g:List PV)(h:Option PV):St:=
 ⟨[D (.bytes b),D (.int (p:Int)),D (.int (e:Int)),D (.int (d:Int)),D (.int (f:Int)),D (.int (c:Int)),D (.int (z:Int)),m,D (.int (a:Int)),D (.loc 0),h],[.list g]⟩
def WX F(b:By) p m(d:m<=8)(a:p+m<=b.length) s2 s3 s4 s5 s6 s8 s9 iW:
  dp 1 (dV (.seq (ups 0 m)) (fi F 47 0)) ⟨[D (.bytes b),D (.int p),s2,s3,s4,s5,s6,D (.int m),s8,s9,iW],[]⟩=D (.ok (iL (nR ((b.drop p).take m))),⟨[D (.bytes b),D (.int p),s2,s3,s4,s5,s6,D (.int m),s8,s9,iW],[]⟩):=by
 have K:((b.drop p).take m).length=m:=by rw[cK,cY];exact fM (oh a)
 rw[<- EE,K];refine lV (sumF _) _ λx P S W=>?_;obtain⟨i,S⟩:=ED P;rw[S.1];obtain⟨P,rfl⟩:=fP.mp W;have P:=S.3;rw[ee]at P;have W:=bI (JW a P);have S:((b.drop p).take m).getD (m - 1 - i) 0=b[p+m - 1 - i]:=by
  have:((b.drop p).take m)[m - 1 - i]?=D b[p+m - 1 - i]:=by
   rw[List.getElem?_take_of_lt (aT (b_ ..) (qp P)),abe,show p+(m - 1 - i)=p+m - 1 - i from by exact JX P,W]
  rw[h0,this];rfl
 have X:sumF ((b.drop p).take m) (.int (i:Int))=D (.int ((b[p+m - 1 - i].toNat*256^i:Nat):Int)):=by
  show D (PV.int (((((b.drop p).take m).getD (((b.drop p).take m).length - 1 - ((i:Int)).toNat) 0).toNat*256^ ((i:Int)).toNat:Nat):Int))=_;rw[K,e0,S]
 rw[X];have S:=gH W;have K:=(b[p+m - 1 - i]).toNat_lt;generalize (b[p+m - 1 - i]).toNat=c at S K |-
 have X:=Ex i (by exact bj (g2 P d zD));have Z:=iS (p+m) 1 (by exact yc (Nat.one_le_of_lt P));have W:=iS (p+m - 1) i (by exact Nat.le_sub_one_of_lt (Zo _ P));generalize 256^i=E at X |-
 have P:Y0 (binop .Mult V (.int (c:Int)) (.int (E:Int))) (.int ((c*E:Nat):Int)):=λa=>by
  exact congrFun (iP (.inl (by exact i9 K zD))) a
 generalize p+m - 1 - i=K at W S |-
 generalize p+m - 1=K at Z W |-
 exact⟨[D (.int (i:Int))],rfl,fj [tV 21 Z,tV 21 W,tV 1 S,tV 25 X,tV 22 P]⟩
def ea(k:Nat)(b:By)(p e:Nat):PV:=match rd k ((b.drop p).take (e - p))with
 |some (x,c)=>.tup [x,.int ((p+c:Nat):Int)]
 |none=>.none
def EF k b p e:aO (ea k b p e)=J:=by
 unfold ea;cases h:rd k _ with
 |none=>rfl
 |some y=>exact cw (DU h) rfl
def EG c(h:p<a):dw c 47 1 (gM b p e d f g z m a i j)=D (.ok J,gM b p e d f g z m a i j):=ew [t1 h]
def WY c(h:¬p<a):dw c 47 1 (gM b p e d f g z m a i j)=D (.ok V,gM b p e d f g z m a i j):=ew [t0 h]
def WZ(h:i 47 [.bytes b,.int p,.int g,.int (d+1:Nat)] [.list a]=D (.ok (.tup [x,.int (p+c:Nat)]),[.list a]))(j:a.length<aI):
  cM i 47 1 (gM b p e d f low z m g a one)=D (.ok .next,gM b (p+c) e d f low z m g (a++ [x]) (D (.tup [x,.int (p+c:Nat)]))):=
 c3 [tF h,tO 8 (eQ [.list _] 0 _ x rfl j)]
def W0(h:g 47 [.bytes b,.int p,.int a,.int (d+1:Nat)] [.list c]=D (.ok .none,[.list c])):
  cM g 47 1 (gM b p e d f i z m a c j)=D (.ok (.ret .none),gM b p e d f i z m a c (D .none)):=
 c3 [tF h]
def W1(g:stop<=b.length)(s:b.length<=100000)(l:∀p o,p<=stop->c 47 [.bytes b,.int p,.int stop,.int (d+1:Nat)] o=D (.ok (ea k b p stop),o)){G:Prop} a:∀{p:Nat} {acc:List _} {one:Option _} {K:Nat},p<=stop->stop - p<a->a<K->acc.length<=p->
  (∀X F,dW (rd k) a ((b.drop p).take (stop - p))=D X->cB (dw c 47 1) (cM c 47 1) K (gM b p e d f low z m stop acc one)=D (.ok .next,gM b stop e d f low z m stop (acc++X) F)->G)->
  (∀i,dW (rd k) a ((b.drop p).take (stop - p))=I->cB (dw c 47 1) (cM c 47 1) K (gM b p e d f low z m stop acc one)=D (.ok (.ret .none),i)->G)->G:=by
 induction a with
 |zero=>exactλP h=>aB h (eX _)
 |succ a n=>
  intro p acc one K P o q r j Z;cases K with
  |zero=>exact aB q (eX _)
  |succ K=>
   have h:((b.drop p).take (stop - p)).length=stop - p:=by rw[cK,cY];exact fM (uK g _)
   by_cases S:p=stop
   .clear g l n P o Z;subst S;exact j _ _ (by rw[(yJ (h.trans (qu _)))];rfl) (by rw[ci];exact kj (WY c (d1 _)))
   .haveI K:=FR P S;haveI W:=l p [.list acc] P;have S:dW (rd k) (a+1) ((b.drop p).take (stop - p))=(rd k ((b.drop p).take (stop - p))).bind λy=>(dW (rd k) a (((b.drop p).take (stop - p)).drop y.2)).map (y.1::·):=by
     refine(iN λz=>bf (qm K) (h.symm.trans (cA gS z))).trans ?_;cases rd k ((b.drop p).take (stop - p)) <;> rfl
    unfold ea at W;refine Mine.oe (rd k ((b.drop p).take (stop - p))) (λd=>?_) λy d=>?_
    .
     rw[d]at W S;exact Z _ S (xn (EG c K) (W0 W))
    .
     rw[d]at W S;have P:=sI d;rw[h]at P;have t:=WZ (e:=e) (f:=f) (low:=low) (z:=z) (m:=m) (one:=one) W (g2 (aT r K) g (ak s zD));have S:=S.trans (show(dW (rd k) a (((b.drop p).take (stop - p)).drop y.2)).map (y.1::·)=(dW (rd k) a ((b.drop (p+y.2)).take (stop - (p+y.2)))).map (y.1::·)by rw[qC,yZ,abf]);rw[hQ (EG c K) t]at j Z;exact n (JZ P) (J0 o P) (jK q) (by rw[az];exact ec r P.2) (λX F q e=>j (y.1::X) F (S.trans (by rw[q];rfl)) (e.trans (by rw[cz];rfl))) λi q e=>Z i (S.trans (by rw[q];rfl)) e
def EH{a:Type}(b:List a)(c:h+m<=e - p):(((b.drop p).take (e - p)).drop h).take m=(b.drop (p+h)).take m:=by
 rw[qC,yZ,Hc,fM (oh c)]
def itR(k:Nat)(b:By)(p m:Nat):Bool->PV
 |false=>.tup [.bytes ((b.drop p).take m),.int ((p+m:Nat):Int)]
 |true=>((dW (rd k) (m+1) ((b.drop p).take m)).map λF=>PV.tup [.U F,.int ((p+m:Nat):Int)]).getD .none
def xO(a:eO ((b.drop p).take (e - p))=D (l,h,m))(c:h+m<=e - p):
  ea (k+1) b p e=itR k b (p+h) m l:=by
 dsimp only[ea,rd];rw[a];clear a;cases l with
 |false=>
  dsimp only;rw[EH b c,<- c_];rfl
 |true=>
  dsimp only;rw[EH b c];show _=aao ..;cases dW .. with
  |none=>rfl
  |some F=>exact cA (λn:Nat=>PV.tup [.U _,.int n]) (c_ p h m).symm
def nS(a:eO ((b.drop p).take (e - p))=I):ea (k+1) b p e=.none:=by
 dsimp only[ea,rd];rw[a]
def lZ(k:Nat)(b:By)(p m e:Nat)(l:Bool):PV:=if e<p+m\/(l=V/\(m=1/\(b[p]?.getD 0).toNat<128))then .none else itR k b p m l
def j1(q:e - (p+1) <z)(h:¬e<=p):e<p+1+z:=abr (aM.mp h) |>.mp q
def j2(q:¬e - (p+1) <z)(h:¬e<=p):¬e<p+1+z:=λx=>q ((abr (aM.mp h)).mpr x)
def j3(q:¬e - (p+1) <z)(h:¬e<=p):1+z<=e - p:=J1 (j2 q h)
def j4(q:e - (p+1) <z+m)(h:¬e<=p):e<p+1+z+m:=c_ _ z m▸j1 q h
def j5(q:¬e - (p+1) <z+m)(h:¬e<=p):¬e<p+1+z+m:=c_ _ z m▸j2 q h
def j6(q:¬e - (p+1) <z+m)(h:¬e<=p):1+z+m<=e - p:=c_ 1 z m▸j3 q h
def j7(h:¬e<=p):e - p=e - (p+1)+1:=J2 h
def W2(h:x=cv l+z):¬x<128:=by rcases nq l with q |q <;> (first |exact zp h q |exact zq h q)
def W3(a:x=cv l+z)(h:z<64):tf (191<x) l:=xu a h
def xP:∀n a:Nat,(ups a n).length=n
 |0,_=>rfl
 |n+1,a=>cA _ (xP n _)
noncomputable def qc(b:By)(p e d f a:Nat)(z m:Option PV):St:=⟨[D (.bytes b),D (.int (p:Int)),D (.int (e:Int)),D (.int (d:Int)),D (.int (f:Int)),D (.int (a:Int)),z,m,I,I,I],[]⟩
section
variable {n k:Nat} {o:List av} {b:By} {p e d z f m:Nat} {l:Bool} {R:PV} {st:St}
def EI(i:e<=b.length)(h:b.length<=100000)(j:p<=e)(a:∀q o,q<=p+m->p+m<=b.length->ag n 47 [.bytes b,.int q,.int (p+m:Nat),.int (d+1:Nat)] o=D (.ok (ea k b q (p+m)),o))(g:aO (lZ k b p m e l)=J)
  {G:Prop}(K:∀st,ga (ag n) 47 6 (qc b p e d f (cv l) (D (.int m)) my)=D (.ok (.ret (lZ k b p m e l)),st)->G):G:=by
 unfold lZ at K g;by_cases q:e<p+m
 .rw[iP (.inl q)]at K;exact K ⟨[D (.bytes b),D (.int p),D (.int e),D (.int d),D (.int f),D (.int (cv l)),D (.int m),my,D (.int (p+m:Nat)),I,I],[]⟩ (cm [t1 q])
 .have F:=ak (ar.mp q) i;cases l with
  |true=>
   rw[iN (λx=>x.elim q λx=>nomatch x.1)]at K g;have P:m+1<1000000:=a2 (dA (ak (cG m p) (ak F h))) rfl;refine W1 (e:=e) (f:=f) (low:=192) (z:=m) (m:=my) (stop:=p+m) (k:=k) (acc:=[]) (one:=I) F h (λq o S=>a q o S F) (m+1) (K:=gv) (bl ..) (by rw[gQ];exact fN m) P (bn _) (λX P S W=>?_) λst S W=>?_
   .rw[gQ]at S;unfold itR at K g;rw[S]at K g;exact K ⟨(gM b (p+m) e d f 192 m my (p+m) ([]++X) P).loc,[.dead]⟩ (cm [t0 q,tL W])
   .rw[gQ]at S;unfold itR at K;replace K:=S▸K;exact K st (cm [t0 q,t0 (show¬192=128 by decide),tL W])
  |false=>
   have P:=sY b p (p+m);rw[gQ]at P;have K:=K ⟨[D (.bytes b),D (.int (p:Int)),D (.int (e:Int)),D (.int (d:Int)),D (.int (f:Int)),D (.int 128),D (.int (m:Int)),my,D (.int ((p+m:Nat):Int)),I,I],[]⟩;by_cases W:m=1
   .clear a g;subst W;have S:=bI (show p<b.length from F);rw[S]at K;have F:=gH S;generalize b[p]=c at F K;by_cases S:c.toNat<128
    .rw[iP (.inr ⟨rfl,rfl,S⟩)]at K;exact K (cm [t0 q,t1 (ct 128),t1 (ct 1),tV 1 F,t1 S])
    .rw[iN (λx=>x.elim q λx=>S x.2.2)]at K;exact K (cm [t0 q,t1 (ct 128),t1 (ct 1),tV 1 F,t0 S,tV 2 P])
   .rw[iN (λx=>x.elim q λx=>W x.2.1)]at K;exact K (cm [t0 q,t1 (ct 128),t0 W,tV 2 P])
def EJ(i:¬e<=p)(j:¬60<d)(a:Y0 (item (.bytes b) (.int p)) (.int f))(c:f=cv l+z)(g:z<64)(q:aO R=J)
  (h:ga (ag n) 47 5 (qc b (p+1) e d f (cv l) (D (.int z)) I)=D (.ok (.ret R),st)):ag (n+1) 47 [.bytes b,.int p,.int e,.int d] o=D (.ok R,o):=by
 haveI K:=W2 c;haveI P:=W3 c g;haveI F:=iS f _ (c▸bl ..);rw[show f - cv l=z by rw[c,gQ]]at F;clear c g;cases l with
 |true=>exact au [t0 i,t0 j,tV 1 a,t0 K,t1 P,tV 21 F,tZ 7 h] rfl q
 |false=>exact au [t0 i,t0 j,tV 1 a,t0 K,t0 P,tV 21 F,tZ 7 h] rfl q
def W4{f:UInt8}(g:¬e<=p)(c:e<=b.length)(h:f.toNat=cv l+z)(a:z<64)(i:¬55<z)(j:(b.drop p).take (e - p)=f::(b.drop (p+1)).take (e - (p+1))):ea (k+1) b p e=lZ k b (p+1) z e l:=by
 haveI F:=nr (r:=(b.drop (p+1)).take (e - (p+1))) h a;haveI K:((b.drop (p+1)).take (e - (p+1))).length=e - (p+1):=by rw[cK,cY];exact fM (uK c _)
 replace F:=K▸j▸(iN i)▸F;unfold lZ;by_cases q:e - (p+1) <z
 .replace F:=F.trans (iP (.inl q));rw[iP (.inl (j1 q g)),nS F]
 .have P:z=1->((b.drop (p+1)).take (e - (p+1))).headD 0=b[p+1]?.getD 0:=λK=>by
   clear h a i F;subst K;cases K:e - (p+1)with
   |zero=>exact(q (K▸mC)).elim
   |succ m=>
    have:=bc (aM.mp λx=>yW m (K.symm.trans (x_ x))) c;rw[k4 this,bI this];rfl
  by_cases c:l=V/\(z=1/\(b[p+1]?.getD 0).toNat<128)
  .rw[iP (.inr ⟨c.1,c.2.1,(P c.2.1).symm▸c.2.2⟩)]at F;rw[iP (.inr c),nS F]
  .rw[iN (λx=>x.elim q λx=>c ⟨x.1,x.2.1,P x.2.1▸x.2.2⟩)]at F;rw[iN (λx=>x.elim (j2 q g) c),xO F (j3 q g)]
def W5{f:UInt8}(a:¬e<=p)(g:e<=b.length)(i:f.toNat=cv l+z)(c:z<64)(h:55<z)(j:(b.drop p).take (e - p)=f::(b.drop (p+1)).take (e - (p+1))):ea (k+1) b p e=
  if e<p+1+(z - 55)\/b[p+1]?.getD 0=0\/ba ((b.drop (p+1)).take (z - 55)) <56 then .none else lZ k b (p+1+(z - 55)) (ba ((b.drop (p+1)).take (z - 55))) e l:=by
 haveI F:=nr (r:=(b.drop (p+1)).take (e - (p+1))) i c;haveI K:((b.drop (p+1)).take _).length=e - (p+1):=by rw[cK,cY];exact fM (uK g _)
 replace F:=K▸j▸(iP h)▸F;by_cases q:e - (p+1) <z - 55
 .replace F:=F.trans (iP (.inl q));rw[iP (.inl (j1 q a)),nS F]
 .haveI K:=qm h;have P:=bc (FF K) (ak (ar.mp (j2 q a)) g);replace F:=(show((b.drop _).take (z - 55)).headD 0=b[p+1]?.getD 0 by
   cases S:z - 55 with
   |zero=>exact aB (S▸K) (d1 0)
   |succ m=>rw[k4 P,bI P];rfl)▸(show((b.drop _).take _).take _=(b.drop _).take _ by rw[Hc,fM (ar.mp q)])▸F
  generalize ba _=m at F |-
  by_cases c:b[p+1]?.getD 0=0\/m<56
  .replace F:=F.trans (iP (.inr (c.imp_right λx=>.inl (fu x))));rw[iP (.inr c),nS F]
  .have P:=λx=>c (.inr (di x));rw[iN λx=>x.elim (j2 q a) c];unfold lZ;by_cases K:e - (p+1) <z - 55+m
   .rw[iP (.inr (.inr (.inr K)))]at F;rw[iP (.inl (j4 K a)),nS F]
   .rw[iN λx=>x.elim q λx=>x.elim (λx=>c (.inl x)) λx=>x.elim P K]at F;rw[iN λx=>x.elim (j5 K a) λx=>P (x.2.1▸by decide),xO F (j6 K a),<- c_]
def W6{f:UInt8}(c:¬e<=p)(r:¬60<d)(i:e<=b.length)(s:b.length<=100000)(t:b[p]?=D f)(j:f.toNat=cv l+z)(g:¬55<z)
  (u:(b.drop p).take (e - p)=f::(b.drop (p+1)).take (e - (p+1)))
  (h:∀q a o,q<=a->a<=b.length->ag n 47 [.bytes b,.int q,.int a,.int (d+1:Nat)] o=D (.ok (ea k b q a),o)):
  ag (n+1) 47 [.bytes b,.int p,.int e,.int d] o=D (.ok (ea (k+1) b p e),o):=by
 haveI F:z<64:=a2 (ar.mp g) rfl;haveI K:=EF (k+1) b p e;rw[W4 c i j F g u]at K |-
 exact EI (f:=f.toNat) (my:=I) i s (aM.mp c) (λq o=>h q _ o) K λst P=>EJ (st:=st) c r (gH t) j F K (cm [t0 g,tZ 6 P])
def W7{f:UInt8}(i:¬e<=p)(j:¬60<d)(r:e<=b.length)(y:b.length<=100000)(t:b[p]?=D f)(u:f.toNat=cv l+z)(g:z<64)(h:55<z)
  (v:(b.drop p).take (e - p)=f::(b.drop (p+1)).take (e - (p+1)))
  (s:∀q a o,q<=a->a<=b.length->ag n 47 [.bytes b,.int q,.int a,.int (d+1:Nat)] o=D (.ok (ea k b q a),o)):
  ag (n+1) 47 [.bytes b,.int p,.int e,.int d] o=D (.ok (ea (k+1) b p e),o):=by
 have W:=EF (k+1) b p e;rw[W5 i r u g h v]at W |-
 have a:=λ{R st}=>EJ (n:=n) (o:=o) (R:=R) (st:=st) i j (gH t) u g;have F:=iS z 55 (bj h);clear v t j;by_cases q:e<p+1+(z - 55)
 .rw[iP (.inl q)];exact a (st:=qc b (p+1) e d f.toNat (cv l) (D (.int (z:Int))) (D (.int ((z - 55:Nat):Int)))) rfl (cm [t1 h,tV 21 F,t1 q])
 .have P:=qm h;have Z:=uK (fu g) 55;have K:=ak (ar.mp q) r;have X:=bI (bc (FF P) K:p+1<b.length);rw[X]at W |-
  have S:=gH X;generalize b[p+1]=c at S W |-
  have W:=W;by_cases j:c=0
  .rw[iP (.inr (.inl j))];exact a (st:=qc b (p+1) e d f.toNat (cv l) (D (.int (z:Int))) (D (.int ((z - 55:Nat):Int)))) rfl (cm [t1 h,tV 21 F,t0 q,tV 1 S,t1 (show c.toNat=0 by rw[j];rfl)])
  .have g:¬c.toNat=0:=λx=>j (uu.mp x);have P:=WX (ag n) b (p+1) (z - 55) Z K (D (.int (e:Int))) (D (.int (d:Int))) (D (.int (f.toNat:Int))) (D (.int (cv l:Int))) (D (.int (z:Int))) I I I;have X:=eS (iL (nR ((b.drop (p+1)).take (z - 55)))) (by
    have K:=yI (sumF ((b.drop (p+1)).take (z - 55))) (ups 0 ((b.drop (p+1)).take (z - 55)).length);rw[xP]at K;rw[<- (cA gS (EE ((b.drop (p+1)).take (z - 55)))),bo];exact ak K (ak (yV ..) (a1 Z rfl)))
   have K:=WW (nR ((b.drop (p+1)).take (z - 55)));rw[WU]at K;have i:=qb (z - 55) (a1 Z rfl);have Z:=λ{G:Prop} W=>EI (G:=G) (n:=n) (p:=p+1+(z - 55)) (m:=ba ((b.drop (p+1)).take (z - 55))) (k:=k) (d:=d) (f:=f.toNat) (my:=D (.int ((z - 55:Nat):Int))) (l:=l) r y (ar.mp q) (λq o=>s q _ o) W;generalize (b.drop (p+1)).take (z - 55)=w at P X K W Z |-
   generalize ba w=m at K W Z |-
   by_cases r:m<56
   .rw[iP (.inr (.inr r))];exact a (st:=qc b (p+1+(z - 55)) e d f.toNat (cv l) (D (.int (m:Int))) (D (.int ((z - 55:Nat):Int)))) rfl (cm [t1 h,tV 21 F,t0 q,tV 1 S,t0 g,tR i,tK P,tV 15 X,tV 35 K,t1 r])
   .rw[iN (λx=>x.elim q λx=>x.elim j r)]at W |-
    exact Z W λst Z=>a (st:=st) W (cm [t1 h,tV 21 F,t0 q,tV 1 S,t0 g,tR i,tK P,tV 15 X,tV 35 K,t0 r,tZ 6 Z])
end
def W8(b:By)(i:b.length<=100000) k:∀(d p e n:Nat) o,d+k=61->p<=e->e<=b.length->ag (n+k+1) 47 [.bytes b,.int p,.int e,.int d] o=D (.ok (ea k b p e),o):=by
 induction k with
 |zero=>
  refineλd p e n o W F P=>?_;by_cases h:e<=p
  .exact au [t1 h]
  .exact au [t0 h,t1 (show 60<d by rw[show d=61 from W];decide)]
 |succ k Z=>
  refineλd p e n o W F P=>?_;by_cases h:e<=p
  .have F:ea (k+1) b p e=.none:=nS (by rw[x_ h];rfl);exact F▸(au [t1 h])
  .have F:=zE W;have a:=bI (bc (aM.mp h) P);have c:(b.drop p).take (e - p)=b[p]::(b.drop (p+1)).take (e - (p+1)):=by
    rw[k4 (bc (aM.mp h) P),j7 h];rfl
   by_cases K:b[p].toNat<128
   .have S:eO ((b.drop p).take (e - p))=D (V,0,1):=by rw[c];unfold eO;exact(iP K)
    rw[xO S (by rw[ee];exact qm (aM.mp h))];have S:=sY b p (p+1);rw[gQ]at S;exact au [t0 h,t0 F,tV 1 (gH a),t1 K,tV 2 S]
   .obtain⟨l,z,g⟩:=w6 _ K;have K:=λq S o X j=>Z (d+1) q S n o ((Nat.succ_add d k).trans W) X j;by_cases X:55<z
    .exact W7 h F P i a g.1 g.2 X c K
    .exact W6 h F P i a g.1 X c K
def EK n(b:By)(a:b.length<=100000) o:ag (n+63) 48 [.bytes b] o=D (.ok ((dec b).getD .none),o):=by
 haveI h:=W8 b a 61 0 0 _ n [] rfl (bn _) (aL _);unfold ea at h;rw[abh,aaV,uy]at h;haveI F:∀x,dec b=D x->aO x=J:=λx e=>eR x (nH e).1;unfold dec at F |-
 cases K:rd _ b with
 |none=>
  rw[K]at h;exact au [tF h]
 |some y=>
  obtain⟨x,c⟩:=y;rw[K]at h F;dsimp only at h;rw[ee]at h;dsimp only at F |-;by_cases K:c=b.length
  .rw[iP K]at F |-
   exact au [tF h,t0 (nN K),tV 5 (bk x (F x rfl))] rfl (F x rfl)
  .rw[iN K];exact au [tF h,t1 K]
def tA(n:Nat) os(h:decide (n≠2/\n≠17)=c):cF .NotIn (.int n) (.tup [.int 2,.int 17]) os c:=λl=>by
 haveI e:(![2,17].contains (n:Int))=c:=by
  rw[<- h,qy];simp only[mG,List.contains_nil,aaX,Bool.not_or,de,uB,beq_eq_false_iff_ne,decide_eq_true_eq];exact J3
 exact cA (λc=>D (Except.ok _,_)) e
def W9 xs os:Y (cmp .NotEq (.U xs) (.U [])) os (.bool !xs.isEmpty) os:=λl=>by
 cases xs <;> rfl
def EL{a:Type}(p:a->Bool)(l:List _):l.filterMap (λx=>if p x then D x else I)=l.filter p:=by
 induction l with
 |nil=>rfl
 |cons x r K=>rw[hY,abl,K];cases p x <;> rfl
noncomputable def fL(l:List PV)(q:PV)(bx:Bool)(b m f:Option PV):St:=⟨[D (.U l),D q,D (.bool bx),b,m,f],[]⟩
section
variable {n:Nat} {l:List PV} {q:aD} {qv:PV} {bx:Bool} {b m f:Option PV} {F:Call}
def W_ xs(h:∀x∈xs,bO x=J):dp 1 (dV (.seq xs) (fi F 50 0)) (fL l qv bx b m f)=D (.ok (xs.filter bu),fL l qv bx b m f):=by
 rw[<- EL];refine lV _ _ λx P K K=>?_;obtain⟨S,rfl⟩:=fP.mp K;refine⟨[D x],rfl,?_⟩;haveI K:=Ef (h x P) [];generalize bu x=c at K |-
 cases c with
 |true=>exact fj [tO 40 K]
 |false=>exact fj [tO 40 K]
def W' xs(h:∀x∈xs,Fin x):dp 1 (dV (.seq xs) (fi (ag (n+63)) 50 1)) (fL l qv bx b m f)=D (.ok (xs.filter λx=>!cC x),fL l qv bx b m f):=by
 rw[<- EL];refine lV _ _ λx K P P=>?_;obtain⟨S,rfl⟩:=fP.mp P;refine⟨[D x],rfl,?_⟩;haveI z:=h x K;haveI e:=EC n x [] z.1 z.2 (a2 z.3 rfl);generalize cC x=c at e |-
 cases c with
 |true=>exact fj [tF e]
 |false=>exact fj [tF e]
def gg(s:Option Out)(R:PV):Prop:=match s with
 |none=>R=.none
 |some (.done v)=>E2 λb c=>R=.tup [.bytes v,b,c]
 |some (.go y q)=>R=.tup [.none,y,.tup (iL q)]
def Xa xs:kg xs=cond ((xs.filter bu).filter λx=>!cC x).isEmpty (D (xs.filter bu).length) I:=by
 induction xs with
 |nil=>rfl
 |cons x r K=>
  show cond ..=_;rw[K];cases K:bu x with
  |false=>rw[Hg (by rw[K];exact ei)];rfl
  |true=>
   rw[Hh K];cases K:cC x with
   |false=>rw[Hh (by rw[K];rfl)];rfl
   |true=>
    rw[Hg (by rw[K];exact ei)];cases ((r.filter _).filter λx=>!cC x).isEmpty <;> rfl
def Xb(c:l.length=17)(h:Fin (.U l))(d:Vp q)(e:l[16]?=D (.bytes v)){G:Prop}(k:∀R a,aO R=J->pz F 50 1 3 (fL l (.tup (iL q)) bx b m f)=D (.ok (.ret R),a)->gg (fH l v q) R->G):G:=by
 cases q with
 |nil=>exact k (.tup [.bytes v,.bytes [],.tup []]) (fL l (.tup (iL [])) bx b m f) rfl (lC [tV 1 (dg e)]) ⟨_,_,rfl⟩
 |cons x r=>
  obtain⟨j,rfl,P⟩:=d.head.nat;haveI K:=bI (e1 c P rfl);have W:=h.mem (eZ K);generalize l[j]=y at K W;haveI k:∀R a,aO R=J->_->gg (D (cond (bu y) (.go y r) (.done []))) R->G:=λR a h e o=>k R a h e (by
   show gg (Option.map _ l[(j:Int).toNat]?) R;rw[e0,K];exact o)
  have X:=bv (xs:=iL (j::r)) (m:=0) rfl;have S:=fJ (j::r) [] [] (dF (nX _ _));have Z:=p6 W.1 [];have P:=dg K;cases a:bu y with
  |true=>
   rw[a]at Z k;have K:aO (.tup [.none,y,.tup (iL r)])=J:=cN rfl W.aO (bp _);exact k (.tup [.none,y,.tup (iL r)]) (fL l (.tup (iL (j::r))) bx b m f) K (lC [t0 S,tV 1 X,tV 1 P,tO 40 Z,tV 1 X,tV 1 P,tV 2 (dh (j::r) 1),tV 5 (bk _ K)]) rfl
  |false=>
   rw[a]at Z k;have K:aO (.tup [.bytes [],y,.tup (iL r)])=J:=cN rfl W.aO (bp _);exact k (.tup [.bytes [],y,.tup (iL r)]) (fL l (.tup (iL ((j:Int)::r))) bx b m f) K (lC [t0 S,tV 1 X,tV 1 P,tO 40 Z,tV 1 X,tV 1 P,tV 2 (dh ((j:Int)::r) 1),tV 5 (bk _ K)]) ⟨_,_,rfl⟩
def Xc(j:l.length=17)(h:Fin (.U l))(o:Vp q)(d:l[16]?=D z) c{G:Prop}(k:∀R a,aO R=J->pz (ag (n+63)) 50 1 2 (fL l (.tup (iL q)) bx (D (.U ((l.take 16).filter bu))) (D (.int (((l.take 16).filter bu).length+c:Nat))) f)=D (.ok (.ret R),a)->
  gg ((ej z).bind λv=>cond (dt c (l.take 16)) (fH l v q) I) R->G):G:=by
 have S:=(h.mem (eZ d)).1;have X:((l.take 16).filter bu).length<=aI:=b7 (ak (n_ bu (l.take 16)) (yV 16 l));have K:∀r∈(l.take 16).filter bu,Fin r:=λr W=>h.mem (qT (dj.mp W).1);have W:=dg d;revert d W k;refine ex (P:=λz=>l[16]?=D z->(∀R a,aO R=J->pz (ag (n+63)) 50 1 2 (fL l (.tup (iL q)) bx (D (.U ((l.take 16).filter bu))) (D (.int (((l.take 16).filter bu).length+c:Nat))) f)=D (.ok (.ret R),a)->gg ((ej z).bind λv=>cond (dt c (l.take 16)) (fH l v q) I) R->G)->Y0 (item (.U l) (.int 16)) z->G) S (λm S k W=>?_) λv d k W=>?_
 .exact k .none (fL l (.tup (iL q)) bx (D (.U ((l.take 16).filter bu))) (D (.int (((l.take 16).filter bu).length+c:Nat))) f) rfl (lC [tV 1 W]) rfl
 .unfold dt at k;rw[Xa]at k;have Z:=W' (n:=n) (l:=l) (qv:=.tup (iL q)) (bx:=bx) (b:=D (.U ((l.take 16).filter bu))) (m:=D (.int ((((l.take 16).filter bu).length+c:Nat):Int))) (f:=f) _ K;have K:(((l.take 16).filter bu).filter λx=>!cC x).length<=aI:=ak (n_ ..) X;generalize ((l.take 16).filter bu).filter (λx=>!cC x)=S at Z K k;generalize (l.take 16).filter bu=B at Z k;have g:=W9 S [];generalize S.isEmpty=e at g k;by_cases i:2<=c+B.length
  .have X:=cR ..▸ar.mpr i;cases e with
   |false=>exact k .none (fL l (.tup (iL q)) bx (D (.U B)) (D (.int ((B.length+c:Nat):Int))) f) rfl (lC [tV 1 W,t0 X,tK Z,tV 15 (eS S K),tO 40 g]) rfl
   |true=>
    have k:∀R a,aO R=J->_->gg (cond (cc 2 (c+B.length)) (fH l v q) I) R->G:=k;replace k:=(Hi i)▸k;exact Xb (F:=ag (n+63)) (bx:=bx) (b:=D (.U B)) (m:=D (.int ((B.length+c:Nat):Int))) (f:=f) j h o d λR a d e o=>k R a d (lC [tV 1 W,t0 X,tK Z,tV 15 (eS S K),tO 40 g,tZ 2 e]) o
  .refine k .none (fL l (.tup (iL q)) bx (D (.U B)) (D (.int ((B.length+c:Nat):Int))) f) rfl (lC [tV 1 W,t1 (cR c _▸kM i)]) ?_;clear g k;cases e with
   |false=>exact rfl
   |true=>
    show gg (cond (cc 2 (c+B.length)) _ I) _;exact(qs.mpr λz=>i (bw z))▸rfl
def Xd(a:l.length=17)(h:Fin (.U l))(e:Vp q){G:Prop}(k:∀R,ag (n+64) 50 [.U l,.tup (iL q),.bool bx] []=D (.ok R,[])->aO R=J->gg (gf l q) R->G):G:=by
 have r:=cN (c:=.bool bx) h.aO (bp q) rfl;have S:l[16]?=D l[16]:=bI (e2 a rfl);have W:=(h.mem (eZ S)).1;generalize l[16]=z at S W;have w:gf l q=(ej z).bind λv=>cond (dt (ge v) (l.take 16)) (fH l v q) I:=by unfold gf;rw[S];rfl
 have s:=tA l.length [] (dF (λz=>z.2 a));have t:¬l.length=2:=bf (e2 a rfl);have X:Y0 (er (.U l) I (D (.int 16))) (.U (l.take 16)):=λK=>by
  show bV V (cut l I (D 16)) K=_;rw[(kl l 16)];exact eS (l.take 16) (by rw[cK,bo];exact ak (eA ..) zD) K
 have Z:=W_ (F:=ag (n+63)) (l:=l) (qv:=.tup (iL q)) (bx:=bx) (b:=I) (m:=I) (f:=I) (l.take 16) λx d=>(h.mem (qT d)).1;have d:=eS ((l.take 16).filter bu) (b7 (ak (n_ bu (l.take 16)) (yV 16 l)));have g:=p6 W [];have u:=dg S;have i:∀c,(∀v,z=.bytes v->ge v=c)->(∀R K,pz (ag (n+63)) 50 1 2 (fL l (.tup (iL q)) bx (D (.U ((l.take 16).filter bu))) (D (.int (((l.take 16).filter bu).length+c:Nat))) I)=D (.ok (.ret R),K)->aO R=J->ag (n+64) 50 [.U l,.tup (iL q),.bool bx] []=D (.ok R,[]))->G:=λc j p=>
  Xc a h e S c λR K S e o=>k R (p R K e S) S (by
   rw[w];revert j o;exact ex (P:=λz=>(∀v,z=.bytes v->ge v=c)->gg ((ej z).bind λv=>cond (dt c (l.take 16)) (fH l v q) I) R->gg ((ej z).bind λv=>cond (dt (ge v) (l.take 16)) (fH l v q) I) R) W (λW W o=>o) λv j o=>by replace o:=(j v rfl)▸o;exact o)
 cases W:bu z with
 |true=>
  rw[W]at g;refine i 1 (λv e=>by rw[e]at W;cases v with
   |nil=>exact z1 W
   |cons=>rfl) λR K e S=>?_
  clear i;exact au [t0 s,t0 t,t1 a,tV 2 X,tK Z,tV 15 d,tV 1 u,tO 40 g,tZ 3 e] r S
 |false=>
  rw[W]at g;refine i 0 (λv e=>by rw[e]at W;cases v with
   |nil=>rfl
   |cons=>exact z2 W) λR K e S=>?_
  clear i;exact au [t0 s,t0 t,t1 a,tV 2 X,tK Z,tV 15 d,tV 1 u,tO 40 g,tZ 3 e] r S
end
def ky(n:Nat)(x:PV)(q:aD)(a:Bool)(s:Option Out):Prop:=∀G:Prop,(∀R,ag (n+64) 50 [x,.tup (iL q),.bool a] []=D (.ok R,[])->aO R=J->gg s R->G)->G
def ky.no(h:ag (n+64) 50 [x,.tup (iL q),.bool a] []=D (.ok .none,[])):ky n x q a I:=λF k=>k _ h rfl rfl
def Xe(h:Fin (.U [x,y])):ky n (.U [x,y]) q V (hM x y q):=by
 have K:=cN (c:=.bool V) h.aO (bp q) rfl;have S:=h.mem (.head _);have F:=S.1;have d:=h.mem (.tail _ (.head _));have W:=tA 2 [] (dF zD);have X:¬2=17:=by decide
 revert K S;refine ex (P:=λx=>bX [.U [x,y],.tup (iL q),.bool V]=J->Fin x->ky n (.U [x,y]) q V (hM x y q)) F (λm K F=>.no (au [t0 W,t1 (ct 2)] K)) λb K S=>?_;have F:=WP (n+61) [] b (b7 S.lK);show ky n _ q V ((un b).bind _);unfold qa at F;cases Z:un b with
 |none=>
  rw[Z]at F;exact .no (au [t0 W,t1 (ct 2),t0 X,tF F] K)
 |some a=>
  obtain⟨w,S⟩:=a;rw[Z]at F;clear Z;cases S with
  |true=>
   revert K;refine ex (P:=λy=>bX [.U [.bytes b,y],.tup (iL q),.bool V]=J->ky n (.U [.bytes b,y]) q V (cond (lL y w J) (D (j9 y w q J)) I)) d.1 (λm K=>.no (au [t0 W,t1 (ct 2),t0 X,tF F] K)) λv K=>?_;cases v with
   |nil=>exact .no (au [t0 W,t1 (ct 2),t0 X,tF F,t1 (ct ([]:By))] K)
   |cons i v=>
    intro G k;by_cases Z:w=q
    .exact k (.tup [.bytes (i::v),.bytes [],.tup []]) (au [t0 W,t1 (ct 2),t0 X,tF F,t0 (nX i v),t1 (fJ w q [] (dT Z))] K) rfl ⟨_,_,by rw[iP Z];rfl⟩
    .exact k (.tup [.bytes [],.bytes [],.tup []]) (au [t0 W,t1 (ct 2),t0 X,tF F,t0 (nX i v),t0 (fJ w q [] (dF Z))] K) rfl ⟨_,_,by rw[iN Z]⟩
  |false=>
   cases w with
   |nil=>exact .no (au [t0 W,t1 (ct 2),t0 X,tF F,t1 (fJ [] [] [] (dT rfl))] K)
   |cons i w=>
    have b:=fJ (i::w) [] [] (dF (nX i w));have a:=EC n y [] d.1 d.2 (a2 d.3 rfl);show ky n _ q V (cond (cC y) (D (j9 y (i::w) q V)) I);generalize cC y=k at a |-
    cases k with
    |false=>exact .no (au [t0 W,t1 (ct 2),t0 X,tF F,t0 b,tF a] K)
    |true=>
     intro G k;have k:∀R,_->aO R=J->gg (D (if q.take (i::w).length=i::w then .go y (q.drop (i::w).length)else .done [])) R->G:=k;by_cases Z:q.take (i::w).length=i::w
     .rw[iP Z]at k;have S:aO (.tup [.none,y,.tup (iL (q.drop (i::w).length))])=J:=cN rfl d.aO (bp _);exact k (.tup [.none,y,.tup (iL (q.drop (i::w).length))]) (au [t0 W,t1 (ct 2),t0 X,tF F,t0 b,tF a,tV 2 (iU q (i::w)),t0 (iT (q.take (i::w).length) (i::w) [] (te Z)),tV 2 (nJ q (i::w)),tV 5 (bk _ S)] K S) S rfl
     .rw[iN Z]at k;have S:aO (.tup [.bytes [],y,.tup (iL (q.drop (i::w).length))])=J:=cN rfl d.aO (bp _);exact k (.tup [.bytes [],y,.tup (iL (q.drop (i::w).length))]) (au [t0 W,t1 (ct 2),t0 X,tF F,t0 b,tF a,tV 2 (iU q (i::w)),t1 (iT (q.take (i::w).length) (i::w) [] (tg Z)),tV 2 (nJ q (i::w)),tV 5 (bk _ S)] K S) S ⟨_,_,rfl⟩
def Xf(h:Fin (.U l))(b:Vp q):ky n (.U l) q a (stepI l q a):=by
 haveI P:=cN (c:=.bool a) h.aO (bp q) rfl;refine iteInduction (λK=>?_) λK=>?_
 .exactλF k=>Xd K h b k
 .by_cases F:l.length=2
  .cases a with
   |true=>exact .no (au [t0 (tA _ [] (dF λz=>z.1 F)),t1 F] P)
   |false=>
    obtain⟨⟨x,y⟩,e⟩:=Eh F;clear K F P;obtain rfl:=p7 e;exact Xe h
  .have S:(cond a I ((lM l).bind λp=>hM p.1 p.2 q))=I:=by
    cases a with
    |true=>rfl
    |false=>cases e:lM l with
     |none=>rfl
     |some p=>exact(F (cA _ (p7 e))).elim
   rw[S];exact .no (au [t1 (tA _ [] (dT ⟨F,K⟩))] P)
def Xg(b:ij i=J)(h:ag n i a []=D (.ok v,[])) o:ag n i a o=D (.ok v,o):=by
 cases n with
 |zero=>exact z3 h
 |succ n=>
  rw[sC]at h |-
  revert h;cases fnAt i with
  |none=>exact z3
  |some F=>
   refineλh=>iJ h λF h=>(iP F).trans ?_;rw[iP b]at h |-
   refine iJ h λF h=>(iP F).trans ?_;revert h;cases gZ .. with
   |none=>exact z3
   |some r=>
    obtain⟨x,F⟩:=r;cases x with
    |error=>exactλh=>nomatch (ym (aE h)).1
    |ok w=>exactλh=>iJ h λF h=>(iP F).trans (by cases h;rfl)
def qd n o(h:Fin (.U l))(a:Vp q)(b:stepI l q c=s){G:Prop}(k:∀R,ag (n+64) 50 [.U l,.tup (iL q),.bool c] o=D (.ok R,o)->gg s R->G):G:=by
 subst b;exact Xf h a G λR e F d=>k R (Xg zR e o) d
def Xh n(h:iH x=I)(a:bO x=J\/x=.none) o q b:ag (n+1) 50 [x,.tup (iL q),.bool b] o=D (.ok .none,o):=by
 rcases a with a |rfl
 .revert h;exact ex (P:=λx=>iH x=I->ag _ _ [x,.tup _,.bool _] o=D _) a (λl h=>z4 h) λb F=>au [] (cN rfl (bp q) rfl)
 .exact au [] (cN rfl (bp q) rfl)
def LS.tD(h:LS o P (am a))(b:decide (a=[])=c):Y (cmp .Eq P (.U [])) o (.bool c) o:=by
 have e:∀l,zX (am a) (.U []) (d4 ⟨l,o⟩ (.U []))=D c:=λl=>by rw[<- b];cases a <;> rfl
 rcases h with rfl |⟨i,rfl,h⟩
 .exactλl=>nA (e l)
 .exactλl=>nA (by unfold lc;rw[k_ h];exact e l)
noncomputable def gh(a:By)(q P:PV)(g:Nat)(x:PV)(u:Nat)(v:PV)(b:Bool)(z:Option PV)(o:List av):St:=
 ⟨[D (.bytes a),D q,D P,D (.loc g),D x,D (.int (u:Int)),D v,D (.bool b),z],o⟩
inductive EM(a:By)(P:PV)(g:Nat)(x:PV)(q:aD)(u:Nat)(b:Bool):St->Prop
 |mk (z:Option PV) (o:List av):EM a P g x q u b (gh a (.tup (iL q)) P g x u .none b z o)
inductive tE(a:By)(P:PV)(g:Nat)(v:By)(u:Nat):St->Prop
 |mk (q x:PV) (F:Bool) (z:Option PV) (o:List av):tE a P g v u (gh a q P g x u (.bytes v) F z o)
def Xi(b:∀w∈a,w.length<=60000)(c:P≠.loc d) k:Fin x\/x=.none->Vp q->q.length<k->k<K->u<=a.length->EM top P g x q u bx st->LS st.objs P (am a)->Dig st.objs g d kn->kn.length+(a.length - u) <10000000->
  iV (.ok (.ret .none)) (tE top P g) g d a st.objs kn k x q bx u (cB (dw (ag (n+64)) 51 0) (cM (ag (n+64)) 51 0) K st):=by
 refine Eo xn ?_ ?_ ?_ ?_ ?_ ?_ ?_ ?_ b c k
 .intro x q u bx st h;cases h;exact ew []
 .intro v u st h;cases h;exact ew []
 .intro x q u bx st S h F G k;cases S with
  |mk z o=>exact k (gh top (.tup (iL q)) P g x u .none bx (D .none) o) (c3 [tF (Xh (n+63) h F o q bx)]) rfl
 .intro l q u bx st S h Z W G k;refine aH λG F=>?_;cases S with
  |mk z o=>exact F (qd n o h Z W λR e X=>k (gh top (.tup (iL q)) P g (.U l) u .none bx (D .none) o) (c3 [tF (X▸e)]) rfl)
 .intro l q u bx st v S h Z W G k;cases S with
  |mk z o=>exact qd n o h Z W λR e F=>F.elim λb c X=>k (gh top c P g b u (.bytes v) (l.length==2) (D (.tup [.bytes v,b,c])) o) (c3 [tF (X▸e),tC (l.length==2) (gL l.length 2)]) (.mk ..) rfl
 .intro l q u bx st m K S h Z W G k;cases S with
  |mk z o=>exact qd n o h Z W λR e X=>k (gh top (.tup (iL K)) P g (.U m) u .none (l.length==2) (D (.tup [.none,.U m,.tup (iL K)])) o) (c3 [tF (X▸e),tC (l.length==2) (gL l.length 2)]) (.mk ..) rfl
 .intro l q u bx st a K S h Z W c j G k;cases S with
  |mk z o=>exact qd n o h Z W λR e X=>k (gh top (.tup (iL K)) P g (.bytes a) u .none (l.length==2) (D (.tup [.none,.bytes a,.tup (iL K)])) o) (c3 [tF (X▸e),tC (l.length==2) (gL l.length 2),tO 30 c.last,t1 j]) rfl
 .intro l q u bx st a K w kn S h Z W c b j q i F t G k m;cases S with
  |mk z o=>
   refine qd n o h Z W λR e X=>?_;have e:=X▸e;have S:=lX (n+62) F w (a1 i rfl) t;have p:=EK (n+1) w (a1 i rfl) (putD o d (aX kn w));have c:=c;have b:=b;have n:=c.item (gK q);have Z:=b.item (gK q);have r:=c.last;have s:=hS F;clear q h W c b i F t X;have k:∀F:St,_->F.objs=putD o d (aX kn w)->_:=k;have m:∀F:St,_->_->F.objs=putD o d (aX kn w)->_:=m;generalize putD o d (aX kn w)=O at S p Z k m;generalize fK (aX kn w)=f at S k m;by_cases F:f w=a
   .by_cases W:32<=w.length
    .exact m (gh top (.tup (iL K)) P g ((dec w).getD .none) (u+1) .none (l.length==2) (D (.tup [.none,.bytes a,.tup (iL K)])) O) (c3 [tF e,tC (l.length==2) (gL l.length 2),tO 30 r,t0 j,tM s,tO 1 n,tF S,t0 (nN F),tO 1 Z,t0 (ar.mpr W),tO 1 Z,tF p]) (.mk ..) rfl ⟨F,W⟩
    .exact k (gh top (.tup (iL K)) P g (.bytes a) u .none (l.length==2) (D (.tup [.none,.bytes a,.tup (iL K)])) O) (c3 [tF e,tC (l.length==2) (gL l.length 2),tO 30 r,t0 j,tM s,tO 1 n,tF S,t0 (nN F),tO 1 Z,t1 (aM.mp W)]) rfl λz=>aB z.2 W
   .exact k (gh top (.tup (iL K)) P g (.bytes a) u .none (l.length==2) (D (.tup [.none,.bytes a,.tup (iL K)])) O) (c3 [tF e,tC (l.length==2) (gL l.length 2),tO 30 r,t0 j,tM s,tO 1 n,tF S,t1 F]) rfl λz=>aB z.1 F
noncomputable def kz:Option By->PV
 |none=>.none
 |some v=>.bytes v
noncomputable def EN(v:Option By):Except Exc Fl:=.ok (.ret (kz v))
def kA(g d c:Nat)(o:List av)(f:List By)(b:Option (Except Exc PV×List av))(a:List By)(e:(By->By)->Option By):Prop:=
 E3 λK F v=>A7 (b=D (.ok (kz v),K)) (Go d o.length o K) (Dig K g d F) (f <+:F) (F.length<=f.length+c) (v≠I->∀w∈a,w∈F) (∀K,F <+:K->e (fK K)=v)
noncomputable def tH(a:By)(q:aD)(P:PV)(g:Nat)(o:List av):St:=gh a (.tup (iL q)) P g (.bytes []) 1 (.bytes []) V I o
def jv{P:PV}(e c:By) b(i:c.length<=1000)(h:∀w∈b,w.length<=60000)(j:P≠.loc d)(k:LS o P (am b))(a:Dig o g d f)(l:f.length+b.length<10000000):
  kA g d b.length o f (ag (n+70) 52 [.bytes e,.bytes c,P,.loc g] o) b (λf=>hN f e (aF c) b):=by
 cases (WD (n:=n) _ _ _ i h j k a l)with
 |mk v K F e t m r=>
  refine⟨K,F,v,?_,t.1,t.2,t.3,t.4,m,r⟩;clear r m t;cases v with
  |none=>exact aQ [tG e]
  |some v=>exact aQ [tF e]
def EO(h:tE e b g v u d)(f:LS d.objs b (am (w::a)))(c:u=(w::a).length/\r=D v\/u≠(w::a).length/\r=I):ga F 51 4 d=D (EN r,d):=by
 cases h with
 |mk q x F z o=>
  haveI F:=f.last;rcases c with⟨c,rfl⟩ |⟨c,rfl⟩
  .exact cm [tO 30 F,t1 c]
  .exact cm [tO 30 F,t0 c]
def Xj(e:∀w∈c,w.length<=60000)(l:w.length<=60000)(i:q.length<=2000)(m:Vp q)(f:b≠.loc d)(j:LS o b (am (w::c)))(a:Dig o g d kn)(p:kn.length+c.length<10000000)(k:Fin x\/x=.none):
  nQ EN g d kn x q c o (ga (ag (n+64)) 51 2 (gh top (.tup (iL q)) b g x 1 .none V I o)):=by
 haveI P:=k.elim (λh=>p6 h.1 o) λh=>by rw[h];exactλS=>rfl
 cases S:bu x with
 |false=>
  clear k;clear P;obtain rfl:=xI S;haveI W:cB (dw (ag (n+64)) 51 0) (cM (ag (n+64)) 51 0) gv (tH top q b g o)=D (.ok .next,tH top q b g o):=kj (ew []);have z:tE top b g [] 1 (tH top q b g o):=.mk ..;exact .nil (st':=tH top q b g o) a S rfl λr h=>cm [tL W,tZ 1 (EO (F:=ag (n+64)) z j (h.imp (λz=>⟨by rw[z.1];rfl,z.2⟩) λz=>⟨λc=>z.1 (n0.mp (h9 c).symm),z.2⟩))]
 |true=>
  replace P:=S▸P;exact .of (Xi (n:=n) (g:=g) (d:=d) (kn:=kn) (u:=1) (bx:=V) (top:=top) (st:=gh top (.tup (iL q)) b g x 1 .none V I o) (dH.mpr ⟨l,e⟩) f (q.length+1) (K:=gv) k m (fN _) (show q.length+1<1000000 by exact di (a6 i rfl)) (cG 1 _) (.mk ..) j a p) S (λst' e=>cm [tO 40 P,tL e]) λv u st' e z t r h=>cm [tO 40 P,tL e,tZ 1 (EO (F:=ag (n+64)) z (j.go t f) h)]
def EP{P:PV}(top:By) q b(hq:Vp q)(G:q.length<=2000)(j:∀w∈b,w.length<=60000)(p:P≠.loc d)(k:LS o P (am b))(a:Dig o g d i)(N:i.length+b.length<10000000):
  kA g d b.length o i (ag (n+65) 51 [.bytes top,.tup (iL q),P,.loc g] o) b (λf=>hN f top q b):=by
 cases b with
 |nil=>exact⟨o,i,I,aQ [tO 40 (k.tD (dT rfl))],.refl ..,a,bT _,bl ..,aB rfl,λψ ψ=>rfl⟩
 |cons w u=>
  have K:=j w (.head _);haveI W:=lX (n+62) a w (a1 K rfl) (aT (bl ..) N);have Z:=EK (n+1) w (a1 K rfl) (putD o d (aX i w));have t:=Tr.put a w;have l:∀F,aX i w <+:F->hN (fK F) top q (w::u)=if fK (aX i w) w=top then lN (fK F) ((dec w).getD .none) q u else I:=λF y0=>y0.elim λs X=>by
   have hf:=X▸pK (jt i w);show(if fK F w=top then _ else _)=_;rw[hf]
  have Q:=jt i w;have y:=k.tD (dF (nX _ _));have T:=k.item (m:=0) (v:=.bytes w) rfl;have k:=k.go t.1 p;have A:=k.item (m:=0) (v:=.bytes w) rfl;have B:=zC N t.4;have ho:=hS a;generalize putD o d (aX i w)=O at W Z t k A;generalize aX i w=k1 at W t l Q B;by_cases c:fK k1 w=top
  .have C:Fin ((dec w).getD .none)\/(dec w).getD .none=.none:=by
    cases hd:dec w with
    |none=>exact .inr rfl
    |some x=>have z:=nH hd;exact .inl ⟨z.1,z.2,z.3▸K⟩
   have l:=λF X=>(l F X).trans (iP c);generalize (dec w).getD .none=x at Z l C;have S:=Xj (n:=n) (top:=top) (λw h=>j w (.tail _ h)) K G hq p k t.2 B C;cases S with
   |mk v H L e t1 m r=>
    have E:=t.trans t1 (aq (cR 1 _));refine⟨H.objs,L,v,?_,E.1,E.2,E.3,E.4,λh=>dH.mpr ⟨t1.3.subset Q,m h⟩,λF X=>(l F (t1.3.trans X)).trans (r F X)⟩;exact aQ [tO 40 y,tM ho,tO 1 T,tF W,t0 (nN c),tO 1 A,tF Z,tZ 3 e]
  .exact⟨O,k1,I,aQ [tO 40 y,tM ho,tO 1 T,tF W,t1 c],t.1,t.2,t.3,ak t.4 (bH (cG 1 _) _),aB rfl,λF X=>(l F X).trans (iN c)⟩
noncomputable def rws(R:Rows):List PV:=R.map λr=>.tup [.tup (iL r.1),.bytes r.2]
def EQ R:bX (rws R)=J:=nI _ λx F=>by
 obtain⟨r,_,rfl⟩:=ch.mp F;exact cw (bp _) rfl
def Xk a b:rws (a++b)=rws a++rws b:=jH
def qe R:(rws R).length=R.length:=bN _
def ER{R:Rows}{m:Nat}(h:R[m]?=D r):(rws R)[m]?=D (.tup [.tup (iL r.1),.bytes r.2]):=by rw[dG,h];rfl
def tN(R:Rows) os(h:decide (R=[])=c):cF .Eq (.U (rws R)) (.U []) os c:=λl=>by
 rw[<- h];cases R <;> rfl
section Xl
variable {K:Type} [DecidableEq K]
def xQ cp(k i:K) v:bR (c5 cp k v) i=if i=k then D v else bR cp i:=by
 delta bR c5;by_cases h:cp.any (λe=>decide (e.1=k))=J
 .rw[iP h,List.find?_map,show((λe:K×PV=>decide (e.1=i))∘λe=>if e.1=k then(e.1,v)else e)=λe=>decide _ from funext λe=>cA (λx:K=>decide (x=i)) (iteInduction (motive:=λx:K×PV=>x.1=e.1) (λF=>rfl) λF=>rfl)];by_cases F:i=k
  .rw[iP F,F];refine(n5.mp (Z2.mpr (yz.mp h))).elim λe q=>?_;rw[q];exact cA (λx:K×PV=>D _) (iP (of_decide_eq_true (yQ (p:=λe:K×PV=>decide _) q)))
  .rw[iN F];refine Mine.oe (cp.find? λe=>decide (e.1=i)) (λq=>?_) λe q=>?_
   .rw[q];rfl
   .rw[q];exact cA (λx:K×PV=>D _) (iN λz=>F ((of_decide_eq_true (yQ (p:=λe:K×PV=>decide _) q)).symm.trans z))
 .rw[iN h,Hq];by_cases F:i=k
  .rw[iP F,F,(Hm.mpr λx P z=>h (yz.mpr ⟨x,P,z⟩)),Option.none_or,i7,dT rfl];rfl
  .rw[iN F,show[(k,v)].find? _=I from(by rw[i7,dF (λz:k=i=>F z.symm)];rfl),Option.or_none]
def Xm cp(k:K) v:(c5 cp k v).length<=cp.length+1:=by
 unfold c5
 split
 .rw[bN];exact bl ..
 .rw[az];exact aL _
end Xl
def GI(o:List av)(R:Rows):Prop:=∃F:List (Int×PV),A4 (o[0]?=D (.dict F)) (F.length<=R.length) (∀i:Int,(R.filterMap (cs i)=[]/\bR F i=I)\/∃n,A3 (n≠0) (bR F i=D (.loc n)) (o[n]?=D (.list (rws (R.filterMap (cs i)))))) (∀i j n,bR F i=D (.loc n)->bR F j=D (.loc n)->i=j)
def ES(h:o[0]?=D (.dict a))(m:Str)(b:(m=="get" ||m=="setdefault")=J):Y (eo m (.loc 0)) o I o:=λl=>(dx h).trans (congrFun (iP b) _)
def Xn d(h:o[0]?=D (.dict a))(b:a.length<aI):Y (method "setdefault" (.loc 0) [.int i,d]) o ((bR a i).getD d) (match bR a i with
  |some _=>o
  |none=>o.set 0 (.dict (c5 a i d))):=λl=>by
 refine(dx h).trans ?_;show(if a.length<aI then orM _ _ _ else aC) _=_;rw[iP b];cases bR _ i <;> rfl
def Xo d l(h:o[0]?=D (.dict a)):method "get" (.loc 0) [.int i,d] ⟨l,o⟩=orM (bR a i) mN (rt d) ⟨l,o⟩:=dx h
noncomputable def heldOf(R:Rows):By:=val R []
def Xp F{R:Rows}{v:By}{s0 s1 s2 s3 s4 s5:Option PV}(h:GI o R)(t:R.length<1000)(a:∀r∈R,r.1≠p):
  ∃P,cl F 40 2 (.tup [.tup (iL p),.bytes v]) ⟨[s0,s1,s2,s3,s4,s5,D (.loc 0),D (.bytes (heldOf R))],o⟩=D (.ok .next,⟨[s0,s1,s2,s3,D (.tup (iL p)),D (.bytes v),D (.loc 0),D (.bytes (heldOf (R++ [(p,v)])))],P⟩)/\GI P (R++ [(p,v)]):=by
 refine bi h λP S=>?_;cases p with
 |nil=>
  have W:heldOf (R++ [([],v)])=v:=by
   unfold heldOf val;rw[Hq,Hm.mpr λr X=>by simpa using a r X];rfl
  have s:∀i,(R++ [([],v)]).filterMap (cs i)=R.filterMap (cs i):=λi=>by
   rw[Ho];show _++ []=_;rw[ci]
  rw[W];exact⟨o,c7 [t1 (fJ [] [] o (dT rfl))],P,S.1,by rw[az];exact b6 S.2,λi=>by rw[s];exact S.3 i,S.4⟩
 |cons x p=>
  have W:heldOf (R++ [(x::p,v)])=heldOf R:=by
   unfold heldOf val;rw[Hq];cases R.find? (λr=>decide (r.1=[])) <;> rfl
  have s:∀i,(R++ [(x::p,v)]).filterMap (cs i)=R.filterMap (cs i)++if x=i then[(p,v)]else[]:=λi=>by
   rw[Ho];rw[hY,abk];have X:cs i (x::p,v)=if x=i then D (p,v)else I:=rfl
   rw[X];by_cases q:x=i
   .rw[iP q,iP q]
   .rw[iN q,iN q]
  rw[W];have X:=aR S.1;have e:(o++ [av.list []])[0]?=D (.dict P):=(cX X).trans S.1;have r:=fJ (x::p) [] o (c:=V) (dF (λz=>by exact Mine.z6 z));have f:=ES S.1 "setdefault" zK;have u:=bv (xs:=iL (x::p)) (m:=0) rfl;have w:Y (bV J []) o (.loc o.length) (o++ [.list []]):=λl=>rfl;have Z:=Xn (i:=x) (.loc o.length) e (by rw[bo];exact bc (aT S.2 t) zD);have g:=dh (x::p) 1;have a:(o++ [av.list []])[o.length]?=D (.list []):=gT;rcases S.3 x with⟨k,h⟩ |⟨n,tP,h,tQ⟩
  .rw[h]at Z;have W:((o++ [av.list []]).set 0 (.dict (c5 P x (.loc o.length))))[o.length]?=D (.list []):=by rw[bm (dB X)];exact a
   have d:=eQ _ o.length [] (.tup [.tup (iL p),.bytes v]) W zD;refine⟨((o++ [av.list []]).set 0 (.dict (c5 P x (.loc o.length)))).set o.length (.list [.tup [.tup (iL p),.bytes v]]),c7 [t0 r,tM f,tV 1 u,tO 14 w,tO 8 Z,tM (gJ W "append" zK),tV 2 g,tO 8 d],c5 P x (.loc o.length),?_,?_,λi=>?_,λi j n a b=>?_⟩
   .rw[bm (bf X),gn (by rw[az];exact cG _ _)]
   .have:=Xm P x (.loc o.length);rw[az];simp only[b4,eE];exact b3 this S.2
   .rw[s,xQ];by_cases q:i=x
    .subst q;rw[iP rfl,iP rfl,k];exact .inr ⟨o.length,bf X,rfl,by rw[gn (by rw[dD,az];simp)];rfl⟩
    .rw[iN q,iN (λz=>q z.symm),ci];rcases S.3 i with a |⟨m,m0,m1,m2⟩
     .exact .inl a
     .have:=aR m2;exact .inr ⟨m,m0,m1,by rw[bm (bf this),bm m0.symm,cX this];exact m2⟩
   .rw[xQ]at a b;have X:∀i,bR P i≠D (.loc o.length):=λi z=>by
     rcases S.3 i with⟨_,a⟩ |⟨m,_,m1,m2⟩
     .rw[a]at z;exact Mine.z3 z
     .rw[m1]at z;cases z;have:=aR m2;exact d1 _ this
    by_cases l:i=x
    .by_cases k:j=x
     .rw[l,k]
     .rw[iP l]at a;rw[iN k]at b;cases a;exact aB b (X j)
    .rw[iN l]at a;by_cases k:j=x
     .rw[iP k]at b;cases b;exact aB a (X i)
     .rw[iN k]at b;exact S.4 i j n a b
  .rw[h]at Z;have X:=aR tQ;have W:(o++ [av.list []])[n]?=D (.list (rws (R.filterMap (cs x)))):=(cX X).trans tQ;have b:(R.filterMap (cs x)).length<=R.length:=yI _ _;have d:=eQ _ n _ (.tup [.tup (iL p),.bytes v]) W (by rw[qe,bo];exact bc (aT b t) zD);refine⟨(o++ [av.list []]).set n (.list (rws (R.filterMap (cs x))++ [.tup [.tup (iL p),.bytes v]])),c7 [t0 r,tM f,tV 1 u,tO 14 w,tO 8 Z,tM (gJ W "append" zK),tV 2 g,tO 8 d],P,?_,?_,λi=>?_,S.4⟩
   .rw[bm tP];exact e
   .rw[az];exact b6 S.2
   .rw[s];by_cases q:i=x
    .subst q;rw[iP rfl];exact .inr ⟨n,tP,h,by rw[gn (by rw[az];exact b6 X),Xk];rfl⟩
    .rw[iN (λz=>q z.symm),ci];rcases S.3 i with a |⟨m,m0,m1,m2⟩
     .exact .inl a
     .refine .inr ⟨m,m0,m1,?_⟩;have P:n≠m:=λz=>q (S.4 i x n (z▸m1) h);rw[bm P,cX (aR m2)];exact m2
def Xq F{s0 s1 s2 s3:Option _} t:∀R o s4 s5,GI o R->R.length+t.length<1000->eP (R++t)->
  E3 λW P S=>c0 (cl F 40 2) (rws t) ⟨[s0,s1,s2,s3,s4,s5,D (.loc 0),D (.bytes (heldOf R))],o⟩=D (.ok .next,⟨[s0,s1,s2,s3,P,S,D (.loc 0),D (.bytes (heldOf (R++t)))],W⟩)/\GI W (R++t):=by
 induction t with
 |nil=>exactλR o s4 s5 h X X=>⟨o,s4,s5,(ci R).symm▸rfl,(ci R).symm▸h⟩
 |cons e t b=>
  refineλR o s4 s5 h Z X=>(Xp F (s0:=s0) (s1:=s1) (s2:=s2) (s3:=s3) (s4:=s4) (s5:=s5) (v:=e.2) h (aT (bl ..) Z) λr a=>Dq ((List.pairwise_append.mp X).2.2 r a e (.head _))).elim λa a=>?_;rw[List.append_cons]at X |-
  exact(b _ _ _ _ a.2 (by rw[az];exact J7 Z) X).elim λW P S X=>⟨W,P,S,(d' a.1).trans X.1,X.2⟩
def ET(a:List _->List _->Prop) f
  (h:∀x r e d,a (x::r) e->d.length=n->E2 λc b=>A3 (c.length=n) (turn x ⟨d++L,e⟩=D (.ok (D (f x)),⟨c++L,b⟩)) (a r b)) g e(i:a g e):
  ∃b,dp n (dV (.seq g) turn) ⟨L,e⟩=D (.ok (g.map f),⟨L,b⟩)/\a [] b:=by
 haveI W:∀g F d e,d.length=n->a g e->E2 λc b=>gw turn F g ⟨d++L,e⟩=D (.ok (F++g.map f),⟨c++L,b⟩)/\a _ b:=by
  intro g
  induction g with
  |nil=>exactλF d e K K=>⟨d,e,by rw[List.map_nil,ci];rfl,K⟩
  |cons x r X=>
   refineλF d e F K=>(h x r _ _ K F).elim λc b K=>?_;obtain⟨F,P,S⟩:=X _ _ _ K.1 K.3;refine⟨F,P,?_,S.2⟩;show bd ..=_;unfold bd;rw[K.2];dsimp only;rw[S.1,cz];rfl
 refine(W _ [] (bF n I) _ fx i).elim λc b F=>⟨b,?_,F.2⟩;delta dp dV;dsimp only;rw[F.1];rfl
def Xr xs(h:xs.length<=aI):Y0 (et V "tuple" [.U xs]) (.tup xs):=λF=>congrFun (iP h) _
def GJ(R:Rows)(a:List PV)(o:List av):Prop:=A3 a.Nodup (∀x∈a,∃i,x=.int i) (∃F:List (Int×PV),A3 (o[0]?=D (.dict F)) (∀i:Int,.int i∈a->(R.filterMap (cs i)=[]/\bR F i=I)\/∃n,A3 (n≠0) (bR F i=D (.loc n)) (o[n]?=D (.list (rws (R.filterMap (cs i)))))) (∀i j n,bR F i=D (.loc n)->bR F j=D (.loc n)->i=j))
def tS(k:Nat)(R:Rows):PV->PV
 |.int i=>pv (d_ k (R.filterMap (cs i)))
 |_=>.none
def Xs{R:Rows}(b:∀i o,F 40 [.U (rws (R.filterMap (cs i)))] o=D (.ok (pv (d_ k (R.filterMap (cs i)))),o)) s0 s1 s2 s3 s4 s5 s7 xs o(h:GJ R xs o):
  ∃d,dp 1 (dV (.seq xs) (fi F 40 3)) ⟨[s0,s1,s2,s3,s4,s5,D (.loc 0),s7],o⟩=D (.ok (xs.map (tS k R)),⟨[s0,s1,s2,s3,s4,s5,D (.loc 0),s7],d⟩):=by
 refine(ET (turn:=fi F 40 3) (L:=[s0,s1,s2,s3,s4,s5,D (.loc 0),s7]) (GJ R) (tS k R) (λx r P F W F=>by
  obtain⟨i,rfl⟩:=W.2 x (.head _);obtain⟨K,rfl⟩:=fP.mp F;refine aH λG f=>?_;obtain⟨X,K⟩:=W.3;have F:=ef.mp W.1;have g:=ES K.1 "get" zK;have p:=λl=>Xo (i:=i) (.U []) l K.1;have S:=b i;rcases K.2 i (.head _)with⟨c,Z⟩ |⟨n,tP,Z,tQ⟩
  .replace S:=c▸S;have b:Y (method "get" (.loc 0) [.int i,.U []]) P (.U []) P:=λl=>by
    rw[p,Z];rfl
   refine f ?_;rw[show tS k R (.int i)=pv (d_ k [])from cA (λR=>pv (d_ k R)) c];refine⟨[D (.int i)],P,rfl,fj [tM g,tO 8 b,tF (S P)],F.2,λx e=>W.2 x (.tail _ e),X,K.1,λj c=>K.2 j (.tail _ c),K.3⟩
  .have b:Y (method "get" (.loc 0) [.int i,.U []]) P (.U (rws (R.filterMap (cs i)))) (P.set n .dead):=λl=>by
    rw[p,Z];show q7 n ((P[n]?).bind k9) _=_;rw[tQ];rfl
   have S:=S (P.set n .dead);refine f ?_;generalize R.filterMap (cs i)=B at b S |-
   refine⟨[D (.int i)],P.set n .dead,rfl,fj [tM g,tO 8 b,tF S],F.2,λx e=>W.2 x (.tail _ e),X,(bm tP).trans K.1,λj c=>?_,K.3⟩;rcases K.2 j (.tail _ c)with a |⟨m,m0,m1,m2⟩
   .exact .inl a
   .refine .inr ⟨m,m0,m1,?_⟩;have P:n≠m:=λz=>by
     have:=K.3 i j n Z (z▸m1);clear m1 m2;subst this;exact F.1 c
    exact(bm P).trans m2) xs o h).elim λd F=>?_
 exact⟨d,F.1⟩
def Xt:(iL cn).Nodup:=by
 delta iL List.Nodup;rw[He];exact sM.imp λh z=>h (by clear h;cases z;rfl)
def Xu(h:aY p q=J)(c:sh p q<p.length):sh p q<q.length:=by
 induction p generalizing q with
 |nil=>exact aB c (eX _)
 |cons a p F=>
  cases q with
  |nil=>cases h
  |cons b q=>
   dsimp only[sh]at c |-
   by_cases e:a=b
   .rw[iP e]at c |-
    exact dA (F ((eu.mp h).resolve_left (J8 e)).2 (jK c))
   .rw[iN e];exact cG ..
noncomputable def tX(r:PV)(p q:aD)(m:Nat)(a b c d:Option PV):St:=⟨[D r,D (.tup (iL p)),D (.tup (iL q)),D (.int (m:Int)),a,b,c,d],[]⟩
def Xv F r(p q:aD)(h:aY p q=J) s4 s5 s6 s7 j:∀m k,m+j=sh p q->j<k->cB (dw F 40 0) (cM F 40 0) k (tX r p q m s4 s5 s6 s7)=D (.ok .next,tX r p q (sh p q) s4 s5 s6 s7):=by
 induction j with
 |zero=>
  refineλm k K P=>K▸kp P λk S=>kj ?_;have e:=K;by_cases S:m<p.length
  .exact(DK p q (J9 (e▸S) (Xu h (e▸S)))).elim λx y W=>ew [t1 ((ints_length p).symm▸S),tV 1 (bv (iO (e▸W.1))),tV 1 (bv (iO (e▸W.2))),t0 (lQ (os:=[]) (dF W.3))]
  .exact ew [t0 ((ints_length p).symm▸S)]
 |succ j W=>
  exactλm k K P=>(DJ p q m (uP K)).elim λx S=>kp P λk P=>
   (hQ (ew [t1 (((ints_length p).symm▸J_ K (kc p q))),tV 1 (bv (iO S.1)),tV 1 (bv (iO S.2)),t1 (lQ (os:=[]) (dT (ct x)))])
    (c3 []:cM F 40 0 (tX r p q m s4 s5 s6 s7)=D (.ok .next,tX r p q (m+1) s4 s5 s6 s7))).trans (W (m+1) k (zB K) (jK P))
def Xw F R(a:Nat) s0 s1 s2 s4 s5 s6 s7:dp 2 (dV (.seq (rws R)) (fi F 40 1)) ⟨[s0,s1,s2,D (.int a),s4,s5,s6,s7],[]⟩=D (.ok (rws (R.map λe=>(e.1.drop a,e.2))),⟨[s0,s1,s2,D (.int a),s4,s5,s6,s7],[]⟩):=by
 have e:=ET (turn:=fi F 40 1) (n:=2) (L:=[s0,s1,s2,D (.int a),s4,s5,s6,s7]) (λP K=>K=[]/\∃T:Rows,P=rws T) (λx=>.tup [.tup (((((k8 x).getD [])[0]?.bind k8).getD []).drop a),((k8 x).getD [])[1]?.getD .none]) (λx r K K S P=>by
  rw[S.1];refine S.2.elim λT S=>?_;cases T with
  |nil=>exact z6 S
  |cons t T=>
   cases K with
   |nil=>cases P
   |cons K l=>cases l with
    |nil=>cases P
    |cons K l=>exact(dk S).1▸(dk S).2▸(yJ (h9 (h9 P))).symm▸⟨[D (.tup (iL t.1)),D (.bytes t.2)],[],rfl,fj [tV 2 (pQ (iL t.1) a)],rfl,T,rfl⟩) _ _ ⟨rfl,R,rfl⟩
 refine e.elim λK K=>K.2.1▸K.1.trans ?_;unfold rws;rw[gR,gR];exact cA (λl=>D (Except.ok l,_)) (jJ λx K=>cA (λl=>PV.tup [.tup l,.bytes _]) Hl.symm)
def Xx(l:Rows) r:(r::l)[l.length]?=D ((r::l).getLastD r):=by
 rw[List.getLastD_eq_getLast?,List.getLast?_eq_getElem?];simp
def Xy(a:aD):∀b,aY a b=J->aY b a=J->False:=by
 induction a with
 |nil=>
  refineλb=>?_;cases b with
  |nil=>exactλh F=>z1 h
  |cons _ _=>exactλF h=>z1 h
 |cons x a S=>
  refineλb=>?_;cases b with
  |nil=>exactλh F=>z1 h
  |cons y b=>exactλF P=>(eu.mp F).elim (λF=>(eu.mp P).elim (J' F) λK=>aB K.1 (uf F)) λF=>(eu.mp P).elim (λK=>aB F.1 (uf K)) λK=>S b F.2 K.2
def Xz k:∀R n o,eP R->(∀r∈R,2*r.1.length+2<=k)->R.length<1000->k<=100000->ag (n+k+1) 40 [.U (rws R)] o=D (.ok (pv (d_ k R)),o):=by
 induction k with
 |zero=>
  refineλR n o=>?_;cases R with
  |nil=>exactλP P P P=>au [t1 (tN [] [] (dT rfl))]
  |cons r t=>exactλP h=>(yU _ (h r (.head _))).elim
 |succ k g=>
  refineλR n o=>?_;cases R with
  |nil=>exactλP P P P=>au [t1 (tN [] [] (dT rfl))]
  |cons r R=>cases R with
   |nil=>
    refineλP P P P=>?_;obtain⟨p,v⟩:=r;exact au [t0 (tN [(p,v)] [] (dF Mine.z6)),tV 1 (dg (xs:=rws [(p,v)]) (m:=0) rfl),tV 21 (iS (rws [(p,v)]).length 1 (aL 1)),tV 1 (dg (xs:=rws [(p,v)]) (m:=0) rfl),t1 (ct 1),tV 1 (dg (xs:=rws [(p,v)]) (m:=0) rfl),tV 5 (bk _ (aN (.leaf p v)))] (iQ (a:=.U (rws [(p,v)])) (EQ _)) (aN (.leaf p v))
   |cons s t=>
    refineλd h F A=>?_;have C:=iQ (a:=.U (rws (r::s::t))) (EQ _);have l:=tN (r::s::t) [] (c:=V) (dF (λz=>by exact Mine.z6 z));have p:=dg (ER (R:=r::s::t) (m:=0) rfl);have Z:=Xx (s::t) r;have v:=xa (s::t) r d;have K:=(i3.mp d).1 s (.head _);have j:aY r.1 ((r::s::t).getLastD r).1=J:=(v.2 r (.head _)).elim (λe=>(v.2 s (.tail _ (.head _))).elim (λw=>Eq.subst (motive:=λx:aD×By=>aY r.1 x.1=J) w K) λw=>(Xy _ _ K (Eq.subst (motive:=λx:aD×By=>aY s.1 x.1=J) e.symm w)).elim) id;have b:=dg (ER Z);have K:=iS (rws (r::s::t)).length 1 (by rw[qe];simp);have S:(rws (r::s::t)).length - 1=(s::t).length:=by rw[qe,b4,Hp]
    replace K:=S▸K;have q:¬(rws (r::s::t)).length=1:=by rw[qe];simp only[b4];exact zv
    have u:=h r (.head _);have S:=kc r.1 ((r::s::t).getLastD r).1;have X:=Xv (ag (n+k+1)) (.U (rws (r::s::t))) r.1 ((r::s::t).getLastD r).1 j I I I I (sh r.1 ((r::s::t).getLastD r).1) 0 gv (cR ..) (show _<1000000 by exact Ka u A S);have W:d_ (k+1) (r::s::t)=if 0<sh r.1 ((r::s::t).getLastD r).1 then .ext (r.1.take (sh r.1 ((r::s::t).getLastD r).1)) (d_ k ((r::s::t).map λe=>(e.1.drop (sh r.1 ((r::s::t).getLastD r).1),e.2)))else .br (λi=>d_ k ((r::s::t).filterMap (cs i))) (val (r::s::t) []):=rfl
    rw[W];have W:∀e∈r::s::t,e.1.take (sh r.1 ((r::s::t).getLastD r).1)=r.1.take (sh r.1 ((r::s::t).getLastD r).1):=λe f=>
     between _ _ _ ((bD.mp f).imp (cA Fx ·.symm) ((i3.mp d).1 e)) ((v.2 e f).imp (cA Fx ·) id)
    generalize v:(r::s::t).getLastD r=last at Z j b S X W |-
    generalize Z:sh r.1 last.1=a at S X W |-
    by_cases v:0<a
    .rw[iP v];have Z:=Xw (ag (n+k+1)) (r::s::t) a (D (.U (rws (r::s::t)))) (D (.tup (iL r.1))) (D (.tup (iL last.1))) I I I I;have j:eP ((r::s::t).map λe=>(e.1.drop a,e.2)):=by
      unfold eP;rw[He];exact d.imp_of_mem λ{x y} z E B=>Dt a x.1 y.1 ((W x z).trans (W y E).symm) B
     have B:=g ((r::s::t).map λe=>(e.1.drop a,e.2)) n [] j (λe f=>by
      obtain⟨y,j,rfl⟩:=ch.mp f;have E:a<=y.1.length:=by
       have:=cA gS (W y j);rw[cK,cK]at this;exact Kg S this
      show 2*(y.1.drop a).length+2<=k;exact cY▸Kh u (h y j) v S) (by rw[bN];exact F) (bj A)
     have S:=eS (rws ((r::s::t).map λe=>(e.1.drop a,e.2))) (by rw[qe,bN,bo];exact a3 F rfl);generalize d_ k ((r::s::t).map λe=>(e.1.drop a,e.2))=N at B |-
     generalize rws ((r::s::t).map λe=>(e.1.drop a,e.2))=W at Z B S;exact au [t0 l,tV 1 p,tV 21 K,tV 1 b,t0 q,tL X,t1 v,tV 2 (kq r.1 a),tK Z,tV 15 S,tF B,tV 5 (bk _ (aN (.ext (r.1.take a) N)))] C (aN (.ext (r.1.take a) N))
    .rw[iN v];obtain⟨u,y,B,S,W⟩:=Xq (ag (n+k+1)) (s0:=D (.U (rws (r::s::t)))) (s1:=D (.tup (iL r.1))) (s2:=D (.tup (iL last.1))) (s3:=D (.int (a:Int))) (r::s::t) [] [.dict []] I I ⟨[],rfl,aL _,λi=>.inl ⟨rfl,rfl⟩,λi j n a=>by cases a⟩ (by simpa using F) (by rw[qU];exact d);rw[qU]at S W;have j:∀i o,ag (n+k+1) 40 [.U (rws ((r::s::t).filterMap (cs i)))] o=D (.ok (pv (d_ k ((r::s::t).filterMap (cs i)))),o):=λi o=>
      g _ n o (d.cs i) (λe f=>by
       obtain⟨Z,w⟩:=e;have:=h _ (lJ.mp f);simp only[b4]at this;show 2*Z.length+2<=k;exact zn this) (aT (yI ..) F) (bj A)
     obtain⟨Z,d⟩:=W;obtain⟨F,F⟩:=Xs (k:=k) j (D (.U (rws (r::s::t)))) (D (.tup (iL r.1))) (D (.tup (iL last.1))) (D (.int (a:Int))) y B (D (.bytes (heldOf (r::s::t)))) (iL cn) u ⟨Xt,λx z=>by
      obtain⟨i,_,rfl⟩:=ch.mp z;exact⟨i,rfl⟩,Z,d.1,λi P=>d.3 i,d.4⟩
     have P:(iL cn).map (tS k (r::s::t))=dO (λi=>d_ k ((r::s::t).filterMap (cs i))):=by
      unfold iL dO;rw[gR]at |-
      rfl
     rw[P]at F;have P:heldOf (r::s::t)=val (r::s::t) []:=rfl;rw[P]at S F;generalize val (r::s::t) []=P at S F |-
     generalize (λi=>d_ k ((r::s::t).filterMap (cs i)))=W at F |-
     exact au [t0 l,tV 1 p,tV 21 K,tV 1 b,t0 q,tL X,t0 v,tL S,tK F,tV 15 (eS (dO W) (by rw[tb,bo];decide)),tV 31 (Xr (dO W) (by rw[tb,bo];decide)),tV 5 (bk _ (aN (.br W P)))] C (aN (.br W P))
noncomputable def l0:Option aD->PV
 |none=>.none
 |some q=>.tup (iL q)
def tr(f:By->By)(N:Nd):Option aD->List By
 |none=>[]
 |some q=>cD f N q
def tY(f:By->By)(N:Nd)(a:Option aD):PV:=.tup [.bytes (enc (form f N)),.U (am (tr f N a))]
noncomputable def cO(w:aD):Option aD->Option aD
 |none=>I
 |some q=>if q.take w.length=w then D (q.drop w.length)else I
def nT(f:By->By)(k:Nd)(w:aD)(a:Option aD)(R:List By):List By:=match cO w a with
 |none=>R
 |some q=>own f k++cD f k q
def qf a b(h:(a++b).length<=aI):Y0 (binop .Add V (.U a) (.U b)) (.U (a++b)):=λF=>iP h
structure T6 where
 (a b c d e f:Option PV)
noncomputable def fo(a:PV)(c:Option aD)(g:Nat)(R:List By)(L:Nat)(b:PV)(t:T6)(o:List av):St:=
 ⟨[D a,D (l0 c),D (.loc g),D (.U (am R)),D (.loc L),D b,t.a,t.b,t.c,t.d,t.e,t.f],o⟩
inductive Tb(b g d c:Nat)(o:List av)(e:List By)(f:List av)(a:List By):Prop |mk
 (F:Go d b o f)
 (F:Dig f g d a)
 (F:e <+:a)
 (F:a.length<=e.length+c)
def Tb.refl(a:Dig o g d e):Tb b g d c o e o e:=⟨.refl ..,a,bT _,bl ..⟩
def Tb.trans(a:Tb b g d c o k l f)(h:Tb b g d c' l f i e)(m:c+c'<=j):Tb b g d j o k i e:=
 ⟨a.1.trans h.1,h.2,a.3.trans h.3,ak h.4 (ak (c9 a.4 _) (c_ ..▸bH m _))⟩
def Tb.set(a:Tb b g d c o f h e) x(i:b≠g)(j:b≠d):Tb b g d c o f (h.set b x) e:=⟨a.1.trans (.set _ _ _ (aL _)),a.2.set _ i j,a.3,a.4⟩
def xR:∀{a b:List _},am a=am b->a=b:=λ{a}=>by
 induction a with
 |nil=>intro b h;cases b with
  |nil=>rfl
  |cons _ _=>cases h
 |cons x a K=>intro b h;cases b with
  |nil=>cases h
  |cons y b=>
   haveI h:=dk h;haveI F:=h.1;injection F with F
   rw[F,K h.2]
def XA(h:PV.tup [.bytes a,.U (am l)]=.tup [.bytes b,.U (am m)]):a=b/\l=m:=by
 injection h with h
 injection h with h1 h2
 injection h2 with h2 _
 injection h1 with h1
 injection h2 with h2
 exact⟨h1,xR h2⟩
abbrev t7(F:Call)(i j m:Nat):M Fl:=lA (gF 0 i j) λl=>bW F (l.k - m) (df i) (l.b.drop m)
abbrev XB(F:Call)(i j m:Nat)(a:St)(r:Except Exc Fl×St)(l:List Tl):Prop:=cj l (r=r)=eL (gF 0 i j) False λp=>fh F (p.k - m) (df i) (p.b.drop m) (g_ l) a (iD r)
def kB l(e:XB F i j m a r l:=by kernel_rfl):t7 F i j m a=D r:=
 fg (hg e) (λK e h=>nj e (jo (gD F _ _ _) h)) gN
def t8(f:By->By)(E:By):By:=if E.length<32 then E else enc (.bytes (f E))
def XC:enc (bZ f x)=t8 f (enc x):=by
 delta bZ t8;by_cases q:(enc x).length<32
 .rw[iP q,iP q]
 .rw[iN q,iN q]
def XD{m g d L:Nat}{o:List av}{j i:List By}{E:By}{G:Prop}(x:E.length<=1000)(e:Dig o g d j)(y:j.length<10000000)(s:L≠g)(r:L≠d)(t:o[L]?=D (.list (am i)))(z:i.length<1000)
  (K:∀q n h,Tb L g d 1 o j n h->n[L]?=D (.list (am (i++ [q])))->(∀w,h <+:w->t8 (fK w) E=q)->(∀k u p l a b c v f,t7 (ag (m+44)) 45 0 4 (fo k u g p L l ⟨a,b,c,v,D (.bytes E),f⟩ o)=D (.ok .next,fo k u g p L l ⟨a,b,c,v,D (.bytes E),f⟩ n))->G):G:=by
 haveI W:=gJ t "append" zK;have F:∀{n:List av} (q:By),n[L]?=D (.list (am i))->Y (method "append" (.loc L) [.bytes q]) n .none (n.set L (.list (am (i++ [q])))):=λ{n} q h=>by
  rw[kr i [q]];exact eQ n L (am i) (.bytes q) h (by rw[dz,bo];exact a1 z rfl)
 by_cases q:E.length<32
 .exact K E (o.set L (.list (am (i++ [E])))) j ((Tb.refl e).set _ s r) (dY _ (aR t)) (λP P=>iP q) λk u p l a b c v f=>kB [tM W,t1 q,tO 8 (F E t)]
 .have P:=(cE (aX j E)).1 E;haveI S:=lY 0 (.bytes (fK (aX j E) E)) (m+42) (putD o d (aX j E)) rfl (aL _) (by
   have:=nw (fK (aX j E) E) (by rw[P];decide);rw[P]at this;exact aT this zD)
  have P:(putD o d (aX j E))[L]?=D (.list (am i)):=(bm r.symm).trans t;exact K (enc (.bytes (fK (aX j E) E))) ((putD o d (aX j E)).set L (.list (am (i++ [enc (.bytes (fK (aX j E) E))])))) (aX j E) (Tb.set ⟨.put ..,e.put _,pW ..,nK ..⟩ _ s r) (dY _ (aR P)) (λw K=>K.elim λt K=>(iN q).trans (by rw[<- K,pK (jt j E)]))
   λk u p l a b c v f=>kB [tM W,t0 q,tM (hS e),tF (lX (m+42) e E (a1 x rfl) y),tF S,tO 8 (F (enc (.bytes (fK (aX j E) E))) P)]
noncomputable def EU(a:Bool)(E:By)(T R:List By):List By:=cond a ((if 31<E.length then[E]else[])++T) R
def XE{m g d L:Nat}{o:List av}{q k T:List By}{E:By}{G:Prop}(v:E.length<=1000)(t:T.length<1000)(e:Dig o g d q)(w:q.length<10000000)(r:L≠g)(s:L≠d)(x:o[L]?=D (.list (am k)))(y:k.length<1000)
  (K:∀p l j,Tb L g d 1 o q l j->l[L]?=D (.list (am (k++ [p])))->(∀u,j <+:u->t8 (fK u) E=p)->(∀f n i h a b c,t7 (ag (m+44)) 45 0 3 (fo f n g i L h ⟨a,b,c,D (.bool iw),D (.bytes E),D (.U (am T))⟩ o)=D (.ok .next,fo f n g (EU iw E T i) L h ⟨a,b,c,D (.bool iw),D (.bytes E),D (.U (am T))⟩ l))->G):G:=
 XD (m:=m) v e w r s x y λp l j P S W F=>K p l j P S W λf n i h a b c=>by
  clear K;cases iw with
  |false=>exact kB [tZ 1 (F f n i h a b c (D (.bool V)) (D (.U (am T))))]
  |true=>
   haveI F:=λi=>F f n i h a b c (D (.bool J)) (D (.U (am T)));show _=D (Except.ok Fl.next,fo f n g ((if 31<E.length then[E]else[])++T) L h _ l);by_cases q:31<E.length
   .rw[iP q];exact kB [t1 q,tV 20 (qf [.bytes E] (am T) (by rw[az,dz,bo];exact ak (bH (bj t) _) (show 1+1000<=16777216 by decide))),tZ 1 (F (E::T))]
   .rw[iN q];exact kB [t0 q,tV 20 (qf [] (am T) (by rw[qU,dz,bo];exact a3 t rfl)),tZ 1 (F T)]
def XF(f:(E2 λd v=>a=pv (.br d v)/\w=[i])\/∃e,a=pv (.ext w e))(h:t7 F 45 0 1 (fo a j g c L b ⟨D (.int i),D (.tup y),D (.tup (iL w)),t.d,t.e,t.f⟩ o)=D r):
  cl F 45 0 (.tup [.int i,.tup y]) (fo a j g c L b t o)=D r:=by
 rcases f with⟨d,v,rfl,rfl⟩ |⟨e,rfl⟩
 .exact c7 [tZ 4 h]
 .exact c7 [tZ 4 h]
def EV{m g d L c:Nat}{a kids:PV}{w:aD}{i:Int}{k:Nd}{b:Option aD}{o:List av}{q R P:List By}{G:Prop} t(N:(E2 λy v=>a=pv (.br y v)/\w=[i])\/∃z,a=pv (.ext w z))(j:k≠.nil)(l:Sm k)(s:L≠g)(n:L≠d)(u:o[L]?=D (.list (am P)))(O:P.length<1000)(Q:q.length+c+1<10000000)
  (C:Res g d c o q (ag (m+44) 45 [pv k,l0 (cO w b),.loc g] o) (λf=>tY f k (cO w b)))(hb:∀f,(tr f k (cO w b)).length<1000)
  (K:∀p h r x A,cl (ag (m+44)) 45 0 (.tup [.int i,pv k]) (fo a b g R L kids t o)=D (.ok .next,fo a b g x L kids A p)->Tb L g d (c+1) o q p h->p[L]?=D (.list (am (P++ [r])))->(∀e,h <+:e->enc (bZ (fK e) (form (fK e) k))=r/\nT (fK e) k w b R=x)->G):G:=by
 obtain⟨x,y,S,F,v,x,p1,A,B⟩:=C;have C:=B S (bT _);have G:=(hH (cE S) k l).3;have P:=λe W=>XA ((B e W).trans C.symm);have H:=hb (fK S);replace F:=C▸F;have F:ag (m+44) 45 [pv k,l0 (cO w b),.loc g] o=D (.ok (.tup [.bytes (enc (form (fK S) k)),.U (am (tr (fK S) k (cO w b)))]),y):=F;have X:=aR u;have Z:=(v.2 L X n).trans u;have f:Tb L g d c o q y S:=⟨v.less (bj X),x,p1,A⟩;obtain⟨y,d⟩:∃y,pv k=.tup y:=pV (qs.mpr λz=>j (hG.mp z));generalize enc (form (fK S) k)=E at F P G;generalize tr (fK S) k (cO w b)=T at F P H;rw[d]at F K;have X:=aT A (yC Q);clear B C d j hb A Q u v p1 l;refine XE (m:=m) (iw:=(cO w b).isSome) G H x X s n Z O λr p h d g j S=>K p h r (EU (cO w b).isSome E T R) ⟨D (.int i),D (.tup y),D (.tup (iL w)),D (.bool (cO w b).isSome),D (.bytes E),D (.U (am T))⟩ (XF N ?_) (f.trans d (aL _)) g λe W=>⟨XC.trans ((P e (d.3.trans W)).1▸j e W),?_⟩
 .have S:=S a b R kids (D (.int i)) (D (.tup y)) (D (.tup (iL w)));clear P j g d f K Z O x G H X N;cases b with
  |none=>exact kB [tF F,tZ 2 S]
  |some K=>
   have X:=fJ (K.take w.length) w o rfl;by_cases c:K.take w.length=w
   .have Z:cO w (D K)=D (K.drop w.length):=iP c;rw[dT c]at X;rw[Z]at F S |-
    exact kB [tV 2 (iU K w),t1 X,tV 2 (nJ K w),tF F,tZ 2 S]
   .have Z:cO w (D K)=I:=iN c;rw[dF c]at X;rw[Z]at F S |-
    exact kB [tV 2 (iU K w),t0 X,tF F,tZ 2 S]
 .have P:=P e (d.3.trans W);unfold nT;cases F:cO w b with
  |none=>rfl
  |some q=>
   rw[F]at P;show own (fK e) k++cD (fK e) k q=(if 31<E.length then[E]else[])++T;unfold own;rw[P.1,show cD (fK e) k q=T from P.2];rfl
def EW n g o mq:ag (n+1) 45 [.none,mq,.loc g] o=D (.ok (.tup [.bytes [128],.U []]),o):=aQ []
def jw(f:By->By)(a:Int->Nd)(b:Option aD)(R:List By)(i:Int):List By:=if isNil (a i)=J then R else nT f (a i) [i] b R
def EX:enc (.bytes [])=[128]:=by rfl
def XG{m g d L:Nat}{e:PV}{b:Int->Nd}{v:By}{k:Option aD}{G:Prop}(l:L≠g)(n:L≠d){P R:List By} t(y:Sm (b i))(a:Dig o g d q)(r:o[L]?=D (.list (am P)))(x:P.length<1000)(z:q.length+sz (b i) <10000000)
  (A:b i≠.nil->Res g d (sz (b i) - 1) o q (ag (m+44) 45 [pv (b i),l0 (cO [i] k),.loc g] o) (λf=>tY f (b i) (cO [i] k)))(B:∀f,(tr f (b i) (cO [i] k)).length<1000)
  (K:∀p h s u w,cl (ag (m+44)) 45 0 (.tup [.int i,pv (b i)]) (fo (pv (.br b v)) k g R L e t o)=D (.ok .next,fo (pv (.br b v)) k g u L e w p)->Tb L g d (sz (b i)) o q p h->p[L]?=D (.list (am (P++ [s])))->(∀j,h <+:j->enc (bZ (fK j) (form (fK j) (b i)))=s/\jw (fK j) b k R i=u)->G):G:=by
 by_cases e:b i=.nil
 .refine K (o.set L (.list (am (P++ [[128]])))) q [128] R ⟨D (.int i),D .none,D (.tup [.int i]),D (.bool V),D (.bytes [128]),D (.U [])⟩ ?_ ((Tb.refl a).set _ l n) (dY _ (aR r)) λj F=>by unfold jw;rw[e];exact⟨EX,rfl⟩
  haveI F:=eQ o L (am P) (.bytes [128]) r (by rw[dz,bo];exact a1 x rfl);rw[show am P++ [PV.bytes [128]]=am (P++ [[128]])from(kr P [[128]]).symm]at F;exact e▸(c7 [tF (EW (m+43) g o .none),tM (gJ r "append" zK),tO 8 F])
 .haveI F:=pZ e;exact EV t (.inl ⟨b,v,rfl,rfl⟩) e y l n r x (Kk F (c:=0) z) (A e) B λp h s u w S W X P=>K p h s u w S ((ud F)▸W) X λj F=>⟨(P j F).1,(iN λz=>e (hG.mp z)).trans (P j F).2⟩
def XH{G:Prop}(e:L≠g)(h:L≠d)(j:∀i,Sm (a i))
  (k:∀i o b,Vn i->a i≠.nil->Dig o g d b->b.length+sz (a i) <10000000->Res g d (sz (a i) - 1) o b (ag (m+44) 45 [pv (a i),l0 (cO [i] mq),.loc g] o) (λf=>tY f (a i) (cO [i] mq)))
  (n:∀i f,(tr f (a i) (cO [i] mq)).length<1000) l:∀{P R:List _} {o:List _} {b:List _} t,(∀i∈l,Vn i)->Dig o g d b->o[L]?=D (.list (am P))->P.length+l.length<900->b.length+szs (λi=>sz (a i)) l<10000000->
  (∀Z S W c f,c0 (cl (ag (m+44)) 45 0) (l.map λi=>.tup [.int i,pv (a i)]) (fo (pv (.br a v)) mq g R L kids t o)=D (.ok .next,fo (pv (.br a v)) mq g c L kids f Z)->Tb L g d (szs (λi=>sz (a i)) l) o b Z S->Z[L]?=D (.list (am (P++W)))->
   (∀X,S <+:X->l.map (λi=>enc (bZ (fK X) (form (fK X) (a i))))=W/\l.foldl (jw (fK X) a mq) R=c)->G)->G:=by
 induction l with
 |nil=>exactλ{P R o b} t _ F a _ _ K=>K o b [] R t rfl (.refl F) (by rw[ci];exact a) λd d=>⟨rfl,rfl⟩
 |cons i r m=>
  intro P R o b t d F a g p K;haveI P:=p;exact XG e h t (j i) F a (bc (abn g) zD) (f3 P) (λe=>k i o b (d i (.head _)) e F (f3 P)) (n i) λF F e F b h F a i=>
   m b (λj b=>d j (.tail _ b)) F.2 a (by rw[az];exact Ko g) (Ja P F.4) λZ S W c f a b P d=>
    K Z S (e::W) c f ((d' h).trans a) (F.trans b (aL _)) (by rw[P,cz];rfl) λX F=>by
     haveI a:=i X (b.3.trans F);haveI b:=d X F;exact⟨by rw[i8,a.1,b.1],by rw[qL,a.2,b.2]⟩
def XI f ks v mq(c:∀q,mq=D q->Vp q):cn.foldl (jw f ks mq) []=tr f (.br ks v) mq:=by
 have skip:∀(l:List _) R,(∀i∈l,isNil (ks i)=J\/cO [i] mq=I)->l.foldl (jw f ks mq) R=R:=by
  intro l
  induction l with
  |nil=>intro R _;rfl
  |cons i l F=>
   intro R h;haveI e:jw f _ _ R i=R:=by
    unfold jw;rcases h i (.head _)with h |h
    .exact(iP h)
    .by_cases q:isNil (ks i)=J
     .exact(iP q)
     .rw[iN q];unfold nT;rw[h]
   rw[qL,e];exact F R λj F=>h j (.tail _ F)
 cases mq with
 |none=>exact skip _ _ λF F=>.inr rfl
 |some q=>
  cases q with
  |nil=>exact skip _ _ λi F=>.inr (by
   show(if[].take [i].length=[i]then D ([].drop [i].length)else I)=I;exact iN (λz=>by cases z))
  |cons x r=>
   obtain⟨a,b,P⟩:=List.append_of_mem (nu.mpr (c _ rfl).head);haveI F:=sM;rw[P]at F |-;haveI K:∀i,i≠x->cO [i] (D (x::r))=I:=λi S=>iN (λz=>S (by injection z with z _;exact z.symm));haveI W:=(abt.mp F);rw[GZ,qL];rw[skip a _ λi S=>.inr (K i (λz=>W.2.2 i S x (.head _) z))];rw[skip b _ λi S=>.inr (K i (λz=>by clear c skip P F K;subst z;exact(ef.mp W.2.1).1 S))];show jw f _ _ _ x=own f _++cD f _ r;unfold jw;by_cases e:isNil (ks x)=J
   .rw[iP e,hG.mp e,D9];rfl
   .rw[iN e];unfold nT;rw[show cO [x] (D (x::r))=D r from iP rfl]
def EY f N:(own f N).length<=1:=by unfold own;split <;> simp
def EZ f N:∀h q,Ht N h->(cD f N q).length<=h:=by
 induction N with
 |nil=>exactλF F F=>bn _
 |leaf=>exactλF F F=>bn _
 |ext p k K=>exactλh q P=>P.elim λS y=>y.1▸iteInduction (motive:=λl:List _=>l.length<=S+1) (λF=>ak (aq (az.trans (cR ..))) (ec (K _ _ y.4) (EY f k))) λF=>bn _
 |br F v K=>
  refineλh q P=>?_;cases q with
  |nil=>exact bn _
  |cons x q=>exact P.elim λS y=>y.1▸ak (aq (az.trans (cR ..))) (ec (K _ _ q (y.2 x)) (EY f _))
def xS f N h mq(a:Ht N h):(tr f N mq).length<=h:=by
 cases mq with
 |none=>exact bn _
 |some q=>exact EZ f N h q a
def XJ b(h:o[L]?=D (.list a))(c:(a++b).length<=aI):Y (binop .Add V (.loc L) (.U b)) o (.U (a++b)) o:=λl=>by
 show jc ..=_;unfold jc;rw[k_ h];exact iP c
def XK ks:jT (dO ks) 0=cn.map λi=>.tup [.int i,pv (ks i)]:=by kernel_rfl
def E0(h:∀q,a=D q->Vp q):∀q,cO w a=D q->Vp q:=by
 intro q F;cases a with
 |none=>cases F
 |some p=>
  unfold cO at F;dsimp only at F
  split at F
  .rw[<- aE F];exact(h p rfl).drop _
  .exact Mine.z3 F
def XM:∀N h n g d o W mq,Ht N h->Sm N->bP N->h<=500->(∀q,mq=D q->Vp q)->Dig o g d W->W.length+sz N<10000000->Res g d (sz N - 1) o W (ag (n+h+45) 45 [pv N,l0 mq,.loc g] o) (λf=>tY f N mq):=by
 intro N
 induction N with
 |nil=>
  intro h n g d o W mq _ _ _ _ _ F _;refine⟨.tup [.bytes [128],.U []],o,W,EW (n+h+44) g o (l0 mq),.refl _ _ _,F,bT _,aL _,λK X=>?_⟩;show PV.tup [.bytes (enc (.bytes [])),.U (am (tr (fK K) .nil mq))]=_;rw[EX,show tr (fK K) .nil mq=[]from by cases mq <;> rfl];rfl
 |leaf p v=>
  intro h n g d o W mq N e _ _ _ F _;have S:=hH (cE []) (.leaf p v) e;refine⟨.tup [.bytes (enc (.U [.bytes (pk p J),.bytes v])),.U []],o++ [.list []],W,aQ [tV 14 (eS [] (bn _)),tO 14 (show Y (bV J []) o (.loc o.length) (o++ [.list []])fromλl=>rfl),tF (p_ (n+h+43) (o++ [.list []]) p J N.1 (by have:=N.2;exact a1 this rfl)),tF (lY 31 (.U [.bytes (pk p J),.bytes v]) (n+h+11) (o++ [.list []]) S.1 S.2 (aT S.3 zD))],.app _ _ _,F.app _,bT _,bl _ _,λK X=>?_⟩;show PV.tup [.bytes (enc (form (fK K) (.leaf p v))),.U (am (tr (fK K) (.leaf p v) mq))]=_;rw[show tr (fK K) (.leaf p v) mq=[]from by cases mq <;> rfl];rfl
 |ext w k O=>
  intro h n g d o W mq N e hc Q hq F T;obtain⟨Z,S⟩:=N;obtain rfl:=S.1;haveI a:=S.2;haveI b:=S.3;haveI c:=S.4;have S:Ok k:=(hc.resolve_left (λz=>by cases z)).4;have z:W.length+(1+sz k) <10000000:=T;have hz:=pZ S.ne_nil;have hL:(o++ [av.list []])[o.length]?=D (.list (am [])):=gT;have G:=bf F.gI;have H:=bf F.lt;have X:=O Z n g d (o++ [.list []]) W (cO w mq) c e.2 (.inr S) (bj Q) (E0 hq) (F.app _) (f2 z);refine EV (m:=n+Z+1) (kids:=.U [pv k]) (w:=w) (i:=0) (R:=[]) (P:=[]) ⟨I,I,I,I,I,I⟩ (.inr ⟨k,rfl⟩) S.ne_nil e.2 G H hL zD (by exact Kq z) X (λf=>aT (xS f k Z _ c) (a1 Q rfl)) λj A t u t' C B p v1=>?_;have l1:=B.4;rw[qU]at p;have L:c0 (cl (ag (n+Z+1+44)) 45 0) [.tup [.int 0,pv k]] (fo (pv (.ext w k)) mq g [] o.length (.U [pv k]) ⟨I,I,I,I,I,I⟩ (o++ [.list []]))=D (.ok .next,fo (pv (.ext w k)) mq g u o.length (.U [pv k]) t' j):=d' C;have XN:=p_ (n+Z+44) j w V a (a1 b rfl);have X:=sQ w V;have x:=nw (pk w V) (aT (show _<=102 by exact b1 X b rfl) zD);have r:=lY 0 (.bytes (pk w V)) (n+Z+43) j rfl (aL _) (by exact b2 (b3 x X) (di b) rfl);have hit:Y (item (.loc o.length) (.int ((0:Nat):Int))) j (.bytes t) j:=LS.item (.inr ⟨_,rfl,p⟩) rfl;have y:t.length<=41:=by
   rw[<- (v1 A (bT _)).1];exact(pI (cE A) (hH (cE A) k e.2).1).3
  have S:=dy (enc (.bytes (pk w V))) t (by rw[az,bo];exact Kr X b x y);have s:=tv (n+Z+44) j 192 (enc (.bytes (pk w V))++t) (.inr rfl) (by rw[az];exact Ku X b x y);generalize hE:enc (.bytes (pk w V))=E at r S s x;refine⟨.tup [.bytes (hd 192 (E++t).length++(E++t)),.U (am u)],j,A,aQ [tV 14 (eS [] (bn _)),tO 14 (show Y (bV J []) o (.loc o.length) (o++ [.list []])fromλl=>rfl),tL L,tF XN,tF r,tO 1 hit,tV 20 S,tF s,tV 5 (bk (.tup [.bytes (hd 192 (E++t).length++(E++t)),.U (am u)]) (cw (b:=.U (am u)) rfl (nI _ λx L=>by
    obtain⟨y,_,rfl⟩:=ch.mp L;rfl)))],(Go.app d o _).trans B.1,B.2,B.3,?_,λK hK=>?_⟩
  .show _<=W.length+(1+sz k - 1);exact zw hz l1
  .have y2:=v1 K hK;show PV.tup [.bytes (enc (form (fK K) (.ext w k))),.U (am (tr (fK K) (.ext w k) mq))]=_;have C:enc (form (fK K) (.ext w k))=hd 192 (E++t).length++(E++t):=by
    show enc (.U [.bytes (pk w V),bZ (fK K) (form (fK K) k)])=_;rw[nD,iR,iR,hE,y2.1];unfold cb;rw[ci]
   have t:tr (fK K) (.ext w k) mq=u:=by
    rw[<- y2.2];unfold nT;cases mq with
    |none=>rfl
    |some q=>
     show(if q.take w.length=w then own (fK K) k++cD (fK K) k (q.drop w.length)else[])=_;unfold cO;by_cases c:q.take w.length=w
     .rw[iP c];dsimp only;rw[iP c]
     .rw[iN c];dsimp only;rw[iN c]
   rw[C,t]
 |br c v O=>
  intro h n g d o W mq N e hc Q hq F T;obtain⟨Z,rfl,a⟩:=N;have z:W.length+(1+szs (λi=>sz (c i)) cn) <10000000:=T;have hL:(o++ [av.list []])[o.length]?=D (.list (am [])):=gT;have G:=bf F.gI;have H:=bf F.lt;refine XH (m:=n+Z+1) (kids:=.tup (dO c)) (v:=v) (mq:=mq) G H e.1
   (λi o W k q F T=>O i Z n g d o W (cO [i] mq) (a i) (e.1 i) (hc.cW i).1 (bj Q) (E0 hq) F T)
   (λi f=>aT (xS f (c i) Z _ (a i)) (a1 Q rfl)) cn (P:=[]) (R:=[]) ⟨I,I,I,I,I,I⟩ (λi k=>nu.mp k) (F.app _) hL zD (by exact f2 z) λj A F u t' C B p v1=>?_
  have l1:=B.4;rw[qU]at p;rw[<- XK]at C;have a:=v1 A (bT _);have X:F.length=16:=by rw[<- a.1,bN];rfl
  have f:∀x∈F,x.length<=41:=by
   intro x L;rw[<- a.1]at L;obtain⟨i,_,rfl⟩:=ch.mp L;exact(pI (cE A) (hH (cE A) (c i) (e.1 i)).1).3
  have a:=nw v (aT e.2 zD);have g:=e.2;have r:=lY 0 (.bytes v) (n+Z+43) j rfl (aL _) (by exact di (b1 a g rfl));generalize hE:enc (.bytes v)=E at r a;have e:(F++ [E]).flatten.length<=1000:=by
   have:∀l:List By,(∀x∈l,x.length<=41)->l.flatten.length<=41*l.length:=by
    intro l
    induction l with
    |nil=>intro _;exact bn _
    |cons x l O=>
     intro h;rw[y_,az,b4];have:=h x (.head _);have:=O λy k=>h y (.tail _ k);exact IA this zA
   have:=this F f;rw[abu,az,X]at*;simp only[y_,List.flatten_nil,ci];exact Kv this a g
  have S:=XJ [.bytes E] p (by rw[az,dz,X,bo];simp only[b4,eE];exact cG _ _);rw[show am F++ [.bytes E]=am (F++ [E])from(kr F [E]).symm]at S;have X:=Ez (F++ [E]) (by rw[bo];exact a1 e rfl);have s:=tv (n+Z+44) j 192 (F++ [E]).flatten (.inr rfl) (a2 e rfl);have Z:bX (am u)=J:=nI _ λx L=>by
   obtain⟨y,_,rfl⟩:=ch.mp L;rfl
  generalize a:(F++ [E]).flatten=F at X s;refine⟨.tup [.bytes (hd 192 F.length++F),.U (am u)],j,A,aQ [tV 14 (eS [] (bn _)),tO 14 (show Y (bV J []) o (.loc o.length) (o++ [.list []])fromλl=>rfl),tL C,tF r,tO 20 S,tV 8 X,tF s,tV 5 (bk (.tup [.bytes (hd 192 F.length++F),.U (am u)]) (cw (b:=.U (am u)) rfl Z))],(Go.app d o _).trans B.1,B.2,B.3,?_,λK hK=>?_⟩
  .show _<=W.length+(1+szs (λi=>sz (c i)) cn - 1);exact zy l1
  .have S:=v1 K hK;show PV.tup [.bytes (enc (form (fK K) (.br c v))),.U (am (tr (fK K) (.br c v) mq))]=_;have C:enc (form (fK K) (.br c v))=hd 192 F.length++F:=by
    show enc (.U (cn.map (λi=>bZ (fK K) (form (fK K) (c i)))++ [.bytes v]))=_;have t:cb (cn.map (λi=>bZ (fK K) (form (fK K) (c i)))++ [.bytes v])=F:=by
     rw[UM,<- tz,gR,<- a,abu]
     congr 1
     .rw[<- S.1];rfl
     .rw[iR,hE];unfold cb;simp
    rw[nD,t]
   rw[C,<- XI (fK K) c v mq hq,S.2]
def XO(b:Ht N h)(i:Sm N)(j:bP N)(c:h<=500)(k:Vp q)(a:Dig o g d e)(l:e.length+sz N<10000000):Res g d (sz N) o e (ag (n+h+46) 46 [pv N,.tup (iL q),.loc g] o) (λf=>.U (am (proof f N q))):=by
 refine(XM N h n g d o _ _ b i j c (λp F=>(aE F)▸k) a l).elim λx P F K=>?_;have S:=K.6 _ (bT _);subst S;refine⟨.U (am (proof (fK F) N q)),P,F,aQ [tF K.1,tV 20 (qf [.bytes (enc (form (fK F) N))] _ (by rw[az,dz,bo];exact ak (bH (xS (fK F) N h (D q) b) _) (a7 c rfl)))],K.2,K.3,K.4,Kx K.5,λS W=>?_⟩;have P:=K.6 _ W;injection P with P
 injection P with P K
 injection K with K _
 injection K with K
 have K:am _=am (cD (fK F) N q):=K;show PV.U (.bytes (enc (form (fK S) N))::am (cD (fK S) N q))=.U (.bytes (enc (form (fK F) N))::am (cD (fK F) N q));rw[P,K]
noncomputable def nats(a:List Nat):List PV:=a.map λ(n:Nat)=>PV.int (n:Int)
def Wl(o:List av)(W:Nat):Prop:=∃(P:List Nat) (F K:Nat),o[W]?=D (.list [.U (nats P),.int (F:Int),.int (K:Int)])
inductive Dr(W:Nat)(o a:List av):Prop |mk
 (F:a.length=o.length)
 (F:∀i,i≠W->a[i]?=o[i]?)
def Dr.refl W o:Dr W o o:=⟨rfl,λF F=>rfl⟩
def Dr.trans(h:Dr W o c)(b:Dr W c a):Dr W o a:=⟨b.1.trans h.1,λi F=>(b.2 i F).trans (h.2 i F)⟩
def Dr.set W o x:Dr W o (o.set W x):=⟨dD,λi F=>bm F.symm⟩
def gi(m:Nat) v(h:o[L]?=D (.list a))(b:a[m]?=D v):Y (item (.loc L) (.int m)) o v o:=LS.item (.inr ⟨_,rfl,h⟩) b
def XP(a b:Nat)(h:b<2^64):Y0 (binop .Mult V (.int a) (.int b)) (.int (a*b:Nat)):=λF=>congrFun (iP (.inr h)) _
def XQ(W a:Nat)(o:List av)(b:Option (Except Exc PV×List av)):Prop:=E2 λx F=>A4 (x<a) (b=D (.ok (.int ((x:Nat):Int)),F)) (Dr W o F) (Wl F W)
def eb n W many o(a:Wl o W)(i:0<many):XQ W many o (ag (n+1) 35 [.loc W,.int many] o):=by
 refine aH λG p=>?_;obtain⟨P,F,K,h⟩:=a;have X:=aR h;have j:=gi 0 _ h rfl;have q:=gi 1 _ h rfl;have r:=gi 2 _ h rfl;have d:=XP K 75 zD;have s:=lU [.U (nats P),.int F,.int K] 1 (.int (F+1:Nat)) h (bw rfl);have t:(o.set W (.list [.U (nats P),.int (F+1:Nat),.int K]))[W]?=D (.list [.U (nats P),.int (F+1:Nat),.int K]):=dY _ X;have a:(nats P).length=P.length:=bN _;have e:∀S:Nat,Dr W o ((o.set W (.list [.U (nats P),.int (F+1:Nat),.int K])).set W (.list [.U (nats P),.int (F+1:Nat),.int (S:Int)]))/\((o.set W (.list [.U (nats P),.int ((F+1:Nat):Int),.int (K:Int)])).set W (.list [.U (nats P),.int ((F+1:Nat):Int),.int (S:Int)]))[W]?=D (.list [.U (nats P),.int ((F+1:Nat):Int),.int (S:Int)]):=λS=>
  ⟨(Dr.set W o _).trans (.set W ..),dY _ (by rw[dD];exact X)⟩
 by_cases h:F<P.length
 .have Z:(nats P)[F]?=D (.int (P[F]:Int)):=by rw[dG,bI h];rfl
  have X:F<(nats P).length:=by rw[a];exact h
  have u:=dg Z;generalize P[F]=x at u;have Z:=iK (K*75+x% 65537+74) 65537 zD;have c:=iK x many i;generalize (K*75+x% 65537+74) % 65537=S at Z;have g:=e S;have f:=g.1;have b:=g.2;have k:=lU (os:=o.set W (.list [.U (nats P),.int ((F+1:Nat):Int),.int (K:Int)])) [.U (nats P),.int ((F+1:Nat):Int),.int (K:Int)] 2 (.int (S:Int)) t (bw rfl);have g:=gi 0 _ b rfl;generalize l:(o.set W (.list [.U (nats P),.int ((F+1:Nat):Int),.int (K:Int)])).set W (.list [.U (nats P),.int ((F+1:Nat):Int),.int (S:Int)])=m at f b g;exact p (⟨x% many,m,gm _ i,aQ [tO 1 q,tO 1 j,t1 X,tO 1 j,tV 1 u,tO 1 r,tV 22 d,tU s,tU k,tO 1 g,t1 X,tV 24 c],f,P,F+1,S,b⟩)
 .have X:¬F<(nats P).length:=by rw[a];exact h
  have h:=iK F 65537 zD;have Z:=iK (K*75+F% 65537+74) 65537 zD;generalize (K*75+F% 65537+74) % 65537=S at Z;have c:=iK S many i;have a:=e S;have f:=a.1;have b:=a.2;have k:=lU (os:=o.set W (.list [.U (nats P),.int ((F+1:Nat):Int),.int (K:Int)])) [.U (nats P),.int ((F+1:Nat):Int),.int (K:Int)] 2 (.int (S:Int)) t (bw rfl);have g:=gi 0 _ b rfl;have a:=gi 2 _ b rfl;generalize l:(o.set W (.list [.U (nats P),.int ((F+1:Nat):Int),.int (K:Int)])).set W (.list [.U (nats P),.int ((F+1:Nat):Int),.int (S:Int)])=m at f b g a;exact p (⟨S% many,m,gm _ i,aQ [tO 1 q,tO 1 j,t0 X,tO 1 r,tV 22 d,tV 24 h,tV 24 Z,tU s,tU k,tO 1 g,t0 X,tO 1 a,tV 24 c],f,P,F+1,S,b⟩)
def E1(a:List _->Prop)(Pv:PV->Prop)
  (h:∀x e d,a e->d.length=n->E3 λv c b=>A4 (c.length=n) (turn x ⟨d++L,e⟩=D (.ok (D v),⟨c++L,b⟩)) (Pv v) (a b)) f e(g:a e):
  E2 λF b=>A4 (dp n (dV (.seq f) turn) ⟨L,e⟩=D (.ok F,⟨L,b⟩)) (F.length=f.length) (∀v∈F,Pv v) (a b):=by
 haveI X:∀f K d e,d.length=n->a e->E3 λF c b=>A4 (gw turn K f ⟨d++L,e⟩=D (.ok (K++F),⟨c++L,b⟩)) (F.length=f.length) (∀v∈F,Pv v) (a b):=by
  intro f
  induction f with
  |nil=>exactλK d e P P=>⟨[],d,e,by rw[ci];rfl,rfl,λv S=>(Mine.z7 S),P⟩
  |cons x r S=>
   refineλK d e W P=>(h x _ _ P W).elim λv c b P=>(S (K++ [v]) _ _ P.1 P.4).elim λF K W S=>⟨v::F,K,W,?_,cA uz S.2,λw K=>?_,S.4⟩
   .show bd ..=_;dsimp only[bd];rw[(P.2)];dsimp only;rw[(S.1),cz];rfl
   .refine Mine.me K ?_ λK=>?_
    .exact P.3
    .exact S.3 w K
 refine(X f [] (bF n I) _ fx g).elim λF c b K=>⟨F,b,?_,K.2,K.3,K.4⟩;delta dp dV;dsimp only;rw[K.1];rfl
def E6:∀F:List _,(∀v∈F,∃c:UInt8,v=d5 c)->∃b:By,F=oct b
 |[],_=>⟨[],rfl⟩
 |v::r,h=>by
  obtain⟨b,rfl⟩:=E6 r λw F=>h w (.tail _ F);obtain⟨c,rfl⟩:=h v (.head _);exact⟨c::b,rfl⟩
def E9 b:(oct b).length=b.length:=bN _
def E_ v(n:Nat)(a:n<=60):Y0 (binop .Mult V (.U [v]) (.int n)) (.U (bF n v)):=λF=>by
 show lb _ (.U _) n _=_;delta lb d4;dsimp only;have e:(bF (n:Int).toNat [v]).flatten=bF n v:=by
  induction n with
  |zero=>rfl
  |succ n F=>rw[F5,y_,F (bj a),F5];rfl
 rw[iP ⟨da n,Ky a,f5 a rfl⟩,e];exact iP (by rw[fx,bo];exact a1 a rfl)
def E' c n:bF n (d5 c)=oct (bF n c):=by
 unfold oct;rw[List.map_replicate]
def xT(W a:Nat)(o:List av)(b:Option (Except Exc PV×List av)):Prop:=∃(k:By) (F:List av),A4 (k.length<=a) (b=D (.ok (.bytes k),F)) (Dr W o F) (Wl F W)
def xU{a:Type}(f:a->PV){L:List _}{P:a->Prop}(h:∀x∈L,P x)(b:y<L.length):∃x,(L.map f)[y]?=D (f x)/\P x:=⟨L[y],dG.trans (cA _ (bI b)),h _ (gr b)⟩
def xV n W tail o(a:Wl o W)(d:tail<=28):xT W (4+tail) o (ag (n+2) 36 [.loc W,.int tail] o):=by
 refine aH λG Z=>?_;refine(eb n W 5 o a zD).elim λa S K=>?_;obtain⟨e,f,P⟩:=E1 (turn:=fi (ag (n+1)) 36 0) (L:=[D (.loc W),D (.int tail),I]) (λF=>Dr W o F/\Wl F W) (λv=>∃c:UInt8,v=d5 c) (λx F X b X=>by
  obtain⟨S,rfl⟩:=fP.mp X;obtain⟨y,X,S⟩:=eb n W 5 F b.2 zD;exact(xU d5 (L:=[0,1,16,17,255]) (λF F=>trivial) S.1).elim λc F=>⟨d5 c,[D x],X,rfl,fj [tF S.2,tV 1 (bv F.1)],⟨c,rfl⟩,b.1.trans S.3,S.4⟩) (ups 0 a) _ ⟨K.3,K.4⟩;obtain⟨b,rfl⟩:=E6 e P.3
 have F:=P.2;rw[E9,xP]at F;have c:=eS (oct b) (by rw[E9,bo];exact ak (aq F) (a3 K.1 rfl));have e:=hO (pR b) (ak (aq F) (a3 K.1 rfl));refine(eb n W 3 f P.4.2 zD).elim λy f S=>?_;have X:=qb a (a3 K.1 rfl);by_cases a:y=2
 .have g:=E_ (d5 17) tail (a1 d rfl);rw[E']at g;exact Z ⟨b++bF tail 17,f,by rw[az,fx];exact KA K.1 F,aQ [tF K.2,tR X,tK P.1,tV 15 c,tV 33 e,tF S.2,t1 a,tV 22 g,tV 33 (hO (pR (bF tail 17)) (by rw[fx,bo];exact a1 d rfl)),tV 20 (dy b (bF tail 17) (by rw[az,fx,bo];exact Kz K.1 F d))],P.4.1.trans S.3,S.4⟩
 .exact Z ⟨b,f,KC K.1 F,aQ [tF K.2,tR X,tK P.1,tV 15 c,tV 33 e,tF S.2,t0 a],P.4.1.trans S.3,S.4⟩
def XR n W o(a:Wl o W):∃(v:By) (F:List _),A5 (v≠[]) (v.length<=60) (ag (n+2) 37 [.loc W] o=D (.ok (.bytes v),F)) (Dr W o F) (Wl F W):=by
 refine(eb n W 7 o a zD).elim λa F K=>?_;refine(eb n W 4 _ K.4 zD).elim λy Z S=>?_;obtain⟨s,F⟩:=xU (λs:Nat=>PV.int s) (L:=[1,2,26,27,28,29,60]) (P:=λs=>0<s/\s<=60) zD K.1;obtain⟨c,a⟩:=xU d5 (L:=[0,1,127,128]) (λX X=>trivial) S.1;haveI X:=E_ (d5 c) s F.2.2;rw[E']at X;refine⟨bF s c,Z,λz=>?_,by rw[fx];exact F.2.2,aQ [tF K.2,tV 1 (bv F.1),tF S.2,tV 1 (bv a.1),tV 22 X,tV 33 (hO (pR (bF s c)) (by rw[fx,bo];exact a1 F.2.2 rfl))],K.3.trans S.3,S.4⟩;have:=cA gS z;rw[fx,eE]at this;exact aB this (bf F.2.1)
def nU(a:List b) lo hi:(cut a lo hi).length<=a.length:=by
 rw[cY];have:∀n,(a.take n).length<=a.length:=λn=>by rw[cK];exact eY ..
 exact ak (b_ ..) (this _)
def l6(h:x∈cut a b c):x∈a:=qT (abb h)
def XS R lo hi:cut (am R) lo hi=am (cut R lo hi):=by
 delta cut am;rw[bN,<- abi,<- Hl]
def l8 R lo hi Fa Fb(a:mR lo=D Fa)(b:mR hi=D Fb)(c:R.length<=aI):Y0 (er (.U (am R)) lo hi) (.U (am (cut R Fa Fb))):=λF=>by
 unfold er;rw[a,b];show bV ..=_;rw[XS];exact iP (by rw[dz];exact ak (nU R ..) c)
def XT n W K o keys(a:Wl o W)(b:o[K]?=D (.list (am keys)))(g:K≠W)(j:∀k∈keys,k.length<=32):xT W 32 o (ag (n+3) 38 [.loc W,.loc K] o):=by
 refine(eb (n+1) W 4 o a zD).elim λa i P=>?_;have h:=(P.3.2 K g).trans b;have f:LS ..:=.inr ⟨K,rfl,h⟩;by_cases S:keys=[]
 .obtain⟨k,Z,F,b,X,c⟩:=xV n W 28 _ P.4 zD;have d:=f.tD (dT S);by_cases e:a=0
  .exact⟨k,Z,F,aQ [tF P.2,t1 e,t1 d,tF b],P.3.trans X,c⟩
  .exact⟨k,Z,F,aQ [tF P.2,t0 e,t1 d,t1 d,tF b],P.3.trans X,c⟩
 .have d:=f.tD (dF S);by_cases e:a=0
  .obtain⟨k,Z,F,b,X,c⟩:=xV n W 2 i P.4 zD;exact⟨k,Z,a1 F rfl,aQ [tF P.2,t1 e,t0 d,tF b],P.3.trans X,c⟩
  .refine(eb (n+1) W keys.length i P.4 (mH.mpr S)).elim λx Z S=>?_;haveI l:=S.1;haveI b:=S.2;haveI X:=S.3;haveI c:=S.4;have i:=bI l;have l:keys[x]∈keys:=gr _;have S:=f.len;rw[dz]at S;have F:=j _ l;generalize keys[x]=k at i F;have f:=gi x _ ((X.2 K g).trans h) (gK i);by_cases g:a=1
   .exact⟨k,Z,F,aQ [tF P.2,t0 e,t0 d,tO 30 S,tF b,tO 1 f,t1 g],P.3.trans X,c⟩
   .by_cases h:a=2
    .by_cases a:k.length<32
     .exact⟨k++ [16],Z,by rw[az];exact a,aQ [tF P.2,t0 e,t0 d,tO 30 S,tF b,tO 1 f,t0 g,t1 h,t1 a,tV 20 (dy k [16] (by rw[az,bo];exact a2 F rfl))],P.3.trans X,c⟩
     .exact⟨cut k I (D (-1)),Z,ak (nU ..) F,aQ [tF P.2,t0 e,t0 d,tO 30 S,tF b,tO 1 f,t0 g,t1 h,t0 a],P.3.trans X,c⟩
    .exact⟨cut k I (D (-1)),Z,ak (nU ..) F,aQ [tF P.2,t0 e,t0 d,tO 30 S,tF b,tO 1 f,t0 g,t0 h],P.3.trans X,c⟩
def xW(a:By)(m:Nat):Y0 (er (.bytes a) (D (.int m)) I) (.bytes (a.drop m)):=λF=>by rw[<- nF];rfl
def xX n W o(b:By)(k:Wl o W)(l:b≠[])(c:b.length<=1000000):xT W (b.length+1) o (ag (n+2) 53 [.loc W,.bytes b] o):=by
 refine aH λG j=>?_;obtain⟨a,m,K⟩:=eb n W b.length o k (mH.mpr l);obtain⟨y,p,X⟩:=eb n W 3 m K.4 zD;obtain⟨z,i,S⟩:=eb n W 256 p X.4 zD;have Z:=hO (lR S.1) (bw rfl);have s1:=xr b a;have F:(b.take a).length<=a:=by rw[cK];exact eA ..
 have P:∀t:By,t.length<=2000000->t.length<=aI:=λt h=>a1 h rfl;by_cases f:y=2
 .have a1:=dy (b.take a) [] (P _ (by rw[ci];exact KD K.1 c F));have g:¬y=1:=λe=>aB (e.symm.trans f) zD;have d:=xW b (a+1);have a2:=dy (b.take a++ []) (b.drop (a+1)) (P _ (by rw[ci,az,cY];exact KE K.1 c F));exact j ⟨b.take a++ []++b.drop (a+1),i,by rw[ci,az,cY];exact KG K.1 F,aQ [tF K.2,tF X.2,tF S.2,tV 33 Z,tV 2 s1,t1 f,tV 20 a1,t0 g,tV 2 d,tV 20 a2],(K.3.trans X.3).trans S.3,S.4⟩
 .have a1:=dy (b.take a) [z.toUInt8] (P _ (by rw[az];exact KH K.1 c F));refine j ?_;by_cases g:y=1
  .have d:=xW b a;have a2:=dy (b.take a++ [z.toUInt8]) (b.drop a) (P _ (by rw[az,az,cY];exact KI K.1 c F));exact⟨b.take a++ [z.toUInt8]++b.drop a,i,by rw[az,az,cY];simp only[b4,eE];exact KJ K.1 F,aQ [tF K.2,tF X.2,tF S.2,tV 33 Z,tV 2 s1,t0 f,tV 20 a1,t1 g,tV 2 d,tV 20 a2],(K.3.trans X.3).trans S.3,S.4⟩
  .have d:=xW b (a+1);have a2:=dy (b.take a++ [z.toUInt8]) (b.drop (a+1)) (P _ (by rw[az,az,cY];simp only[b4,eE];exact KL K.1 c F));exact⟨b.take a++ [z.toUInt8]++b.drop (a+1),i,by rw[az,az,cY];simp only[b4,eE];exact KO K.1 F,aQ [tF K.2,tF X.2,tF S.2,tV 33 Z,tV 2 s1,t0 f,tV 20 a1,t0 g,tV 2 d,tV 20 a2],(K.3.trans X.3).trans S.3,S.4⟩
def XU(W m B:Nat)(o:List av)(a:Option (Except Exc PV×List av)):Prop:=∃(R:List By) (F:List av),A5 (R.length<=m) (∀w∈R,w.length<=B) (a=D (.ok (.U (am R)),F)) (Dr W o F) (Wl F W)
def XV n W B o(c d:List By)(f:Wl o W)(O:c≠[])(H:∀w∈c,w≠[]/\w.length<=B)(Q:∀w∈d,w.length<=B)(hB:B<=50000)(g:c.length<=1000)(l:d.length<=1000):
  XU W (c.length+d.length+1) (B+1) o (ag (n+3) 54 [.loc W,.U (am c),.U (am d)] o):=by
 refine aH λG L=>?_;obtain⟨a,T,K⟩:=eb (n+1) W 7 o f zD;obtain⟨y,i,X,e2,j,w2⟩:=eb (n+1) W c.length T K.4 (mH.mpr O);rw[<- dz]at e2;have m:c.length<=aI:=a1 g rfl;have C:d.length<=aI:=a1 l rfl;have F:∀x y:List By,x.length+y.length<=5000->Y0 (binop .Add V (.U (am x)) (.U (am y))) (.U (am (x++y))):=λx y h=>by
  rw[kr];exact qf _ _ (by rw[az,dz,dz,bo];exact a1 h rfl)
 have E:=λ(R:List By) lo v=>nU R lo v;have k:=λw h=>hW (H w h).2;have s1:=l8 c I (D (.int y)) I (D y) rfl rfl m;have N:=l8 c (D (.int (y+1:Nat))) I (D ((y+1:Nat):Int)) I rfl rfl m;have p:=E c (D ((y+1:Nat):Int)) I;by_cases a2:a<2
 .have v:=bI X;have hm:c[y]∈c:=gr _;have S:=H _ hm;generalize c[y]=b at v S;obtain⟨A,o3,iB,e3,d3,w3⟩:=xX (n:=n) W i b w2 S.1 (by lia);have P:(cut c I (D (y:Int))).length<=y:=by rw[kl,cK];exact eA ..
  have Z:(cut c (D ((y+1:Nat):Int)) I).length=c.length - (y+1):=by rw[nF,cY]
  have a1:=F (cut c I (D (y:Int))) [A] (by simp only[b4,eE];exact KP X g P);have a3:=F (cut c I (D (y:Int))++ [A]) (cut c (D ((y+1:Nat):Int)) I) (by rw[az];simp only[b4,eE];exact KQ X g P p);refine L (⟨cut c I (D (y:Int))++ [A]++cut c (D ((y+1:Nat):Int)) I,o3,by rw[az,az];simp only[b4,eE];exact KR X Z P,λw f=>?_,aQ [tF K.2,tF e2,t1 a2,tV 2 s1,tV 1 (dg (gK v)),tF e3,tV 20 a1,tV 2 N,tV 20 a3,tV 5 (bk (.U (am (cut c I (D (y:Int))++ [A]++cut c (D ((y+1:Nat):Int)) I))) (nI _ λx hx=>by
    obtain⟨z,_,rfl⟩:=ch.mp hx;rfl))],(K.3.trans j).trans d3,w3⟩)
  rcases aZ.mp f with f |f
  .rcases aZ.mp f with f |f
   .exact k w (l6 f)
   .rw[bq.mp f];lia
  .exact k w (l6 f)
 .refine L ?_;by_cases a3:a=2
  .have q:=F (cut c I (D (y:Int))) (cut c (D ((y+1:Nat):Int)) I) (by exact ak (ec (E c I (D (y:Int))) p) (a8 g g rfl));refine⟨cut c I (D (y:Int))++cut c (D ((y+1:Nat):Int)) I,i,?_,λw f=>?_,aQ [tF K.2,tF e2,t0 a2,t1 a3,tV 2 s1,tV 2 N,tV 20 q],K.3.trans j,w2⟩
   .have P:(cut c I (D (y:Int))).length<=y:=by rw[kl,cK];exact eA ..
    have Z:(cut c (D ((y+1:Nat):Int)) I).length=c.length - (y+1):=by rw[nF,cY]
    rw[az];exact KS X Z P
   .rcases aZ.mp f with f |f <;> exact k w (l6 f)
  .by_cases a4:a=3
   .have r:Y0 (reversed (.U (am c))) (.U (am c.reverse)):=λst=>by
     show bV V (am c).reverse st=_;have e:(am c).reverse=am c.reverse:=by unfold am;rw[G0]
     rw[e];exact iP (by rw[dz,qH];exact m)
    exact⟨c.reverse,i,by rw[qH];exact hW (bl ..),λw f=>k w (aaE.mp f),aQ [tF K.2,tF e2,t0 a2,t0 a3,t1 a4,tV 2 r],K.3.trans j,w2⟩
   .by_cases a5:a=4
    .have s3:=l8 c I (D (.int ((y+1:Nat):Int))) I (D ((y+1:Nat):Int)) rfl rfl m;have s4:=l8 c (D (.int (y:Int))) I (D (y:Int)) I rfl rfl m;have s:(cut c I (D ((y+1:Nat):Int))).length<=y+1:=by rw[kl,cK];exact eA ..
     have t:(cut c (D (y:Int)) I).length=c.length - y:=by rw[nF,cY]
     have q:=F (cut c I (D ((y+1:Nat):Int))) (cut c (D (y:Int)) I) (by exact KU X g t s);refine⟨cut c I (D ((y+1:Nat):Int))++cut c (D (y:Int)) I,i,by rw[az];exact KV X t s,λw f=>?_,aQ [tF K.2,tF e2,t0 a2,t0 a3,t0 a4,t1 a5,tV 2 s3,tV 2 s4,tV 20 q],K.3.trans j,w2⟩;rcases aZ.mp f with f |f <;> exact k w (l6 f)
    .by_cases a6:a=5
     .have s5:=l8 d (D (.int (-1))) I (D (-1)) I rfl rfl C;have u:=E d (D (-1)) I;have q:=F c (cut d (D (-1)) I) (by exact ak (ec g u) (a7 l rfl));refine⟨c++cut d (D (-1)) I,i,by rw[az];exact hW (bH u _),λw f=>?_,aQ [tF K.2,tF e2,t0 a2,t0 a3,t0 a4,t0 a5,t1 a6,tV 2 s5,tV 20 q],K.3.trans j,w2⟩;rcases aZ.mp f with f |f
      .exact k w f
      .exact(λw h=>hW (Q w h)) w (l6 f)
     .exact⟨[],i,bn _,λw f=>(by exact Mine.z7 f),aQ [tF K.2,tF e2,t0 a2,t0 a3,t0 a4,t0 a5,t0 a6],K.3.trans j,w2⟩
inductive Fr(S:List Nat)(b:Nat)(o a:List av):Prop |mk
 (F:o.length<=a.length)
 (F:∀i,i<b->i∉S->a[i]?=o[i]?)
def Fr.refl S b o:Fr S b o o:=⟨aL _,λF F F=>rfl⟩
def Fr.trans(h:Fr S b o d)(c:Fr S b d a):Fr S b o a:=⟨ak h.1 c.1,λi F K=>(c.2 i F K).trans (h.2 i F K)⟩
def Fr.less(h:Fr S b o a)(c:d<=b):Fr S d o a:=⟨h.1,λi F K=>h.2 i (bc F c) K⟩
def Fr.then(h:Fr S o.length o b)(c:Fr S b.length b a):Fr S o.length o a:=h.trans (c.less h.1)
def Go.fr(h:Go d b o a)(c:d∈S):Fr S b o a:=⟨h.1,λi F K=>h.2 i F λz=>K (z▸c)⟩
def Dr.fr(h:Dr W o a)(c:W∈S):Fr S b o a:=⟨aq h.1.symm,λi F F=>h.2 i λz=>F (z▸c)⟩
def Fr.set o x(h:L∈S):Fr S b o (o.set L x):=⟨by rw[dD];exact aL _,λi F F=>bm λ(z:L=i)=>F (z▸h)⟩
def Dr.dig(h:Dr W o b)(a:Dig o g d c)(e:W≠g)(f:W≠d):Dig b g d c:=a.pX (h.2 g e.symm) (h.2 d f.symm)
def Wl.go(h:Wl o W)(g:Go d o.length o a)(f:W≠d):Wl a W:=by
 obtain⟨a,b,c,e⟩:=h;exact⟨a,b,c,(g.2 W (aR e) f).trans e⟩
def Wl.lt(h:Wl o W):W<o.length:=by
 obtain⟨a,b,c,e⟩:=h;exact aR e
inductive MS(W L g d:Nat)(o:List av)(b a:List By):Prop |mk
 (w:Wl o W)
 (F:Dig o g d b)
 (r:o[L]?=D (.list (am a)))
 (F:W≠g)
 (F:W≠d)
 (F:L≠W)
 (F:L≠g)
 (F:L≠d)
 (F:∀w∈a,w.length<=20000)
inductive MT(W L g d c:Nat)(o:List av)(f e:List By)(h:List av)(b a:List By):Prop |mk
 (F:Fr [d,W,L] o.length o h)
 (F:f <+:b)
 (F:b.length<=f.length+c)
 (F:a.length<=e.length+c)
 (F:MS W L g d h b a)
def MT.refl(h:MS b L g d o e a):MT b L g d c o e a o e a:=⟨.refl ..,bT _,bl ..,bl ..,h⟩
def MT.trans(h:MT e L g d c o m f n k b)(i:MT e L g d c' n k b l j a):MT e L g d (c+c') o m f l j a:=
 ⟨h.1.then i.1,h.2.trans i.2,by have:=h.3;exact b3 (i.3) zA,by have:=h.4;exact b3 (i.4) zA,i.5⟩
def MT.more(h:MT e L g d c o j b k f a)(i:c<=c'):MT e L g d c' o j b k f a:=⟨h.1,h.2,ak (h.3) (bH i _),ak (h.4) (bH i _),h.5⟩
def MS.draw(h:MS c L g d o f b)(n a:Nat)(i:0<a):E2 λx e=>A3 (x<a) (ag (n+1) 35 [.loc c,.int a] o=D (.ok (.int x),e)) (MT c L g d 0 o f b e f b):=(eb n c _ o h.1 i).elim λx e F=>⟨x,e,F.1,F.2,F.3.fr zS,bT _,aL _,aL _,F.4,F.3.dig h.2 h.4 h.5,(F.3.2 L h.6).trans h.3,h.4,h.5,h.6,h.7,h.8,h.9⟩
def XW os n xs v(h:os[n]?=D (.list xs))(a:xs.length<aI):Y (method "insert" (.loc n) [.int 0,v]) os .none (os.set n (.list (v::xs))):=λl=>xk h rfl a
def Fc n x(i:MS c L g d o f a)(j:bO x=J)(l:high x<=30)(k:(enc x).length<=20000)(p:f.length<1000000)(q:a.length<1000):
  E4 λy h e b=>A5 (ag (n+33) 57 [.loc c,x,.loc L,.loc g] o=D (.ok y,h)) (bO y=J) (high y<=high x) ((enc y).length<=(enc x).length\/(enc y).length<=41) (MT c L g d 1 o f a h e b):=by
 have K:=lY 30 x n o j l (a2 k rfl);have P:=eR x j;have F:∀h,ag (n+33) 57 [.loc c,x,.loc L,.loc g] o=D (.ok x,h)->MT c L g d 0 o f a h f a->E4 λy h e b=>A5 (ag (n+33) 57 [.loc c,x,.loc L,.loc g] o=D (.ok y,h)) (bO y=J) (high y<=high x) ((enc y).length<=(enc x).length\/(enc y).length<=41) (MT c L g d 1 o f a h e b):=
  λh e m=>⟨x,h,f,a,e,j,aL _,.inl (aL _),m.more (bn _)⟩
 clear l;cases x with
 |bytes b=>exact F o (aQ [tF K]) (.refl i)
 |U l=>
  by_cases Z:(enc (.U l)).length<32
  .exact F o (aQ [tF K,t1 Z,tV 5 (bk _ P)]) (.refl i)
  .refine aH λG g=>?_;obtain⟨y,S,W⟩:=i.draw (n+31) 5 zD;by_cases h:y=4
   .exact g (F S (aQ [tF K,t0 Z,tF W.2,t1 h,tV 5 (bk _ P)]) W.3)
   .have F:=W.3.5;have P:=XW S L (am a) (.bytes (enc (.U l))) F.3 (by rw[dz,bo];exact a1 q rfl);have c:=F.2.set (.list (.bytes (enc (.U l))::am a)) F.7 F.8;have X:=lX (n+30) c (enc (.U l)) (a1 k rfl) (a1 p rfl);generalize m:enc (.U l)=E at K Z k P c X;have l:Go d (S.set L (.list (.bytes E::am a))).length (S.set L (.list (.bytes E::am a))) (putD (S.set L (.list (.bytes E::am a))) d (aX f E)):=.put ..;refine g ⟨.bytes (fK (aX f E) E),putD (S.set L (.list (.bytes E::am a))) d (aX f E),aX f E,E::a,aQ [tF K,t0 Z,tF W.2,t0 h,tM (gJ F.3 "insert" zK),tO 8 P,tM (hS c),tF X],rfl,bn _,.inr (nw (fK (aX f E) E) (by rw[((cE (aX f E)).1 E)];decide)),?_,pW ..,nK ..,aL _,?_,c.put _,?_,F.4,F.5,F.6,F.7,F.8,?_⟩
    .exact W.3.1.trans ((Fr.set S _ zS).trans ((l.fr zS).less (by rw[dD];exact W.3.1.1)))
    .obtain⟨a,b,c,e⟩:=F.1;refine⟨a,b,c,?_⟩;rw[bm F.5.symm,bm F.6];exact e
    .unfold putD;rw[bm F.8.symm,gn (aR F.3)];rfl
    .intro w F;rcases bD.mp F with rfl |F
     .exact k
     .exact i.9 w F
 |_=>cases j
def dQ(x:PV):Prop:=A3 (bO x=J) (high x<=1) ((enc x).length<=49)
def dZ(h:(bO x && decide (high x<=1) && decide ((enc x).length<=49))=J):dQ x:=by
 rw[de,de]at h;exact⟨h.1.1,of_decide_eq_true h.1.2,of_decide_eq_true h.2⟩
def xY a b c d e(g:dQ a)(h:dQ b)(i:dQ c)(j:dQ d)(k:dQ e) y(f:y<5):∃x,[a,b,c,d,e][y]?=D x/\dQ x:=
 ⟨_,bI f,dH.mpr ⟨g,dH.mpr ⟨h,dH.mpr ⟨i,dH.mpr ⟨j,dH.mpr ⟨k,λF h=>z7 h⟩⟩⟩⟩⟩ _ (gr f)⟩
def XX a b c d(f:dQ a)(g:dQ b)(h:dQ c)(i:dQ d) y(e:y<4):∃x,[a,b,c,d][y]?=D x/\dQ x:=
 ⟨_,bI e,dH.mpr ⟨f,dH.mpr ⟨g,dH.mpr ⟨h,dH.mpr ⟨i,λF h=>z7 h⟩⟩⟩⟩ _ (gr e)⟩
noncomputable def Fd(y:Nat)(a:y<5):=xY (.bytes []) (.bytes [5]) (.bytes (bF 32 9)) (.U []) (.U [.bytes [32],.bytes [5],.bytes []]) (dZ zK) (dZ zK) (dZ zK) (dZ zK) (dZ zK) y a
noncomputable def XY(y:Nat)(a:y<4):=XX (.bytes [7]) (.bytes (bF 40 8)) (.bytes []) (.U [.bytes [7]]) (dZ zK) (dZ zK) (dZ zK) (dZ zK) y a
noncomputable def XZ(y:Nat)(a:y<5):=xY (.bytes [1]) (.bytes (bF 32 3)) (.bytes (bF 31 3)) (.U [.bytes [32],.bytes [2]]) (.U [.bytes (bF 40 5)]) (dZ zK) (dZ zK) (dZ zK) (dZ zK) (dZ zK) y a
def Fe(h:b.length<=40):dQ (.bytes b):=⟨rfl,bn _,b1 (nw b (aT h zD)) h rfl⟩
def Ff a b(h:(enc a).length+(enc b).length<100000):(enc (.U [a,b])).length<=(enc a).length+(enc b).length+9:=by
 haveI F:cb [a,b]=enc a++enc b:=by rw[iR,iR];delta cb;rw[ci]
 rw[nD,az,F,az];exact g7 (cR ..) (bH ((sP (bc h zD)).2) _)
inductive qg(a:Nat)(x:PV):Prop |mk
 (i:bO x=J)
 (h:high x<=2*a+2)
 (e:(enc x).length<=1000*(a+1))
def X0 n s1 s2 s3 s4 s5 s6 s7 s8 s9 jx x(i:MS a L g d o j c)(k:o[F]?=D (.list e))(f:e.length=17)(r:∀z∈e,dQ z)(l:b<=F)(m:F≠a)(p:F≠L)(s:F≠g)(q:F≠d):
  E2 λP K=>A6 (cl (ag (n+1)) 58 0 x ⟨[D (.loc a),s1,s2,s3,s4,s5,s6,s7,s8,s9,D (.loc F),jx],o⟩=D (.ok .next,⟨[D (.loc a),s1,s2,s3,s4,s5,s6,s7,s8,s9,D (.loc F),D x],P⟩)) (Fr [d,a,L] b o P) (MS a L g d P j c) (P[F]?=D (.list K)) (K.length=17) (∀z∈K,dQ z):=by
 refine aH λG b=>?_;obtain⟨y,K,P⟩:=i.draw n 5 zD;obtain⟨z,Z⟩:=XZ y P.1;obtain⟨i,c,S⟩:=P.3.5.draw n 17 zD;have K:F∉ [d,a,L]:=by simp[m,p,q]
 have W:=(P.3.1.2 F (aR k) K).trans k;have X:=(S.3.1.2 F (aR W) K).trans W;have K:=S.3.5;refine b ⟨c.set F (.list (e.set i z)),e.set i z,c7 [tF P.2,tV 1 (bv Z.1),tF S.2,tU (lU e i z X (by rw[f];exact S.1))],?_,?_,dY _ (aR X),dD.trans f,λw F=>?_⟩
 .refine((P.3.1.then S.3.1).less ?_).trans ⟨by rw[dD];exact aL _,λj P S=>bm (bf (bc P l))⟩;exact ak l (bj (aR k))
 .obtain⟨P,S,W,X⟩:=K.1;exact⟨⟨P,S,W,by rw[bm m];exact X⟩,K.2.set _ s q,by rw[bm p];exact K.3,K.4,K.5,K.6,K.7,K.8,K.9⟩
 .rcases Hr F with h |h
  .exact r w h
  .rw[h];exact Z.2
def X1 n s1 s2 s3 s4 s5 s6 s7 s8 s9(e:F≠a)(f:F≠L)(h:F≠g)(i:F≠d)(j:b<=F) xs:∀o Z K W S,MS a L g d o Z K->o[F]?=D (.list W)->W.length=17->(∀z∈W,dQ z)->
  E3 λX P t=>A6 (c0 (cl (ag (n+1)) 58 0) xs ⟨[D (.loc a),s1,s2,s3,s4,s5,s6,s7,s8,s9,D (.loc F),S],o⟩=D (.ok .next,⟨[D (.loc a),s1,s2,s3,s4,s5,s6,s7,s8,s9,D (.loc F),t],X⟩)) (Fr [d,a,L] b o X) (MS a L g d X Z K) (X[F]?=D (.list P)) (P.length=17) (∀z∈P,dQ z):=by
 induction xs with
 |nil=>exactλo Z K W S F a b c=>⟨o,W,S,rfl,.refl ..,F,a,b,c⟩
 |cons x r d=>
  exactλo Z K W S F a b c=>(X0 n _ _ _ _ _ _ _ _ _ _ x F a b c j e f h i).elim λF F F=>(d _ _ _ _ _ F.3 F.4 F.5 F.6).elim λX P t K=>
   ⟨X,P,t,(d' F.1).trans K.1,F.2.trans K.2,K.3,K.4,K.5,K.6⟩
def Fg{b:List _}(f:b.length=17)(d:∀z∈b,dQ z)(a:m<17)(g:bO y=J)(i:high y<=2*deep+2)(e:(enc y).length<=1000*(deep+1))(c:deep<=3):qg (deep+1) (.U (b.set m y)):=by
 haveI S:∀l:List _,(∀z∈l,bO z=J/\high z<=2*deep+2)->c4 l=J/\highs l<=2*deep+3:=by
  intro l
  induction l with
  |nil=>intro _;exact⟨rfl,bn _⟩
  |cons a l K=>
   intro h;haveI P:=K λz F=>h z (.tail _ F);have W:=h a (.head _);dsimp only[c4,highs];rw[W.1,P.1];exact⟨rfl,KW W.2 P.2⟩
 haveI P:∀z∈b.set m y,bO z=J/\high z<=2*deep+2:=λz F=>by
  rcases Hr F with h |h
  .haveI W:=d z h;exact⟨W.1,a1 W.2 rfl⟩
  .exact h▸⟨g,i⟩
 haveI W:=S _ P;haveI P:∀(l:List _) m,(∀z∈l,dQ z)->(cb (l.set m y)).length<=49*l.length+(enc y).length:=by
  intro l
  induction l with
  |nil=>intro m _;exact bn _
  |cons a l K=>
   intro m h;cases m with
   |zero=>
    rw[List.set_cons_zero,iR,az,b4];have:∀l:List _,(∀z∈l,dQ z)->(cb l).length<=49*l.length:=by
     intro l
     induction l with
     |nil=>intro _;exact bn _
     |cons a l K=>
      intro h;rw[iR,az,b4];have:=(h a (.head _)).3;exact KX (K λz F=>h z (.tail _ F)) zA
    exact KY (this l λz F=>h z (.tail _ F))
   |succ m=>
    rw[List.set_cons_succ,iR,az,b4];exact KZ (K m λz F=>h z (.tail _ F)) ((h a (.head _)).3)
 haveI F:=P _ m d;replace F:=f▸F;refine⟨W.1,b9 W.2,?_⟩;rw[nD,az];exact K1 F e ((sP (aT (show _<=49*17+1000*4 by exact K0 F e c) zD)).2)
def Fh{n b a y:Nat}(r:Vp p)(i:p.length<=4)(j:¬a=0)(k:a<3\/b=0)(l:ag (n+39) 35 [.loc e,.int 7] o=D (.ok (.int a),q))(m:ag (n+39) 35 [.loc e,.int ((iL p).length+1:Nat)] q=D (.ok (.int y),s))(f:MT e L g d 0 o h c s h c):
  E4 λx P K F=>A3 (ag (n+40) 58 [.loc e,.tup (iL p),.int b,.loc L,.loc g] o=D (.ok x,P)) (qg b x) (MT e L g d b o h c P K F):=by
 refine aH λG g=>?_;obtain⟨z,W,X⟩:=f.5.draw (n+38) 4 zD;obtain⟨x,d,F⟩:=XY z X.1;have P:∀q:aD,q.length<=4->qg b (.U [.bytes (pk q J),x]):=λq S=>by
  have K:=Fe (b1 (sQ q J) S rfl);refine⟨by unfold bO c4 c4 c4;rw[K.1,F.1];rfl,?_,?_⟩
  .exact a2 (F.2) rfl
  .have:=K.3;have:=F.3;exact K2 (Ff (.bytes (pk q J)) x (a9 zA this rfl)) zA this
 have e:∀q:aD,aO (.U [.bytes (pk q J),x])=J:=λq=>cw (a:=.bytes (pk q J)) rfl (eR x F.1);have F:=(f.trans X.3).more (c':=b) (bn _);have S:(p.take y).length<=4:=by rw[cK];exact ak (eY ..) i
 by_cases Z:a=1
 .have K:=p_ (n+38) W p J r (b7 i);exact g (⟨_,W,h,c,aQ [tF l,t0 j,tF m,t1 (show a<3 by exact g9 Z zD),tF X.2,tV 1 (bv d),t1 Z,tF K,tV 5 (bk _ (e p))],P p i,F⟩)
 .have K:=p_ (n+38) W (p.take y) J (r.take y) (b7 S);refine g ?_;by_cases b:a<3
  .exact⟨_,W,h,c,aQ [tF l,t0 j,tF m,t1 b,tF X.2,tV 1 (bv d),t0 Z,tV 2 (kq p y),tF K,tV 5 (bk _ (e (p.take y)))],P _ S,F⟩
  .have a:=k.resolve_left b;exact⟨_,W,h,c,aQ [tF l,t0 j,tF m,t0 b,t1 a,tF X.2,tV 1 (bv d),t0 Z,tV 2 (kq p y),tF K,tV 5 (bk _ (e (p.take y)))],P _ S,F⟩
def X2:∀deep n p o f K,Vp p->p.length<=4->deep<=3->MS e L g d o f K->f.length+deep<900000->K.length+deep<900->
  E4 λx S P F=>A3 (ag (n+deep+40) 58 [.loc e,.tup (iL p),.int deep,.loc L,.loc g] o=D (.ok x,S)) (qg deep x) (MT e L g d deep o f K S P F):=by
 intro deep
 induction deep with
 |zero=>
  intro n p o f K C E S X O Q;refine aH λG i=>?_;obtain⟨a,j,W⟩:=X.draw (n+38) 7 zD;by_cases B:a=0
  .obtain⟨y,P,Z⟩:=W.3.5.draw (n+38) 5 zD;obtain⟨x,h,F⟩:=Fd y Z.1;exact i (⟨x,P,f,K,aQ [tF W.2,t1 B,tF Z.2,tV 1 (bv h),tV 5 (bk x (eR x F.1))],⟨F.1,by have:=F.2;exact a1 this rfl,by have:=F.3;exact a1 this rfl⟩,(W.3.trans Z.3).more (bn _)⟩)
  .obtain⟨y,P,Z⟩:=W.3.5.draw (n+38) ((iL p).length+1) (fv _);exact i (Fh C E B (.inr rfl) W.2 Z.2 (W.3.trans Z.3))
 |succ deep ih=>
  intro n p o f K C E S X O Q;obtain⟨a,j,v⟩:=X.draw (n+deep+39) 7 zD;by_cases B:a=0
  .obtain⟨y,P,W⟩:=v.3.5.draw (n+deep+39) 5 zD;obtain⟨x,h,F⟩:=Fd y W.1;exact⟨x,P,f,K,aQ [tF v.2,t1 B,tF W.2,tV 1 (bv h),tV 5 (bk x (eR x F.1))],⟨F.1,by have:=F.2;exact a1 this rfl,by have:=F.3;exact a1 this rfl⟩,(v.3.trans W.3).more (bn _)⟩
  obtain⟨y,P,T⟩:=v.3.5.draw (n+deep+39) ((iL p).length+1) (fv _);have X:=v.3.trans T.3;by_cases a3:a<3
  .exact Fh C E B (.inl a3) v.2 T.2 X
  have k:=iS (deep+1) 1 (fv _);rw[Hp]at k;have G:¬deep+1=0:=yW _;by_cases a4:a=3
  .have F:(p.take y).length<=4:=by rw[cK];exact ak (eY _ _) E
   have r:=p_ (n+deep+39) P (p.take y) V (C.take y) (a1 F rfl);obtain⟨z,w,hz,e3,m⟩:=X.5.draw (n+deep+39) 8 zD;obtain⟨h,hh,i⟩:=xY (.bytes [17]) (.bytes [5]) (.bytes []) (.U [.bytes [17]]) (.bytes (pk (p.take y) V)) (dZ zK) (dZ zK) (dZ zK) (dZ zK) (Fe (by have:=sQ (p.take y) V;exact b1 this F rfl)) (min 4 z) (by exact di (eA _ _));obtain⟨x,N,F,F,e4,q,j⟩:=ih n (p.drop y) w f K (C.drop y) (by rw[cY];exact ak (b_ _ _) E) (bj S) m.5 (bj O) (bj Q);have W:=j.3;have Z:=j.4;obtain⟨F,o5,Fi,s,e5,H,h5,l5,A⟩:=Fc (n+deep+7) x j.5 q.1 (by have:=q.2;exact zF S this) (by have:=q.3;exact ak this (f5 S rfl)) (by exact aT (d9 W) (bc O zD)) (by exact aT (d9 Z) (bc Q zD));have W:(enc F).length<=1000*(deep+1):=by have:=q.3;rcases l5 with l |l <;> (first |exact ak l this |exact zG l)
   have Z:=i.3;have e6:=Ff h F (by exact K3 S W Z);have t:aO (.U [h,F])=J:=cw (eR h i.1) (eR F H);have wh:=q.2;have u:=i.2;refine⟨.U [h,F],o5,Fi,s,aQ [tF v.2,t0 B,tF T.2,t0 a3,t0 G,t1 a4,tV 2 (kq p y),tF r,tF e3,tV 36 (DL 4 z),tV 1 (bv hh),tV 2 (dh p y),tV 21 k,tF e4,tF e5,tV 5 (bk _ t)],⟨by unfold bO c4 c4 c4;rw[i.1,H];rfl,by unfold high highs highs highs;exact K4 wh u h5,by exact K5 e6 Z W⟩,?_⟩;exact((X.trans m).trans (j.trans A)).more (by exact aq (cR _ _))
  .have F:=X.5;have r:(P++ [av.list [.bytes []]]++ [av.list (bF 17 (.bytes []))])[P.length+1]?=D (.list (bF 17 (.bytes []))):=by
    have:=gT (l:=P++ [av.list [.bytes []]]) (a:=av.list (bF 17 (.bytes [])));rw[az]at this;exact this
   have u:Y (binop .Mult J (.loc P.length) (.int 17)) (P++ [.list [.bytes []]]) (.loc (P.length+1)) (P++ [.list [.bytes []]]++ [.list (bF 17 (.bytes []))]):=λl=>by
    show lb J (.loc P.length) 17 ⟨l,P++ [.list [.bytes []]]⟩=_;unfold lb;rw[k_ (show(P++ [av.list [.bytes []]])[P.length]?=D (.list [.bytes []])from gT)];dsimp only;rw[iP ⟨by decide,by decide,by decide⟩];show D (Except.ok (PV.loc (P++ [av.list [.bytes []]]).length),_)=_;rw[az];rfl
   have Z:MS e L g d (P++ [.list [.bytes []]]++ [.list (bF 17 (.bytes []))]) f K:=by
    obtain⟨w1,w2,w3,w4⟩:=F.1;have W:∀{i:Nat} {x:av},P[i]?=D x->(P++ [av.list [.bytes []]]++ [av.list (bF 17 (.bytes []))])[i]?=D x:=λ{i x} h=>by
     rw[cz,cX (aR h)];exact h
    exact⟨⟨w1,w2,w3,W w4⟩,⟨W F.2.1,W F.2.2,F.2.3⟩,W F.3,F.4,F.5,F.6,F.7,F.8,F.9⟩
   have j:Fr [d,e,L] o.length P (P++ [av.list [.bytes []]]++ [av.list (bF 17 (.bytes []))]):=⟨by rw[az,az];exact hW (bl _ _),λi W ψ=>by
    have:=X.1.1;rw[cz,cX (ak W this)]⟩
   have W:∀{i:Nat},i<P.length->P.length+1≠i:=λh z=>by exact K6 z h
   have l1:=W F.1.lt;have l2:=W (aR F.3);have l3:=W F.2.gI;have l4:=W F.2.lt;have W:o.length<=P.length+1:=hW X.1.1;generalize F:P++ [av.list [.bytes []]]++ [av.list (bF 17 (.bytes []))]=oA at r u Z j;obtain⟨z,w,hz,e3,m⟩:=Z.draw (n+deep+39) 3 zD;have i:P.length+1∉ [d,e,L]:=by simp[l1,l2,l4]
   have Z:=(m.1.2 (P.length+1) (aR r) i).trans r;obtain⟨N,h,t,e4,r,F,t,Fj,H⟩:=X1 (n+deep+39) (b:=o.length) (D (.tup (iL p))) (D (.int ((deep+1:Nat):Int))) (D (.loc L)) (D (.loc g)) (D (.int (a:Int))) (D (.int (y:Int))) I I I l1 l2 l3 l4 W (ups 0 z) w f K (bF 17 (.bytes [])) I m.5 Z (by rw[fx]) (λw Z=>by rw[List.eq_of_mem_replicate Z];exact dZ zK);have a:o.length<=oA.length:=ak X.1.1 j.1;have Z:Fr [d,e,L] o.length o N:=(X.1.trans j).trans ((m.1.less a).trans r);have g:=qb z (by lia);cases p with
   |nil=>
    have a:=iT [] [] N (c:=V) (by rw[dT rfl];rfl);have X:qg (deep+1) (.U h):=by
     have d:h[0]?=D h[0]:=bI (by lia);have e:h[0]∈h:=gr _;have d:=H _ e;have:=Fg (deep:=deep) (y:=h[0]) (m:=0) Fj H zD d.1 (by have:=d.2;exact a1 this rfl) (by have:=d.3;exact a1 this rfl) (bj S);rw[List.set_getElem_self]at this;exact this
    have d:=nM t;exact⟨.U h,N.set (P.length+1) .dead,f,K,aQ [tF v.2,t0 B,tF T.2,t0 a3,t0 G,t0 a4,tO 22 u,tF e3,tR g,tL e4,t0 a,tO 5 d],X,Z.trans ⟨by rw[dD];exact aL _,λj w ψ=>bm (by exact bf (bc w W))⟩,bT _,bl _ _,bl _ _,by
      obtain⟨w1,w2,w3,w4⟩:=F.1;exact⟨⟨w1,w2,w3,by rw[bm l1];exact w4⟩,F.2.set _ l3 l4,by rw[bm l2];exact F.3,F.4,F.5,F.6,F.7,F.8,F.9⟩⟩
   |cons e r=>
    obtain⟨m,rfl,o⟩:=C.head.nat;simp only[b4]at E;have a:=iT ((m:Int)::r) [] N (c:=J) (by rw[dF (λz=>by exact Mine.z6 z)];rfl);obtain⟨x,o5,Fi,s,e5,q,A⟩:=ih n r N f K C.tail (bj E) (bj S) F (bj O) (bj Q);have f:=A.3;have p:=A.4;obtain⟨s,z,y,K,e6,C,E,F,e⟩:=Fc (n+deep+7) x A.5 q.1 (by have:=q.2;exact zF S this) (by have:=q.3;exact ak this (f5 S rfl)) (by exact aT (d9 f) (bc O zD)) (by exact aT (d9 p) (bc Q zD));have n:(enc s).length<=1000*(deep+1):=by have:=q.3;rcases F with l |l <;> (first |exact ak l this |exact zG l)
    have F:=(A.1.2 (P.length+1) (aR t) i).trans t;have l:=(e.1.2 (P.length+1) (aR F) i).trans F;have i:=lU h m s l (by lia);have F:=dY (.list (h.set m s)) (aR l);have d:=nM F;have X:=Fg (deep:=deep) Fj H (show m<17 by exact ui o) C (by have:=q.2;exact ak E this) n (by exact abo S);have F:=e.5;refine⟨.U (h.set m s),(z.set (P.length+1) (.list (h.set m s))).set (P.length+1) .dead,y,K,aQ [tF v.2,t0 B,tF T.2,t0 a3,t0 G,t0 a4,tO 22 u,tF e3,tR g,tL e4,t1 a,tV 2 (dh ((m:Int)::r) 1),tV 21 k,tF e5,tF e6,tV 1 (bv (xs:=iL ((m:Int)::r)) (m:=0) rfl),tU i,tO 5 d],X,?_,A.2.trans e.2,?_,?_,?_⟩
    .have l5:=A.1.1;have K:=Z.1;exact Z.trans ((A.1.less K).trans ((e.1.less (ak K l5)).trans ⟨by rw[dD,dD];exact aL _,λj w ψ=>by rw[bm (by exact bf (bc w W)),bm (by exact bf (bc w W))]⟩))
    .have:=e.3;exact b3 this f
    .have:=e.4;exact b3 this p
    .obtain⟨w1,w2,w3,w4⟩:=F.1;exact⟨⟨w1,w2,w3,by rw[bm l1,bm l1];exact w4⟩,(F.2.set _ l3 l4).set _ l3 l4,by rw[bm l2,bm l2];exact F.3,F.4,F.5,F.6,F.7,F.8,F.9⟩
def X3 a b(h:o[L]?=D (.list b))(c:(a++b).length<=aI):Y (binop .Add V (.U a) (.loc L)) o (.U (a++b)) o:=λl=>by
 show jc ..=_;unfold jc;rw[k_ h];exact iP c
def Fr.cut(h:Fr [d,W,L] b o a)(e:c<=b)(f:c<=L):Fr [d,W] c o a:=⟨h.1,λi K F=>h.2 i (ak K e) (by
 have:=dB (bc K f);simp only[bD,x6,or_false,not_or]at F |-
 exact⟨F.1,F.2,this⟩)⟩
def kA.is{e:(By->By)->Option _}(h:kA g d c o j a f e)(k:∀l,j <+:l->e (fK l)=v){G:Prop}(m:∀i b,a=D (.ok (kz v),i)->Tr g d c o j i b->(v≠I->∀w∈f,w∈b)->G):G:=by
 refine h.elim λi b F F=>?_;haveI K:=F.7;have:=(K _ (bT _)).symm.trans (k _ F.4);clear k K;subst this;exact m _ _ F.1 ⟨F.2,F.3,F.4,F.5⟩ F.6
def Res.is{e:(By->By)->PV}(h:Res g d c o j a e){G:Prop}(k:∀f b,a=D (.ok (e (fK b)),f)->Tr g d c o j f b->(∀i,b <+:i->e (fK i)=e (fK b))->G):G:=by
 refine h.elim λx f b F=>?_;have:=F.6 _ (bT _);subst this;exact k _ _ F.1 ⟨F.2,F.3,F.4,F.5⟩ F.6
def Tb.tr(t:Tb b g d c o j i e)(r:Tr g d k i e f a)(l:b<=i.length)(h:c+k<=c''):Tb b g d c'' o j f a:=t.trans ⟨r.1.less l,r.2,r.3,r.4⟩ h
def jy(h:a<=k+c)(b:k<m)(d:c+x<=9000000)(e:m<=1000000:=by decide):a+x<10000000:=
 aT (c9 h x) (aT (aq (c_ k c x)) (bc (y' b d) (c9 e _)))
def Wl.to(h:Wl o W)(g:Go d b o a)(c:W<b)(f:W≠d):Wl a W:=by
 obtain⟨x,y,z,e⟩:=h;exact⟨x,y,z,(g.2 W c f).trans e⟩
def agree{b:Option _}{e:(By->By)->Option _}(h:kA g d c o l b f e){run2:List _->Option _}
  (m:∀a i,Tr g d c o l a i->kA g d c2 a i (run2 a) f e)
  {G:Prop}(n:∀v a j k,b=D (.ok (kz v),a)->run2 a=D (.ok (kz v),j)->Go d o.length o a->Tr g d (c+c2) o l j k->G):G:=h.elim λa F v F=>(m _ _ ⟨F.2,F.3,F.4,F.5⟩).is (λK K=>F.7 _ K) λj K K P S=>n v _ _ _ F.1 K F.2 (Tr.trans ⟨F.2,F.3,F.4,F.5⟩ P (aL _))
def Fk v o:Y (cmp .Eq (kz v) (kz v)) o (.bool J) o:=by
 cases v with
 |none=>exactλl=>rfl
 |some v=>exactλl=>by show rt ..=_;rw[beq_self_eq_true];rfl
def t9(W g d c:Nat)(o:List av)(b:List By)(a:Option (Except Exc PV×List av)):Prop:=E2 λK F=>A6 (a=D (.ok (.bool J),K)) (Fr [d,W] o.length o K) (Wl K W) (Dig K g d F) (b <+:F) (F.length<=b.length+c)
def Fn(m:Wl o W)(c:Dig o g d Q)(n1:W≠g)(T:W≠d)(hk:Q.length<800000):t9 W g d 20 o Q (ag (n+71) 59 [.loc W,.loc g] o):=by
 obtain⟨a,o1,y0⟩:=eb (n+69) W 256 o m zD;obtain⟨b,S,y1⟩:=eb (n+69) W 256 o1 y0.4 zD;have A:=hO (tu y0.1 (lR y1.1)) (bw rfl);generalize B: [a.toUInt8,b.toUInt8]=key at A;have X:key.length=2:=by rw[<- B];rfl
 have p:=y0.3.trans y1.3;have hL:(S++ [av.list []])[S.length]?=D (.list (am [])):=gT;have ms:MS W S.length g d (S++ [.list []]) Q []:=by
  obtain⟨x,y,z,h⟩:=y1.4;have D2:=(p.dig c n1 T);exact⟨⟨x,y,z,(cX (aR h)).trans h⟩,D2.app _,hL,n1,T,bf (aR h),bf D2.gI,bf D2.lt,λw m=>Mine.z7 m⟩
 obtain⟨x,j,C,F,Z⟩:=X2 3 (n+27) (aF key) (S++ [.list []]) Q [] (gb key) (by rw[jr];exact f5 (aq X) rfl) zD ms (bc (Y2 hk _) zD) zD;have K:=Z.3.5;have e:=Z.3.3;have f:=Z.3.4;have he:=Z.2.3;have G:=lY 8 x (n+60) j Z.2.1 (Z.2.2) (a2 he rfl);generalize hE:enc x=E at G he;have q:=lX (n+68) K.2 E (a1 he rfl) (b2 e hk rfl);have H:Go d j.length j (putD j d (aX C E)):=.put _ _ _ _;have D5:=K.2.put (aX C E);have r:=nK C E;generalize fK (aX C E) E=top at q;generalize putD j d (aX C E)=o5 at q H D5;have s:=(H.2 _ (aR K.3) K.8).trans K.3;have L:∀u,u[S.length]?=D (.list (am F))->Y (binop .Add V (.U [.bytes E]) (.loc S.length)) u (.U (am (E::F))) u:=λu h=>X3 [.bytes E] (am F) h (by rw[az,dz,bo];simp only[b4,eE];exact a7 f rfl);have k:∀w∈E::F,w.length<=60000:=λw m=>by
  rcases bD.mp m with rfl |m
  .exact a1 he rfl
  .have:=K.9 w m;exact a1 this rfl
 refine agree (run2:=λu=>ag (n+70) 51 [.bytes top,.tup (iL (aF key)),.U (am (E::F)),.loc g] u) (c2:=(E::F).length) (jv (n:=n) (P:=.U (am (E::F))) top key (E::F) (e3 X rfl) k (λz=>by cases z) (.inl rfl) D5 (by simp only[b4];exact Lg hk f e r)) (λu xD t=>EP (n:=n+5) (P:=.U (am (E::F))) top (aF key) (E::F) (gb key) (by rw[jr];exact f5 (aq X) rfl) k (λz=>by cases z) (.inl rfl) t.2 (by have l':=t.4;simp only[b4]at l' |-;exact Lh hk f e r l')) λv o6 o7 k7 f6 f7 g6 N=>?_;have l7:=N.4;rw[<- c_]at l7;have O:=kx (n+69) o6 key (e3 X rfl);have X4:Y (bV J []) S (.loc S.length) (S++ [.list []]):=λl=>rfl;have l4:(S++ [av.list []]).length<=j.length:=Z.3.1.1;rw[az,aaU]at l4;have lo:S.length=o.length:=p.1;have X5:=K.1;have X6:=X5.go H T;have X7:=X6.go N.1 T;have gE:Fr [d,W] o.length o o7:=by
  have f1:Fr [d,W] o.length o S:=p.fr zS;have f2:Fr [d,W] o.length S (S++ [.list []]):=⟨by rw[az];exact bl _ _,λi hi ψ=>cX (g8 lo hi)⟩;have f3:Fr [d,W] o.length (S++ [.list []]) j:=Z.3.1.cut (by rw[az];lia) (aq lo.symm);have f5:Fr [d,W] o.length j o5:=(H.fr zS).less (by lia);have X8:Fr [d,W] o.length o5 o7:=(N.1.fr zS).less (by have:=H.1;exact Li l4 lo this);exact f1.trans (f2.trans (f3.trans (f5.trans X8)))
 refine⟨o7,k7,?_,gE,X7,N.2,(Z.3.2.trans (pW _ _)).trans N.3,by simp only[b4]at l7;exact Lj l7 r f e⟩;exact aQ [tF y0.2,tF y1.2,tV 33 A,tO 14 X4,tF (kx (n+69) (S++ [.list []]) key (e3 X rfl)),tF Z.1,tF G,tM (hS K.2),tF q,tO 20 (L o5 s),tF f6,tF O,tO 20 (L o6 ((g6.2 _ (aR s) K.8).trans s)),tF f7,tO 40 (Fk v o7)]
def m_find(b:By) os:Y (eo "find" (.bytes b)) os I os:=λl=>by
 rfl
noncomputable def nV(W:Nat)(b:List By)(c:By)(g a B:Nat)(d e f:Option PV)(o:List av):St:=⟨[D (.loc W),D (.U (am b)),D (.bytes c),D (.loc g),D (.int (a:Int)),D (.loc B),d,e,f],o⟩
inductive nW(B:Nat)(a:List By)(o:List av)(b:List By):Prop |mk
 (F:o[B]?=D (.list (am b)))
 (F:b.length=a.length)
 (F:∀w∈b,w.length<=5000)
def X9{W:Nat} s6 s7 s8(b:Dig o g d q)(i:nW B e o h)(f:c+1<e.length)(r:∀w∈e,w.length<=2000)(v:B≠g)(p:B≠d)(s:q.length+2<1000000)
  {G:Prop}(x:∀j k l t,cl (ag (n+2)) 56 0 (.int c) (nV W e m g a B s6 s7 s8 o)=D (.ok .next,nV W e m g a B (D (.int c)) t s8 j)->Tb B g d 2 o q j k->nW B e j l->G):G:=by
 obtain⟨i,m,q⟩:=i;have S:=bI (bj f);have d:=bI f;have g:=bI (g6 m f);have K:=q _ (gr (g6 m f));have W:=r _ (gr (bj f));have P:=r _ (gr f);generalize e[c]=F at S W;generalize e[c+1]=k at d P;generalize h[c+1]=a at g K;refine(pY n b k (a1 P rfl) (aT (bl _ 2) (i9 s zD))).is λP P r e Z=>?_;have X:=(e.1.2 B (aR i) p).trans i;refine(pY n e.2 a (a1 K rfl) (aT e.4 (i9 (yC s) zD))).is λy n s t Z=>?_;have j:=(t.1.2 B (aR X) p).trans X;have Z:=(cE n).1 a;generalize fK P k=K at r;generalize fK n a=k at s Z;have a:=nU F I (D (fB F K));have l:=nU F (D (fB F K+32)) I;have u:=dy (cut F I (D (fB F K))++k) (cut F (D (fB F K+32)) I) (by rw[az,az,bo];exact Ll Z W a l);have P:=lU (am h) c (.bytes (cut F I (D (fB F K))++k++cut F (D (fB F K+32)) I)) j (by rw[dz];exact yC (g6 m f));have f:(cut F I (D (fB F K))++k++cut F (D (fB F K+32)) I).length<=5000:=by rw[az,az];exact Lm Z W a l
 generalize cut F I (D (fB F K))++k++cut F (D (fB F K+32)) I=N at u P f;rw[show(am h).set c (.bytes N)=am (h.set c N)from by unfold am;rw[List.map_set]]at P;refine x (y.set B (.list (am (h.set c N)))) n (h.set c N) (D (.int (fB F K))) (c7 [tV 1 (dg (gK S)),tM (m_find F o),tM (hS b),tV 1 (dg (gK d)),tF r,tV 1 (dg (gK S)),tM (hS e.2),tO 1 (gi (c+1) _ X (gK g)),tF s,tV 20 (dy (cut F I (D (fB F K))) k (by rw[az,bo];exact a8 (ak a W) (aq Z) rfl)),tV 1 (dg (gK S)),tV 20 u,tU P]) ((((Tb.refl b).tr e (bj (aR i)) (aL 1)).tr t (bj (aR X)) (aL 2)).set _ v p) ⟨dY _ (aR j),dD.trans m,λw F=>?_⟩;exact(Hr F).elim (q w) λh=>h▸f
def X_{W:Nat}(j:∀w∈b,w.length<=2000)(k:B≠g)(l:B≠d){m:Nat}:∀{f:List _} {o:List _} {c:List _} X Z K,m<b.length->Dig o g d c->nW B b o f->c.length+2*m<1000000->
  ∀{G:Prop},(∀e P S h i,c0 (cl (ag (n+2)) 56 0) (hU m) (nV W b key g a B X Z K o)=D (.ok .next,nV W b key g a B h i K e)->Tb B g d (2*m) o c e P->nW B b e S->G)->G:=by
 induction m with
 |zero=>exactλ{f o c} X Z K _ F W _ {G} a=>a o _ _ _ _ rfl (.refl F) W
 |succ m d=>
  intro f o c X Z K b F W c G a;exact X9 X Z K F W b j k l (f2 c) λF F F F K F W=>d _ _ _ (bj b) F.2 W (g1 F.4 c) λe P S h i P S W=>a _ _ _ _ _ ((d' K).trans P) (F.trans S (aq (cR 2 _))) W
def X'(a:Nat)(h:a<=1000000):Y0 (jV [.int (a - 1),.int (-1),.int (-1)]) (.seq (hU a)):=λF=>by
 haveI e:fV _ (-1) _=D (hU a):=sZ ⟨Ln,Lo h⟩ ⟨by decide,by decide⟩ (.inr (.inr rfl)) (a1 h rfl) (by unfold iZ;rw[iN zD];split <;> (first |exact Lq |exact zb zA)) (by rw[<- Ew];exact jJ λi F=>cA _ Ls);show jM ..=_;rw[e];rfl
def Ya(b:Dig o g d k)(p:nW B c o t)(i:a<c.length)(s:∀w∈c,w.length<=2000)(e:c.length<=1000)(f:key.length<=100)(q:B≠g)(h:B≠d)(l:k.length<800000)
  {G:Prop}(r:∀m j,ga (ag (n+70)) 56 2 (nV W c key g a B I I I o)=D (.ok (.ret (.bool J)),m)->Tb B g d 5000 o k m.objs j->G):G:=by
 have F:=kG 2 (bj (bc i e));refine X_ (n:=n+68) (W:=W) (a:=a) (key:=key) s q h I I I i b p (Lx l i e) λK K K y A s b P=>?_;have X:=Nat.zero_lt_of_lt (g6 P.2 i);haveI u:=bI X;haveI S:=P.3 _ (gr X);generalize K[0]=X at u S;refine(pY (n+68) b.2 X (a1 S rfl) (jy (x:=0) b.4 l (ak F zD))).is λt S k o C=>?_;generalize fK S X=top at k;have S:=(o.1.2 _ (aR P.1) h).trans P.1;have m:=b.tr o (bj (aR P.1)) (dA F);have Z:PV.loc B≠.loc d:=λz=>h (by clear p q h r s b P S m;cases z;rfl);have d:LS t (.loc B) (am K):=.inr ⟨_,rfl,S⟩;have X:∀w∈K,w.length<=60000:=λw h=>a1 (P.3 w h) rfl;have F:=P.2.symm▸e;refine agree (jv (n:=n) top key K (a1 f rfl) X Z d o.2 (jy m.4 l (ak (bH F _) zD)))
  (λh j t=>EP (n:=n+5) top (aF key) K (gb key) (by rw[jr];exact f5 f rfl) X Z (d.go t.1 Z) t.2 (jy (m.tr t (bj (aR S)) (bH F _)).4 l (ak (bH F _) zD))) λv Z X d h j C K=>?_
 exact r (nV W c key g a B y A (D (.bytes top)) X) d (cm [tR (X' a (ak (bj i) (a1 e rfl))),tL s,tM (hS b.2),tO 1 (gi 0 _ P.1 (gK u)),tF k,tF h,tF (kx (n+69) Z key (a1 f rfl)),tF j,tO 40 (Fk v X)])
  (m.tr K (bj (aR S)) (ak (bH (ec F F) _) zD))
def Yb{c:List By}(e:Wl o W)(b:Dig o g d a)(t:W≠g)(m:W≠d)(v:a.length<800000)(h:c≠[])(j:∀w∈c,w≠[]/\w.length<=2000)(f:c.length<=1000)(k:key.length<=100):t9 W g d 5000 o a (ag (n+71) 56 [.loc W,.U (am c),.bytes key,.loc g] o):=by
 obtain⟨a,S,F⟩:=eb (n+69) W c.length o e (mH.mpr h);haveI X:=F.1;haveI o:=F.2;haveI x:=F.3;haveI Z:=F.4;rw[<- dz]at o;have F:c.length<=aI:=a1 f rfl;have p:=l8 c I (D (.int a)) I (D a) rfl rfl F;have q:=l8 c (D (.int (a+1:Nat))) I (D (a+1:Nat)) I rfl rfl F;have s:=bI X;have F:c[a]∈c:=gr _;have P:=j _ F;generalize c[a]=r at s P;obtain⟨F,K,g,y,z,u⟩:=xX (n+68) W S r Z P.1 (by lia);have P:(cut c I (D (a:Int))).length=a:=by rw[kl,cK];exact fM (bj X)
 have S:(cut c (D ((a+1:Nat):Int)) I).length=c.length - (a+1):=by rw[nF,cY]
 have Z:∀w∈cut c I (D (a:Int)),w.length<=5000:=λw h=>by exact a1 ((j w (l6 h)).2) rfl
 have g:∀w∈cut c (D ((a+1:Nat):Int)) I,w.length<=5000:=λw h=>by have:=(j w (l6 h)).2;exact a1 this rfl
 generalize cut c I (D (a:Int))=A at p P Z;generalize cut c (D ((a+1:Nat):Int)) I=C at q S g;have r:=qf (am A) [.bytes F] (by rw[az,dz,bo];simp only[b4,eE];exact Lu X f P);rw[show am A++ [.bytes F]=am (A++ [F])from(kr A [F]).symm]at r;have a:Y (binop .Add J (.U (am (A++ [F]))) (.U (am C))) K (.loc K.length) (K++ [.list (am (A++ [F]++C))]):=λl=>by
  rw[kr (A++ [F]) C];show jc J (.U (am (A++ [F]))) (.U (am C)) ⟨l,K⟩=_;unfold jc d4;dsimp only;exact iP (by rw[az,dz,dz,az,bo];simp only[b4,eE];exact Lv X f S P)
 have i:(A++ [F]++C).length=c.length:=by rw[az,az];simp only[b4,eE];exact Lw X S P
 have P:∀w∈A++ [F]++C,w.length<=5000:=λw e=>by
  rcases aZ.mp e with e |e
  .rcases aZ.mp e with e |e
   .exact Z w e
   .rw[bq.mp e];lia
  .exact g w e
 generalize A++ [F]++C=S at a i P;have F:=x.trans z;have Z:=F.dig b t m;have b:nW K.length c (K++ [.list (am S)]) S:=⟨gT,i,P⟩;have P:Go d K.length K (K++ [.list (am S)]):=.app _ _ _;refine Ya (n:=n) (W:=W) (key:=key) (Z.app _) b X (λw h=>(j w h).2) f k (bf Z.gI) (bf Z.lt) v λK S e t=>?_;exact⟨K.objs,S,aQ [tF o,tV 2 p,tV 1 (dg (gK s)),tF y,tV 20 r,tV 2 q,tO 20 a,tZ 3 e],
  (F.fr zS).trans ((F.1)▸(P.trans t.1).fr zS),u.to (P.trans t.1) u.lt m,t.2,t.3,t.4⟩
noncomputable def bh(i:Int)(K:List aD):List aD:=K.filterMap λq=>match q with
 |[]=>I
 |x::r=>if x=i then D r else I
def Yc:r∈bh i K↔(i::r)∈K:=by
 refine yk.trans ?_;constructor
 .rintro ⟨q,h1,h2⟩
  cases q with
  |nil=>exact Mine.z3 h2
  |cons x t=>
   dsimp only at h2
   split at h2
   .rename_i e;rw[<- aE h2];subst e;exact h1
   .exact Mine.z3 h2
 .exactλh=>⟨_,h,(iP rfl)⟩
def Yd K:∀l:List _,l.Nodup->szs (λi=>(bh i K).length) l<=K.length:=by
 induction K with
 |nil=>
  intro l _;have:∀l:List _,szs (λi=>(bh i []).length) l=0:=by
   intro l
   induction l with
   |nil=>rfl
   |cons a l F=>
    show(bh a _).length+szs _ l=0;rw[F];rfl
  rw[this];exact aL _
 |cons q K F=>
  intro l P;cases q with
  |nil=>
   exact hW (F l P)
  |cons x r=>
   have e:∀i,(bh i ((x::r)::K)).length=(bh i K).length+if x=i then 1 else 0:=λi=>by
    unfold bh;rw[hY];by_cases h:x=i
    .dsimp only;rw[iP h,iP h];rfl
    .dsimp only;rw[iN h,iN h];rfl
   haveI S:∀l:List _,l.Nodup->szs (λi=>(bh i _).length) l<=szs (λi=>(bh i K).length) l+1:=by
    intro l
    induction l with
    |nil=>intro _;exact bn _
    |cons a l F=>
     intro h;have X:=ef.mp h;show(bh a _).length+szs _ l<=(bh a K).length+szs _ l+1;rw[e a];by_cases W:x=a
     .rw[iP W];have:∀l:List _,x∉l->szs (λi=>(bh i ((x::r)::K)).length) l=szs (λi=>(bh i K).length) l:=by
       intro l
       induction l with
       |nil=>intro _;rfl
       |cons b l F=>
        intro Z;show(bh b _).length+_=(bh b K).length+_;rw[e b,iN (λz:x=b=>Z (by rw[z];exact .head _)),F λz=>Z (.tail _ z)];rfl
      exact(this l (W▸X.1))▸aq (uL ..)
     .rw[iN W];exact bH (F X.2) _
   have:=S l P;exact ak zA (dA (F l P))
def Ye l:(∀i∈l,f i<=g i*c)->szs f l<=szs g l*c:=by
 induction l with
 |nil=>exactλF=>bn _
 |cons i r F=>exactλh=>ak (ec (h i (.head _)) (F λj F=>h j (.tail _ F))) (aq (yS ..).symm)
def bounds:∀N,Ok N->∀L (K:List _),L<=100->(∀q,Vp q->lk N q≠[]->A3 (q∈K) (q.length<=L) ((lk N q).length<=200))->A3 (Ht N L) (Sm N) (sz N<=K.length*(L+1)):=by
 intro N
 induction N with
 |nil=>intro h;exact h.elim
 |leaf p v=>
  intro h L K P S;haveI F:=S p h.1 (by dsimp only[lk];rw[iP rfl];exact h.2);haveI W:=F.3;dsimp only[lk]at W;rw[iP rfl]at W;refine⟨⟨h.1,ak F.2 P⟩,⟨ak F.2 (ak P zD),W⟩,?_⟩;exact ak (yX F.1) (Nat.le_mul_of_pos_right _ (fv _))
 |ext p k b=>
  intro h L K P S;have X:=mH.mpr h.1;obtain⟨j,W⟩:=h.4.key;obtain⟨c,F,k⟩:=S _ (h.2.append W.1) (by rw[dM];exact W.2);replace F:=az▸F;obtain⟨W,rfl⟩:∃W,L=W+1:=⟨L - 1,Ly X F⟩;obtain⟨i,l,a⟩:=b h.4 _ _ (bj P) λq d e=>by
   haveI Z:=S _ (h.2.append d) (by rw[dM];exact e);haveI f:=Z.2;have g:=Z.3;rw[dM]at g;rw[az]at f;exact⟨ch.mpr ⟨p++q,Z.1,dI⟩,Lz X f,g⟩
  rw[bN]at a;refine⟨⟨W,rfl,h.2,ak (bl ..) (ak F P),i⟩,⟨ak (qQ F) (ak P zD),l⟩,?_⟩;exact LB (yX c) a
 |br X v b=>
  intro h L K P S;obtain⟨Z,Z⟩:∃i,X i≠.nil:=by rcases h.2 with⟨_,i,a⟩ |⟨i,_,_,a,_⟩ <;> exact⟨i,a⟩
  obtain⟨j,f⟩:=(h.cW Z).2.key;obtain⟨c,F,k⟩:=S _ (.cons (h.cW Z).1 f.1) f.2;obtain⟨W,rfl⟩:∃W,L=W+1:=⟨L - 1,uO F⟩;have F:=λi a=>b i (h.cW a).2 _ _ (bj P) λq d e=>by
   have P:=S _ (.cons (h.cW a).1 d) e;exact⟨Yc.mpr P.1,f4 P.2,P.3⟩
  refine⟨⟨W,rfl,λi=>?_⟩,⟨λi=>?_,?_⟩,?_⟩
  .by_cases e:X i=.nil
   .rw[e];exact trivial
   .exact(F i e).1
  .by_cases e:X i=.nil
   .rw[e];exact trivial
   .exact(F i e).2
  .by_cases e:v=[]
   .rw[e];exact bn _
   .exact(S _ .nil e).3
  .have P:szs (λi=>sz (X i)) _<=szs _ _*(W+1):=Ye cn λi S=>by
    by_cases e:X i=.nil
    .rw[e];exact bn _
    .exact(F i e).3
   exact LC (yX c) (uJ _ (Yd K _ sM)) P
inductive Kd(N:Nd)(K:List aD):Prop |mk
 (c:bP N)
 (k:∀q,Vp q->lk N q≠[]->A3 (q∈K) (q.length<=64) ((lk N q).length<=100))
def Kd.b(h:Kd N K):A4 (Ht N 64) (Sm N) (sz N<=K.length*65) (Kb N 1000):=by
 refine⟨?_,?_,?_,λq F P=>ak (h.2 q F P).2 zD⟩
 all_goals
  rcases h.1 with rfl |ho
  .first |exact trivial |exact bn _
  .haveI S:=bounds N ho 64 K zD λq F P=>by
    haveI K:=h.2 q F P;exact⟨K.1,K.2,a1 K.3 rfl⟩
   first |exact S.1 |exact S.2 |exact S.3
def xZ(a:bP N) p v q:lk (dP N p v) q=if q=p then v else lk N q:=by
 unfold dP;by_cases h:v=[]
 .rw[iP h,(pG N a p).2 q,h]
 .rw[iN h,UB]
def Kd.dP(h:Kd N K)(a:Vp p)(b:p.length<=64)(c:v.length<=100):Kd (dP N p v) (p::K):=by
 refine⟨?_,λq P F=>?_⟩
 .refine iteInduction (λe=>?_) λe=>?_
  .exact(pG N h.1 p).1
  .exact .inr (UD N h.1 p v a e)
 .rw[xZ h.1]at F |-
  by_cases e:q=p
  .rw[iP e,e];exact⟨.head _,b,c⟩
  .rw[iN e]at F |-
   haveI K:=h.2 q P F;exact⟨.tail _ K.1,K.2,K.3⟩
def Kd.nil:Kd .nil []:=⟨.inl rfl,λq F h=>aB rfl h⟩
def x0(h:f (enc (form f n))≠a):hN f a q (proof f n q)=I:=(iN h)
inductive Pf(c:List By)(N:Nd)(q:aD)(b:By)(a:List By):Prop |mk
 (t:∀F,c <+:F->fK F (enc (form (fK F) N))=b)
 (r:∀F,c <+:F->proof (fK F) N q=a)
def Pf.more(h:Pf d N q b a)(p:d <+:c):Pf c N q b a:=⟨λK F=>h.1 _ (p.trans F),λK F=>h.2 _ (p.trans F)⟩
def Yf(h:Pf f N q e d)(j:Pf f g q a b)(c:bP N)(l:bP g)(s:Sm N)(m:Sm g)(k:Vp q)(i:lk N q≠lk g q)(n:f.length+d.length+b.length<2^31):a≠e:=by
 intro e;haveI F:f <+:f++(d++b):=Hn ..;haveI a:=lP (cE (f++(d++b))) c s k;haveI K:=lP (cE (f++(d++b))) l m k;rw[h.1 _ F,h.2 _ F]at a;rw[j.1 _ F,j.2 _ F,e]at K;exact i (DC (λx P y S F=>DD (by rw[az,az];exact LD n) (bB _ (dc _ P)) (bB _ (bB _ S)) F) a K).2
def qh(a:Dg f):∀{N:Nd} {q:aD},Sm N->∀w∈proof f N q,w≠[]/\w.length<=1000:=by
 have P:∀N,Sm N->enc _≠[]/\(enc _).length<=1000:=λN K=>by
  haveI F:=hH a N K;have:=xc _ F.1;exact⟨λz=>by rw[z]at this;simp at this,(F.3)⟩
 haveI S:∀N q,Sm N->∀w∈cD f N q,w≠[]/\w.length<=1000:=by
  intro N
  induction N with
  |nil=>exactλq W w F=>Mine.z7 F
  |leaf p v=>exactλq W w F=>Mine.z7 F
  |ext p k W=>
   intro q K w F;dsimp only[cD]at F
   split at F
   .rcases aZ.mp F with F |F
    .unfold own at F
     split at F
     .rw[bq.mp F];exact P k K.2
     .exact Mine.z7 F
    .exact W _ K.2 w F
   .exact Mine.z7 F
  |br X v W=>
   intro q K w F;cases q with
   |nil=>exact Mine.z7 F
   |cons x r=>
    rcases aZ.mp F with F |F
    .unfold own at F
     split at F
     .rw[bq.mp F];exact P _ (K.1 x)
     .exact Mine.z7 F
    .exact W x r (K.1 x) w F
 refineλN q K w F=>Mine.me F ?_ λF=>?_
 .exact P N K
 .exact S N q K w F
def qi(a:Ht N h):(proof f N q).length<=h+1:=dA (EZ f N h q a)
noncomputable def Yg(W t:Nat)(d b e:By)(c:List By)(g L:Nat)(a:By)(o:List av):St:=⟨[D (.loc W),D (.loc t),D (.bytes d),D (.bytes b),D (.bytes e),D (.U (am c)),D (.loc g),D (.loc L),D (.bytes a),I,I],o⟩
def Yh(h:PV.bytes a=.bytes b):a=b:=by injection h
def Yi(h:PV.U a=.U b):a=b:=by injection h
def x3{held m fresh:By}(a:Dig o g d kn)(T:ez o L g N)(ng:L≠g)(nd:L≠d)(s:Kd N K)(h:K.length<=10)(e:b.length<=32)(rx:lk N (aF b)≠fresh)(oV:fresh.length<=100)(pf:Pf kn N (aF b) m f)(O:kn.length<500000)
  {G:Prop}(κ:∀st kJ,ga (ag (n+170)) 55 3 (Yg W t b held m f g L fresh o)=D (.ok (.ret (.bool J)),st)->Tb L g d 100000 o kn st.objs kJ->G):G:=by
 have ht:=s.b.1;have x:=Ec (n:=n+36) b fresh e T ht s.1 s.b.4;have y:=gb b;have F:=s.dP y (by rw[jr];exact f5 e rfl) oV;have j:lk (dP N (aF b) fresh) (aF b)=fresh:=by rw[xZ s.1,iP rfl]
 have lE:L<(o.set L (eU g (dP N (aF b) fresh))).length:=by rw[dD];exact aR T
 have Q:ez (o.set L (eU g (dP N (aF b) fresh))) L g (dP N (aF b) fresh):=dY _ (aR T);have t1:=(Tb.refl (c:=0) a).set (eU g (dP N (aF b) fresh)) ng nd;generalize o.set L (eU g (dP N (aF b) fresh))=oE at x Q lE t1;generalize dP N (aF b) fresh=A at x F j Q;haveI p:=F.b.1;haveI k:=F.b.2;haveI Fo:=F.b.3;have l:=ak Fo (uJ 65 (dA h));have B:=tj Q "root" 63 zK zK zK;refine(Ed (n:=n) Q t1.2 p k F.1 (jy t1.4 O (by exact ak (bH l 0) zD))).is λoF kF Fp tF vF=>?_;have TF:=(tF.1.2 _ lE nd).trans Q;have t2:=t1.tr tF (bj lE) (c'':=716) (by exact ak (bH (dA l) 0) zD);refine(Ea (H:=64) (n:=n+1) b (a1 e rfl) TF tF.2 nd p k F.1 zD (by exact jy t2.4 O (ak (bH (kG 66 l) 716) zD))).is λoG u Fq tG vG=>?_;have t3:=t2.tr tG (bj (aR TF)) (c'':=47191) (by exact ak (bH (kG 65 l) 716) zD);have lG:=ak (bj (aR TF)) tG.1.1;have S:Pf u A (aF b) (fK kF (enc (form (fK kF) A))) (proof (fK u) A (aF b)):=⟨λZ h=>Yh (vF Z (tG.3.trans h)),λZ h=>xR (Yi (vG Z h))⟩;have r:=pf.more t3.3;have hr:=r.2 u (bT _);have C:=hr▸qi ht;have i:(proof (fK u) A (aF b)).length<=65:=qi p;have E:∀w∈proof (fK u) A (aF b),w.length<=60000:=λw hw=>a1 (qh (cE u) (q:=aF b) k w hw).2 rfl;have Yj:∀w∈f,w.length<=60000:=λw hw=>a1 (qh (cE u) s.b.2 w (hr.symm▸hw)).2 rfl;have X:=Yf r S s.1 F.1 s.b.2 k y (by rw[j];exact rx) (by rw[c_];exact i9 (jy t3.4 O (ak (bH (ec C i) 47191) zD)) zD);clear hr ht p Fo l TF Q tF tG vF vG;generalize fK kF (enc (form (fK kF) A))=t' at Fp S X;generalize proof (fK u) A (aF b)=P' at Fq S i E;refine(jv (n:=n+100) (P:=.U (am P')) t' b P' (a1 e rfl) E (λz=>by cases z) (.inl rfl) t3.2 (by exact jy t3.4 O (ak (bH i 47191) zD))).is (v:=D fresh) (λZ h=>by
  have:=lP (cE Z) F.1 k y;rw[S.1 Z h,S.2 Z h,j]at this;exact this) λoH kH eH tL ψ=>?_
 have t4:=t3.tr tL lG (c'':=47256) (bH i 47191);refine(jv (n:=n+100) (P:=.U (am P')) m b P' (a1 e rfl) E (λz=>by cases z) (.inl rfl) t4.2 (by exact jy t4.4 O (ak (bH i 47256) zD))).is (v:=I) (λZ h=>by
  rw[<- S.2 Z (tL.3.trans h)];exact x0 (by rw[S.1 Z (tL.3.trans h)];exact X)) λoI kI eI tI ψ=>?_
 have t5:=t4.tr tI (ak lG tL.1.1) (c'':=47321) (bH i 47256);refine(jv (n:=n+100) (P:=.U (am f)) t' b f (a1 e rfl) Yj (λz=>by cases z) (.inl rfl) t5.2 (by exact jy t5.4 O (ak (bH C 47321) zD))).is (v:=I) (λZ h=>by
  rw[<- r.2 Z (tL.3.trans (tI.3.trans h))];exact x0 (by rw[r.1 Z (tL.3.trans (tI.3.trans h))];exact X.symm)) λoJ kJ eJ tJ ψ=>?_
 have t6:=t5.tr tJ (ak lG (ak tL.1.1 tI.1.1)) (c'':=100000) (ak (bH C 47321) zD);exact κ ⟨[D (.loc W),D (.loc t),D (.bytes b),D (.bytes held),D (.bytes m),D (.U (am f)),D (.loc g),D (.loc L),D (.bytes fresh),D (.bytes t'),D (.U (am P'))],oJ⟩ kJ
  (cm [tM (tj T "put" 62 zK zK zK),tF x,tM B,tF Fp,tF Fq,t0 X,tF eH,t0 (show¬fresh≠fresh from nN rfl),tF eI,tF eJ]) t6
def Yk(m:Wl o W)(a:Dig o g d i)(T:ez o t g N)(G:W≠g)(B:W≠d)(k:t≠d)(l:t≠W)(r:Kd N K)(s:K.length<=10)(c:b.length<=32)(f:held=lk N (aF b))(j:held.length<=99)(u:Pf i N (aF b) h e)(v:i.length<500000):
  t9 W g d 100000 o i (ag (n+171) 55 [.loc W,.loc t,.bytes b,.bytes held,.bytes h,.U (am e),.loc g] o):=by
 haveI P:=Eb (n+169) (g:=g) (show(o++ [av.inst "Trie" []])[o.length]?=D (.inst "Trie" [])from gT);have F:o.length<((o++ [av.inst "Trie" []]).set o.length (.inst "Trie" [("digest",.loc g)])).length:=by rw[dD,az];exact fN _
 have X:ez (((o++ [av.inst "Trie" []]).set o.length (.inst "Trie" [("digest",.loc g)])).set o.length (eU g .nil)) o.length g .nil:=dY _ F;have Z:Go o.length o.length o (((o++ [av.inst "Trie" []]).set o.length (.inst "Trie" [("digest",.loc g)])).set o.length (eU g .nil)):=(Go.app _ o _).trans ((Go.set _ _ _ (aL _)).trans (Go.set _ _ _ (aL _)));generalize ((o++ [av.inst "Trie" []]).set o.length (.inst "Trie" [("digest",.loc g)])).set o.length (eU g .nil)=l at P X Z;have S:=m.lt;have C:=bf S;have p:=bf a.gI;have q:=bf a.lt;have w:=dy held [5] (by rw[az,bo];exact a2 j rfl);have k:(held++ [5]).length<=100:=by rw[az];exact a2 j rfl
 have K:=p5 X "node" (pv N) zK zK (bw rfl);have F:=th ((Z.2 t (aR T) (dB (aR T))).trans T);have x:ez (l.set o.length (eU g N)) o.length g N:=dY _ (aR X);have j:=Z.trans (Go.set o.length l (eU g N) (aL _));have A:=a.pX (j.2 g a.gI p.symm) (j.2 d a.lt q.symm);generalize l.set o.length (eU g N)=y at K x j A;have E:=m.go j C.symm;have l:lk N (aF b)≠held++ [5]:=λz=>uA _ (az.symm.trans (cA gS (z.symm.trans f.symm)));have X:∀{m:List av} {Z:St} {a:List By},Dr W y m->Wl m W->Tb o.length g d 100000 m i Z.objs a->ag (n+171) 55 [.loc W,.loc t,.bytes b,.bytes held,.bytes h,.U (am e),.loc g] o=D (.ok (.bool J),Z.objs)->t9 W g d 100000 o i (ag (n+171) 55 [.loc W,.loc t,.bytes b,.bytes held,.bytes h,.U (am e),.loc g] o):=λ{m Z a} d g t e=>
  ⟨Z.objs,a,e,(Fr.mk j.1 λi b h=>j.2 i b (dB b)).trans ((d.fr zS).trans (t.1.fr zS)),g.to t.1 S B,t.2,t.3,t.4⟩
 by_cases d:held=[]
 .exact x3 (n:=n) (W:=W) (t:=t) (held:=held) A x p q r s c l k u v λZ a e b=>X (.refl ..) E b (aQ [tF P,tV 20 w,tO 6 F,tU K,t0 (show¬held≠[]from nN d),tZ 4 e])
 .refine(eb (n+169) W 2 y E zD).elim λy m S=>?_;have g:=(S.3.2 o.length C).trans x;have h:=S.3.dig A G B;by_cases i:y=0
  .exact x3 (n:=n) (W:=W) (t:=t) (held:=held) h g p q r s c (fresh:=[]) (f▸d) (bn 100) u v λZ a e b=>X S.3 S.4 b (aQ [tF P,tV 20 w,tO 6 F,tU K,t1 d,tF S.2,t1 i,tZ 4 e])
  .exact x3 (n:=n) (W:=W) (t:=t) (held:=held) h g p q r s c l k u v λZ a e b=>X S.3 S.4 b (aQ [tF P,tV 20 w,tO 6 F,tU K,t1 d,tF S.2,t0 i,tZ 4 e])
def Yl n(h:o[g]?=D (.inst "Numbered" [])):ag (n+1) 64 [.loc g] o=D (.ok .none,(o++ [av.dict []]).set g (.inst "Numbered" [("known",.loc o.length)])):=by
 haveI F:(o++ [av.dict []])[g]?=D _:=(cX (aR h)).trans h;exact aQ [tU (p5 F "known" (.loc o.length) zK zK zD)]
noncomputable def toK(R:Rows):List (List Int×PV):=R.map λr=>(r.1,.bytes r.2)
noncomputable def gj(R:Rows)(q:aD)(v:By):Rows:=if R.any (λe=>decide (e.1=q))then R.map (λe=>if e.1=q then(e.1,v)else e)else R++ [(q,v)]
def Fs R(q:aD)(v:By):c5 (toK R) q (.bytes v)=toK (gj R q v):=by
 haveI e:(toK R).any (λe=>decide (e.1=q))=R.any (λe=>decide (e.1=q)):=by
  rw[ZK];rfl
 delta c5 gj;rw[e];by_cases h:R.any (λe=>decide (e.1=q))=J
 .rw[iP h,iP h];unfold toK;rw[gR,gR];refine jJ λx F=>?_;show(if x.1=q then(x.1,PV.bytes v)else(x.1,.bytes _))=((if x.1=q then(x.1,v)else x).1,PV.bytes (if x.1=q then(x.1,v)else x).2);by_cases c:x.1=q
  .rw[iP c,iP c]
  .rw[iN c,iN c]
 .rw[iN h,iN h];unfold toK;rw[jH];rfl
def l9(R:Rows):Prop:=(R.map (·.1)).Nodup
def Ym R q v:(gj R q v).map (·.1)=if q∈R.map (·.1)then R.map (·.1)else R.map (·.1)++ [q]:=by
 unfold gj;have e:R.any (λe=>decide (e.1=q))=J↔q∈R.map (·.1):=by
  refine yz.trans ?_;rw[ch];constructor
  .rintro ⟨x,h1,h2⟩;exact⟨x,h1,of_decide_eq_true h2⟩
  .rintro ⟨x,h1,h2⟩;exact⟨x,h1,dT h2⟩
 by_cases h:R.any (λe=>decide (e.1=q))=J
 .rw[iP h,iP (e.mp h),gR];refine jJ λx F=>?_;show(if x.1=q then(x.1,v)else x).1=x.1
  split <;> rfl
 .rw[iN h,iN (λz=>h (e.mpr z)),jH];rfl
def Yn{R:Rows}(h:l9 R) q v:l9 (gj R q v):=by
 unfold l9;rw[Ym];refine iteInduction (λc=>?_) λc=>?_
 .exact h
 .exact abt.mpr ⟨h,ef.mpr ⟨by simp,uq⟩,λa F b K=>by
   rw[bq.mp K];exactλz=>c (z▸F)⟩
def Yo R q v:(gj R q v).length<=R.length+1:=by
 unfold gj
 split
 .rw[bN];exact bl ..
 .rw[az];exact aL _
def Yp R q v p:val (gj R q v) p=if p=q then v else val R p:=by
 haveI e:∀R:Rows,∀p,val R p=match bR (toK R) p with
   |some (.bytes v)=>v
   |_=>[]:=λR p=>by
  delta val bR toK
  induction R with
  |nil=>rfl
  |cons a R F=>
   rw[i8,i7,i7];by_cases c:a.1=p
   .rw[dT c];rfl
   .rw[dF c];exact F
 rw[e,<- Fs,xQ,e R p];by_cases c:p=q
 .rw[iP c,iP c]
 .rw[iN c,iN c]
def kC(a:aD×By):Rows->Rows
 |[]=>[a]
 |b::r=>if aY a.1 b.1 then a::b::r else b::kC a r
def l_:Rows->Rows
 |[]=>[]
 |a::r=>kC a (l_ r)
def Yq a R:ou (a.1,.bytes a.2) (toK R)=toK (kC a R):=by
 induction R with
 |nil=>rfl
 |cons b r F=>exact iteInduction (motive:=λz=>z=_) (λh=>(cA toK (iP h:kC a (b::r)=a::b::r)).symm) λh=>(cA _ F).trans (cA toK (iN h:kC a (b::r)=b::kC a r)).symm
def Yr R:je (toK R)=toK (l_ R):=by
 induction R with
 |nil=>rfl
 |cons a r F=>exact(cA _ F).trans (Yq a _)
def Ft a R:(kC a R).Perm (a::R):=by
 induction R with
 |nil=>exact .refl _
 |cons b r F=>exact iteInduction (motive:=λz=>List.Perm z _) (λK=>.refl _) λK=>(F.cons b).trans (.swap a b r)
def qj R:(l_ R).Perm R:=by
 induction R with
 |nil=>exact .refl _
 |cons a r F=>exact(Ft a _).trans (F.cons a)
def Ys a R:eP R->(∀r∈R,a.1≠r.1)->eP (kC a R):=by
 induction R with
 |nil=>exactλF F=>List.pairwise_singleton ..
 |cons b r P=>exactλh K=>iteInduction (λc=>i3.mpr ⟨λx F=>Mine.me F c λF=>vg _ _ _ c ((i3.mp h).1 x F),h⟩) λc=>i3.mpr ⟨λx F=>Mine.me ((Ft a r).mem_iff.mp F) (vf _ _ (K b (.head _)) (qs.mpr c)) ((i3.mp h).1 x),P (i3.mp h).2 λy F=>K y (.tail _ F)⟩
def x4:∀R:Rows,l9 R->eP (l_ R)
 |[],_=>.nil
 |a::r,h=>by
  have F:=ef.mp h;exact Ys a _ (x4 r F.2) λx K e=>F.1 (ch.mpr ⟨x,(qj r).mem_iff.mp K,e.symm⟩)
def Yt{R:Rows}(h:l9 R) q:val (l_ R) q=val R q:=by
 haveI K:∀R:Rows,l9 R->∀r∈R,val R r.1=r.2:=by
  intro R
  induction R with
  |nil=>intro _ r F;exact Mine.z7 F
  |cons a t S=>
   intro W r F;haveI P:=ef.mp W;unfold val;rw[i7];refine Mine.me F ?_ λF=>?_
   .rw[dT rfl]
   .rw[dF (λz=>P.1 (ch.mpr ⟨r,F,z.symm⟩))];exact S P.2 r F
 by_cases c:∃r∈R,r.1=q
 .obtain⟨r,F,rfl⟩:=c;rw[K R h r F,pH (x4 R h) ((qj R).mem_iff.mpr F)]
 .rw[nv λr F e=>c ⟨r,(qj R).mem_iff.mp F,e⟩,nv λr F e=>c ⟨r,F,e⟩]
def Yu R:(toK R).map ov=rws R:=by
 rw[gR];rfl
inductive LI(o:List av)(j:Nat)(N:Nd)(K:List aD)(R:Rows)(a:List By):Prop |mk
 (w:Wl o 0)
 (F:Dig o 1 2 [])
 (F:ez o 3 1 N)
 (F:o[4]?=D (.ck (toK R)))
 (F:o[5]?=D (.list (am a)))
 (F:Kd N K)
 (F:K.length<=j)
 (F:l9 R)
 (F:R.length<=j)
 (F:∀q,lk N q=val R q)
 (F:∀r∈R,A4 (Vp r.1) (r.1.length<=64) (r.2≠[]) (r.2.length<=60))
 (F:a.length<=j)
 (F:∀k∈a,k.length<=32)
def Yv{R:Rows} q(v:By)(h:o[L]?=D (.ck (toK R)))(a:R.length<aI):Y (setItem (.loc L) (.tup (iL q)) (.bytes v)) o () (o.set L (.ck (toK (gj R q v)))):=λl=>by
 refine(dx h).trans ?_;show a_ ..=_;rw[pO];show(if(toK R).length<aI then ib L _ else aC) _=_;rw[iP (by unfold toK;rw[bN];exact a),Fs];rfl
noncomputable def eV(a:Option PV)(m:Nat)(t k v:Option PV)(r:List (Option PV))(o:List av):St:=⟨a::D (.loc 0)::D (.loc 1)::D (.loc 3)::D (.loc 4)::D (.loc 5)::D (.int (m:Int))::t::k::v::r,o⟩
def Yw{R:Rows}(h:r∈gj R q v):r∈R\/r=(q,v):=by
 unfold gj at h
 split at h
 .obtain⟨e,F,rfl⟩:=ch.mp h;by_cases c:e.1=q
  .rw[iP c,c];exact .inr rfl
  .rw[iN c];exact .inl F
 .rcases aZ.mp h with h |h
  .exact .inl h
  .exact .inr (bq.mp h)
def Yx{n m t j:Nat}{R:Rows} s0 s7 s8 s9 iW jx ma md mf mh mi(h:LI o j N K R a)(p:j<=10)(b:m<=3):
  E8 λP S W X F Z b c=>cl (ag (n+171)) 60 1 (.int t) (eV s0 m s7 s8 s9 [iW,jx,ma,md,mf,mh,mi] o)=D (.ok .next,eV s0 m Z b c [iW,jx,ma,md,mf,mh,mi] P)/\LI P (j+1) S W X F:=by
 refine aH λG q=>?_;have i:∀F:Nat,F<=28->(∀(k v:By) (S P W X b:List av),k.length<=32->ag (n+171) 36 [.loc 0,.int F] o=D (.ok (.bytes k),S)->ag (n+171) 37 [.loc 0] S=D (.ok (.bytes v),P)->Y (eo "put" (.loc 3)) P (D 62) P->ag (n+171) 62 [.loc 3,.bytes k,.bytes v] P=D (.ok .none,W)->Y (setItem (.loc 4) (.tup (iL (aF k))) (.bytes v)) W () X->Y (eo "append" (.loc 5)) X I X->Y (method "append" (.loc 5) [.bytes k]) X .none b->cl (ag (n+171)) 60 1 (.int (t:Int)) (eV s0 m s7 s8 s9 [iW,jx,ma,md,mf,mh,mi] o)=D (.ok .next,eV s0 m (D (.int (t:Int))) (D (.bytes k)) (D (.bytes v)) [iW,jx,ma,md,mf,mh,mi] b))->G:=by
  refineλF c f=>bi (xV (n+169) 0 F o h.1 c) λk F=>F.elim λS g=>bi (XR (n+169) 0 S g.4) λv F=>F.elim λP Z=>?_;have F:k.length<=32:=ak g.1 (aa7 zD c);have d:=g.3.trans Z.4;have j:=(d.2 3 zD).trans h.3;have c:(aF k).length<=64:=jr k▸f5 F rfl;have o:(P.set 3 (eU 1 (dP N (aF k) v)))[4]?=D (.ck (toK R)):=(bm zD).trans ((d.2 4 zD).trans h.4);have l:((P.set 3 (eU 1 (dP N (aF k) v))).set 4 (.ck (toK (gj R (aF k) v))))[5]?=D (.list (am a)):=(bm zD).trans ((bm zD).trans ((d.2 5 zD).trans h.5));have e:=eQ _ 5 (am a) (.bytes k) l (by rw[dz,bo];exact bc (Hs h.12) (a6 p rfl));rw[show am a++ [.bytes k]=am (a++ [k])from(kr a [k]).symm]at e;refine q ⟨_,dP N (aF k) v,aF k::K,gj R (aF k) v,a++ [k],_,_,_,f k v S P _ _ _ F g.2 Z.3 (tj j "put" 62 zK zK zK) (Ec (H:=64) (n:=n+37) k v F j h.6.b.1 h.6.1 h.6.b.4) (Yv (aF k) v o (bc (Hs h.9) (a6 p rfl))) (gJ l "append" zK) e,
   bi Z.5 λx y=>y.elim λy z=>z.elim λz e=>⟨x,y,z,(bm zD).trans ((bm zD).trans ((bm zD).trans e))⟩,
   (((d.dig h.2 zD zD).set _ zD zD).set _ zD zD).set _ zD zD,
   (bm zD).trans ((bm zD).trans (gn (aR j))),
   (bm zD).trans (gn (aR o)),dY _ (aR l),h.6.dP (v:=v) (gb k) c (a1 Z.2 rfl),dA h.7,Yn h.8 _ _,ak (Yo R (aF k) v) (dA h.9),λq=>by rw[xZ h.6.1,Yp,h.10],
   λr K=>(Yw K).elim (h.11 r) λe=>e▸⟨gb k,c,Z.1,Z.2⟩,az▸dA h.12,λx K=>(aZ.mp K).elim (h.13 x) λK=>bq.mp K▸F⟩
 by_cases g:t=0
 .by_cases h:m<3
  .exact i 28 zD λk v S P W X b F K Z a c d e f=>c7 [t1 g,t1 h,tF K,tF Z,tM a,tF c,tF (kx (n+170) W k (a1 F rfl)),tU d,tM e,tO 8 f]
  .exact i 2 zD λk v S P W X b F K Z a c d e f=>c7 [t1 g,t0 h,tF K,tF Z,tM a,tF c,tF (kx (n+170) W k (a1 F rfl)),tU d,tM e,tO 8 f]
 .exact i 2 zD λk v S P W X b F K Z a c d e f=>c7 [t0 g,tF K,tF Z,tM a,tF c,tF (kx (n+170) W k (a1 F rfl)),tU d,tM e,tO 8 f]
def Yy s0 iW jx ma md mf mh mi(i:m<=3) c:∀t j o N K R P S W X,LI o j N K R P->j+c<=10->
  E8 λZ a b d F e f g=>c0 (cl (ag (n+171)) 60 1) (ups t c) (eV s0 m S W X [iW,jx,ma,md,mf,mh,mi] o)=D (.ok .next,eV s0 m e f g [iW,jx,ma,md,mf,mh,mi] Z)/\LI Z (j+c) a b d F:=by
 induction c with
 |zero=>exactλt j o N K R P S W X h k=>⟨o,N,K,R,P,S,W,X,rfl,h⟩
 |succ c k=>
  exactλt j o N K R P S W X h P=>(Yx _ _ _ _ _ _ _ _ _ _ _ h (a4 P rfl) i).elim λK K K K K e f g K=>(k _ _ _ _ _ _ _ _ _ _ K.2 (g1 (aL _) P)).elim λZ a b d F S W X P=>
   ⟨Z,a,b,d,F,S,W,X,(d' K.1).trans P.1,(Nat.succ_add_eq_add_succ j c)▸P.2⟩
def Fu a b st:lc st (.U (am a)) (.U (am b))=D (decide (a=b)):=by
 show(if(am a).length=(am b).length then jd .. else D _)=_;by_cases h:(am a).length=(am b).length
 .rw[iP h,tw,tw,<- pu];rfl
 .rw[iN h,dF λe=>h (by rw[e])]
def t_ a b os(h:decide (a=b)=c):cF .Eq (.U (am a)) (.U (am b)) os c:=λl=>h▸nA (Fu a b _)
def Yz a b os(h:(!decide (a=b))=c):cF .NotEq (.U (am a)) (.U (am b)) os c:=λl=>h▸nA (Fu a b _)
def Fv v(h:o[L]?=D (.list (a++ [v]))):Y (item (.loc L) (.int (-1))) o v o:=λl=>(dx h).trans (xH (by rw[az];rfl) gT _)
def YA R(q:aD):(bR (toK R) q=D (.bytes (val R q)))\/(bR (toK R) q=I/\val R q=[]):=by
 delta val bR toK
 induction R with
 |nil=>exact .inr ⟨rfl,rfl⟩
 |cons a R F=>
  rw[i8,i7,i7];by_cases c:a.1=q
  .rw[dT c];exact .inl rfl
  .rw[dF c];exact F
def YB(h:o[L]?=D (.ck a))(m:Str)(b:(m=="get")=J):Y (eo m (.loc L)) o I o:=λl=>(dx h).trans (congrFun (iP b) _)
def YC{R:Rows} q(h:o[L]?=D (.ck (toK R))):Y (method "get" (.loc L) [.tup (iL q),.bytes []]) o (.bytes (val R q)) o:=λl=>by
 refine(dx h).trans ?_;rw[pO];show orM ..=_;rcases YA R q with e |⟨e,e'⟩
 .rw[e];rfl
 .rw[e,e'];rfl
inductive LK(o:List av)(b:List By)(N:Nd)(R:Rows)(a:By)(d f:Nat)(c:List (By×List By)):Prop |mk
 (w:Wl o 0)
 (F:Dig o 1 2 b)
 (F:ez o 3 1 N)
 (F:o[4]?=D (.ck (toK R)))
 (F:o[d]?=D (.list (c.map λe=>.U (am e.2))))
 (F:o[f]?=D (.list (c.map λe=>.bytes (lk N (aF e.1)))))
 (F:∀F,b <+:F->fK F (enc (form (fK F) N))=a)
 (F:∀e∈c,e.1.length<=32/\Pf b N (aF e.1) a e.2)
def kD(b:Option PV)(m:Nat)(c d e:Option PV)(N:Nd)(a:By)(f g:Nat)(h:Option PV)(o:List av):St:=eV b m c d e [D (pv N),D (.bytes a),D (.loc f),D (.loc g),h,I,I] o
def YD{R:Rows}{g k:By}{c:List (By×List By)}(i r u s t:Option PV)(d:Kd N K)(f:K.length<=10)(lv:∀q,lk N q=val R q)(h:LK o e N R g a b c)(j:5<a)(l:5<b)(n3:a≠b)(T:k.length<=32)(Q:c.length<100)(p:e.length<500000):
  E3 λS F P=>A4 (cl (ag (n+171)) 60 3 (.bytes k) (kD i m r u s N g a b t o)=D (.ok .next,kD i m r (D (.bytes k)) s N g a b t S)) (LK S F N R g a b (c++ [(k,P)])) (e <+:F) (F.length<=e.length+50000):=by
 have y:=gb k;have A:=λS=>kx (n+170) S k (a1 T rfl);obtain⟨x,r,F,S⟩:=XO (n:=n+61) d.b.1 d.b.2 d.1 zD y h.2 (LF p d.b.3 f);have B:=S.1;have W:=S.6 F (bT _);subst W;have W:Pf F N (aF k) g (proof (fK F) N (aF k)):=⟨λX f=>h.7 X (S.4.trans f),λX f=>by
  have:PV.U (am (proof (fK X) N (aF k)))=.U (am (proof (fK F) N (aF k))):=S.6 X f;injection this with this
  exact xR this⟩
 have m:(proof (fK F) N (aF k)).length<=65:=qi d.b.1;have z:=qh (cE F) (q:=aF k) d.b.2;generalize proof (fK F) N (aF k)=P at B W m z;have q:=aR h.5;have C:=aR h.6;have lT:=aR h.3;have lB:=aR h.4;have F:=(S.2.2 a q (e4 j rfl)).trans h.5;have E:=eQ _ a _ (.U (am P)) F (by rw[bN,bo];exact a1 Q rfl);have w:(r.set a (.list ((c.map λe=>PV.U (am e.2))++ [.U (am P)])))[a]?=D (.list ((c.map λe=>PV.U (am e.2))++ [.U (am P)])):=dY _ (aR F);have s2:∀i,i<o.length->i≠2->i≠a->(r.set a (.list ((c.map λe=>PV.U (am e.2))++ [.U (am P)])))[i]?=o[i]?:=λi s t G=>by
  rw[bm G.symm];exact S.2.2 i s t
 have D2:=S.3.set (L:=a) (.list ((c.map λe=>PV.U (am e.2))++ [.U (am P)])) (e4 j rfl) (e4 j rfl);have Z:o.length<=(r.set a (.list ((c.map λe=>PV.U (am e.2))++ [.U (am P)]))).length:=by rw[dD];exact S.2.1
 have YE:=gJ h.5 "append" zK;generalize r.set a (.list ((c.map λe=>PV.U (am e.2))++ [.U (am P)]))=u at E w s2 D2 Z;have F:=(s2 b C (e4 l rfl) n3.symm).trans h.6;have r:=(s2 4 lB zD (e5 j rfl)).trans h.4;have YF:=gJ F "append" zK;have YG:=YB r "get" zK;have YH:=YC (aF k) r;have O:=eQ _ b _ (.bytes (val R (aF k))) F (by rw[bN,bo];exact a1 Q rfl);have Q:(u.set b (.list ((c.map λe=>PV.bytes (lk N (aF e.1)))++ [.bytes (val R (aF k))])))[b]?=D (.list ((c.map λe=>PV.bytes (lk N (aF e.1)))++ [.bytes (val R (aF k))])):=dY _ (aR F);have s3:∀i,i<o.length->i≠2->i≠a->i≠b->(u.set b (.list ((c.map λe=>PV.bytes (lk N (aF e.1)))++ [.bytes (val R (aF k))])))[i]?=o[i]?:=λi s t G hh=>by
  rw[bm hh.symm];exact s2 i s t G
 have r:(u.set b (.list ((c.map λe=>PV.bytes (lk N (aF e.1)))++ [.bytes (val R (aF k))])))[a]?=_:=(bm n3.symm).trans w;have w:=D2.set (L:=b) (.list ((c.map λe=>PV.bytes (lk N (aF e.1)))++ [.bytes (val R (aF k))])) (e4 l rfl) (e4 l rfl);have F:o.length<=(u.set b (.list ((c.map λe=>PV.bytes (lk N (aF e.1)))++ [.bytes (val R (aF k))]))).length:=by rw[dD];exact Z
 generalize u.set b (.list ((c.map λe=>PV.bytes (lk N (aF e.1)))++ [.bytes (val R (aF k))]))=Z at O Q s3 r w F;have T3:ez Z 3 1 N:=(s3 3 lT zD (e5 j rfl) (e5 l rfl)).trans h.3;have Z:(64+1)*sz N<=65*650:=kG _ (ak d.b.3 (by have:K.length*65<=10*65:=uJ _ f;exact this));obtain⟨x2,o4,c,K⟩:=Ea (H:=64) (n:=n+2) k (a1 T rfl) T3 w zD d.b.1 d.b.2 d.1 zD (by exact LG p S.5 d.b.3 f);have Z:PV.U (am (proof (fK c) N (aF k)))=x2:=K.6 c (bT _);rw[W.2 c K.4]at Z;subst Z;have Z:=(K.2.2 a (ak q F) (e4 j rfl)).trans r;have c:=Fv _ Z;refine(jv (n:=n+101) (P:=.U (am P)) g k P (a1 T rfl) (λw Z=>by have:=(z w Z).2;exact a1 this rfl) (λz=>by cases z) (.inl rfl) K.3 (by exact LH f p d.b.3 S.5 m K.5)).is (v:=D (val R (aF k))) (λX f=>by
  have:=lP (cE X) d.1 d.b.2 y;rw[W.1 X (K.4.trans f),W.2 X (K.4.trans f),lv]at this;exact this) λy k5 p g Z=>?_
 have Z:=K.2.trans (g.1.less K.2.1);have n:=(Z.2 b (ak C F) (e4 l rfl)).trans Q;have w:=Fv _ n;have C:=S.4.trans (K.4.trans g.3);refine⟨y,k5,P,c7 [tM YE,tF (A o),tF B,tO 8 E,tM YF,tM YG,tF (A u),tO 8 YH,tO 8 O,tF K.1,tO 1 c,t0 (Yz P P o4 (by rw[dT rfl])),tO 1 c,tF p,tO 1 w,t0 (show¬val R (aF k)≠val R (aF k)from nN rfl)],?_,C,by exact LJ f d.b.3 S.5 m K.5 g.4⟩;have c:∀i,i<o.length->i≠2->i≠a->i≠b->y[i]?=o[i]?:=λi s t G hh=>(Z.2 i (ak s F) t).trans (s3 i s t G hh);refine⟨?_,g.2,(c 3 lT zD (e5 j rfl) (e5 l rfl)).trans h.3,(c 4 lB zD (e5 j rfl) (e5 l rfl)).trans h.4,?_,?_,λX f=>h.7 X (C.trans f),λe S=>?_⟩
 .obtain⟨x,y,z,e⟩:=h.1;exact⟨x,y,z,(c 0 (aR e) zD (e5 j rfl) (e5 l rfl)).trans e⟩
 .rw[jH];exact(Z.2 a (ak q F) (e4 j rfl)).trans r
 .rw[jH,show(List.map (λe=>PV.bytes (lk N (aF e.1))) [(k,P)])=[.bytes (val R (aF k))]from by rw[<- lv];rfl];exact n
 .rcases aZ.mp S with S |S
  .exact⟨(h.8 e S).1,(h.8 e S).2.more C⟩
  .rw[bq.mp S];exact⟨T,W.more (K.4.trans g.3)⟩
def YI{R:Rows} s0 s7 s9 ks(e:Kd N K)(f:K.length<=10)(g:∀q,lk N q=val R q)(i:5<b)(j:5<c)(p:b≠c) l:∀K o P W,LK o P N R a b c K->(∀k∈l,k.length<=32)->K.length+l.length<100->P.length+l.length*50000<500000->
  E4 λd F S X=>A4 (X.length=l.length) (c0 (cl (ag (n+171)) 60 3) (am l) (kD s0 m s7 W s9 N a b c ks o)=D (.ok .next,kD s0 m s7 S s9 N a b c ks d)) (LK d F N R a b c (K++l.zip X)) (F.length<=P.length+l.length*50000):=by
 induction l with
 |nil=>exactλK o P W h Z Z Z=>⟨o,P,W,[],rfl,rfl,(ci K).symm▸h,bl ..⟩
 |cons k l c=>
  exactλK o P W h a b Z=>(YD s0 s7 W s9 ks e f g h i j p (a k (.head _)) (aT (bl ..) b) (aT (bl ..) Z)).elim λe f P W=>
   (c _ e f _ W.2 (λx c=>a x (.tail _ c)) (by rw[az];exact LL b) (LM Z W.4)).elim λd F S X Z=>
   ⟨d,F,S,P::X,cA uz Z.1,(d' W.1).trans Z.2,cz K [(k,P)] (l.zip X)▸Z.3,LN Z.4 W.4⟩
def sg(i a b:Nat):List cP:=((gE i).body.drop a).take (b - a)
def dR(F:Call)(i a b:Nat):M Fl:=bW F (64 - a) (df i) (sg i a b)
def YJ(F:Call)(i a b:Nat)(s:List bb)(c:St)(r:Except Exc Fl×St):Prop:=fh F (64 - a) (df i) (sg i a b) s c (iD r)
abbrev YK(F:Call)(i a b:Nat)(c:St)(r:Except Exc Fl×St)(l:List Tl):Prop:=cj l (r=r)=YJ F i a b (g_ l) c r
def fq l(e:YK F i a b c r l:=by kernel_rfl):dR F i a b c=D r:=jo (gD F _ _ _) (hg e)
def YL F cx b st' a:∀k K,bW F k cx a K=D (.ok .next,st')->bW F k cx (a++b) K=bW F (k - a.length) cx b st':=by
 induction a with
 |nil=>
  refineλk K=>?_;cases k with
  |zero=>exact z3
  |succ k=>exactλh=>(mI h).2▸rfl
 |cons s a P=>
  refineλk K=>?_;cases k with
  |zero=>exact z3
  |succ k=>
   rw[b4,aad];show bd ..=_->bd ..=_;dsimp only[bd];cases ll F k _ s _ with
   |none=>exact z3
   |some r=>
    obtain⟨x,K⟩:=r;cases x with
    |error x=>exact z9
    |ok f=>
     cases f with
     |ret v=>exactλh=>by cases (mI h).1
     |next=>exact(P k _)
def hV(h:dR F i a b f=D (.ok .next,d))(e:sg i a c=sg i a b++sg i b c)(g:64 - a - (sg i a b).length=64 - b):dR F i a c f=dR F i b c d:=by
 unfold dR at*;rw[e,YL F _ _ _ _ _ _ h,g]
def YM(h:dR (ag n) i 0 m st=D (.ok (.ret v),⟨l,b⟩))(c:fnAt i=D (gE i))(d:(gE i).params.length=a.length)(e:ij i=V)(f:sg i 0 m=(gE i).body)(g:e_ (df i) (gE i).params a=st.loc)(j:st.objs=o):ag (n+1) i a o=D (.ok v,b):=by
 unfold dR at h;rw[f]at h;rw[sC,c];dsimp only;rw[iP d,iN (by rw[e];exact ei)];subst j;show(match bW .. with
  |some (.ok (.ret v),st)=>D _
  |some (.ok .next,st)=>D _
  |some (.error x,st)=>D _
  |none=>I)=_
 rw[g,h]
noncomputable def YN:PV->Option PV
 |.int i=>D (.int ((i% 2147483647).toNat:Int))
 |_=>I
def YO i:Y0 (binop .Mod V (.int i) (.int 2147483647)) (.int ((i% 2147483647).toNat)):=λF=>by
 rw[jz (ye _ zD)];rfl
noncomputable def kE(a:List Int):List Nat:=(a.take 63).map λi=>(i% 2147483647).toNat
def YP F ns L:dp 1 (dV (.seq (iL (ns.take 63))) (fi F 60 0)) ⟨L,[]⟩=D (.ok (nats (kE ns)),⟨L,[]⟩):=by
 haveI e:nats (kE _)=(iL (ns.take _)).filterMap YN:=by
  delta nats kE iL;generalize ns.take _=l
  induction l with
  |nil=>rfl
  |cons a l K=>rw[i8,hY,K];rfl
 rw[e];refine lV _ _ λx K P P=>?_;obtain⟨i,S⟩:=ch.mp K;rw[<- S.2];obtain⟨K,rfl⟩:=fP.mp P;exact⟨[D (.int i)],rfl,fj [tV 24 (YO i)]⟩
def s_63(a:List _)(b:a.length<=63):Y0 (er (.U (iL a)) I (D (.int 63))) (.U (iL (a.take 63))):=λF=>by
 haveI e:cut ..=iL (a.take _):=by
  haveI F:(iL _).length=a.length:=bN _;rw[show 63=63 from rfl,kl (iL a) 63,yr b,yr (by rw[F];exact b)]
 show bV ..=_;rw[e];exact iP (by unfold iL;rw[bN,cK,bo];exact ak (eA ..) zD)
def YQ n(a:List Int)(b:a.length<=63):E2 λm o=>A3 (m<=3) (dR (ag (n+171)) 60 0 3 ⟨[D (.U (iL a)),I,I,I,I,I,I,I,I,I,I,I,I,I,I,I,I],[]⟩=D (.ok .next,eV (D (.U (iL a))) m I I I [I,I,I,I,I,I,I] o)) (LI o 0 .nil [] [] []):=by
 refine aH λG Z=>?_;haveI W:=YP (ag (n+171)) a [D (.U (iL a)),I,I,I,I,I,I,I,I,I,I,I,I,I,I,I,I];haveI X:=eS (nats (kE a)) (by delta nats kE;rw[bN,bN,cK,bo];exact ak (eA ..) zD);haveI K:Y (bV J [.U (nats (kE a)),.int 0,.int 5]) [] (.loc 0) [.list [.U (nats (kE a)),.int (0:Nat),.int (5:Nat)]]:=λl=>rfl;generalize kE a=F at W X K;generalize c:av.list [.U (nats F),.int ((0:Nat):Int),.int ((5:Nat):Int)]=A at K;haveI P:ag (n+171) 64 [.loc 1] [A,.inst "Numbered" []]=D (.ok .none,[A,.inst "Numbered" [("known",.loc 2)],.dict []]):=Yl (n+170) rfl;haveI S:ag (n+171) 61 [.loc 3,.loc 1] [A,.inst "Numbered" [("known",.loc 2)],.dict [],.inst "Trie" []]=D (.ok .none,[A,.inst "Numbered" [("known",.loc 2)],.dict [],eU 1 .nil]):=Eb (n+170) rfl;have w:Wl [A,.inst "Numbered" [("known",.loc 2)],.dict [],eU 1 .nil,.ck [],.list []] 0:=⟨_,_,_,by rw[<- c];rfl⟩;refine(eb (n+170) 0 4 _ w zD).elim λm c F=>?_;refine Z (⟨m,c,a3 F.1 rfl,fq [tV 2 (s_63 a b),tK W,tV 15 X,tO 14 K,tF P,tF S,tF F.2],?_⟩);exact⟨F.4,F.3.dig ⟨rfl,rfl,by decide⟩ zD zD,(F.3.2 3 zD).trans rfl,(F.3.2 4 zD).trans rfl,(F.3.2 5 zD).trans rfl,.nil,aL _,uq,aL _,λq=>rfl,λr F=>(by exact Mine.z7 F),aL _,λk F=>(by exact Mine.z7 F)⟩
def bP.same(h:bP a)(c:bP b)(e:∀q,Vp q->lk a q=lk b q):a=b:=by
 rcases h with rfl |h
 .rcases c with rfl |c
  .rfl
  .obtain⟨q,F⟩:=c.key;exact(F.2 ((e q F.1).symm)).elim
 .rcases c with rfl |c
  .obtain⟨q,F⟩:=h.key;exact(F.2 (e q F.1)).elim
  .exact Ok.unique a b h c e
def YR{R:Rows}(h:o[4]?=D (.ck (toK R)))(a:R.length<=3)(b:∀r∈R,r.1.length<=64):Y (q_ (.loc 4)) o (.U (rws (l_ R))) o:=λl=>by
 refine(dx h).trans ?_;haveI F:(toK R).length=R.length:=bN _;refine(congrFun (iP ⟨i1.mpr λe K=>by
  obtain⟨r,P,rfl⟩:=ch.mp K;exact cH.mpr ⟨rfl,dT (a1 (b r P) rfl)⟩,F▸a⟩) _).trans ?_
 rw[Yr,Yu];rfl
def LI.YS{R:Rows}(h:LI o j N K R a)(b:j<=3) n:ag (n+131) 40 [.U (rws (l_ R))] o=D (.ok (pv N),o):=by
 have P:=x4 R h.8;have K:=λr F=>h.11 r ((qj R).mem_iff.mp F);have S:=UL 130 _ P λr F=>⟨(K r F).1,(K r F).3,by have:=(K r F).2;exact c9 (f5 this rfl) _⟩;exact(S.1.same h.6.1 λq W=>by rw[S.3,Yt h.8,h.10])▸(Xz _ _ n o P (λr F=>by have:=(K r F).2;exact c9 (f5 this rfl) _) (by rw[(qj R).length_eq];exact bc (Hs (h.9)) (a6 b rfl)) zD)
def Fw o:Y (bV J []) o (.loc o.length) (o++ [.list []]):=λl=>rfl
def len_2(h:l.length=2):E2 λa b=>l=[a,b]:=by
 cases l with
 |nil=>cases h
 |cons a l=>cases l with
  |nil=>cases h
  |cons b l=>exact⟨a,b,cA (λl=>a::b::l) (yJ (h9 (h9 h)))⟩
def YT n s0(j:m<=3)(h:LI o 0 .nil [] [] []):uM λN K R Z d a w F P S b f g B C=>A9 (dR (ag (n+171)) 60 3 7 (eV (D s0) m I I I [I,I,I,I,I,I,I] o)=D (.ok .next,kD (D s0) m Z d a N P S b (D (.U (am [f,g]))) w)) (Kd N K) (K.length<=10) (∀q,lk N q=val R q) (∀r∈R,A4 (Vp r.1) (r.1.length<=64) (r.2≠[]) (r.2.length<=60)) (LK w F N R P S b [(f,B),(g,C)]) (F.length<=150000) (5<S) (5<b):=by
 refine aH λG O=>?_;obtain⟨k,N,K,R,t,Z,d,a,S⟩:=Yy (n:=n) (D s0) I I I I I I I j m 0 0 o .nil [] [] [] I I I h (a7 j rfl);have F:=S.2;rw[ee]at F;have Q:dR (ag (n+171)) 60 3 4 (eV (D s0) m I I I [I,I,I,I,I,I,I] o)=D (.ok .next,eV (D s0) m Z d a [I,I,I,I,I,I,I] k):=fq [tR (qb m (a1 j rfl)),tL S.1];have o:=F.7;have p:=ak F.6.b.3 (by have:K.length*65<=10*65:=uJ _ (ak o (ak j zD));exact this);obtain⟨x,W,l,X⟩:=Ed (n:=n+1) F.3 F.2 F.6.b.1 F.6.b.2 F.6.1 (di (a7 p rfl));have e:=X.1;have A:=X.5;have S:=X.6 l (bT _);subst S;have G:=λS c=>by
  have:PV.bytes (fK S (enc (form (fK S) N)))=.bytes (fK l (enc (form (fK l) N))):=X.6 S c;injection this
 generalize fK l (enc (form (fK l) N))=P at e G;have S:∀i,i<k.length->i≠2->(W++ [av.list []]++ [av.list []])[i]?=k[i]?:=λi c h=>by
  have:=X.2.1;rw[cX (by rw[az];exact yb _ (bc c this)),cX (ak c this)];exact X.2.2 i c h
 have i:=aR F.5;have u:(W++ [av.list []]++ [av.list []])[W.length]?=D (.list []):=by rw[cX (by rw[az];simp),gT]
 have s:(W++ [av.list []]++ [av.list []])[(W++ [av.list []]).length]?=D (.list []):=gT;have H:Dig (W++ [av.list []]++ [av.list []]) 1 2 l:=(X.3.app _).app _;have c:=X.2.1;have X:(W++ [av.list []]).length=W.length+1:=by rw[az];rfl
 have E:dR (ag (n+171)) 60 4 5 (eV (D s0) m Z d a [I,I,I,I,I,I,I] k)=D (.ok .next,eV (D s0) m Z d a [D (pv N),D (.bytes P),D (.loc W.length),D (.loc (W++ [av.list []]).length),I,I,I] (W++ [av.list []]++ [av.list []])):=
  fq [tO 3 (YR F.4 (ak F.9 j) λr h=>(F.11 r h).2),tF (F.YS j (n+40)),tM (tj F.3 "root" 63 zK zK zK),tF e,tO 14 (Fw W),tO 14 (Fw (W++ [av.list []]))]
 generalize e:(W++ [av.list []]).length=b at E s X;generalize W++ [av.list []]++ [av.list []]=r at E S u s H;have T:Wl r 0:=by
  obtain⟨x,y,z,e⟩:=F.1;exact⟨x,y,z,(S 0 (e6 i rfl) zD).trans e⟩
 have q:=E1 (turn:=fi (ag (n+171)) 60 2) (n:=1) (L:=(eV (D s0) m Z d a [D (pv N),D (.bytes P),D (.loc W.length),D (.loc b),I,I,I] r).loc) (λh=>Dr 0 r h/\Wl h 0) (λv=>∃k:By,v=.bytes k/\k.length<=32) (λx h v v y=>by
  obtain⟨z,rfl⟩:=fP.mp y;obtain⟨k,y⟩:=XT (n+168) 0 5 h t v.2 ((v.1.2 5 zD).trans ((S 5 i zD).trans F.5)) zD F.13;obtain⟨w,h⟩:=y;exact⟨.bytes k,[D x],w,rfl,fj [tF h.2],⟨k,rfl,h.1⟩,v.1.trans h.3,h.4⟩) [.int ((0:Nat):Int),.int ((1:Nat):Int)] r ⟨.refl _ _,T⟩
 obtain⟨h,t,h⟩:=q;obtain⟨q,q,rfl⟩:=len_2 h.2;obtain⟨f,q⟩:=h.3 _ (.head _);obtain rfl:=q.1;obtain⟨g,v⟩:=h.3 _ (.tail _ (.head _));obtain rfl:=v.1;have w:dR (ag (n+171)) 60 5 6 (eV (D s0) m Z d a [D (pv N),D (.bytes P),D (.loc W.length),D (.loc b),I,I,I] r)=D (.ok .next,kD (D s0) m Z d a N P W.length b (D (.U (am [f,g]))) t):=
  fq [tR (qb 2 zD),tK h.1,tV 15 (eS (am [f,g]) (bw rfl))]
 have x:LK t l N R P W.length b []:=⟨h.4.2,h.4.1.dig H zD zD,(h.4.1.2 3 zD).trans ((S 3 (aR F.3) zD).trans F.3),(h.4.1.2 4 zD).trans ((S 4 (aR F.4) zD).trans F.4),(h.4.1.2 _ (by exact Nat.ne_zero_of_lt (bc i c))).trans u,(h.4.1.2 _ (by exact LO X)).trans s,G,λe S=>(by exact Mine.z7 S)⟩;obtain⟨r,s,S,e,h,u,y,e⟩:=YI (n:=n) (m:=m) (D s0) Z a (D (.U (am [f,g]))) F.6 (by exact ak o (ak j zD)) F.10 (ak i c) (by exact zJ i c X) (by exact LP X) [f,g] [] t l d x (λk k=>by
  rcases bD.mp k with rfl |k
  .exact q.2
  .rw[bq.mp k];exact v.2) zS (by simp only[b4,eE]at A |-;exact LQ A p)
 obtain⟨B,C,rfl⟩:=len_2 h;have h:dR (ag (n+171)) 60 6 7 (kD (D s0) m Z d a N P W.length b (D (.U (am [f,g]))) t)=D (.ok .next,kD (D s0) m Z S a N P W.length b (D (.U (am [f,g]))) r):=
  fq [tL u]
 refine O (⟨N,K,R,Z,S,a,r,s,P,W.length,b,f,g,B,C,?_,F.6,by exact ak o (ak j zD),F.10,F.11,y,by simp only[b4,eE]at A e;exact LR A p e,ak i c,by exact zJ i c X⟩);rw[hV Q zR zR,hV E zR zR,hV w zR zR,h]
def kA.told{b:Option _}(h:kA g d c o kn b a (λf=>hN f top q a))(i:Pf kn N q top P)(j:bP N)(k:Sm N)(r:Vp q)(s:kn.length+c+a.length+P.length<2^31):
  E2 λW S=>A5 (b=D (.ok (kz (if a=P then D (lk N q)else I)),W)) (Go d o.length o W) (Dig W g d S) (kn <+:S) (S.length<=kn.length+c):=by
 obtain⟨W,S,v,e,Z,F,p,l,_,X⟩:=h;refine⟨W,S,(e.trans ?_),Z,F,p,l⟩
 congr
 refine iteInduction (λF=>?_) λF=>?_
 .haveI b:=lP (cE S) j k r;rw[i.1 _ p,i.2 _ p,<- F]at b;exact(X _ (bT _)).symm.trans b
 .haveI W:S <+:S++(a++P):=Hn ..;haveI b:=lP (cE (S++(a++P))) j k r;rw[i.1 _ (p.trans W),i.2 _ (p.trans W)]at b;clear e;cases v with
  |none=>rfl
  |some v=>exact aB (DC (λx S y Z P=>DD (by rw[az,az];exact LU s l) (bB _ (dc _ S)) (bB _ (bB _ Z)) P) (X _ W) b).1 F
def LK.fr{R:Rows}(h:LK o kn N R top PR HE g)(f:Fr [2,0] o.length o b)(w:Wl b 0)(c:Dig b 1 2 a)(p:kn <+:a)(d:5<PR)(e:5<HE):LK b a N R top PR HE g:=by
 haveI F:∀i,i≠0->i≠2->i∉ [2,0]:=λi a b P=>by
  rcases bD.mp P with rfl |P
  .exact b rfl
  .exact a (bq.mp P)
 exact⟨w,c,(f.2 3 (aR h.3) (F _ zD zD)).trans h.3,(f.2 4 (aR h.4) (F _ zD zD)).trans h.4,(f.2 _ (aR h.5) (F _ (e4 d rfl) (e4 d rfl))).trans h.5,(f.2 _ (aR h.6) (F _ (e4 e rfl) (e4 e rfl))).trans h.6,λF F=>h.7 _ (p.trans F),λe F=>⟨(h.8 e F).1,(h.8 e F).2.more p⟩⟩
def ft(s0:Option PV)(m:Nat)(s7 s8 s9:Option PV)(N:Nd)(top:By)(PR HE:Nat)(k0 k1:By)(a b:Option PV)(o:List av):St:=eV s0 m s7 s8 s9 [D (pv N),D (.bytes top),D (.loc PR),D (.loc HE),D (.U (am [k0,k1])),a,b] o
section
variable {n m PR HE:Nat} {o:List av} {kn:List By} {N:Nd} {K:List aD} {R:Rows} {top k0 k1:By} {P0 P1:List By} (s0 s7 s8 s9:Option PV)
inductive LE(o:List av)(kn:List By)(N:Nd)(K:List aD)(R:Rows)(top:By)(PR HE:Nat)(k0 k1:By)(P0 P1:List By):Prop |mk
 (k:LK o kn N R top PR HE [(k0,P0),(k1,P1)])
 (F:Kd N K)
 (F:K.length<=10)
 (F:5<PR)
 (F:5<HE)
def LE.fr(h:LE o kn N K R top PR HE k0 k1 P0 P1)(f:Fr [2,0] o.length o c)(w:Wl c 0)(a:Dig c 1 2 b)(p:kn <+:b):LE c b N K R top PR HE k0 k1 P0 P1:=⟨h.1.fr f w a p h.4 h.5,h.2,h.3,h.4,h.5⟩
def LE.facts(h:LE o kn N K R top PR HE k0 k1 P0 P1):Hv (Pf kn N (aF k0) top P0) (Pf kn N (aF k1) top P1) (k0.length<=32) (k1.length<=32) (P0.length<=65) (P1.length<=65) (P0≠[]) (∀w∈P0,w≠[]/\w.length<=1000) (∀w∈P1,w≠[]/\w.length<=1000) (top≠[]) (top.length=32) (bP N/\Sm N):=by
 haveI P:=h.1.8 _ (.head _);haveI S:=h.1.8 _ (.tail _ (.head _));haveI W:proof _ N (aF k0)=P0:=P.2.2 _ (bT _);haveI X:proof _ N _=P1:=S.2.2 _ (bT _);haveI F:=(h.1.7 _ (bT _))▸((cE _).1 _);exact⟨P.2,S.2,P.1,S.1,by rw[<- W];exact qi h.2.b.1,by rw[<- X];exact qi h.2.b.1,(by rw[<- W];intro z;cases z),by rw[<- W];exact qh (cE _) h.2.b.2,by rw[<- X];exact qh (cE _) h.2.b.2,(λz=>by replace F:=z▸F;cases F),F,h.2.1,h.2.b.2⟩
def LE.items(h:LE o kn N K R top PR HE k0 k1 P0 P1):A4 (Y (item (.loc PR) (.int 0)) o (.U (am P0)) o) (Y (item (.loc PR) (.int 1)) o (.U (am P1)) o) (Y (item (.loc HE) (.int 0)) o (.bytes (lk N (aF k0))) o) (Y (item (.loc HE) (.int 1)) o (.bytes (lk N (aF k1))) o):=
 ⟨gi 0 _ h.1.5 rfl,gi 1 _ h.1.5 rfl,gi 0 _ h.1.6 rfl,gi 1 _ h.1.6 rfl⟩
def qk k0 k1:Y0 (item (.U (am [k0,k1])) (.int 0)) (.bytes k0)/\Y0 (item (.U (am [k0,k1])) (.int 1)) (.bytes k1):=⟨dg rfl,dg rfl⟩
def ne_self(h:By):¬h≠h:=nN rfl
def v9 rs ot(h:LE o kn N K R top PR HE k0 k1 P0 P1)(a:kn.length<200000):E2 λP F=>A3 (dR (ag (n+171)) 60 7 8 (ft s0 m s7 s8 s9 N top PR HE k0 k1 rs ot o)=D (.ok .next,ft s0 m s7 s8 s9 N top PR HE k0 k1 rs ot P)) (LE P F N K R top PR HE k0 k1 P0 P1) (F.length<=kn.length+100):=by
 refine aH λG W=>?_;obtain⟨S,X,F⟩:=(jv (n:=n+101) top k1 P0 (a1 h.facts.4 rfl) (λw P=>a1 ((h.facts.8 w P).2) rfl) (λz=>by cases z) (.inl rfl) h.1.2 (bc (y' a h.facts.5) zD)).told h.facts.2 h.facts.12.1 h.facts.12.2 (gb _) (LV a h.facts.5 h.facts.6);have e:=F.1;have P:=h.fr (F.2.fr zS) (h.1.1.go F.2 zD) F.3 F.4;refine W ⟨S,X,?_,P,zL F.5 h.facts.5⟩;by_cases F:P0=P1
 .rw[iP F]at e;exact fq [tV 1 (qk k0 k1).2,tO 1 h.items.1,tF e,tO 1 P.items.1,tO 1 P.items.2,t1 (t_ P0 P1 S (dT F)),tO 1 P.items.4,t0 (ne_self (lk N (aF k1)))]
 .rw[iN F]at e;exact fq [tV 1 (qk k0 k1).2,tO 1 h.items.1,tF e,tO 1 P.items.1,tO 1 P.items.2,t0 (t_ P0 P1 S (dF F))]
def YU rs ot(h:LE o kn N K R top PR HE k0 k1 P0 P1):E2 λP F=>A4 (dR (ag (n+171)) 60 8 9 (ft s0 m s7 s8 s9 N top PR HE k0 k1 rs ot o)=D (.ok .next,ft s0 m s7 s8 s9 N top PR HE k0 k1 (D (.U (am F))) ot P)) (LE P kn N K R top PR HE k0 k1 P0 P1) (F.length<=200) (∀w∈F,w.length<=1001):=by
 refine aH λG S=>?_;haveI W:=h.facts.5;haveI X:=h.facts.6;obtain⟨F,P,Z,Z,e,d,w⟩:=XV (n+168) 0 1000 o P0 P1 h.1.1 h.facts.7 h.facts.8 (λw a=>(h.facts.9 w a).2) zD (a1 W rfl) (a1 X rfl);exact S ⟨P,F,fq [tO 1 h.items.1,tO 1 h.items.2,tF e],h.fr (d.fr zS) w (d.dig h.1.2 zD zD) (bT _),by lia,Z⟩
def YV R' ot(h:LE o kn N K R top PR HE k0 k1 P0 P1)(b:kn.length<200000)(a:R'.length<=200)(c:∀w∈R',w.length<=1001):E2 λP F=>A3 (dR (ag (n+171)) 60 9 10 (ft s0 m s7 s8 s9 N top PR HE k0 k1 (D (.U (am R'))) ot o)=D (.ok .next,ft s0 m s7 s8 s9 N top PR HE k0 k1 (D (.U (am R'))) ot P)) (LE P F N K R top PR HE k0 k1 P0 P1) (F.length<=kn.length+200):=by
 refine aH λG W=>?_;obtain⟨S,X,F⟩:=(jv (n:=n+101) top k0 R' (a1 h.facts.3 rfl) (λw P=>a1 (c w P) rfl) (λz=>by cases z) (.inl rfl) h.1.2 (bc (y' b a) zD)).told h.facts.1 h.facts.12.1 h.facts.12.2 (gb _) (LW b a h.facts.5);have e:=F.1;have P:=h.fr (F.2.fr zS) (h.1.1.go F.2 zD) F.3 F.4;refine W ⟨S,X,?_,P,ak F.5 (bH a _)⟩;by_cases F:R'=P0
 .rw[iP F]at e;exact fq [tF e,tO 1 P.items.1,t1 (t_ R' P0 S (dT F)),tO 1 P.items.3,t0 (ne_self (lk N (aF k0)))]
 .rw[iN F]at e;exact fq [tF e,tO 1 P.items.1,t0 (t_ R' P0 S (dF F))]
def YW rs ot(h:LE o kn N K R top PR HE k0 k1 P0 P1):E2 λF S=>dR (ag (n+171)) 60 10 11 (ft s0 m s7 s8 s9 N top PR HE k0 k1 rs ot o)=D (.ok .next,ft s0 m s7 s8 s9 N top PR HE k0 k1 rs (D (.bytes S)) F)/\LE F kn N K R top PR HE k0 k1 P0 P1:=by
 refine bi (xX (n+169) 0 o top h.1.1 h.facts.10 (e3 h.facts.11 rfl)) λS P=>?_;refine bi P λF P=>?_;exact⟨F,S,fq [tF P.2],h.fr (P.3.fr zS) P.4 (P.3.dig h.1.2 zD zD) (bT _)⟩
def YX rs(a:By)(h:LE o kn N K R top PR HE k0 k1 P0 P1)(b:kn.length<200000):E2 λP F=>A3 (dR (ag (n+171)) 60 11 12 (ft s0 m s7 s8 s9 N top PR HE k0 k1 rs (D (.bytes a)) o)=D (.ok .next,ft s0 m s7 s8 s9 N top PR HE k0 k1 rs (D (.bytes a)) P)) (LE P F N K R top PR HE k0 k1 P0 P1) (F.length<=kn.length+100):=by
 refine aH λG W=>?_;refine(jv (n:=n+101) a k0 P0 (a1 h.facts.3 rfl) (λw F=>a1 ((h.facts.8 w F).2) rfl) (λz=>by cases z) (.inl rfl) h.1.2 (bc (y' b h.facts.5) zD)).is (v:=if a=top then D (lk N (aF k0))else I) (λF P=>by
  by_cases S:a=top
  .have:=lP (cE F) h.facts.12.1 h.facts.12.2 (gb k0);rw[h.facts.1.1 F P,h.facts.1.2 F P]at this;rw[iP S,S];exact this
  .rw[iN S,<- h.facts.1.2 F P];exact x0 (by rw[h.facts.1.1 F P];exact Ne.symm S)) λS X e F P=>?_
 have P:=h.fr (F.1.fr zS) (h.1.1.go F.1 zD) F.2 F.3;refine W ⟨S,X,?_,P,zL F.4 h.facts.5⟩;by_cases F:a=top
 .rw[iP F]at e;exact fq [tV 1 (qk k0 k1).1,tO 1 h.items.1,tF e,t1 F,tO 1 P.items.3,t0 (ne_self (lk N (aF k0)))]
 .rw[iN F]at e;exact fq [tV 1 (qk k0 k1).1,tO 1 h.items.1,tF e,t0 F]
def YY rs ot(h:LE o kn N K R top PR HE k0 k1 P0 P1)(a:(lk N (aF k0)).length<=99)(b:kn.length<200000):E2 λS F=>A3 (dR (ag (n+171)) 60 12 13 (ft s0 m s7 s8 s9 N top PR HE k0 k1 rs ot o)=D (.ok .next,ft s0 m s7 s8 s9 N top PR HE k0 k1 rs ot S)) (LE S F N K R top PR HE k0 k1 P0 P1) (F.length<=kn.length+100000):=by
 refine(Yk (n:=n) h.1.1 h.1.2 h.1.3 zD zD zD zD h.2 h.3 h.facts.3 rfl a h.facts.1 (a1 b rfl)).elim λS F P=>?_;exact⟨S,F,fq [tV 1 (qk k0 k1).1,tO 1 h.items.3,tO 1 h.items.1,tF P.1],h.fr P.2 P.3 P.4 P.5,P.6⟩
def YZ rs ot(h:LE o kn N K R top PR HE k0 k1 P0 P1)(a:kn.length<500000):∃F,dR (ag (n+171)) 60 13 14 (ft s0 m s7 s8 s9 N top PR HE k0 k1 rs ot o)=D (.ok (.ret (.bool J)),ft s0 m s7 s8 s9 N top PR HE k0 k1 rs ot F):=by
 exact(Yb (n:=n+100) h.1.1 h.1.2 zD zD (a1 a rfl) h.facts.7 (λw F=>⟨(h.facts.8 w F).1,a1 ((h.facts.8 w F).2) rfl⟩) (a1 h.facts.5 rfl) (a1 h.facts.3 rfl)).elim λF F F=>(Fn (n:=n+100) F.3 F.4 zD zD (b2 F.6 a rfl)).elim λP P P=>(Fn (n:=n+100) P.3 P.4 zD zD (b2 (b3 P.6 F.6) a rfl)).elim λS W W=>⟨S,fq [tO 1 h.items.1,tF F.1,tF P.1,tF W.1]⟩
end
def abC n(a:List _)(b:a.length<=63):∃F,ag (n+172) 60 [.U (a.map .int)] []=D (.ok (.bool J),F):=by
 refine aH λG j=>?_;obtain⟨m,o,f⟩:=YQ n _ b;obtain⟨N,K,R,P,S,W,F,F,top,PR,HE,k0,k1,P0,P1,F⟩:=YT n _ f.1 f.3;have Z:LE _ _ N K R _ _ _ _ _ _ _:=⟨F.6,F.2,F.3,F.8,F.9⟩;have i:(lk N (aF k0)).length<=99:=by
  rw[F.4];by_cases c:val R (aF k0)=[]
  .rw[c];exact bn _
  .obtain⟨r,X⟩:=UG c;rw[X.3];exact a1 ((F.5 r X.1).4) rfl
 obtain⟨X,X,X⟩:=v9 _ _ _ _ _ _ Z (a2 F.7 rfl);obtain⟨Z,Z,c⟩:=YU (D (.U (iL a))) P S W I I X.2;obtain⟨b,b,b⟩:=YV (D (.U (iL a))) P S W Z I c.2 (di (b1 X.3 F.7 rfl)) c.3 c.4;obtain⟨d,d,h⟩:=YW (D (.U (iL a))) P S W (D (.U (am Z))) I b.2;obtain⟨e,e,e⟩:=YX (D (.U (iL a))) P S W (D (.U (am Z))) d h.2 (b2 (b3 b.3 X.3) (di F.7) rfl);obtain⟨g,g,g⟩:=YY (D (.U (iL a))) P S W (D (.U (am Z))) (D (.bytes d)) e.2 i (LX e.3 b.3 X.3 F.7);obtain⟨i,k⟩:=YZ (D (.U (iL a))) P S W (D (.U (am Z))) (D (.bytes d)) g.2 (LY e.3 b.3 X.3 F.7 g.3);refine j ⟨i,YM (m:=14) (st:=⟨[D (.U (iL a)),I,I,I,I,I,I,I,I,I,I,I,I,I,I,I,I],[]⟩) (l:=(ft (D (.U (iL a))) m P S W N top PR HE k0 k1 (D (.U (am Z))) (D (.bytes d)) i).loc) ?_ zR zR zK zR zR rfl⟩;rw[hV f.2 zR zR];rw[hV F.1 zR zR,hV X.1 zR zR,hV c.1 zR zR,hV b.1 zR zR,hV h.1 zR zR,hV e.1 zR zR,hV g.1 zR zR,k];rfl
end Mine
end
set_option tactic.hygienic true
set_option genCtorIdx true
set_option genInjectivity true
set_option genSizeOf true
set_option genSizeOfSpec true
set_option backward.match.sparseCases true
set_option Elab.async true
namespace Mine.h
def tw347437877457614839:=Nat
def tw4434952307561136931:=Nat
def tw15773172694925060612:=Nat
def tw6143694748465868849:=Nat
def tw10113614756544476385:=Nat
def tw12030072568450643895:=Nat
def tw4505126218415790468:=Nat
def tw4991363584548102294:=Nat
def tw3539817881391355463:=Nat
def tw11566312217158300915:=Nat
def tw11340608044641968782:=Nat
def tw9196097036606155699:=Nat
def tw10824402767822858053:=Nat
def tw17803680328377120361:=Nat
def tw754371764950731850:=Nat
def tw9380377972051789092:=Nat
def tw15525072738643546371:=Nat
def tw17328353067329418159:=Nat
def tw4158065403680154142:=Nat
def tw3490112869312774647:=Nat
def tw3758547008183501042:=Nat
def tw18339047029534914711:=Nat
def tw3800670486746120304:=Nat
def tw16185264884590891127:=Nat
def tw6628964900245472527:=Nat
def tw14096229533479125360:=Nat
def tw16628212798158555658:=Nat
def tw11809882119899447743:=Nat
def tw14218192656250534274:=Nat
def tw488099162253406094:=Nat
def tw8984416364512963207:=Nat
def tw18217672105063195353:=Nat
def tw4877461258968452579:=Nat
def tw3756267335236520235:=Nat
def tw3170279243120788676:=Nat
def tw12486631765811906961:=Nat
def tw3716810906051282826:=Nat
def tw6533097008228179754:=Nat
def tw11127680675960911805:=Nat
def tw16861688747880592187:=Nat
def tw18421646793152347822:=Nat
def tw8335690523831340703:=Nat
def tw13715403856851756210:=Nat
def tw12084101563212092865:=Nat
def tw13359350320780894621:=Nat
def tw16317110668483421283:=Nat
def tw2631809298886878358:=Nat
def tw6863484586004960462:=Nat
def tw6615274532895599716:=Nat
def tw13357084272826809804:=Nat
def tw8148187187107319721:=Nat
def tw7877790397829338716:=Nat
def tw3713559230803669220:=Nat
def tw7203692863121370960:=Nat
def tw54449619510540528:=Nat
def tw3740875649477748671:=Nat
def tw14399419997262040773:=Nat
def tw13304914275423559758:=Nat
def tw2882745685926584800:=Nat
def tw13019422985766760374:=Nat
def tw11478696151099393092:=Nat
def tw3695492264728574771:=Nat
def tw5864171885332393061:=Nat
def tw3787820532395609044:=Nat
def tw13397063918156330746:=Nat
def tw11225452402727769249:=Nat
def tw14569169575498494156:=Nat
def tw10015743366245275363:=Nat
def tw5848980453553814803:=Nat
def tw13195425574311988089:=Nat
def tw16634721850499902208:=Nat
def tw8182143581676739031:=Nat
def tw18227174240867701840:=Nat
def tw9929347108346720089:=Nat
def tw10947940718677797541:=Nat
def tw17754465757972259191:=Nat
def tw13941763628454918011:=Nat
def tw14748789445991907591:=Nat
def tw5295112964429476206:=Nat
def tw824195374095679102:=Nat
def tw7802649368611051925:=Nat
def tw13809241315680395067:=Nat
def tw4117420023994239629:=Nat
def tw6151393173824375764:=Nat
def tw16940053247571121076:=Nat
def tw928656618301480575:=Nat
def tw6072129823308890419:=Nat
def tw16274777767166659489:=Nat
def tw5576963495701010095:=Nat
def tw2125039185863046731:=Nat
def tw2115680978443602739:=Nat
def tw12069623436562988575:=Nat
def tw15003508082368540894:=Nat
def tw16835868912353555730:=Nat
def tw14820881218172153661:=Nat
def tw1812164486366166050:=Nat
def tw6962098115093273705:=Nat
def tw16464466315344592443:=Nat
def tw2681390146884020249:=Nat
def tw276469817722332616:=Nat
def tw2664453786773030427:=Nat
def tw16068841855770194404:=Nat
def tw5119603891250302844:=Nat
def tw7742065681106001748:=Nat
def tw17278020453715053463:=Nat
def tw2629436321594667848:=Nat
def tw15705270081527933066:=Nat
def tw2375616456415111486:=Nat
def tw13161184333397019695:=Nat
def tw15930764292022707084:=Nat
def tw1257535665617204927:=Nat
def tw1843709074693381076:=Nat
def tw8799685860057839008:=Nat
def tw3739291259121490764:=Nat
def tw4851610235373934342:=Nat
def tw584253434855135767:=Nat
def tw12527917987952461866:=Nat
def tw11077833285527029666:=Nat
def tw10208122264894780492:=Nat
def tw236034682386046801:=Nat
def tw14558830843302935441:=Nat
def tw12267300618946972179:=Nat
def tw16724345464226511106:=Nat
def tw7508778232955744148:=Nat
def tw6376939556067513500:=Nat
def tw11830625130527406941:=Nat
def tw13945770977609474654:=Nat
def tw17326091816415362873:=Nat
def tw23172917482427607:=Nat
def tw17696172421901843966:=Nat
def tw17231718524712317897:=Nat
def tw1356244002327342800:=Nat
def tw9099524735094762395:=Nat
def tw16263727605707035680:=Nat
def tw13942990362390771724:=Nat
def tw10080771027104850567:=Nat
def tw6610427791173688695:=Nat
def tw6830342760645643780:=Nat
def tw11532201945115270930:=Nat
def tw10510586454899005283:=Nat
def tw2628164580770665852:=Nat
def tw14528485279528032993:=Nat
def tw13081248706985803156:=Nat
def tw13332646809102196565:=Nat
def tw13829171099132145445:=Nat
def tw13111359617333850524:=Nat
def tw12723222226473534571:=Nat
def tw6149729509139005801:=Nat
def tw4119603890692647118:=Nat
def tw14501061132447677221:=Nat
def tw4375232483459336526:=Nat
def tw10803849985231894404:=Nat
def tw4615169659637238277:=Nat
def tw6781667066149522813:=Nat
def tw5805666655711483456:=Nat
def tw8433944378910079088:=Nat
def tw7296983210309977632:=Nat
def tw10130068515917925773:=Nat
def tw2387168256345510230:=Nat
def tw1895460443103508585:=Nat
def tw7403042719120014839:=Nat
def tw10848268722326577222:=Nat
def tw14202642533580855978:=Nat
def tw17853841771173400560:=Nat
def tw11434341879908795408:=Nat
def tw795484390220425659:=Nat
def tw13485386283454874272:=Nat
def tw9618861286798998627:=Nat
def tw8226161231842349346:=Nat
def tw15074754548132536694:=Nat
def tw12529285771890685907:=Nat
def tw8616546202424510052:=Nat
def tw12887034139009819213:=Nat
def tw8870714547363300543:=Nat
def tw2522582874864574804:=Nat
def tw14542649244067952892:=Nat
def tw5665323206420750581:=Nat
def tw9167909565568771347:=Nat
def tw8099074806403307960:=Nat
def tw13848402257986255569:=Nat
def tw14774551432355044523:=Nat
def tw5111211639507797997:=Nat
def tw8651657690867478452:=Nat
def tw13442387103856070081:=Nat
def tw2451394554795826781:=Nat
def tw14717786722275578368:=Nat
def tw14623928616713253304:=Nat
def tw17794180361644096977:=Nat
def tw15126930571789599573:=Nat
def tw13952029585287401633:=Nat
def tw6258706226867707531:=Nat
def tw1056421454553859415:=Nat
def tw997771812233449016:=Nat
def tw5424507362658752262:=Nat
def tw17022225426733837601:=Nat
def tw1486355345268308412:=Nat
def tw1921629716774983816:=Nat
def tw157172750986073172:=Nat
def tw11428853916675331852:=Nat
def tw4929053229050085877:=Nat
def tw15090215983626841559:=Nat
def tw5678448518634349756:=Nat
def tw17905127112581942766:=Nat
def tw12514589148247682557:=Nat
def tw6100786589923674895:=Nat
def tw5914417403739699330:=Nat
def tw7807077449032664083:=Nat
def tw8535481145345381477:=Nat
def tw5855029746810177147:=Nat
def tw7046848952353480313:=Nat
def tw8871202159777435296:=Nat
def tw13043509625624185874:=Nat
def tw9961843852490621255:=Nat
def tw1248811200110118731:=Nat
def tw15367149053395095266:=Nat
def tw8545692685359777382:=Nat
def tw18444589360478295509:=Nat
def tw8634445816142311681:=Nat
def tw15216765994314550200:=Nat
def tw15232904432226875752:=Nat
def tw29641667138764729:=Nat
def tw15486681095558948819:=Nat
def tw14362652060161068171:=Nat
def tw5790528892188864392:=Nat
def tw5846492156318884034:=Nat
def tw7454182444628172814:=Nat
def tw3121806092619268575:=Nat
def tw16956768839676983609:=Nat
def tw11225962162121881797:=Nat
def tw6097532643486097785:=Nat
def tw7405651146223021827:=Nat
def tw15649489722268941622:=Nat
def tw1604783383819962184:=Nat
def tw17427517070238171185:=Nat
def tw17822755135371050786:=Nat
def tw3094062239887985115:=Nat
def tw7029982568645035657:=Nat
def tw17009195942527895028:=Nat
def tw7896335990602847941:=Nat
def tw16502270569698505979:=Nat
def tw2896299490504988439:=Nat
def tw14257575845529169401:=Nat
def tw16052510744234270372:=Nat
def tw8001799990456804257:=Nat
def tw1723748437222549772:=Nat
def tw15117220493346559265:=Nat
def tw7478699205935544156:=Nat
def tw8806121721786938079:=Nat
def tw6811803383631598809:=Nat
def tw13454933286735887173:=Nat
def tw10840482306913640982:=Nat
def tw15018355300528503036:=Nat
def tw8733517792868530361:=Nat
def tw17056969597878762776:=Nat
def tw16757396875619161431:=Nat
def tw7907958977055106284:=Nat
def tw6798285367822590682:=Nat
def tw4022498666542126344:=Nat
def tw12141792692166886608:=Nat
def tw12656607519898960839:=Nat
def tw6430103723215747705:=Nat
def tw9680166885048700869:=Nat
def tw13480719579523557616:=Nat
def tw708929371534625012:=Nat
def tw7069378323603528459:=Nat
def tw10907728321990360387:=Nat
def tw17422877032634611593:=Nat
def tw10784089882781812176:=Nat
def tw7838337772230883773:=Nat
def tw14554663561820802227:=Nat
def tw4117862256412036103:=Nat
def tw628638652546025019:=Nat
def tw13035008582236975874:=Nat
def tw15071650238008547427:=Nat
def tw1672953268577687288:=Nat
def tw566638691457497860:=Nat
def tw15438980398918866574:=Nat
def tw17888689088463840717:=Nat
def tw10096323720174407802:=Nat
def tw13497403846038372084:=Nat
def tw17507818175271709666:=Nat
def tw313557481420190631:=Nat
def tw11622133009525222081:=Nat
def tw16922092684243639305:=Nat
def tw14215072750196714085:=Nat
def tw10100892229463490370:=Nat
def tw3073989225477181354:=Nat
def tw11065042233917603500:=Nat
def tw2404832278346749945:=Nat
def tw18008468873145020369:=Nat
def tw17266865480643752796:=Nat
def tw5969032602514329909:=Nat
def tw17541710914833730941:=Nat
def tw839909744073942145:=Nat
def tw8413173714324500286:=Nat
def tw12778354420173306078:=Nat
def tw1997940426198798138:=Nat
def tw4352082183800340878:=Nat
def tw15736687653252581940:=Nat
def tw2169940301741106950:=Nat
def tw11850583828880017473:=Nat
def tw11671700250010608693:=Nat
def tw18383777619080609035:=Nat
def tw12958884805911852953:=Nat
def tw17038624514425815451:=Nat
def tw8659866349962735153:=Nat
def tw11057389585713553597:=Nat
def tw10112321734428337868:=Nat
def tw16918110988196852641:=Nat
def tw9563533938311626363:=Nat
def tw10659717425121165721:=Nat
def tw2692718641611122567:=Nat
def tw7155009186653612762:=Nat
def tw2006551559738373166:=Nat
def tw11982503516789913697:=Nat
def tw2894139391363733328:=Nat
def tw10070215211548064708:=Nat
def tw5769462823758091141:=Nat
def tw12358447064870916573:=Nat
def tw7298730038799534652:=Nat
def tw3353516256928961494:=Nat
def tw13062612507392925337:=Nat
def tw7056964273891908924:=Nat
def tw3092041447653879462:=Nat
def tw16671188775906349761:=Nat
def tw13126054857942921641:=Nat
def tw2141578033240047669:=Nat
def tw3382222208699387138:=Nat
def tw10671491894406009198:=Nat
def tw6258471394664189843:=Nat
def tw11504077891567943437:=Nat
def tw15859541182242334901:=Nat
def tw3391174569313834731:=Nat
def tw5377701827173262849:=Nat
def tw7283791991933913661:=Nat
def tw4450907203420520081:=Nat
def tw2531874431945598116:=Nat
def tw5474624607944612352:=Nat
def tw12538407080492367791:=Nat
def tw9135478140289576914:=Nat
def tw13743445159832669074:=Nat
def tw15061474886615469114:=Nat
def tw17162407255020878491:=Nat
def tw2576057470110384587:=Nat
def tw11198193013131496442:=Nat
def tw16616528902071036077:=Nat
def tw9365971424444914446:=Nat
def tw3954582329493917830:=Nat
def tw3935485496980297115:=Nat
def tw17229736627261247370:=Nat
def tw15814357668483618086:=Nat
def tw17764311795047843755:=Nat
def tw17745756575167224607:=Nat
def tw14796966210213592495:=Nat
def tw7438253619521393231:=Nat
def tw6275891961346327076:=Nat
def tw17998544806454134571:=Nat
def tw11561389093935560292:=Nat
def tw12877358834701119113:=Nat
def tw16958642587919837243:=Nat
def tw13509170637413379320:=Nat
def tw15843725972915329471:=Nat
def tw9133745166886107438:=Nat
def tw2901769489366431826:=Nat
def tw5658247963528059195:=Nat
def tw13875626404718737119:=Nat
def tw5067628389024098729:=Nat
def tw2125958844368711309:=Nat
def tw9431079352302851456:=Nat
def tw16313194723291538197:=Nat
def tw14193157862253353099:=Nat
def tw5736452974876700187:=Nat
def tw1478268388050230270:=Nat
def tw13639171380584635012:=Nat
def tw3675434881079296188:=Nat
def tw3447467212119560235:=Nat
def tw13287716335742610845:=Nat
def tw17995361959608887967:=Nat
def tw2433671607472880224:=Nat
def tw8808119616552897217:=Nat
def tw15770463773269358063:=Nat
def tw16616230974727677462:=Nat
def tw197325230177535501:=Nat
def tw9944895037763000302:=Nat
def tw3172776261215243336:=Nat
def tw7394253477126121320:=Nat
def tw4513465157860326439:=Nat
def tw806614813110432449:=Nat
def tw6699030399236418416:=Nat
def tw17571813284463489265:=Nat
def tw16661796163429847210:=Nat
def tw12277828051372883853:=Nat
def tw14794400287006146483:=Nat
def tw17286138434168099331:=Nat
def tw6703887165990735941:=Nat
def tw12462687565945132277:=Nat
def tw18136603409958867724:=Nat
def tw5415412070493904205:=Nat
def tw1691684418359810570:=Nat
def tw12318546243617492461:=Nat
def tw3190993496589147784:=Nat
def tw9427383688650246816:=Nat
def tw4802435268884846602:=Nat
def tw11417980923782167398:=Nat
def tw212297404043425241:=Nat
def tw4962257522113539221:=Nat
def tw7413295026681969807:=Nat
def tw1744644197652788142:=Nat
def tw3563993257590342832:=Nat
def tw4675846388966827022:=Nat
def tw6035457257613275564:=Nat
def tw7759459354965402242:=Nat
def tw11715493396676715198:=Nat
def tw4072155337846027912:=Nat
def tw2423117767392043163:=Nat
def tw13827456703681584491:=Nat
def tw9614174970052791959:=Nat
def tw18045102350020872913:=Nat
def tw11889556549549999417:=Nat
def tw2859666747883261283:=Nat
def tw9736799563492685817:=Nat
def tw15769423472626437093:=Nat
def tw1562985741533662824:=Nat
def tw8935728894195422040:=Nat
def tw18335516755069236455:=Nat
def tw13290766786742068588:=Nat
def tw16732419092344134879:=Nat
def tw16810322070807838284:=Nat
def tw10323915175593208744:=Nat
def tw1318658075789443830:=Nat
def tw2529060777151415893:=Nat
def tw9835974523423179564:=Nat
def tw11604314408732265537:=Nat
def tw2805001111776851349:=Nat
def tw5272305912518265700:=Nat
def tw15292986432048946388:=Nat
def tw1647457480718380902:=Nat
def tw13786038532780640989:=Nat
def tw2130891352684778391:=Nat
def tw18334469534639735224:=Nat
def tw17659276152848280261:=Nat
def tw5682897255307902284:=Nat
def tw12374714053729170598:=Nat
def tw17402429290955009530:=Nat
def tw170826705761949609:=Nat
def tw2118953264726733106:=Nat
def tw4997138367060926315:=Nat
def tw7224287716003428078:=Nat
def tw12692444923116141528:=Nat
def tw12126605419728654542:=Nat
def tw9726825416682802687:=Nat
def tw5391226320760574368:=Nat
def tw8495586460568584083:=Nat
def tw11947234767291327390:=Nat
def tw11818430215813300567:=Nat
def tw2011509754570072042:=Nat
def tw1574859183759491827:=Nat
def tw14371893646553298905:=Nat
def tw9392562620605357188:=Nat
def tw12328320717909399974:=Nat
def tw6220461757894418943:=Nat
def tw16125186177882137770:=Nat
def tw15047613307574458526:=Nat
def tw18060268182353473583:=Nat
def tw3619242593979664957:=Nat
def tw3800477195604609603:=Nat
def tw1240576421281825886:=Nat
def tw12783726066489037640:=Nat
def tw8964759525405741559:=Nat
def tw3352848157163789103:=Nat
def tw6068013760157828214:=Nat
def tw18316440359328880135:=Nat
def tw12533516968948327983:=Nat
def tw14381671787131144457:=Nat
def tw7639678520489169111:=Nat
def tw6575866168363040410:=Nat
def tw8585901346899153491:=Nat
def tw9841190351186535126:=Nat
def tw6971913605738027030:=Nat
def tw13062798596584638313:=Nat
def tw15297895931255097126:=Nat
def tw6393877271587344840:=Nat
def tw11387927248245836220:=Nat
def tw6447736293858880476:=Nat
def tw16066577449130251003:=Nat
def tw4937380376276347483:=Nat
def tw7532136809611915116:=Nat
def tw15050089393431439418:=Nat
def tw2904961258987022476:=Nat
def tw16241620902590847871:=Nat
def tw13180539537993866883:=Nat
def tw831260224390393446:=Nat
end Mine.h
open PySem PySem.W PyProof.Rows
set_option maxHeartbeats 0
theorem Mine.h : PySem.Challenge.rw_qd0049_01.Holds := by
  w_on; o_law; k_head; (case hw => w_witness2)
  k_fill
  intro w s₀ s₁ mg mb G Y fa o pm cd doc dV kV ho hd hcd hD hmg hg args vals as hpre hlay hrd hwl hlo
  have KX := kIn_of Y
  refine Ground.open G ?_
  intro T B D TE TW
  try (refine guard_noD D (by decide +kernel) ?_; clear D)
  wrow_args hpre hlay hrd hwl hlo
  rename_i ns _ _ _ _ _ _ _ l vs _ hL _ _ _ hI _ hlen _
  have hns : ns.length ≤ 63 := by omega
  obtain ⟨os, hr⟩ := Mine.abC 128 ns hns
  refine Mine.abB ⟨fun P => by kernel_rfl, fun P => by kernel_rfl, fun P a b c d e f g h => by kernel_rfl, fun P => by kernel_rfl, fun P => by kernel_rfl, fun P => by kernel_rfl, fun P => by kernel_rfl, fun P => by kernel_rfl, fun P => by kernel_rfl, fun P => by kernel_rfl, fun P self => by kernel_rfl, fun P self => by kernel_rfl, fun P => by kernel_rfl, fun P => by kernel_rfl⟩ KX (topRead_of T) hmg hL hI hns hr fun s' k1 k2 k3 => GoodW.toG ⟨.inl ⟨_, .bool true, [], rfl, ?_, .bool _, ?_, fun _ => ⟨List.nodup_nil, fun a ha => by cases ha⟩⟩, k1, k2, k3.trans hg⟩
  · exact raisesW_false (by wrow_none_raised)
  · wrow_post
theorem PySem.Challenge.cw_qd0049_01_holds : PySem.Challenge.rw_qd0049_01.Holds :=
Mine.h
