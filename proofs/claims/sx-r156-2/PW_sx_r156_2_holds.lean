import PyProof.Rows.All
import Wide.All
import OpenK.ZGo
import Wide.FinOn
import Lean
import PySem.Challenge.RW_sx_r156_2
set_option Elab.async false
set_option linter.all false
set_option genSizeOf false
set_option genInjectivity false
set_option genCtorIdx false
set_option bootstrap.genMatcherCode false
set_option tactic.hygienic false
set_option compiler.extract_closed false
namespace Internal
open Option renaming some->aj,none->am,map->gT,map_eq_some_iff->g7,bind_eq_some_iff->vb,isNone_iff_eq_none->vr,map_some->Ae,isSome_iff_exists->Wv,bind_some->agX
open Bool renaming true->ak,false->ap,and_eq_true_iff->dM,and_eq_true->fM,eq_iff_iff->ii,not_eq_true'->k9,eq_false_iff->ny,false_ne_true->vd,false_eq_true->xu,or_eq_false_iff->xy,noConfusion->xA,not_true->zT,or_eq_true_iff->Ah,and_false->CF,false_and->CL,or_false->CM,or_eq_true->Gm,false_or->GY,true_and->LJ,not_eq_false'->Mf,not_not->Vv,not_false->Vw,and_self->Vz,and_eq_false_iff->Wx,not_eq_true->agP
open PySem renaming wpAny_bind->au,wpAny->aw,wpAny_pure->aC,model->aH,Value->aU,Str->aW,Addr->bc,Shared->bf,Heap->bK,Expr->bP,Env->cP,NameKind->di,World->dy,cLine->dD,Stmt->dU,Program->dX,rawInt->ei,Around->fL,wpAny_holding->gg,Sem->ig,wpAny_standAt->jx,Scope->jN,Obj->jO,compareOp->kA,wpAny_setState_of->kC,wpAny_mono->kD,wpAny_Name->kF,typeLookup->lh,swapsWith->li,wpAny_field->lP,wpAny_call_entry->mz,pyNext->mD,wpAny_ite->nA,pyIter->nD,wpAny_setField_rec->nE,DictEntry->oL,sizeLine->oN,mainGlobals->pW,codeAny->p6,starEach->p7,assignEach->p8,wpAny_specialOf->rh,wpAny_seqItems->ri,wpAny_setEpoch_of->rj,wpAny_setEntries_of->rn,wpAny_newObj_type->ro,IsPair->rA,wpAny_rule->ti,typeLookup_type->tn,builtinLookup_eq_fast->tq,typeIs_str->tB,IsZip->tC,backTo->tF,compEnvC->tG,wpAny_of_eq->vi,Pos->vj,binaryOp->vk,codeAny_builtin->vm,ret->vn,foldedSetIterable->vp,compTurn->vq,builtinsNs->xg,sizeLine_eq->xq,holding->xw,setNext->xz,recursionLimit->xD,standAt->xE,assign->xF,Arguments->zE,wpAny_forIn_list->zN,wpAny_storeSet_of->zO,wpAny_askSetting->zS,setField->zU,noteFrame->zW,getItem->zZ,isSubtype_type->z8,codeAny_of_tree->Aa,isSubtype->Ab,wpAny_execs_cons->Ag,FuncBody->Cv,wpAny_isInstance->CE,entryFor->CN,table->CP,field->CQ,wpAny_execs_nil->CX,cStatics->FZ,wpAny_typeOf->Gd,byScan->Ge,relayAll->Gf,pickOrder->Gh,wpAny_setField->Gj,truthy->Gn,wpAny_truthy_bool->Go,wpAny_callSpecial?_slot->Gs,call_gives->GF,entryFor_alias->GI,seqItems?->GJ,plainId_quiet->GO,storeName->GP,wpAny_assign_Name->GQ,execs->GS,wpAny_Assign_Name->GU,bindL->GV,bindC->GX,FuncData->K7,Model->Ll,typeOf->Lp,putSet_of->Lq,leaving->Lu,clipAt->Lw,call_meets->LD,newExc->LG,firstArgMember->LH,wpAny_pyIter_list->LI,wpAny_onRaise->LL,sub_set_self->LO,contains->LR,loadName->LU,wpAny_Constant_int->LW,wpAny_Call_NameR->LX,assignInOrder->LZ,Comprehension->L4,theTreesLotGoes->L5,wpAny_noted->L6,excClassObj->UO,reduceHash->Vg,PyData->Vh,eqIsQuiet->Vk,storeSet->Vp,setAddHashed->Vr,choose->Vu,wpAny_alloc->Vx,setWalkUnseen->Vy,unsupported->VC,cameBackBy->VH,concat_meets->VI,wpAny_runValue->VK,stripSame->VT,strValues->VV,letOwnedTupleGo->VW,raiseNew->VX,isInstance->VY,wpAny_pyIter_enum->VZ,newList->V1,checkBuiltinCall->V3,wpAny_call->V4,updateSeq->Wa,wpAny_updateSeq->Wb,nsFind->Wc,spliced->Wd,behindInMarks->Wf,eval_Subscript->Wg,boolOp->Wh,evalEach->Wi,BoolOp->Wj,wpAny_Call_method->Wk,relabel->Wo,comprehension->Wp,firstIterPos->Wq,assignAll->Ws,bindArgs->Wt,cellsFrom->Wu,importedModules->ae2,wpAny_pyHash_str->afA,beq_builtin_none->afC,ofAClassStatement->afE,noFill_tuple_add->afL,seq_tuple_add->afM,wpAny_callSpecial?_none->afN,strsFrom_length->af8,wpAny_pyIter_listiter->aga,wpAny_pyIter_tupleiter->agb,wpAny_pyIter_rangeiter->agc,wpAny_pyIter_slot->agf,wpAny_attempt->agg,wpAny_fieldsOf->agh,wpAny_handled->agi,isSubtype_stop->agj,wpAny_pyIter_tuple->agk,wpAny_newTuple->agl,wpAny_updateSeq_pair->agn,wpAny_pyIter_zip->agr,wpAny_newList->agu,codeAny_call_builtin->agv,wpAny_binaryOp_same->agz,wpAny_Constant_bool->agH,wpAny_items_nil->agJ,letTemporaryGo->agK,wpAny_UnaryOp->agL,evalPart_none->agM,wpAny_allTrue_And_cons->agN,wpAny_allTrue_Or_cons->agO,arm_eval_Attribute->agQ,methodCallPos->agR,wpAny_assignInOrder_none->agS,wpAny_assignInOrder_more->agT,arm_assign_Tuple->agU,wpAny_unpackItems_tuple->agV,wpAny_comprehension_free->ag0,swappedStores->ag1,plainObj_wpAny_Assign_Attribute->ag8
open Nat renaming le_trans->aB,le_refl->aV,zero_le->bW,lt_of_lt_of_le->b7,succ_le_succ->cr,le_add_right->dH,le_succ->dT,le_of_eq->ec,le_succ_of_le->eU,not_lt->fZ,le_of_lt->gc,lt_irrefl->gf,add_le_add_right->gD,le_of_succ_le_succ->g8,max_le->g9,add_le_add_left->iE,lt_succ_self->iF,add_assoc->jg,add_le_add->jh,ne_of_lt->ji,zero_add->jP,succ_pos->ku,lt_of_le_of_lt->kx,add_right_comm->kY,add_comm->kZ,le_add_left->ms,ne_of_gt->mB,le_of_lt_succ->pY,mod_eq_of_lt->qZ,mul_le_mul_right->s8,pow_succ->s9,lt_trans->td,le_of_succ_le->tA,mul_le_mul_left->vf,min_le_right->vh,not_succ_le_zero->xf,lt_or_ge->xh,mul_comm->xi,le_of_sub_eq_zero->xj,not_lt_zero->xk,le_max_right->xo,sub_le->xp,mod_lt->zG,pow_le_pow_right->zH,le_max_left->zK,sub_add_cancel->zP,mul_assoc->Cu,sub_self->Cz,le_pred_of_lt->CA,add_lt_add_left->CB,sub_eq_zero_of_le->CI,exists_eq_add_of_le'->FV,lt_add_of_pos_right->FX,add_mod_right->F0,le_antisymm->F2,add_sub_cancel'->F6,min_eq_left->Gy,succ_pred_eq_of_pos->GC,lt_succ_of_lt->GK,le_of_not_lt->GR,succ_add->K8,lt_of_add_lt_add_right->K9,add_sub_cancel_left->La,lt_succ_of_le->Lb,lt_or_eq_of_le->Lc,lt_trichotomy->Ld,mul_one->Li,not_le->Lj,mul_le_mul->Lr,sub_pos_of_lt->Lz,eq_zero_or_pos->UL,sub_lt->UM,mul_two->UP,add_lt_add_right->UQ,two_pow_pos->UR,le_zero->UT,lt_of_succ_lt_succ->UX,sub_lt_left_of_lt_add->Vb,lt_of_not_le->Vn,sub_zero->VO,lt_add_of_pos_left->VP,one_mul->VS,mul_succ->aeZ,lt_of_mul_lt_mul_right->ae0,add_mod->ae3,mul_mod->ae4,sub_sub->ae6,lt_of_lt_of_eq->ae9,lt_of_le_pred->afd,lt_of_le_of_ne->afi,succ_sub->afk,le_mul_of_pos_right->aft,sub_le_sub_right->afI,not_succ_le_self->afZ,succ_mul->af4,lt_asymm->ags,zero_max->ahd,max_zero->ahe,le_mul_of_pos_left->ahf,min_le_left->ahg,le_total->ahi,min_eq_right->ahj,add_left_cancel->ahn
open PySem.Str renaming ofString->aP,length->zX,mk->Lv
open Option.some renaming inj->aZ,injEq->L0
open Pure renaming pure->bH
open List renaming length_append->bJ,append_assoc->b8,mem_cons->cD,mem_cons_of_mem->cJ,replicate->cU,mem_cons_self->dh,mem_append->dZ,length_map->ed,append_nil->eh,mem_singleton->en,all_eq_true->eE,mem_map->eV,range->fk,cons_append->gi,forall_mem_cons->gF,not_mem_nil->gU,contains_iff_mem->gV,map_map->ij,mem_filter->iH,mem_of_getElem?->k8,getElem?_map->lQ,mem_range->mr,length_drop->mw,mem_append_left->my,lookup_cons->mE,mem_append_right->nw,getElem?_eq_getElem->oM,nil_append->oO,nodup_cons->pX,getElem?_eq_some_iff->p4,nodup_nil->p9,cons_ne_nil->qb,length_cons->re,length_nil->rg,take_append_drop->tg,map_cons->th,isPrefixOf_iff_prefix->tj,drop_zero->tm,length->vo,length_filter_le->vt,pairwise_cons->xl,foldl_cons->xn,eq_nil_of_length_eq_zero->xt,filter_cons->xv,map_id->xB,all_cons->xC,getElem?_append_left->xG,all_append->xH,contains_cons->xJ,suffix_cons->xK,range'->zF,nodup_append->zQ,getElem?_drop->z0,dropWhile_sublist->z6,getElem?_set_ne->Ac,length_eq_one_iff->Ad,getElem?_append_right->Af,length_take->CC,pairwise_map->CD,forIn_cons->CJ,drop_eq_getElem_cons->CK,getD->CU,filterMap_cons->CZ,suffix_append->C0,cons->FY,length_take_le'->Gq,mem_of_mem_take->Gr,take_of_length_le->Gw,take_length->Gz,range'_succ->GB,drop_left->GD,tail_drop->GH,ne_of_not_mem_cons->GL,set_set->GZ,takeWhile_cons->G2,map_inj_left->K6,pairwise_iff_getElem->Le,mem_iff_getElem->Lf,mem_of_mem_drop->Lg,drop_length->Ly,isEmpty_iff->LB,map_congr_left->LF,not_mem_of_not_mem_cons->LM,filter_eq_nil_iff->LQ,getElem?_set_self->LV,getElem?_replicate->L1,all_map->L2,map_append->L8,any_cons->L9,append_eq_nil_iff->Ma,length_eq_zero_iff->Mb,mem_map_of_mem->Mc,suffix_refl->Md,prefix_iff_eq_take->Me,nodup_range->UY,length_range->UZ,length_take_le->Va,mem_filterMap->Vd,findIdx?_cons->Vm,singleton_append->Vt,Perm->VA,filter_congr->VB,foldl_append->VE,drop_of_length_le->VQ,drop_drop->VR,zipIdx_cons->V0,isEmpty_nil->V7,getElem_mem->V8,any_eq_true->V9,getElem?_set->Wr,length_set->Wy,set_comm->Wz,map->WA,mem_flatMap->WB,take_left->WC,dropWhile_cons->WF,mem_erase_of_ne->afa,length_erase_of_mem->afb,length_pos_of_mem->afc,zip_append->afj,nodup_iff_pairwise_ne->afm,perm_ext_iff_of_nodup->afq,filterMap_map->afr,mem_toArray->afs,take_nil->afu,drop_nil->afv,all_toArray->afz,length_eraseIdx_of_lt->afJ,drop_take->afU,size_toArray->afW,range'_zero->af0,take_succ_cons->af2,takeWhile_append_dropWhile->af5,mem_reverse->af6,length_reverse->af7,forIn_nil->agm,mem_or_eq_of_mem_set->agY,of_mem_zip->ag4,length_filterMap_le->ahb,flatMap_cons->ahc,cons_eq_append_iff->ahh,drop_eq_nil_iff->ahk,takeWhile_sublist->ahl,contains_nil->ahm,isPrefixOf->aho,any_map->ahp,mk_mem_zipIdx_iff_getElem?->ahq,Nodup->ahr
open LawfulBEq renaming eq_of_beq->cq
open PySem.W renaming Frag->dg,instObj->tH,emptyDict->xI,Looks->L7,Makes->ag7
open PySem.Heap renaming lt_size->dE,get?_push_of_some->fo,size_push->fq,get?_push_size->fU,SameBut->lO,ExtBut->rq,get?_update_self->xr,get?_update_other->Gk,size_update->Gl,IsList->agq,get?_push_ne->agB
open Array renaming length_toList->dY,getElem?_eq_some_iff->ve,getD->zI,forIn_toList->zM,getElem?_eq_none->z7,mem_toList_iff->F5,toList_push->F9,getElem?_eq_getElem->Lh,getD_eq_getD_getElem?->Vc,getElem?_toList->Vl,size_push->Vo,mem_iff_getElem->aff,mem_of_getElem?->afg,getInternal_eq_getElem->afl,getElem?_replicate->afo,all_eq_true->afH
open Ne renaming symm->fV
open False renaming elim->gE
open PySem.Value.ref renaming inj->iG
open Int renaming ofNat_lt->iY,ofNat_le->zY,toNat_natCast->z9,natCast_nonneg->CH,not_lt->Gp,toNat_of_nonneg->UN,emod_nonneg->US,ne_of_gt->Vq,not_le->VL,toNat->WD,lt_irrefl->WG,toNat_lt->ae7,emod_lt_of_pos->ae8,le_min->afO,min_eq_left->afP,add_le_of_le_sub_right->afQ,sub_self->afR,le_of_lt->afS,max_eq_right->afT,toNat_sub->afX
open PySem.Value renaming none->jQ,ref->lg,type->CG,bool->Vi,str->VU,builtin->afB
open PySem.SetTable renaming below->ky,runEnd->mv,bits->rd,turns->vc,insertAt->zJ,sizeAbove->zL,grown->zR,leap->Cy,fill->Gc,fresh->Gi,slot->UU,Met->UW,toList_insertAt->U0,laid->Ve,fits->Vj,road->VF,Probe->ae5,has->afe,probe->afh,layClean->afp,Slot->afG
open Inhabited renaming default->lN
open PySem.Heap.SameBut renaming update->mC,refl->Gg
open PySem.Builtin.Str renaming occurrences->nC,strSliceIndices->Gx,glued->GG,partsBetween->LA,strKind->LC,tooLong->af9
open PySem.Obj renaming putSet->pZ,mapFields->zV,mapSeq->CV,data_mapFields->Ls,isFreed_of_fields->VG
open Iff renaming rfl->p5
open PySem.Around renaming in1_units->tD,under_plainId->xx,frames_deeper->ag5
open Exists renaming imp->vg,intro->ag9
open List.cons renaming injEq->vv,inj->G1
open PySem.PyData renaming keyHash->Cw,eqv->Lo,eqvAll->afw,depthAll->afx,strOk->afy
open PySem.Builtin.Frozenset renaming isAnySet->CR,unchanged->V6,updateFrom->agx,copyOf->agy,subsetOf->agC,oneOther->agD,addrOf->agE
open Bind renaming bind->CT
open Prod renaming mk->CY,snd->Ln
open PySem.SetTable.below renaming go->F1
open Classical renaming byContradiction->F4
open PySem.SetTable.layClean renaming free->F7
open List.Perm renaming swap->F8,append_left->afK
open ForIn renaming forIn->Ga
open PySem.Builtin.Tuple renaming tupleExact->Gu,tupleHashOf->Lm,tupleItemsOf->afD
open PySem.StrLaws renaming partsFrom->GA,occBody->afY,partsBetween_eq->af1,glued_eq_join->af3
open PyProof.Rows renaming arrOf->GN,seqObj->LN,slot_tuple_getitem->VN,sortedHeap->V2,loadName_read->We,slicePart_none->afV,risingS->agt,IntsAre->ahs
open PySem.Builtin.Slice renaming slicePlaces->Lx,sliceAdjust->VM
open PySem.Builtin.SmallTypes renaming nextOf->LK,ownedTupleHandOut->ago
open PySem.Shared renaming TypeIs->LP,heap->agp
open LawfulMonad renaming bind_assoc->LS,pure_bind->Wn
open PySem.Calls renaming callWith_builtin->LY,callWith_function->Wl,loadGlobal_builtin->agI
open ForInStep renaming yield->L3
open PySem.SetTable.Slot renaming noConfusion->UV
open PySem.SetTable.sizeAbove renaming go->Vf
open PySem.pickOrder renaming go->Vs
open List.Sublist renaming append_left->VD
open Int.ofNat renaming inj->VJ
open PyProof.Rows.F renaming plain_set_update_loop->V5,entry_set_update_loop->agw
open Nat.succ renaming inj->Wm
open And renaming right->Ww,left->WE,intro->aha
open PySem.Challenge renaming pw_sx_r156_2->ae1,rw_sx_r156_2->ahH
open List.Pairwise renaming imp_of_mem->afn
open PySem.isSame renaming created->afF
open String renaming splitOn->agd,splitOnAux->age
open PUnit renaming unit->agA
open PySem.Walks renaming list->agF
open PySem.Builtin.List renaming listSameRef->agG
open PySem.NameKind renaming free->agW
open PySem.Code renaming compLoop->agZ
open PySem.P renaming iadd_int->ag2
open PySem.F renaming store_object->ag3
open PySem.Env renaming blockKind->ag6
abbrev aa:=List Nat
abbrev ah:=aU->bf->Prop
def aE:=@congrArg
def bw:=@if_pos
def eP:=@decide_eq_true
def eT:=@of_decide_eq_true
def f0:=@beq_self_eq_true
def kz:=@beq_eq_false_iff_ne
def nz:=@decide_eq_true_eq
open PySem
noncomputable section
set_option backward.match.sparseCases false
theorem aM{p:Prop}[Decidable p](h:decide p=ak:=by exact .refl ak):p:=eT h
theorem bD{a b c:Nat}(h:a<=b)(hc:b<=c:=by decide):a<=c:=aB h hc
theorem tQ{c a n:Nat}(h:a<=n)(hc:c<=a:=by decide):c<=n:=aB hc h
theorem C4(h:a-k<=m+1)(hk:k<k'):a-k'<=m:=aB (Nat.sub_le_sub_left hk a) (Nat.pred_le_pred h)
theorem Aq(c:Nat)(h:a<=n)(hc:c<=a:=by decide):∃k,n=k+c:=FV (aB hc h)
theorem mG{α:Type}{f g:Nat->α}{n:Nat}(h:(fk n).map f=(fk n).map g)(k)(hk:k<n):f k=g k:=K6.1 h k (mr.2 hk)
theorem Ar{C:Prop}{n k:Nat}(h:k+n<n):C:=absurd h (fZ.2 (ms n k))
theorem Hb(h:p<=q+1)(h':q+(y+1)<=n):p+y<=n:=aB (gD h y) (kY q 1 y▸h')
theorem Mr(h:q+(y+1)<=n)(hm:n<=m:=by decide):q<m:=b7 (b7 (FX (ku _)) h) hm
theorem As{α:Type}{a:List α}{x:α}{y n m:Nat}(h:a.length+(y+1)<=n)(hm:n<=m:=by decide):(a++[x]).length<=m:=bJ▸Mr h hm
theorem vG{α:Type}{c:Prop}[Decidable c]{a b:List α}{n:Nat}(h:a.length<=n)(h':b.length<=n):(if c then a else b).length<=n:=by by_cases e:c;rw[bw e];exact h;rw[if_neg e];exact h'
inductive Ap where
 |l (x:aa)
 |a (s t:Ap)
noncomputable def Ap.ev:Ap->aa
 |.l x=>x
 |.a s t=>s.ev++t.ev
noncomputable def Ap.fl:Ap->aa->aa
 |.l x,r=>x++r
 |.a s t,r=>s.fl (t.fl r)
theorem Ap.ok:∀(t:Ap) r,t.fl r=t.ev++r
 |.l U1=>λU=>rfl
 |.a s t=>λr=>(s.ok _).trans ((aE (s.ev++·) (t.ok r)).trans (b8 ..).symm)
theorem Ap.eq(s t:Ap)(h:s.fl []=t.fl []):s.ev=t.ev:=(eh _).symm.trans ((s.ok []).symm.trans (h.trans ((t.ok []).trans (eh _))))
theorem WU(h:u+a+c*(n+1)<L)(e:b<=a+c:=by decide):u+b+c*n<L:=
 kx (by rw[aeZ,kZ (c*n),<- jg,jg u a];exact gD (iE e u) _) h
theorem Ms(h:s*2<=m)(l:1<=m):s*5<m*3:=ae0 (a:=2) (by
 rw[Nat.mul_right_comm];exact kx (s8 5 h) (Cu m 3 2▸Nat.mul_lt_mul_of_pos_left (by decide) l))
theorem Mt:∀{l:Nat},h-l=n->h<=n->l<=n->l=0
 |0,U1,U2,U3=>rfl
 |l+1,e,a,b=>(UL h).elim (λz=>absurd (aB b (ec (e.symm.trans (by rw[z,Nat.zero_sub])))) (xf l)) λp=>absurd (b7 (UM p (ku l)) a) (fZ.2 (ec e.symm))
theorem Mu{a m b c L:Nat}(h:a+m+b<L)(e:c<=b:=by decide):a+c+m<L:=kY a m c▸kx (iE e _) h
theorem WV(h:a+c*(n+1)<L)(e:p+q<=c:=by decide):a+p+c*n+q<L:=
 kx (by rw[kY a p,jg,aeZ,<- jg a];exact iE e _) h
theorem C5{x y k a b c:Nat}(hx:x+k<=a)(hy:y<=b)(h:a+b<=c):x+y+k<=c:=kY x k y▸aB (jh hx hy) h
theorem Mv{x y k a b c:Nat}(hx:x<=a)(hy:y+k<=b)(h:a+b<=c):x+y+k<=c:=jg x y k▸aB (jh hx hy) h
theorem jS{α:Type}{a b:List α}{m n:Nat}(h:a.length<=m)(h':b.length<=n):(a++b).length<=m+n:=bJ▸jh h h'
theorem jB{a b c L:Nat}(h:a+b<L)(hc:c<=b:=by decide):a+c<L:=kx (iE hc a) h
theorem nI{a b c d L:Nat}(h:a+b<L)(hc:c+d<=b:=by decide):a+c+d<L:=jg a c d▸jB h hc
theorem xP{a b c n L:Nat}(h:a+b+n<L)(hc:c<=b:=by decide):a+c+n<L:=kx (gD (iE hc a) n) h
theorem WW{a b c d n L:Nat}(h:a+b+n<L)(hc:c+d<=b:=by decide):a+c+d+n<L:=jg a c d▸xP h hc
theorem vH{a b c n L:Nat}(h:a+b+n<L)(hc:c<=b:=by decide):a+c<L:=kx (dH _ n) (xP h hc)
theorem Mw{a b n L:Nat}(h:a+n+b<L):a+n<L:=kx (dH _ b) h
theorem a9{p:A->Prop}{g:Prop}(h:∃a,p a)(k:∀a,p a->g):g:=h.elim λa h=>k a h
theorem bm{p q g:Prop}(h:p/\q)(k:p->q->g):g:=k h.1 h.2
theorem jk{p:A->B->Prop}{g:Prop}(h:∃a b,p a b)(k:∀a b,p a b->g):g:=h.elim λa h=>h.elim λb h=>k a b h
theorem ar{p q:A->Prop}{g:Prop}(h:∃a,p a/\q a)(k:∀a,p a->q a->g):g:=h.elim λa h=>k a h.1 h.2
theorem d5{p q r g:Prop}(h:p/\q/\r)(k:p->q->r->g):g:=k h.1 h.2.1 h.2.2
theorem Hc{p:A->B->C->Prop}{g:Prop}(h:∃a b c,p a b c)(k:∀a b c,p a b c->g):g:=h.elim λa h=>h.elim λb h=>h.elim λc h=>k a b c h
theorem eZ{p q:A->B->Prop}{g:Prop}(h:∃a b,p a b/\q a b)(k:∀a b,p a b->q a b->g):g:=h.elim λa h=>h.elim λb h=>k a b h.1 h.2
theorem bx{p q r:A->Prop}{g:Prop}(h:∃a,p a/\q a/\r a)(k:∀a,p a->q a->r a->g):g:=h.elim λa h=>k a h.1 h.2.1 h.2.2
theorem fy{p q r s g:Prop}(h:p/\q/\r/\s)(k:p->q->r->s->g):g:=k h.1 h.2.1 h.2.2.1 h.2.2.2
theorem C6{p:A->B->C->D->Prop}{g:Prop}(h:∃a b c d,p a b c d)(k:∀a b c d,p a b c d->g):g:=h.elim λa h=>h.elim λb h=>h.elim λc h=>h.elim λd h=>k a b c d h
theorem tS{p q:A->B->C->Prop}{g:Prop}(h:∃a b c,p a b c/\q a b c)(k:∀a b c,p a b c->q a b c->g):g:=h.elim λa h=>h.elim λb h=>h.elim λc h=>k a b c h.1 h.2
theorem bX{p q r:A->B->Prop}{g:Prop}(h:∃a b,p a b/\q a b/\r a b)(k:∀a b,p a b->q a b->r a b->g):g:=h.elim λa h=>h.elim λb h=>k a b h.1 h.2.1 h.2.2
theorem cm{p q r s:A->Prop}{g:Prop}(h:∃a,p a/\q a/\r a/\s a)(k:∀a,p a->q a->r a->s a->g):g:=h.elim λa h=>k a h.1 h.2.1 h.2.2.1 h.2.2.2
theorem tT{p q r s t g:Prop}(h:p/\q/\r/\s/\t)(k:p->q->r->s->t->g):g:=k h.1 h.2.1 h.2.2.1 h.2.2.2.1 h.2.2.2.2
theorem WX{p:A->B->C->D->E->Prop}{g:Prop}(h:∃a b c d e,p a b c d e)(k:∀a b c d e,p a b c d e->g):g:=h.elim λa h=>h.elim λb h=>h.elim λc h=>h.elim λd h=>h.elim λe h=>k a b c d e h
theorem At{p q:A->B->C->D->Prop}{g:Prop}(h:∃a b c d,p a b c d/\q a b c d)(k:∀a b c d,p a b c d->q a b c d->g):g:=h.elim λa h=>h.elim λb h=>h.elim λc h=>h.elim λd h=>k a b c d h.1 h.2
theorem kJ{p q r:A->B->C->Prop}{g:Prop}(h:∃a b c,p a b c/\q a b c/\r a b c)(k:∀a b c,p a b c->q a b c->r a b c->g):g:=h.elim λa h=>h.elim λb h=>h.elim λc h=>k a b c h.1 h.2.1 h.2.2
theorem lR{p q r s t:A->Prop}{g:Prop}(h:∃a,p a/\q a/\r a/\s a/\t a)(k:∀a,p a->q a->r a->s a->t a->g):g:=h.elim λa h=>k a h.1 h.2.1 h.2.2.1 h.2.2.2.1 h.2.2.2.2
theorem Mx{p:A->B->C->D->E->F->Prop}{g:Prop}(h:∃a b c d e f,p a b c d e f)(k:∀a b c d e f,p a b c d e f->g):g:=h.elim λa h=>h.elim λb h=>h.elim λc h=>h.elim λd h=>h.elim λe h=>h.elim λf h=>k a b c d e f h
theorem Hd{p q r:A->B->C->D->Prop}{g:Prop}(h:∃a b c d,p a b c d/\q a b c d/\r a b c d)(k:∀a b c d,p a b c d->q a b c d->r a b c d->g):g:=h.elim λa h=>h.elim λb h=>h.elim λc h=>h.elim λd h=>k a b c d h.1 h.2.1 h.2.2
theorem xQ{p q r s:A->B->C->Prop}{g:Prop}(h:∃a b c,p a b c/\q a b c/\r a b c/\s a b c)(k:∀a b c,p a b c->q a b c->r a b c->s a b c->g):g:=h.elim λa h=>h.elim λb h=>h.elim λc h=>k a b c h.1 h.2.1 h.2.2.1 h.2.2.2
theorem My{p q r s t:A->B->Prop}{g:Prop}(h:∃a b,p a b/\q a b/\r a b/\s a b/\t a b)(k:∀a b,p a b->q a b->r a b->s a b->t a b->g):g:=h.elim λa h=>h.elim λb h=>k a b h.1 h.2.1 h.2.2.1 h.2.2.2.1 h.2.2.2.2
theorem xL{p q r s t u:A->Prop}{g:Prop}(h:∃a,p a/\q a/\r a/\s a/\t a/\u a)(k:∀a,p a->q a->r a->s a->t a->u a->g):g:=h.elim λa h=>k a h.1 h.2.1 h.2.2.1 h.2.2.2.1 h.2.2.2.2.1 h.2.2.2.2.2
theorem WY{p q:A->B->C->D->E->F->Prop}{g:Prop}(h:∃a b c d e f,p a b c d e f/\q a b c d e f)(k:∀a b c d e f,p a b c d e f->q a b c d e f->g):g:=h.elim λa h=>h.elim λb h=>h.elim λc h=>h.elim λd h=>h.elim λe h=>h.elim λf h=>k a b c d e f h.1 h.2
theorem vI{p q r s:A->B->C->D->Prop}{g:Prop}(h:∃a b c d,p a b c d/\q a b c d/\r a b c d/\s a b c d)(k:∀a b c d,p a b c d->q a b c d->r a b c d->s a b c d->g):g:=h.elim λa h=>h.elim λb h=>h.elim λc h=>h.elim λd h=>k a b c d h.1 h.2.1 h.2.2.1 h.2.2.2
theorem mH{p q r s t:A->B->C->Prop}{g:Prop}(h:∃a b c,p a b c/\q a b c/\r a b c/\s a b c/\t a b c)(k:∀a b c,p a b c->q a b c->r a b c->s a b c->t a b c->g):g:=h.elim λa h=>h.elim λb h=>h.elim λc h=>k a b c h.1 h.2.1 h.2.2.1 h.2.2.2.1 h.2.2.2.2
theorem Au{p q r s t u:A->B->Prop}{g:Prop}(h:∃a b,p a b/\q a b/\r a b/\s a b/\t a b/\u a b)(k:∀a b,p a b->q a b->r a b->s a b->t a b->u a b->g):g:=h.elim λa h=>h.elim λb h=>k a b h.1 h.2.1 h.2.2.1 h.2.2.2.1 h.2.2.2.2.1 h.2.2.2.2.2
local macro_rules (kind := Lean.Parser.Tactic.rewriteSeq) | s => if s[3].isNone then let m := s[2][1]; let r := m[0]; pure (if m.getNumArgs == 1 then .node .none `Lean.Parser.Tactic.first #[s, Lean.mkNullNode #[Lean.mkNullNode #[s, .node .none `Lean.Parser.Tactic.withReducible #[s, .node .none `Lean.Parser.Tactic.refine #[s, Lean.Syntax.mkApp ⟨Lean.mkIdent (if r[0].isNone then `Eq.substr else `Eq.subst)⟩ #[Lean.Syntax.mkApp ⟨r[1]⟩ #[⟨.node .none `Lean.Parser.Term.ellipsis #[s]⟩], ⟨.node .none `Lean.Parser.Term.syntheticHole #[s, s]⟩]]]], Lean.mkNullNode #[s, s[0]]]] else Lean.mkNullNode #[s.setArg 2 (s[2].setArg 1 (Lean.mkNullNode #[r])), s.setArg 2 (s[2].setArg 1 (Lean.mkNullNode (m.getArgs.extract 2 99)))]) else Lean.Macro.throwUnsupported
local macro_rules (kind := Lean.Parser.Tactic.cases) | s => let h := s[1][0][1]; if h.isIdent && s[3].isNone then pure (.node .none `Lean.Parser.Tactic.first #[s, Lean.mkNullNode #[Lean.mkNullNode #[s, Lean.mkNullNode #[.node .none `Lean.Parser.Tactic.injection #[s, h, Lean.mkNullNode], .node .none `Lean.Parser.Tactic.done #[s]]], Lean.mkNullNode #[s, .node .none `Lean.Parser.Tactic.subst #[s, Lean.mkNullNode #[h]]], Lean.mkNullNode #[s, s[0]]]]) else Lean.Macro.throwUnsupported
local macro_rules (kind := Lean.Parser.Tactic.show) | s => pure (.node .none `Lean.Parser.Tactic.refine #[s, .node .none `Lean.Parser.Term.typeAscription #[s, .node .none `Lean.Parser.Term.syntheticHole #[s, s], s, Lean.mkNullNode #[s[1]], s]])
set_option genInjectivity true in
inductive V where
 |none
 |bool (b:Bool)
 |int (i:Int)
 |str (s:aa)
 |ty (n:String)
 |tup (l:List V)
 |lst (l:List V)
 |set (l:List V)
 deriving Inhabited
abbrev af:=List V
mutual
noncomputable def V.beq:V->V->Bool
 |.none,b=>match b with
  |.none=>ak
  |_=>ap
 |.bool a,b=>match b with
  |.bool b=>a==b
  |_=>ap
 |.int a,b=>match b with
  |.int b=>a==b
  |_=>ap
 |.str a,b=>match b with
  |.str b=>a==b
  |_=>ap
 |.ty a,b=>match b with
  |.ty b=>a==b
  |_=>ap
 |.tup a,b=>match b with
  |.tup b=>V.vA a b
  |_=>ap
 |.lst a,b=>match b with
  |.lst b=>V.vA a b
  |_=>ap
 |.set a,b=>match b with
  |.set b=>V.vA a b
  |_=>ap
noncomputable def V.vA:af->af->Bool
 |[],b=>match b with
  |[]=>ak
  |U1::U2=>ap
 |x::xs,b=>match b with
  |[]=>ap
  |y::ys=>V.beq x y&&V.vA xs ys
end
theorem Mz{P:Prop}(h:ak=ap):P:=(by injection h)
theorem aY{P:Prop}(h:ap=ak):P:=(by injection h)
theorem aI{a b:Bool}(h:(a&&b)=ak):a=ak:=(dM.1 h).1
theorem ax{a b:Bool}(h:(a&&b)=ak):b=ak:=(dM.1 h).2
mutual
theorem V.beq_eq:∀a b,V.beq a b=ak->a=b
 |.none,b,h=>by cases b with | none=>rfl | _=>exact aY h
 |.bool x,b,h=>by cases b with | bool y=>exact aE V.bool (cq h) | _=>exact aY h
 |.int x,b,h=>by cases b with | int y=>exact aE V.int (cq h) | _=>exact aY h
 |.str x,b,h=>by cases b with | str y=>exact aE V.str (cq h) | _=>exact aY h
 |.ty x,b,h=>by cases b with | ty y=>exact aE V.ty (cq h) | _=>exact aY h
 |.tup x,b,h=>by cases b with | tup y=>exact aE V.tup (V.Ha x y h) | _=>exact aY h
 |.lst x,b,h=>by cases b with | lst y=>exact aE V.lst (V.Ha x y h) | _=>exact aY h
 |.set x,b,h=>by cases b with | set y=>exact aE V.set (V.Ha x y h) | _=>exact aY h
theorem V.Ha:∀a b,V.vA a b=ak->a=b
 |[],b,h=>by cases b with | nil=>rfl | cons _ _=>exact aY h
 |x::xs,b,h=>by
  cases b with
  |nil=>exact aY h
  |cons y ys=>exact congr (aE FY (V.beq_eq x y (aI h))) (V.Ha xs ys (ax h))
end
mutual
theorem V.beq_refl:∀a,V.beq a a=ak
 |.none=>rfl
 |.bool x=>f0 x
 |.int x=>f0 x
 |.str x=>f0 x
 |.ty x=>f0 x
 |.tup x=>V.G9 x
 |.lst x=>V.G9 x
 |.set x=>V.G9 x
theorem V.G9:∀a,V.vA a a=ak
 |[]=>rfl
 |x::xs=>dM.2 ⟨V.beq_refl x,V.G9 xs⟩
end
noncomputable instance:DecidableEq V:=λa b=>if h:V.beq a b=ak then isTrue (V.beq_eq a b h) else isFalse λe=>h (e▸V.beq_refl a)
mutual
noncomputable def eX:V->V->Bool
 |.none,b=>match b with
  |.none=>ak
  |_=>ap
 |.bool a,b=>match b with
  |.bool b=>a==b
  |.int b=>(if a then 1 else 0)==b
  |_=>ap
 |.int a,b=>match b with
  |.bool b=>a==(if b then 1 else 0)
  |.int b=>a==b
  |_=>ap
 |.str a,b=>match b with
  |.str b=>a==b
  |_=>ap
 |.ty U1,U2=>ap
 |.tup a,b=>match b with
  |.tup b=>lS a b
  |_=>ap
 |.lst a,b=>match b with
  |.lst b=>lS a b
  |_=>ap
 |.set U1,U2=>ap
noncomputable def lS:af->af->Bool
 |[],b=>match b with
  |[]=>ak
  |U1::U2=>ap
 |x::xs,b=>match b with
  |[]=>ap
  |y::ys=>eX x y&&lS xs ys
end
mutual
noncomputable def dj:V->Bool
 |.none | .bool _ | .int _ | .str _=>ak
 |.tup l | .lst l=>gW l
 |_=>ap
noncomputable def gW:af->Bool
 |[]=>ak
 |x::xs=>dj x&&gW xs
end
mutual
noncomputable def mI:V->Bool
 |.str U1=>ak
 |.tup l=>qe l
 |_=>ap
noncomputable def qe:af->Bool
 |[]=>ak
 |x::xs=>mI x&&qe xs
end
mutual
noncomputable def dm:V->Nat
 |.tup l | .lst l | .set l=>i0 l+1
 |_=>0
noncomputable def i0:af->Nat
 |[]=>0
 |x::xs=>max (dm x) (i0 xs)
end
def dS(x):=mI x&&decide (dm x<=5)
set_option genCtorIdx true in
inductive Sl where
 |un
 |v (x:V)
 |ol (l:af)
 |os (l:af)
 |self
 deriving Inhabited
set_option genCtorIdx true in
inductive jT where
 |one (i:Nat)
 |many (is:aa)
set_option genCtorIdx true in
inductive CO where
 |eq | ne | lt | le | ge | gt | isIn | eo | is | vz
set_option genCtorIdx true in
inductive BO where
 |add | sub | mod | bor | band
set_option genCtorIdx true in
mutual
inductive PE where
 |aR (v:V)
 |var (i:Nat)
 |d4 (n:String)
 |typ (n:String)
 |tup (l:List PE)
 |lst (l:List PE)
 |rG (e:PE)
 |bin (op:BO) (a b:PE)
 |cmp (op:CO) (a b:PE)
 |and (a b:PE)
 |or (a b:PE)
 |not (a:PE)
 |neg (a:PE)
 |idx (a b:PE)
 |gj (a:PE) (lo hi:Option PE)
 |call (f:String) (args:List PE)
 |kG (m:String) (i:Nat)
 |rD (i:Nat)
 |rH (i:Nat)
 |bi (f:String) (args:List PE)
 |sm (m:String) (o:PE) (args:List PE)
 |comp (bk:Bool) (elt:PE) (n:Nat) (gens:List PG)
inductive PI where
 |e (x:PE)
 |enum (x:PE)
 |zip (a b:PE)
 |range (x:PE)
inductive PG where
 |mk (t:jT) (it:PI) (ifs:List PE)
end
inductive PS where
 |asg (i:Nat) (e:PE)
 |nG (is:aa) (e:PE)
 |kH (i:Nat)
 |tJ (i:Nat)
 |vC (i:Nat) (e:PE)
 |jj (i:Nat)
 |app (i:Nat) (e:PE)
 |vB (i:Nat) (e:PE)
 |vD (i:Nat) (e:PE)
 |aug (i:Nat) (e:PE)
 |oQ (i:Nat) (e:PE)
 |ite (t:PE) (a b:List PS)
 |jy (t:PE) (b:List PS)
 |iI (t:jT) (it:PI) (b:List PS)
 |ret (e:PE)
 |raise (e:PE)
 |brk
 |cont
 |rC (b h:List PS)
noncomputable def tU(s p:aa)(i):=decide (i+p.length<=s.length)&&((s.drop i).take p.length==p)
noncomputable def i3(s p:aa):=decide (p.length<=s.length)&&(s.drop (s.length-p.length)==p)
noncomputable def iK(sep:aa):aa->Nat->aa->List aa
 |[],U1,cur=>[cur]
 |U1::s,k+1,cur=>iK sep s k cur
 |c::s,0,cur=>if sep.isPrefixOf (c::s) then cur::iK sep s (sep.length-1) [] else iK sep s 0 (cur++[c])
theorem WZ{sep:aa}{k:Nat}{cur:aa}:iK sep [] k cur=[cur]:=rfl
theorem W0{sep:aa}{c k:Nat}{s cur:aa}:iK sep (c::s) (k+1) cur=iK sep s k cur:=rfl
theorem W1{sep:aa}{c:Nat}{s cur:aa}:iK sep (c::s) 0 cur=if sep.isPrefixOf (c::s) then cur::iK sep s (sep.length-1) [] else iK sep s 0 (cur++[c]):=rfl
theorem He{sep:aa}{c:Nat}{s cur:aa}(h:sep.isPrefixOf (c::s)=ak):iK sep (c::s) 0 cur=cur::iK sep s (sep.length-1) []:=bw h
theorem Av{sep:aa}{c:Nat}{s cur:aa}(h:¬sep.isPrefixOf (c::s)=ak):iK sep (c::s) 0 cur=iK sep s 0 (cur++[c]):=if_neg h
theorem split_len(sep):∀s k cur,(iK sep s k cur).length<=s.length+1/\∀x∈iK sep s k cur,x.length<=s.length+cur.length
 |[],U1=>λU=>⟨aV 1,λU hx=>en.1 hx▸ms _ _⟩
 |c::s,k+1=>λcur=>have g:=split_len sep s k cur;⟨eU g.1,λx hx=>aB (g.2 x hx) (gD (dT _) _)⟩
 |c::s,0=>λcur=>by
  by_cases e:sep.isPrefixOf (c::s)=ak
  .have g:=split_len sep s (sep.length-1) [];rw[He e];exact ⟨cr g.1,λx hx=>(cD.1 hx).elim (λe=>e▸ms _ _) λhx=>aB (g.2 x hx) (aB (dT _) (dH _ _))⟩
  .have g:=split_len sep s 0 (cur++[c]);rw[Av e];exact ⟨eU g.1,λx hx=>aB (g.2 x hx) (ec ((aE (s.length+·) bJ).trans (kY s.length cur.length 1)))⟩
def fH(s sep):=iK sep s 0 []
noncomputable def cK(a b:aa):aa->aa
 |[]=>[]
 |c::s=>if a.isPrefixOf (c::s) then b++(c::s).drop a.length else c::cK a b s
theorem MA{a b:aa}{c:Nat}{s:aa}:cK a b (c::s)=if a.isPrefixOf (c::s) then b++(c::s).drop a.length else c::cK a b s:=rfl
theorem C7{a b:aa}{c:Nat}{s:aa}(h:¬a.isPrefixOf (c::s)=ak):cK a b (c::s)=c::cK a b s:=if_neg h
noncomputable def iL(s cs:aa):=((s.dropWhile (cs.contains ·)).reverse.dropWhile (cs.contains ·)).reverse
noncomputable def gL(sep:aa):List aa->aa
 |[]=>[]
 |[x]=>x
 |x::y::r=>x++sep++gL sep (y::r)
noncomputable def lT(p:aa):aa->Bool
 |[]=>p.isEmpty
 |c::s=>p.isPrefixOf (c::s)||lT p s
theorem MB{p:aa}{c:Nat}{s:aa}:lT p (c::s)=(p.isPrefixOf (c::s)||lT p s):=rfl
noncomputable def iM:aa->aa->Bool
 |[],U1=>ak
 |U1::U2,[]=>ap
 |a::s,b::t=>decide (a<b)||(a==b&&iM s t)
noncomputable def oY(x:aa):List aa->List aa
 |[]=>[x]
 |y::r=>if iM x y then x::y::r else y::oY x r
noncomputable def ik:List aa->List aa
 |[]=>[]
 |x::r=>oY x (ik r)
noncomputable def jC:af->Option (List aa)
 |[]=>aj []
 |.str s::r=>(jC r).map (s::·)
 |U1::U2=>am
noncomputable def qf(n:Nat)(i:Int):=(if i<0 then max (i+n) 0 else min i n).toNat
def eR(n:Nat):Option Int->Nat
 |Option.none=>0
 |some i=>qf n i
def gq(n:Nat):Option Int->Nat
 |Option.none=>n
 |some i=>qf n i
def cut{α:Type}(l:List α)(lo hi):=(l.take (gq l.length hi)).drop (eR l.length lo)
def eH(l:af):af:=l.foldl (λacc x=>if acc.contains x then acc else acc++[x]) []
noncomputable def kK:=2000
def qg(l:af):Option V:=if l.all dS&&decide ((eH l).length<=kK) then aj (.set (eH l)) else am
noncomputable def ck:V->Bool
 |.none=>ap
 |.bool b=>b
 |.int i=>i != 0
 |.str s=>!s.isEmpty
 |.ty U1=>ak
 |.tup l | .lst l | .set l=>!l.isEmpty
noncomputable def C8:V->String
 |.none=>"NoneType"
 |.bool U1=>"bool"
 |.int U1=>"int"
 |.str U1=>"str"
 |.ty U1=>"type"
 |.tup U1=>"tuple"
 |.lst U1=>"list"
 |.set U1=>"set"
noncomputable def jD:V->Option aa
 |.str i=>aj i
 |_=>am
noncomputable def jE:V->Option af
 |.lst i=>aj i
 |_=>am
noncomputable def rJ:V->Option af
 |.tup i=>aj i
 |_=>am
noncomputable def mJ:V->Option af
 |.set i=>aj i
 |_=>am
noncomputable def fu:V->Option Int
 |.int i=>aj i
 |_=>am
theorem no{α:Type}{r:α}{P:Prop}(h:am=aj r):P:=nomatch h
theorem Hf{x:V}{s:aa}(h:jD x=aj s):x=.str s:=by cases x with | str i=>exact aE V.str (aZ h) | _=>exact no h
theorem C9{x:V}{s:Int}(h:fu x=aj s):x=.int s:=by cases x with | int i=>exact aE V.int (aZ h) | _=>exact no h
theorem Hg{x:V}{s:af}(h:jE x=aj s):x=.lst s:=by cases x with | lst i=>exact aE V.lst (aZ h) | _=>exact no h
theorem MC{x:V}{s:af}(h:rJ x=aj s):x=.tup s:=by cases x with | tup i=>exact aE V.tup (aZ h) | _=>exact no h
theorem Aw{x:V}{s:af}(h:mJ x=aj s):x=.set s:=by cases x with | set i=>exact aE V.set (aZ h) | _=>exact no h
theorem xR:∀{l:af} {ss:List aa},jC l=aj ss->l=ss.map V.str
 |[],U1,h=>aZ h▸rfl
 |x::l,U1,h=>by cases x with
  |str s=>exact ar (g7.1 h) λr e e2=>by rw[<- e2,xR e];rfl
  |_=>exact no h
theorem tW{β:Type}{x:V}{f:aa->β}{r:β}(h:(jD x).map f=aj r):∃p,x=.str p/\f p=r:=ar (g7.1 h) λp a b=>⟨p,Hf a,b⟩
theorem Dc{β:Type}{x:V}{f:aa->Option β}{r:β}(h:(jD x).bind f=aj r):∃p,x=.str p/\f p=aj r:=ar (vb.1 h) λp a b=>⟨p,Hf a,b⟩
theorem xS{β:Type}{x:V}{f:Int->β}{r:β}(h:(fu x).map f=aj r):∃p,x=.int p/\f p=r:=ar (g7.1 h) λp a b=>⟨p,C9 a,b⟩
theorem rL{β:Type}{x:V}{f:Int->Option β}{r:β}(h:(fu x).bind f=aj r):∃p,x=.int p/\f p=aj r:=ar (vb.1 h) λp a b=>⟨p,C9 a,b⟩
theorem W2{β:Type}{x:V}{f:af->β}{r:β}(h:(rJ x).map f=aj r):∃p,x=.tup p/\f p=r:=ar (g7.1 h) λp a b=>⟨p,MC a,b⟩
theorem W3{β:Type}{x:V}{f:af->β}{r:β}(h:(jE x).map f=aj r):∃p,x=.lst p/\f p=r:=ar (g7.1 h) λp a b=>⟨p,Hg a,b⟩
theorem W5{β:Type}{x:V}{f:af->Option β}{r:β}(h:(jE x).bind f=aj r):∃p,x=.lst p/\f p=aj r:=ar (vb.1 h) λp a b=>⟨p,Hg a,b⟩
theorem W6{β:Type}{x:V}{f:af->β}{r:β}(h:(mJ x).map f=aj r):∃p,x=.set p/\f p=r:=ar (g7.1 h) λp a b=>⟨p,Aw a,b⟩
theorem Dd{β:Type}{x:V}{f:af->Option β}{r:β}(h:(mJ x).bind f=aj r):∃p,x=.set p/\f p=aj r:=ar (vb.1 h) λp a b=>⟨p,Aw a,b⟩
theorem mK{α:Type}{c:Prop}[Decidable c]{a:Option α}{r:α}(h:(if c then a else am)=aj r):c/\a=aj r:=by
 by_cases e:c
 .rw[bw e] at h;exact ⟨e,h⟩
 .rw[if_neg e] at h;exact no h
theorem MD{α:Type}{c:Prop}[Decidable c]{a:Option α}{r:α}(h:(if c then am else a)=aj r):¬c/\a=aj r:=by
 by_cases e:c
 .rw[bw e] at h;exact no h
 .rw[if_neg e] at h;exact ⟨e,h⟩
def W7(a b:V):Option V:=match a with
 |.int a=>(fu b).map λb=>.int (a+b)
 |.str a=>(jD b).map λb=>.str (a++b)
 |.tup a=>(rJ b).map λb=>.tup (a++b)
 |.lst a=>(jE b).map λb=>.lst (a++b)
 |_=>am
def jU(op:BO)(a b:V):Option V:=match op with
 |.add=>W7 a b
 |.sub=>(fu a).bind λa=>(fu b).map λb=>.int (a-b)
 |.mod=>(fu a).bind λa=>(fu b).bind λb=>if 0<b then aj (.int (a%b)) else am
 |.bor=>(mJ a).bind λa=>(mJ b).bind λb=>if decide ((a++b.filter λx=>!a.contains x).length<=kK) then aj (.set (a++b.filter λx=>!a.contains x)) else am
 |.band=>(mJ a).bind λa=>(mJ b).bind λb=>if decide (a.length<=kK) then aj (.set (a.filter λx=>b.contains x)) else am
def Ax(x)(l):=if dj x&&gW l&&decide (min (i0 l) (dm x)<=100) then aj (l.any λy=>eX y x) else am
def De(x y:V):=match y with
 |.str b=>(jD x).map λa=>lT a b
 |.tup l=>Ax x l
 |.lst l=>Ax x l
 |.set l=>(jD x).map λa=>l.contains (.str a)
 |_=>am
noncomputable def W8:V->Bool
 |.none=>ak
 |_=>ap
noncomputable def qd(n:String):V->Option Bool
 |.ty m=>aj (m==n)
 |_=>am
def Ay(a b:V):=match b with
 |.none=>aj (W8 a)
 |.ty n=>qd n a
 |_=>am
def Az(a b):=if dj a&&dj b&&decide (min (dm a) (dm b)<=100) then aj (eX a b) else am
def W9(a b:V):Option Bool:=match a with
 |.int a=>(fu b).map λb=>decide (a<=b)
 |.set a=>(mJ b).map λb=>a.all λx=>b.contains x
 |_=>am
def cy(op:CO)(a b:V):=match op with
 |.eq=>Az a b
 |.ne=>(Az a b).map (!·)
 |.lt=>(fu a).bind λa=>(fu b).map λb=>decide (a<b)
 |.le=>W9 a b
 |.gt=>(fu a).bind λa=>(fu b).map λb=>decide (b<a)
 |.ge=>(fu a).bind λa=>(fu b).map λb=>decide (b<=a)
 |.isIn=>De a b
 |.eo=>(De a b).map (!·)
 |.is=>Ay a b
 |.vz=>(Ay a b).map (!·)
noncomputable def ME(x:V)(k:Nat):=match x with
 |.tup l=>l[k]?
 |.lst l=>l[k]?
 |.str s=>(s[k]?).map λc=>.str [c]
 |_=>am
def dN(x y):=(fu y).bind λi=>if 0<=i then ME x i.toNat else am
theorem MF{x y r:V}(h:dN x y=aj r):∃k:Nat,y=.int k/\ME x k=aj r:=ar (rL h) λi e h=>by
 by_cases c:0<=i
 .rw[bw c] at h;exact ⟨i.toNat,e.trans (aE V.int (UN c).symm),h⟩
 .rw[if_neg c] at h;exact no h
def kL:V->Option Int->Option Int->Option V
 |.str s,lo,hi=>aj (.str (cut s lo hi))
 |.tup s,lo,hi=>aj (.tup (cut s lo hi))
 |.lst s,lo,hi=>aj (.lst (cut s lo hi))
 |U1,U2,U3=>am
noncomputable def AA(s):=if s=[44] then aj [103,114,111,117,112] else if s=[124] then aj [99,104,111,105,99,101] else if s=[38] then aj [105,110,116,101,114,108,101,97,118,101] else am
noncomputable def xT:V->Bool
 |.bool U1=>ak
 |_=>ap
noncomputable def one(g:V->Option V):af->Option V
 |[x]=>g x
 |_=>am
noncomputable def Hh:V->Option V
 |.str s=>aj (.int s.length)
 |.tup s=>aj (.int s.length)
 |.lst s=>aj (.int s.length)
 |_=>am
def MG:V->Option V
 |.lst l=>qg l
 |.tup l=>qg l
 |_=>am
noncomputable def MH:V->Option V
 |.tup l=>aj (.lst l)
 |_=>am
def xU(l:af):Option V:=if l.length<64 then (jC l).map λs=>.lst ((ik s).map .str) else am
def MI:V->Option V
 |.lst l=>xU l
 |.set l=>xU l
 |_=>am
noncomputable def MJ:V->Option V
 |.set l=>aj (.bool (!l.isEmpty))
 |_=>am
noncomputable def Hi:V->Option V
 |.str U1=>aj (.bool ak)
 |.tup U1=>aj (.bool ap)
 |_=>am
def Xa:af->Option V
 |[x,.ty n]=>if n="str" then Hi x else am
 |_=>am
def allB:V->Option V
 |.lst l=>if l.all xT then aj (.bool (l.all ck)) else am
 |_=>am
def anyB:V->Option V
 |.lst l=>if l.all xT then aj (.bool (l.any ck)) else am
 |_=>am
def MK:V->Option V
 |.str s=>(AA s).map .str
 |_=>am
def fX(f:String)(vs:af):=match f with
 |"len"=>one Hh vs
 |"set"=>one MG vs
 |"list"=>one MH vs
 |"sorted"=>one MI vs
 |"bool"=>one MJ vs
 |"type"=>one (λv=>aj (.ty (C8 v))) vs
 |"isinstance"=>Xa vs
 |"all"=>one allB vs
 |"any"=>one anyB vs
 |"_KIND"=>one MK vs
 |_=>am
theorem xV{g:V->Option V}{xs:af}{r:V}(h:one g xs=aj r):∃x,xs=[x]/\g x=aj r:=match xs,h with
 |[x],h=>⟨x,rfl,h⟩
def Xb(s:aa):af->Option V
 |[x]=>(jD x).map λp=>.bool (tU s p 0)
 |[x,y]=>(jD x).bind λp=>(fu y).bind λi=>if 0<=i then aj (.bool (tU s p i.toNat)) else am
 |_=>am
def Xc(s:aa):af->Option V
 |[x,y,z]=>(jD x).bind λa=>(jD y).bind λb=>(fu z).bind λk=>if k=1 then (if a.isEmpty||a==b then am else aj (.str (cK a b s))) else am
 |_=>am
def mL(m:String)(s:aa)(vs:af):=match m with
 |"startswith"=>Xb s vs
 |"endswith"=>one (λx=>(jD x).map λp=>.bool (i3 s p)) vs
 |"split"=>one (λx=>(jD x).bind λp=>if p.isEmpty then am else aj (.lst ((fH s p).map .str))) vs
 |"strip"=>one (λx=>(jD x).map λp=>.str (iL s p)) vs
 |"replace"=>Xc s vs
 |"join"=>one (λx=>(jE x).bind λl=>(jC l).map λss=>.str (gL s ss)) vs
 |_=>am
noncomputable def ci:=100000
def cz:V->Bool
 |.str s=>decide (s.length<=ci)
 |.tup l | .lst l | .set l=>decide (l.length<=ci)
 |.int i=>decide (i.natAbs<=ci)
 |_=>ak
section
abbrev Pz:=Option (af×Int)
abbrev bj:=List Sl
abbrev i4:=V->Pz->Prop
inductive Fl where
 |next | brk | cont | ret (v:V)
abbrev lm:=Fl->bj->Pz->Prop
abbrev Calls:=String->af->Pz->i4->Prop->Prop
noncomputable def mM{S:Type}(step:V->S->(S->Prop)->Prop):af->S->(S->Prop)->Prop
 |[],s,K=>K s
 |x::xs,s,K=>step x s λs'=>mM step xs s' K
def gM:jT->V->bj->(bj->Prop)->Prop
 |.one i,v,ρ,K=>K (ρ.set i (.v v))
 |.many is,.tup l,ρ,K=>is.length=l.length/\K ((is.zip l).foldl (λr p=>r.set p.1 (.v p.2)) ρ)
 |.many U1,U2,U3,U4=>False
def ex{α:Type}:Option α->(α->Prop)->Prop
 |some a,k=>k a
 |Option.none,U1=>False
def gd:Bool->Prop->Prop
 |true,p=>p
 |false,U1=>False
noncomputable def xW(l:af):af:=l.zipIdx.map λp=>.tup [.int p.2,p.1]
noncomputable def tX(l m:af):af:=(l.zip m).map λp=>.tup [p.1,p.2]
noncomputable def tY(n:Int):=(fk n.toNat).map λ(k:Nat)=>V.int (k:Int)
noncomputable def Xd(x:Sl):Option V:=Sl.casesOn x am aj (λU=>am) (λU=>am) am
noncomputable def Xe(x:Sl):Option af:=Sl.casesOn x am (λU=>am) aj (λU=>am) am
noncomputable def Xf(x:Sl):Option af:=Sl.casesOn x am (λU=>am) (λU=>am) aj am
def vJ(ρ:bj)(i:Nat):=ρ[i]?.bind Xd
noncomputable def kM(ρ:bj)(i:Nat):=ρ[i]?.any λx=>x.ctorIdx==4
def AB(ρ:bj)(i:Nat):=ρ[i]?.bind Xe
def qh(ρ:bj)(i:Nat):Option af:=ρ[i]?.bind Xf
theorem ML{ρ:bj}{i:Nat}{v:V}(h:vJ ρ i=aj v):ρ[i]?=aj (.v v):=ar (vb.1 h) λx e h=>by
 cases x with
 |v y=>exact e.trans (aE (λz=>aj (Sl.v z)) (aZ h))
 |_=>exact no h
theorem Xg{ρ:bj}{i:Nat}{l:af}(h:AB ρ i=aj l):ρ[i]?=aj (.ol l):=ar (vb.1 h) λx e h=>by
 cases x with
 |ol y=>exact e.trans (aE (λz=>aj (Sl.ol z)) (aZ h))
 |_=>exact no h
theorem Xh{ρ:bj}{i:Nat}{l:af}(h:qh ρ i=aj l):ρ[i]?=aj (.os l):=ar (vb.1 h) λx e h=>by
 cases x with
 |os y=>exact e.trans (aE (λz=>aj (Sl.os z)) (aZ h))
 |_=>exact no h
noncomputable def im:Sl->Sl
 |.ol U1=>.un
 |.os U1=>.un
 |x=>x
def dO(bk:Bool)(l):=if bk then l.all dS&&decide ((eH l).length<=kK) else decide (l.length<=ci)
def nJ(bk:Bool)(l:af):V:=if bk then .set (eH l) else .lst l
structure CS where
 ρ:bj
 σ:Pz
 acc:af
theorem fO{α:Type}{o:Option α}{k:α->Prop}:ex o k<->∃a,o=aj a/\k a:=by
 cases o with
 |none=>exact ⟨gE,λ⟨_,h,_⟩=>(by injection h)⟩
 |some a=>exact ⟨λh=>⟨a,rfl,h⟩,λ⟨_,h,hk⟩=>aZ h▸hk⟩
theorem AC{α:Type}{o:Option α}{k:α->Prop}{a:α}(h:o=aj a)(hk:k a):ex o k:=h▸hk
theorem jV{b:Bool}{p:Prop}:gd b p<->b=ak/\p:=by
 cases b with
 |false=>exact ⟨gE,λh=>nomatch h.1⟩
 |true=>exact ⟨λh=>⟨rfl,h⟩,λh=>h.2⟩
theorem cF{α:Type}{o:Option α}{k k':α->Prop}(hk:∀a,k a->k' a)(h:ex o k):ex o k':=match o,h with
 |some a,h=>hk a h
theorem jW{b:Bool}{p p':Prop}(hp:p->p')(h:gd b p):gd b p':=match b,h with
 |true,h=>hp h
theorem Xi{x:V}{k:aa->Prop}(h:ex (jD x) k):∃s,x=.str s/\k s:=(fO.1 h).imp λU h=>⟨Hf h.1,h.2⟩
theorem AD{x:V}{k:Int->Prop}(h:ex (fu x) k):∃s,x=.int s/\k s:=(fO.1 h).imp λU h=>⟨C9 h.1,h.2⟩
theorem Hj{x:V}{k:af->Prop}(h:ex (jE x) k):∃s,x=.lst s/\k s:=(fO.1 h).imp λU h=>⟨Hg h.1,h.2⟩
theorem Xj{x:V}{k:af->Prop}(h:ex (rJ x) k):∃s,x=.tup s/\k s:=(fO.1 h).imp λU h=>⟨MC h.1,h.2⟩
theorem Xk{x:V}{k:af->Prop}(h:ex (mJ x) k):∃s,x=.set s/\k s:=(fO.1 h).imp λU h=>⟨Aw h.1,h.2⟩
theorem Hk{b:Bool}{σ:Pz}{k:af×Int->Prop}(h:gd b (ex σ k)):b=ak/\∃t i,σ=aj (t,i)/\k (t,i):=
 ⟨(jV.1 h).1,let ⟨⟨t,i⟩,h1,h2⟩:=fO.1 (jV.1 h).2;⟨t,i,h1,h2⟩⟩
variable (F:Calls)(gl:String->Option V)
mutual
noncomputable def EW:PE->bj->Pz->i4->Prop->Prop
 |.aR v,U1,σ,Q,U2=>Q v σ
 |.var i,ρ,σ,Q,U1=>ex (vJ ρ i) λv=>Q v σ
 |.d4 n,U1,σ,Q,U2=>ex (gl n) λv=>Q v σ
 |.typ n,U1,σ,Q,U2=>Q (.ty n) σ
 |.tup es,ρ,σ,Q,X=>lU es ρ σ (λvs ay=>Q (.tup vs) ay) X
 |.lst es,ρ,σ,Q,X=>lU es ρ σ (λvs ay=>Q (.lst vs) ay) X
 |.rG e,ρ,σ,Q,X=>EW e ρ σ (λv ay=>dS v=ak/\Q (.set [v]) ay) X
 |.bin op a b,ρ,σ,Q,X=>EW a ρ σ (λx aO=>EW b ρ aO (λy cb=>ex (jU op x y) λr=>cz r=ak/\Q r cb) X) X
 |.cmp op a b,ρ,σ,Q,X=>EW a ρ σ (λx aO=>EW b ρ aO (λy cb=>ex (cy op x y) λr=>Q (.bool r) cb) X) X
 |.and a b,ρ,σ,Q,X=>EW a ρ σ (λx aO=>if ck x=ak then EW b ρ aO Q X else Q x aO) X
 |.or a b,ρ,σ,Q,X=>EW a ρ σ (λx aO=>if ck x=ak then Q x aO else EW b ρ aO Q X) X
 |.not a,ρ,σ,Q,X=>EW a ρ σ (λx aO=>Q (.bool (!ck x)) aO) X
 |.neg a,ρ,σ,Q,X=>EW a ρ σ (λx aO=>ex (fu x) λi=>cz x=ak/\Q (.int (-i)) aO) X
 |.idx a b,ρ,σ,Q,X=>EW a ρ σ (λx aO=>EW b ρ aO (λy cb=>ex (dN x y) λr=>Q r cb) X) X
 |.gj a lo hi,ρ,σ,Q,X=>EW a ρ σ (λx aO=>xX lo ρ aO (λl cb=>xX hi ρ cb (λh cC=>ex (kL x l h) λr=>Q r cC) X) X) X
 |.call f es,ρ,σ,Q,X=>lU es ρ σ (λvs ay=>F f vs am (λv U=>Q v ay) X) X
 |.kG m i,ρ,σ,Q,X=>gd (kM ρ i) (gd σ.isSome (F m [] σ Q X))
 |.rD i,ρ,σ,Q,U1=>gd (kM ρ i) (ex σ λp=>Q (.lst p.1) σ)
 |.rH i,ρ,σ,Q,U1=>gd (kM ρ i) (ex σ λp=>Q (.int p.2) σ)
 |.bi f es,ρ,σ,Q,X=>lU es ρ σ (λvs ay=>ex (fX f vs) λr=>Q r ay) X
 |.sm m o es,ρ,σ,Q,X=>EW o ρ σ (λx aO=>ex (jD x) λs=>lU es ρ aO (λvs ay=>ex (mL m s vs) λr=>cz r=ak/\Q r ay) X) X
 |.comp bk elt n gens,ρ,σ,Q,X=>
   GW (dO bk) (EW elt) gens ⟨ρ.map im++cU n .un,σ,[]⟩ (λc=>Q (nJ bk c.acc) c.σ) False
noncomputable def lU:List PE->bj->Pz->(af->Pz->Prop)->Prop->Prop
 |[],U1,σ,Q,U2=>Q [] σ
 |e::es,ρ,σ,Q,X=>EW e ρ σ (λv aO=>lU es ρ aO (λvs cb=>Q (v::vs) cb) X) X
noncomputable def xX:Option PE->bj->Pz->(Option Int->Pz->Prop)->Prop->Prop
 |Option.none,U1,σ,Q,U2=>Q am σ
 |some e,ρ,σ,Q,X=>EW e ρ σ (λv aO=>ex (fu v) λi=>cz (.int i)=ak/\Q (aj i) aO) X
noncomputable def IW:PI->bj->Pz->(af->Pz->Prop)->Prop->Prop
 |.e x,ρ,σ,Q,X=>EW x ρ σ (λv aO=>match v with
   |.lst l=>Q l aO
   |.tup l=>Q l aO
   |.set l=>∀l',l'.Perm l->Q l' aO
   |_=>False) X
 |.enum x,ρ,σ,Q,X=>EW x ρ σ (λv aO=>ex (jE v) λl=>Q (xW l) aO) X
 |.zip a b,ρ,σ,Q,X=>EW a ρ σ (λx aO=>EW b ρ aO (λy cb=>ex (rJ x) λl=>ex (jE y) λm=>Q (tX l m) cb) X) X
 |.range x,ρ,σ,Q,X=>EW x ρ σ (λv aO=>ex (fu v) λn=>cz v=ak/\Q (tY n) aO) X
noncomputable def TW:List PE->bj->Pz->(Bool->Pz->Prop)->Prop->Prop
 |[],U1,σ,K,U2=>K ak σ
 |t::ts,ρ,σ,K,X=>EW t ρ σ (λv aO=>if ck v=ak then TW ts ρ aO K X else K ap aO) X
noncomputable def GW(ok:af->Bool)(elt:bj->Pz->i4->Prop->Prop):List PG->CS->(CS->Prop)->Prop->Prop
 |[],c,K,X=>elt c.ρ c.σ (λv ay=>ok (c.acc++[v])=ak/\K ⟨c.ρ,ay,c.acc++[v]⟩) X
 |.mk t it ifs::gs,c,K,X=>IW it c.ρ c.σ (λitems ay=>
   mM (λx dv gK=>gM t x dv.ρ λbt=>TW ifs bt dv.σ (λb cC=>if b=ak then GW ok elt gs ⟨bt,cC,dv.acc⟩ gK X else gK ⟨bt,cC,dv.acc⟩) X) items ⟨c.ρ,ay,c.acc⟩ K) X
end
noncomputable def xY(test:bj->Pz->(Bool->Pz->Prop)->Prop)(body:bj->Pz->lm->Prop):Nat->bj->Pz->lm->Prop
 |0,U1,U2,U3=>False
 |n+1,ρ,σ,K=>test ρ σ λb aO=>if b=ak then body ρ aO (λf bt cb=>match f with
   |.next=>xY test body n bt cb K
   |.cont=>xY test body n bt cb K
   |.brk=>K .next bt cb
   |.ret v=>K (.ret v) bt cb) else K .next ρ aO
noncomputable def rM(bd:V->bj->Pz->lm->Prop):af->bj->Pz->lm->Prop
 |[],ρ,σ,K=>K .next ρ σ
 |x::xs,ρ,σ,K=>bd x ρ σ λf bt cb=>match f with
   |.next=>rM bd xs bt cb K
   |.cont=>rM bd xs bt cb K
   |.brk=>K .next bt cb
   |.ret v=>K (.ret v) bt cb
noncomputable def tZ:Sl->Bool
 |.ol U1=>ap
 |_=>ak
noncomputable def xZ:Sl->Bool
 |.os U1=>ap
 |_=>ak
noncomputable def t0:Sl->Sl
 |.v (.bool b)=>.v (.bool b)
 |_=>.un
noncomputable def x3(ρ:bj)(i:Nat):Option V:=ρ[i]?.bind λx=>Sl.casesOn x am (λU=>am) (λl=>aj (.lst l)) (λl=>aj (.set l)) am
def dI(l:af)(v:V):=if l.contains v then l else l++[v]
def bI(l m:af):=l++m.filter λx=>!l.contains x
mutual
noncomputable def SW:PS->bj->Pz->lm->(bj->Prop)->Prop
 |.asg i e,ρ,σ,K,X=>EW F gl e ρ σ (λv ay=>K .next (ρ.set i (.v v)) ay) (X ρ)
 |.nG is e,ρ,σ,K,X=>EW F gl e ρ σ (λv ay=>gM (.many is) v ρ λaS=>K .next aS ay) (X ρ)
 |.kH i,ρ,σ,K,U1=>gd (ρ.all tZ) (K .next (ρ.set i (.ol [])) σ)
 |.tJ i,ρ,σ,K,U1=>gd (ρ.all xZ) (K .next (ρ.set i (.os [])) σ)
 |.vC i e,ρ,σ,K,X=>EW F gl e ρ σ (λv ay=>F "_tokens" [v] am (λt U=>ex (jE t) λl=>gd ay.isNone (K .next (ρ.set i .self) (aj (l,0)))) (X ρ)) (X ρ)
 |.jj i,ρ,σ,K,U1=>ex (x3 ρ i) λv=>K .next (ρ.set i (.v v)) σ
 |.app i e,ρ,σ,K,X=>ex (AB ρ i) λl=>EW F gl e ρ σ (λv ay=>cz (.lst (l++[v]))=ak/\K .next (ρ.set i (.ol (l++[v]))) ay) (X ρ)
 |.vB i e,ρ,σ,K,X=>ex (qh ρ i) λl=>EW F gl e ρ σ (λv ay=>dS v=ak/\l.length<kK/\K .next (ρ.set i (.os (dI l v))) ay) (X ρ)
 |.vD i e,ρ,σ,K,X=>ex (qh ρ i) λl=>EW F gl e ρ σ (λv ay=>ex (mJ v) λm=>(bI l m).length<=kK/\K .next (ρ.set i (.os (bI l m))) ay) (X ρ)
 |.aug i e,ρ,σ,K,X=>EW F gl e ρ σ (λv ay=>ex (vJ ρ i) λx=>ex (fu x) λa=>ex (fu v) λb=>cz (.int (a+b))=ak/\K .next (ρ.set i (.v (.int (a+b)))) ay) (X ρ)
 |.oQ i e,ρ,σ,K,X=>EW F gl e ρ σ (λv ay=>gd (kM ρ i) (ex ay λp=>ex (fu v) λb=>cz (.int (p.2+b))=ak/\K .next ρ (aj (p.1,p.2+b)))) (X ρ)
 |.ite t a b,ρ,σ,K,X=>EW F gl t ρ σ (λv ay=>if ck v=ak then cV a ρ ay K X else cV b ρ ay K X) (X ρ)
 |.jy t b,ρ,σ,K,X=>∃n,xY (λρ σ Q=>EW F gl t ρ σ (λv ay=>Q (ck v) ay) (X ρ)) (λρ σ K=>cV b ρ σ K X) n ρ σ K
 |.iI t it b,ρ,σ,K,X=>IW F gl it ρ σ (λitems ay=>rM (λx ρ σ K=>gM t x ρ λbt=>cV b bt σ K X) items ρ ay K) (X ρ)
 |.ret e,ρ,σ,K,X=>EW F gl e ρ σ (λv ay=>K (.ret v) ρ ay) (X ρ)
 |.raise e,ρ,σ,U1,X=>EW F gl e ρ σ (λU U=>X ρ) (X ρ)
 |.brk,ρ,σ,K,U1=>K .brk ρ σ
 |.cont,ρ,σ,K,U1=>K .cont ρ σ
 |.rC b h,ρ,σ,K,X=>σ=am/\∃i v,h=[.asg i (.aR v)]/\cV b ρ σ K (λaS=>K .next ((aS.map t0).set i (.v v)) am)
noncomputable def cV:List PS->bj->Pz->lm->(bj->Prop)->Prop
 |[],ρ,σ,K,U1=>K .next ρ σ
 |s::r,ρ,σ,K,X=>SW s ρ σ (λf aS ay=>match f with
   |.next=>cV r aS ay K X
   |.brk=>K .brk aS ay
   |.cont=>K .cont aS ay
   |.ret v=>K (.ret v) aS ay) X
end
structure Fn where
 np:Nat
 nl:Nat
 body:List PS
 cj:Bool
def iN(Q:i4):lm:=λfl U ay=>match fl with
 |.ret v=>Q v ay
 |.next=>Q .none ay
 |_=>False
noncomputable def oZ(eS:String->Option Fn)(gl:String->Option V):Nat->Calls
 |0,U1,U2,U3,U4,U5=>False
 |n+1,f,vs,σ,Q,X=>∃fn,eS f=aj fn/\
   if fn.cj=ak then vs=[]/\cV (oZ eS gl n) gl fn.body (.self::cU (fn.nl-1) .un) σ (iN Q) (λU=>X)
   else vs.length=fn.np/\cV (oZ eS gl n) gl fn.body (vs.map .v++cU (fn.nl-fn.np) .un) am (iN λv U=>Q v σ) (λU=>X)
end
noncomputable def Xl:V:=(.tup [.str [115,116,97,114,116],.str [101,108,101,109,101,110,116],.str [97,116,116,114,105,98,117,116,101],.str [116,101,120,116],.str [101,109,112,116,121],.str [110,111,116,65,108,108,111,119,101,100]])
noncomputable def Xm:V:=(.str [65,66,67,68,69,70,71,72,73,74,75,76,77,78,79,80,81,82,83,84,85,86,87,88,89,90,97,98,99,100,101,102,103,104,105,106,107,108,109,110,111,112,113,114,115,116,117,118,119,120,121,122])
noncomputable def Xn:V:=(.str [65,66,67,68,69,70,71,72,73,74,75,76,77,78,79,80,81,82,83,84,85,86,87,88,89,90,97,98,99,100,101,102,103,104,105,106,107,108,109,110,111,112,113,114,115,116,117,118,119,120,121,122,48,49,50,51,52,53,54,55,56,57])
noncomputable def Xo:V:=(.tup [.str [110,111,110,101]])
noncomputable def Xp:V:=(.tup [.str [101,109,112,116,121]])
noncomputable def Df:V:=(.tup [.tup [.tup [.str [114,101,102],.str [97]],.str [97],.tup [.tup [.str [97]]]],.tup [.tup [.str [114,101,102],.str [98,55]],.str [98,55],.tup [.tup [.str [98,55]]]],.tup [.tup [.str [116,101,120,116]],.str [116,101,120,116],.tup [.tup [],.tup [.str [116,101,120,116]],.tup [.str [116,101,120,116],.str [116,101,120,116]],.tup [.str [116,101,120,116],.str [116,101,120,116],.str [116,101,120,116]],.tup [.str [116,101,120,116],.str [116,101,120,116],.str [116,101,120,116],.str [116,101,120,116]]]],.tup [.tup [.str [101,109,112,116,121]],.str [101,109,112,116,121,32],.tup [.tup []]],.tup [.tup [.str [110,111,110,101]],.str [110,111,116,65,108,108,111,119,101,100],.tup []],.tup [.tup [.str [114,101,102],.str [97]],.str [40,97,41],.tup [.tup [.str [97]]]],.tup [.tup [.str [114,101,102],.str [98,55]],.str [32,98,55],.tup [.tup [.str [98,55]]]]])
noncomputable def Xq:V:=(.tup [.tup [.str [103,114,111,117,112],.str [32,44]],.tup [.str [99,104,111,105,99,101],.str [124]],.tup [.str [105,110,116,101,114,108,101,97,118,101],.str [32,32,38,32]]])
noncomputable def MM:V:=(.tup [.tup [.str [82,48]],.tup [.str [82,48],.str [97]],.tup [.str [97]],.tup [.str [98,55],.str [82,48]]])
noncomputable def MN:V:=(.tup [.tup [.str [97,116,116,114,105,98,117,116,101,32,105,100,44,32],.lst [.tup [.str [105,100],.bool ak]]],.tup [.str [97,116,116,114,105,98,117,116,101,32,105,100,63,44,32],.lst [.tup [.str [105,100],.bool ap]]],.tup [.str [97,116,116,114,105,98,117,116,101,32,105,100,44,32,97,116,116,114,105,98,117,116,101,32,107,50,63,44,32],.lst [.tup [.str [105,100],.bool ak],.tup [.str [107,50],.bool ap]]],.tup [.str [97,116,116,114,105,98,117,116,101,32,105,100,63,44,32,97,116,116,114,105,98,117,116,101,32,107,50,44,32],.lst [.tup [.str [105,100],.bool ap],.tup [.str [107,50],.bool ak]]]])
noncomputable def MO:V:=(.tup [.tup [.str [120],.str [97]],.tup [.str [120],.str [98,55]],.tup [.str [121],.str [97]],.tup [.str [121],.str [98,55]]])
noncomputable def MP:V:=(.tup [.tup [.tup [.str [105,100],.str [49]]],.tup [],.tup [.tup [.str [107,50],.str [118]],.tup [.str [105,100],.str []]],.tup [.tup [.str [107,50],.str []]]])
noncomputable def MQ:V:=(.tup [.tup [.str [32,104,105],.str [116,101,120,116],.lst []],.tup [.str [10,9,32,13],.none,.lst []],.tup [.str [],.none,.lst []]])
noncomputable def MR:V:=(.tup [.tup [.str [120],.tup [],.int 0],.tup [.str [120],.tup [],.int 0],.tup [.str [121],.tup [],.int 0],.tup [.str [120],.tup [],.int 2],.tup [.str [121],.tup [],.int 2],.tup [.str [120],.tup [.tup [.str [107,50],.str []]],.int 0]])
noncomputable def Dg:V:=(.tup [.tup [.tup [.str [115,116,97,114,116,32,61,32],.str [98,101,103,105,110,32,61,32]],.tup [.str [115,116,97,114,116,32,61,32],.str [115,116,97,114,116,32,61,32,32,124,32]],.tup [.str [115,116,97,114,116,32,61,32],.str [115,116,97,114,116,32,61,32,116,101,120,116,32,124,32]],.tup [.str [115,116,97,114,116,32,61,32],.str [115,116,97,114,116,32,61,32,97,45,32,124,32]],.tup [.str [115,116,97,114,116,32,61,32],.str [10,115,116,97,114,116,32,61,32]],.tup [.str [10,82,48,32,61,32],.str [10,10,82,48,32,61,32]],.tup [.str [10,82,48,32,61,32],.str [10,32,61,32]],.tup [.str [10,82,48,32,61,32],.str [10,55,82,48,32,61,32]],.tup [.str [10,82,48,32,61,32],.str [10,101,109,112,116,121,32,61,32]],.tup [.str [10,82,48,32,61,32],.str [10,115,116,97,114,116,32,61,32,97,10,82,48,32,61,32]],.tup [.str [101,108,101,109,101,110,116,32,100,111,99],.str [101,108,101,109,97,110,116,32,100,111,99]],.tup [.str [32,125,10],.str [44,32,101,108,101,109,101,110,116,32,125,10]]],.tup [.tup [.str [101,108,101,109,101,110,116,32,100,111,99],.str [101,108,101,109,101,110,116,32,116,101,120,116]],.tup [.str [101,108,101,109,101,110,116,32,100,111,99],.str [101,108,101,109,101,110,116,32]],.tup [.str [100,111,99,32,123,32],.str [100,111,99,32,91,32]],.tup [.str [97,116,116,114,105,98,117,116,101,32,105,100],.str [97,116,116,114,105,98,117,116,101,32,116,101,120,116]],.tup [.str [97,116,116,114,105,98,117,116,101,32,105,100],.str [97,116,116,114,105,98,117,116,101,32]],.tup [.str [97,116,116,114,105,98,117,116,101,32,105,100],.str [97,116,116,114,105,98,117,116,101,32,105,100,59]],.tup [.str [32,125,10],.str [32,41,10]],.tup [.str [32,125,10],.str [32,124,32,97,44,32,97,32,125,10]],.tup [.str [32,125,10],.str [32,38,32,40,97,32,98,55,32,125,10]],.tup [.str [32,125,10],.str [32,97,32,125,10]],.tup [.str [32,125,10],.str [32,124,32,125,10]],.tup [.str [101,108,101,109,101,110,116,32,121,32,123,32,116,101,120,116,32,125,10],.str [101,108,101,109,101,110,116,32,121,32,123,32,116,101,120,116,32,125,32]]]])
def MS:List (String×V):=[("_RES",Xl),("_LET",Xm),("_ALN",Xn),("_N",Xo),("_E",Xp),("_law_leaves",Df),("_law_signs",Xq),("_law_starts",MM),("_law_heads",MN),("_law_pairs",MO),("_law_given",MP),("_law_strs",MQ),("_law_elems",MR),("_law_harms",Dg)]
def bB(n:String):Option V:=MS.lookup n
noncomputable abbrev bg:PE:=.var 0
noncomputable abbrev bF:PE:=.var 1
noncomputable abbrev bZ:PE:=.var 2
noncomputable abbrev dk:PE:=.var 3
noncomputable abbrev fv:PE:=.var 4
noncomputable abbrev gX:PE:=.var 5
noncomputable abbrev i5:PE:=.var 6
noncomputable abbrev jF:PE:=.var 7
noncomputable abbrev t7:PE:=.var 8
noncomputable abbrev o0:PE:=.var 9
noncomputable abbrev mO:PE:=.var 10
noncomputable abbrev qi:PE:=.var 11
noncomputable abbrev lV:PE:=.var 14
noncomputable abbrev et:PE:=.aR (.int 0)
noncomputable abbrev cQ:PE:=.aR (.int 1)
noncomputable abbrev fw:PE:=.aR (.int 2)
noncomputable abbrev o3:PE:=.aR (.int 3)
noncomputable abbrev nK:PE:=.aR (.int 4)
noncomputable abbrev mP:PE:=.aR (.bool ap)
noncomputable abbrev x4:PE:=.aR (.bool ak)
noncomputable abbrev o4:PE:=.aR .none
noncomputable def MT:Fn:={np:=2,nl:=4,cj:=ap,body:=[.asg 2 (.bi "len" [bg]),.asg 3 bF,.ite (.and (.cmp .lt dk bZ) (.cmp .isIn (.idx bg dk) (.d4 "_LET"))) [.aug 3 cQ,.jy (.and (.cmp .lt dk bZ) (.cmp .isIn (.idx bg dk) (.d4 "_ALN"))) [.aug 3 cQ]] [],.ret dk]}
noncomputable def Xr:List String:=["s","i","n","j"]
noncomputable def Xs:Fn:={np:=1,nl:=1,cj:=ap,body:=[.ite (.cmp .eq bg (.aR (.str []))) [.ret mP] [],.ite (.cmp .ne (.call "_name_end" [bg,et]) (.bi "len" [bg])) [.ret mP] [],.ret (.cmp .eo bg (.d4 "_RES"))]}
noncomputable def Xu:List String:=["s"]
noncomputable def MU:Fn:={np:=1,nl:=6,cj:=ap,body:=[.kH 1,.asg 2 et,.asg 3 (.bi "len" [bg]),.jy (.cmp .lt bZ dk) [.asg 4 (.idx bg bZ),.ite (.cmp .eq fv (.aR (.str [32]))) [.jy (.and (.cmp .lt bZ dk) (.cmp .eq (.idx bg bZ) (.aR (.str [32])))) [.aug 2 cQ]] [.ite (.cmp .isIn fv (.d4 "_LET")) [.asg 5 (.call "_name_end" [bg,bZ]),.app 1 (.gj bg (aj bZ) (aj gX)),.asg 2 gX] [.ite (.cmp .isIn fv (.aR (.str [40,41,63,42,43,44,124,38]))) [.app 1 fv,.aug 2 cQ] [.raise fv]]]],.jj 1,.ret bF]}
noncomputable def Xv:List String:=["text","t","k","n","c","j"]
noncomputable def t8:Fn:={np:=1,nl:=3,cj:=ap,body:=[.vC 1 bg,.asg 2 (.kG "level" 1),.ite (.cmp .ne (.rH 1) (.bi "len" [.rD 1])) [.raise (.aR (.str [109,111,114,101]))] [],.ret bZ]}
noncomputable def t9:List String:=["text","q","p"]
noncomputable def Hl:Fn:={np:=1,nl:=11,cj:=ap,body:=[.asg 1 (.call "_name_end" [bg,et]),.ite (.or (.cmp .eq bF et) (.cmp .isIn (.gj bg (aj et) (aj bF)) (.d4 "_RES"))) [.raise bg] [],.asg 2 (.gj bg (aj et) (aj bF)),.ite (.not (.sm "startswith" bg [.aR (.str [32,61,32,101,108,101,109,101,110,116,32]),bF])) [.raise bg] [],.asg 3 (.bin .add bF (.aR (.int 11))),.asg 1 (.call "_name_end" [bg,dk]),.ite (.or (.cmp .eq bF dk) (.cmp .isIn (.gj bg (aj dk) (aj bF)) (.d4 "_RES"))) [.raise bg] [],.asg 4 (.gj bg (aj dk) (aj bF)),.ite (.not (.sm "startswith" bg [.aR (.str [32,123,32]),bF])) [.raise bg] [],.asg 3 (.bin .add bF o3),.kH 5,.jy (.sm "startswith" bg [.aR (.str [97,116,116,114,105,98,117,116,101,32]),dk]) [.asg 6 (.bin .add dk (.aR (.int 10))),.asg 7 (.call "_name_end" [bg,i5]),.ite (.or (.cmp .eq jF i5) (.cmp .isIn (.gj bg (aj i5) (aj jF)) (.d4 "_RES"))) [.brk] [],.asg 8 x4,.asg 9 jF,.ite (.sm "startswith" bg [.aR (.str [63]),o0]) [.asg 8 mP,.aug 9 cQ] [],.ite (.not (.sm "startswith" bg [.aR (.str [44,32]),o0])) [.brk] [],.app 5 (.tup [.gj bg (aj i5) (aj jF),t7]),.asg 3 (.bin .add o0 fw)],.asg 10 (.gj bg (aj dk) am),.ite (.or (.cmp .lt (.bi "len" [mO]) o3) (.not (.sm "endswith" mO [.aR (.str [32,125])]))) [.raise bg] [],.jj 5,.ret (.tup [bZ,fv,gX,.call "read_pattern" [.gj mO am (aj (.neg fw))]])]}
noncomputable def Xw:List String:=["line","j","name","i","tag","at","a","b","need","c","rest"]
noncomputable def Hm:Fn:={np:=1,nl:=6,cj:=ap,body:=[.ite (.not (.sm "endswith" bg [.aR (.str [10])])) [.raise (.aR (.str [101,110,100]))] [],.asg 1 (.sm "split" (.gj bg am (aj (.neg cQ))) [.aR (.str [10])]),.ite (.not (.sm "startswith" (.idx bF et) [.aR (.str [115,116,97,114,116,32,61,32])])) [.raise (.aR (.str [115,116,97,114,116]))] [],.asg 2 (.sm "split" (.gj (.idx bF et) (aj (.aR (.int 8))) am) [.aR (.str [32,124,32])]),.iI (.one 3) (.e bZ) [.ite (.not (.call "_is_name" [dk])) [.raise (.aR (.str [115,116,97,114,116]))] []],.kH 4,.iI (.one 5) (.e (.gj bF (aj cQ) am)) [.app 4 (.call "_read_def" [gX])],.jj 4,.ret (.tup [bZ,fv])]}
noncomputable def Xx:List String:=["text","lines","starts","s","defs","line"]
noncomputable def Xy:Fn:={np:=1,nl:=2,cj:=ap,body:=[.asg 1 (.idx bg et),.ite (.cmp .isIn bF (.tup [.aR (.str [103,114,111,117,112]),.aR (.str [105,110,116,101,114,108,101,97,118,101])])) [.ret (.and (.call "_null" [.idx bg cQ]) (.call "_null" [.idx bg fw]))] [],.ite (.cmp .eq bF (.aR (.str [99,104,111,105,99,101]))) [.ret (.or (.call "_null" [.idx bg cQ]) (.call "_null" [.idx bg fw]))] [],.ite (.cmp .eq bF (.aR (.str [115,111,109,101]))) [.ret (.call "_null" [.idx bg cQ])] [],.ret (.cmp .isIn bF (.tup [.aR (.str [101,109,112,116,121]),.aR (.str [116,101,120,116])]))]}
noncomputable def Xz:List String:=["p","k"]
noncomputable def XA:Fn:={np:=3,nl:=3,cj:=ap,body:=[.ite (.cmp .eq bg (.aR (.str [99,104,111,105,99,101]))) [.ite (.cmp .eq bF (.d4 "_N")) [.ret bZ] [],.ite (.or (.cmp .eq bZ (.d4 "_N")) (.cmp .eq bF bZ)) [.ret bF] [],.ret (.tup [bg,bF,bZ])] [],.ite (.or (.cmp .eq bF (.d4 "_N")) (.cmp .eq bZ (.d4 "_N"))) [.ret (.d4 "_N")] [],.ite (.cmp .eq bF (.d4 "_E")) [.ret bZ] [],.ite (.cmp .eq bZ (.d4 "_E")) [.ret bF] [],.ret (.tup [bg,bF,bZ])]}
noncomputable def XB:List String:=["k","a","b"]
noncomputable def XC:Fn:={np:=2,nl:=6,cj:=ap,body:=[.asg 2 (.idx bg et),.ite (.cmp .eq bZ (.aR (.str [114,101,102]))) [.ite (.and (.cmp .ne bF (.aR (.str [116,101,120,116]))) (.cmp .isIn (.idx bg cQ) bF)) [.ret (.d4 "_E")] [],.ret (.d4 "_N")] [],.ite (.cmp .eq bZ (.aR (.str [116,101,120,116]))) [.ite (.cmp .eq bF (.aR (.str [116,101,120,116]))) [.ret bg] [],.ret (.d4 "_N")] [],.ite (.cmp .eq bZ (.aR (.str [99,104,111,105,99,101]))) [.ret (.call "_mk" [bZ,.call "_d" [.idx bg cQ,bF],.call "_d" [.idx bg fw,bF]])] [],.ite (.cmp .eq bZ (.aR (.str [103,114,111,117,112]))) [.asg 3 (.call "_mk" [bZ,.call "_d" [.idx bg cQ,bF],.idx bg fw]),.ite (.call "_null" [.idx bg cQ]) [.ret (.call "_mk" [.aR (.str [99,104,111,105,99,101]),dk,.call "_d" [.idx bg fw,bF]])] [],.ret dk] [],.ite (.cmp .eq bZ (.aR (.str [105,110,116,101,114,108,101,97,118,101]))) [.asg 4 (.call "_mk" [bZ,.call "_d" [.idx bg cQ,bF],.idx bg fw]),.asg 5 (.call "_mk" [bZ,.idx bg cQ,.call "_d" [.idx bg fw,bF]]),.ret (.call "_mk" [.aR (.str [99,104,111,105,99,101]),fv,gX])] [],.ite (.cmp .eq bZ (.aR (.str [115,111,109,101]))) [.ret (.call "_mk" [.aR (.str [103,114,111,117,112]),.call "_d" [.idx bg cQ,bF],.call "_mk" [.aR (.str [99,104,111,105,99,101]),bg,.d4 "_E"]])] [],.ret (.d4 "_N")]}
noncomputable def XD:List String:=["p","x","k","r","left","right"]
noncomputable def XE:Fn:={np:=1,nl:=2,cj:=ap,body:=[.ite (.cmp .isIn (.idx bg et) (.tup [.aR (.str [103,114,111,117,112]),.aR (.str [99,104,111,105,99,101]),.aR (.str [105,110,116,101,114,108,101,97,118,101])])) [.ret (.call "_mk" [.idx bg et,.call "_simple" [.idx bg cQ],.call "_simple" [.idx bg fw]])] [],.ite (.cmp .eq (.idx bg et) (.aR (.str [115,111,109,101]))) [.asg 1 (.call "_simple" [.idx bg cQ]),.ite (.or (.cmp .eq bF (.d4 "_N")) (.cmp .eq bF (.d4 "_E"))) [.ret bF] [],.ret (.tup [.aR (.str [115,111,109,101]),bF])] [],.ret bg]}
noncomputable def XF:List String:=["p","q"]
noncomputable def XG:Fn:={np:=2,nl:=3,cj:=ap,body:=[.asg 0 (.call "_simple" [bg]),.iI (.one 2) (.e bF) [.asg 0 (.call "_d" [bg,bZ])],.ret bg]}
noncomputable def XH:List String:=["p","items","x"]
noncomputable def XI:Fn:={np:=2,nl:=2,cj:=ap,body:=[.ret (.call "_null" [.call "_run" [bg,bF]])]}
noncomputable def XJ:List String:=["p","items"]
noncomputable def MV:Fn:={np:=1,nl:=3,cj:=ap,body:=[.ite (.cmp .eq (.idx bg et) (.aR (.str [114,101,102]))) [.ret (.rG (.idx bg cQ))] [],.tJ 1,.iI (.one 2) (.e (.gj bg (aj cQ) am)) [.vD 1 (.call "_refs" [bZ])],.jj 1,.ret bF]}
noncomputable def XK:List String:=["p","out","q"]
noncomputable def XL:Fn:={np:=2,nl:=4,cj:=ap,body:=[.asg 2 (.call "_run" [bg,bF]),.asg 3 (.bi "sorted" [.comp ap fv 1 [.mk (.one 4) (.e (.call "_refs" [bg])) [.cmp .ne (.call "_d" [bZ,.lst [fv]]) (.d4 "_N")]]]),.ret (.tup [dk,.cmp .ne (.call "_d" [bZ,.aR (.str [116,101,120,116])]) (.d4 "_N"),.call "_null" [bZ]])]}
noncomputable def XM:List String:=["p","items","q","names"]
noncomputable def XN:Fn:={np:=2,nl:=10,cj:=ap,body:=[.kH 2,.iI (.one 3) (.e (.idx bF fw)) [.ite (.bi "isinstance" [dk,.typ "str"]) [.ite (.sm "strip" dk [.aR (.str [32,9,13,10])]) [.app 2 (.aR (.str [116,101,120,116]))] []] [.app 2 (.call "_fit" [bg,dk])]],.asg 4 (.bi "set" [.comp ap mO 2 [.mk (.many [10,11]) (.e (.idx bF cQ)) []]]),.tJ 5,.jj 2,.iI (.many [6,7,8,9]) (.e (.idx bg cQ)) [.ite (.cmp .ne jF (.idx bF et)) [.cont] [],.ite (.not (.cmp .le fv (.bi "set" [.comp ap mO 2 [.mk (.many [10,11]) (.e t7) []]]))) [.cont] [],.ite (.not (.bi "all" [.comp ap (.cmp .isIn mO fv) 2 [.mk (.many [10,11]) (.e t7) [qi]]])) [.cont] [],.ite (.call "matches" [o0,bZ]) [.vB 5 i5] []],.jj 5,.ret (.bi "sorted" [gX])]}
noncomputable def XO:List String:=["schema","tree","items","c","has","out","n","tag","at","p"]
noncomputable def XQ:Fn:={np:=2,nl:=2,cj:=ap,body:=[.ret (.call "_fit" [bg,bF])]}
noncomputable def XS:List String:=["schema","tree"]
noncomputable def XT:Fn:={np:=2,nl:=2,cj:=ap,body:=[.ret (.bi "bool" [.bin .band (.bi "set" [.call "_fit" [bg,bF]]) (.bi "set" [.idx bg et])])]}
noncomputable def XU:List String:=["schema","tree"]
noncomputable def Dh:Fn:={np:=3,nl:=8,cj:=ap,body:=[.asg 3 (.comp ap (.tup [t7,o0]) 2 [.mk (.many [8,9]) (.enum (.idx bZ fw)) [.not (.bi "isinstance" [o0,.typ "str"])]]),.ite (.not (.call "_fit" [bg,bZ])) [.asg 4 x4,.iI (.many [5,6]) (.e dk) [.ite (.not (.call "_fit" [bg,i5])) [.asg 4 mP,.brk] []],.ite fv [.ret bF] []] [],.iI (.many [5,6]) (.e dk) [.asg 7 (.call "_go" [bg,.bin .add bF (.lst [gX]),i5]),.ite (.cmp .vz jF o4) [.ret jF] []],.ret o4]}
noncomputable def XV:List String:=["schema","path","t","kids","ok","k","c","r"]
noncomputable def XW:Fn:={np:=2,nl:=3,cj:=ap,body:=[.ite (.call "valid" [bg,bF]) [.ret o4] [],.asg 2 (.call "_go" [bg,.lst [],bF]),.ite (.cmp .is bZ o4) [.ret (.lst [])] [],.ret bZ]}
noncomputable def XY:List String:=["schema","tree","r"]
noncomputable def XZ:Fn:={np:=2,nl:=2,cj:=ap,body:=[.ret (.comp ak (.bin .add bZ dk) 2 [.mk (.one 2) (.e bg) [],.mk (.one 3) (.e bF) [.cmp .le (.bin .add (.bi "len" [bZ]) (.bi "len" [dk])) nK]])]}
noncomputable def X0:List String:=["us","vs"]
noncomputable def Di:Fn:={np:=2,nl:=4,cj:=ap,body:=[.asg 2 (.comp ak (.tup [.tup [],fv,gX]) 2 [.mk (.one 4) (.e bg) [],.mk (.one 5) (.e bF) [.cmp .le (.bin .add (.bi "len" [fv]) (.bi "len" [gX])) nK]]),.iI (.one 3) (.range nK) [.asg 2 (.bin .bor (.comp ak (.tup [.bin .add fv (.gj gX am (aj cQ)),.gj gX (aj cQ) am,i5]) 3 [.mk (.many [4,5,6]) (.e bZ) []]) (.comp ak (.tup [.bin .add fv (.gj i5 am (aj cQ)),gX,.gj i5 (aj cQ) am]) 3 [.mk (.many [4,5,6]) (.e bZ) []]))],.ret (.comp ak (.bin .add (.bin .add fv gX) i5) 3 [.mk (.many [4,5,6]) (.e bZ) []])]}
noncomputable def X1:List String:=["us","vs","todo","i"]
noncomputable def X2:Fn:={np:=4,nl:=6,cj:=ap,body:=[.asg 4 (.bin .bor bZ (.call "_law_cat" [bZ,bZ])),.asg 5 (.bin .bor fv (.call "_law_cat" [fv,fv])),.ret (.idx (.lst [.tup [bg,bF,bZ],.tup [.tup [.aR (.str [99,104,111,105,99,101]),bg,.tup [.aR (.str [101,109,112,116,121])]],.bin .add bF (.aR (.str [63])),.bin .bor bZ (.rG (.tup []))],.tup [.tup [.aR (.str [115,111,109,101]),bg],.bin .add bF (.aR (.str [32,43])),gX],.tup [.tup [.aR (.str [99,104,111,105,99,101]),.tup [.aR (.str [115,111,109,101]),bg],.tup [.aR (.str [101,109,112,116,121])]],.bin .add bF (.aR (.str [42])),.bin .bor gX (.rG (.tup []))]]) dk)]}
noncomputable def X3:List String:=["p","t","words","m","two","many"]
noncomputable def X4:Fn:={np:=1,nl:=4,cj:=ap,body:=[.nG [1,2,3] (.idx (.d4 "_law_leaves") (.bin .mod bg (.aR (.int 7)))),.ret (.call "_law_mark" [bF,bZ,.bi "set" [dk],.bin .mod bg nK])]}
noncomputable def X5:List String:=["x","p","t","words"]
noncomputable def X6:Fn:={np:=3,nl:=6,cj:=ap,body:=[.asg 3 (.bin .bor (.idx bF fw) (.idx bZ fw)),.ite (.cmp .eq bg et) [.asg 3 (.call "_law_cat" [.idx bF fw,.idx bZ fw])] [],.ite (.cmp .eq bg fw) [.asg 3 (.call "_law_mix" [.idx bF fw,.idx bZ fw])] [],.nG [4,5] (.idx (.d4 "_law_signs") bg),.ret (.tup [.tup [fv,.idx bF et,.idx bZ et],.bin .add (.bin .add (.idx bF cQ) gX) (.idx bZ cQ),dk])]}
noncomputable def X7:List String:=["kind","left","right","words","word","sign"]
noncomputable def X8:Fn:={np:=7,nl:=8,cj:=ap,body:=[.asg 7 (.call "_law_join" [bF,fv,gX]),.ite (.cmp .eq bg et) [.ret (.call "_law_join" [bF,jF,i5])] [],.asg 7 (.call "_law_mark" [.idx jF et,.bin .add (.bin .add (.aR (.str [40])) (.idx jF cQ)) (.aR (.str [32,41])),.idx jF fw,dk]),.ite (.cmp .eq bg cQ) [.ret (.call "_law_join" [bZ,i5,jF])] [],.ret (.call "_law_join" [bZ,jF,i5])]}
noncomputable def X9:List String:=["shape","one","two","m","a","b","c","ab"]
noncomputable def Yb:Fn:={np:=2,nl:=2,cj:=ap,body:=[.ret (.comp ap bZ 1 [.mk (.one 2) (.e bg) [.and (.cmp .ge (.bi "len" [bZ]) (.bi "len" [bF])) (.bi "all" [.comp ap (.cmp .isIn dk fv) 2 [.mk (.many [3,4]) (.zip bZ bF) []]])]])]}
noncomputable def Yc:List String:=["words","items"]
noncomputable def Hn:Fn:={np:=4,nl:=14,cj:=ap,body:=[.asg 4 (.comp ap (.idx lV cQ) 1 [.mk (.one 14) (.e dk) [.cmp .vz (.idx lV cQ) o4]]),.asg 5 (.comp ap (.idx lV et) 1 [.mk (.one 14) (.e bZ) []]),.kH 6,.iI (.many [7,8,9,10]) (.e bg) [.asg 11 (.comp ap lV 1 [.mk (.one 14) (.e gX) [.cmp .eo lV (.comp ap (.idx (.var 15) et) 1 [.mk (.one 15) (.e o0) []])]]),.asg 12 (.comp ap (.idx lV et) 1 [.mk (.one 14) (.e o0) [.and (.idx lV cQ) (.cmp .eo (.idx lV et) gX)]]),.ite (.and (.cmp .eq t7 bF) (.and (.cmp .eq (.bin .add qi (.var 12)) (.lst [])) (.cmp .isIn (.bi "len" [fv]) (.comp ap (.bi "len" [lV]) 1 [.mk (.one 14) (.e (.call "_law_opens" [mO,fv])) []])))) [.app 6 jF] []],.asg 13 (.lst []),.jj 6,.ite (.and (.cmp .eq i5 (.lst [])) (.cmp .eo (.lst []) fv)) [.asg 13 (.lst [.lst []])] [],.asg 13 (.bin .add (.var 13) (.comp ap (.bin .add (.lst [lV]) (.var 15)) 2 [.mk (.one 14) (.range (.bi "len" [dk])) [],.mk (.one 15) (.e (.idx (.idx dk lV) fw)) []])),.ret (.tup [.tup [bF,bZ,.comp ap (.idx lV et) 1 [.mk (.one 14) (.e dk) []]],.bi "sorted" [.bi "set" [i5]],.var 13])]}
noncomputable def Yd:List String:=["rules","tag","given","kids","items","has","names","name","t","known","words","extra","lost","bads"]
noncomputable def Ye:Fn:={np:=3,nl:=6,cj:=ap,body:=[.ite (.cmp .lt bF o3) [.ret (.idx (.d4 "_law_strs") bF)] [],.nG [3,4,5] (.idx (.d4 "_law_elems") (.bin .sub bF o3)),.ret (.call "_law_node" [bg,dk,.bi "list" [fv],.gj bZ am (aj gX)])]}
noncomputable def Yg:List String:=["rules","x","deep","tag","given","size"]
noncomputable def Yh:Fn:={np:=2,nl:=12,cj:=ap,body:=[.nG [2,3,4,5,6,7,8,9] bF,.asg 10 (.lst [.call "_law_kid" [bg,gX,.lst []],.call "_law_kid" [bg,i5,.lst []]]),.asg 11 (.lst [.call "_law_kid" [bg,jF,mO],.call "_law_kid" [bg,t7,mO],.call "_law_kid" [bg,o0,mO]]),.ret (.call "_law_node" [bg,bZ,.bi "list" [dk],.gj qi am (aj fv)])]}
noncomputable def Yi:List String:=["rules","plan","tag","given","size","g","h","i","j","k","deep","kids"]
noncomputable def jX:Fn:={np:=1,nl:=31,cj:=ap,body:=[.ite (.cmp .lt (.bi "len" [bg]) (.aR (.int 24))) [.ret x4] [],.asg 1 (.bi "list" [.idx (.d4 "_law_starts") (.bin .mod (.idx bg et) nK)]),.asg 2 (.idx (.d4 "_law_heads") (.bin .mod (.idx bg cQ) nK)),.asg 3 (.call "_law_top" [.bin .mod (.idx bg fw) o3,.bin .mod (.idx bg o3) o3,.bin .mod (.idx bg nK) o3,.bin .mod (.idx bg (.aR (.int 5))) nK,.call "_law_part" [.idx bg (.aR (.int 6))],.call "_law_part" [.idx bg (.aR (.int 7))],.call "_law_part" [.idx bg (.aR (.int 8))]]),.asg 4 (.call "_law_part" [.idx bg (.aR (.int 9))]),.asg 5 (.call "_law_part" [.idx bg (.aR (.int 10))]),.nG [6,7] (.idx (.d4 "_law_pairs") (.bin .mod (.idx bg (.aR (.int 11))) nK)),.asg 8 (.bin .add (.bin .add (.bin .add (.bin .add (.bin .add (.bin .add (.bin .add (.bin .add (.bin .add (.bin .add (.bin .add (.bin .add (.bin .add (.aR (.str [115,116,97,114,116,32,61,32])) (.sm "join" (.aR (.str [32,124,32])) [bF])) (.aR (.str [10,82,48,32,61,32,101,108,101,109,101,110,116,32,100,111,99,32,123,32]))) (.idx bZ et)) (.idx dk cQ)) (.aR (.str [32,125,10,97,32,61,32,101,108,101,109,101,110,116,32,120,32,123,32]))) (.idx fv cQ)) (.aR (.str [32,32,125,10,98,55,32,61,32,101,108,101,109,101,110,116,32]))) i5) (.aR (.str [32,123,32]))) (.idx gX cQ)) (.aR (.str [32,125,10]))) jF) (.aR (.str [32,61,32,101,108,101,109,101,110,116,32,121,32,123,32,116,101,120,116,32,125,10]))),.asg 9 (.idx (.idx (.d4 "_law_harms") (.bin .mod (.idx bg (.aR (.int 12))) fw)) (.bin .mod (.idx bg (.aR (.int 13))) (.aR (.int 12)))),.asg 10 (.cmp .eq (.bin .mod (.idx bg (.aR (.int 14))) o3) fw),.ite mO [.asg 8 (.sm "replace" t7 [.idx o0 et,.idx o0 cQ,cQ])] [],.asg 11 o4,.asg 12 mP,.rC [.asg 11 (.call "read_schema" [t7])] [.asg 12 x4],.ite (.cmp .ne (.var 12) mO) [.ret mP] [],.ite mO [.ret x4] [],.asg 13 (.tup [bF,.lst [.tup [.aR (.str [82,48]),.aR (.str [100,111,99]),.idx bZ cQ,.idx dk et],.tup [.aR (.str [97]),.aR (.str [120]),.lst [],.idx fv et],.tup [.aR (.str [98,55]),i5,.lst [],.idx gX et],.tup [jF,.aR (.str [121]),.lst [],.tup [.aR (.str [116,101,120,116])]]]]),.ite (.or (.cmp .ne qi (.var 13)) (.not (.bi "all" [.comp ap (.cmp .is (.bi "type" [.var 32]) (.typ "bool")) 2 [.mk (.many [31,32]) (.e (.idx (.idx (.idx qi cQ) et) fw)) []]]))) [.ret mP] [],.asg 14 (.lst [.tup [.aR (.str [82,48]),.aR (.str [100,111,99]),.idx bZ cQ,.idx dk fw],.tup [.aR (.str [97]),.aR (.str [120]),.tup [],.idx fv fw],.tup [.aR (.str [98,55]),i5,.tup [],.idx gX fw],.tup [jF,.aR (.str [121]),.tup [],.bi "set" [.idx (.idx (.d4 "_law_leaves") fw) fw]]]),.asg 15 (.tup [.idx (.tup [.aR (.str [100,111,99]),.aR (.str [120]),.aR (.str [100,111,99])]) (.bin .mod (.idx bg (.aR (.int 21))) o3),.idx (.d4 "_law_given") (.bin .mod (.idx bg (.aR (.int 22))) nK),.bin .mod (.idx bg (.aR (.int 20))) nK,.bin .mod (.idx bg (.aR (.int 15))) (.aR (.int 6)),.bin .mod (.idx bg (.aR (.int 16))) (.aR (.int 6)),.bin .mod (.idx bg (.aR (.int 17))) (.aR (.int 9)),.bin .mod (.idx bg (.aR (.int 18))) (.aR (.int 9)),.bin .mod (.idx bg (.aR (.int 19))) (.aR (.int 9))]),.nG [16,17,18] (.call "_law_doc" [lV,.var 15]),.asg 19 (.idx (.call "_law_doc" [lV,.var 15]) et),.ite (.cmp .ne (.call "fits" [qi,.var 16]) (.var 17)) [.ret mP] [],.asg 20 (.bi "any" [.comp ap (.cmp .isIn (.var 31) bF) 1 [.mk (.one 31) (.e (.var 17)) []]]),.asg 21 (.call "valid" [qi,.var 16]),.ite (.or (.not (.cmp .is (.bi "type" [.var 21]) (.typ "bool"))) (.cmp .ne (.var 21) (.var 20))) [.ret mP] [],.asg 22 o4,.ite (.not (.var 20)) [.asg 22 (.idx (.bin .add (.var 18) (.lst [.lst []])) et)] [],.asg 23 (.call "first_bad" [qi,.var 16]),.ite (.cmp .ne (.var 23) (.var 22)) [.ret mP] [],.ite (.and (.cmp .vz (.var 23) o4) (.not (.bi "all" [.comp ap (.cmp .is (.bi "type" [.var 31]) (.typ "int")) 1 [.mk (.one 31) (.e (.var 23)) []]]))) [.ret mP] [],.asg 24 (.bin .mod (.idx bg (.aR (.int 23))) nK),.asg 25 (.gj (.lst [.aR (.str [116,101,120,116]),.lst [.aR (.str [97])],.lst [.aR (.str [97]),.aR (.str [98,55])]]) (aj (.var 24)) (aj (.bin .add (.var 24) cQ))),.asg 26 (.gj (.lst [.aR (.str [116,101,120,116]),.lst [.aR (.str [97])],.lst [.aR (.str [97]),.aR (.str [98,55])]]) (aj (.var 24)) (aj (.bin .add (.var 24) cQ))),.asg 27 (.call "_law_opens" [.idx dk fw,.var 25]),.asg 28 (.bi "sorted" [.comp ak (.idx (.var 31) (.bi "len" [.var 25])) 1 [.mk (.one 31) (.e (.var 27)) [.cmp .gt (.bi "len" [.var 31]) (.bi "len" [.var 25])]]]),.asg 29 (.tup [.comp ap (.var 31) 1 [.mk (.one 31) (.e (.var 28)) [.cmp .ne (.var 31) (.aR (.str [116,101,120,116]))]],.cmp .isIn (.aR (.str [116,101,120,116])) (.var 28),.cmp .isIn (.bi "len" [.var 25]) (.comp ap (.bi "len" [.var 31]) 1 [.mk (.one 31) (.e (.var 27)) []])]),.asg 30 (.call "next_ones" [.idx (.idx (.idx qi cQ) et) o3,.var 26]),.ite (.or (.cmp .ne (.var 30) (.var 29)) (.or (.not (.cmp .is (.bi "type" [.idx (.var 30) cQ]) (.typ "bool"))) (.not (.cmp .is (.bi "type" [.idx (.var 30) fw]) (.typ "bool"))))) [.ret mP] [],.ite (.or (.cmp .ne (.var 26) (.var 25)) (.or (.cmp .ne (.var 16) (.var 19)) (.cmp .ne qi (.var 13)))) [.ret mP] [],.ret x4]}
noncomputable def AE:List String:=["script","starts","head","top","one","two","tag","name","text","harm","due","schema","refused","want","rules","plan","tree","names","bads","same","good","said","goal","path","x","ahead","shown","opens","nexts","after","told"]
noncomputable def MW:Fn:={np:=1,nl:=1,cj:=ak,body:=[.ite (.cmp .lt (.rH 0) (.bi "len" [.rD 0])) [.ret (.idx (.rD 0) (.rH 0))] [],.ret o4]}
noncomputable def MX:List String:=["self"]
noncomputable def Ho:Fn:={np:=1,nl:=4,cj:=ak,body:=[.asg 1 (.kG "part" 0),.asg 2 o4,.jy (.cmp .isIn (.kG "peek" 0) (.tup [.aR (.str [44]),.aR (.str [124]),.aR (.str [38])])) [.asg 3 (.kG "peek" 0),.ite (.cmp .eo bZ (.tup [.aR .none,dk])) [.raise (.aR (.str [109,105,120,101,100]))] [],.asg 2 dk,.oQ 0 cQ,.asg 1 (.tup [.bi "_KIND" [dk],bF,.kG "part" 0])],.ret bF]}
noncomputable def MY:List String:=["self","p","sign","s"]
noncomputable def Hp:Fn:={np:=1,nl:=4,cj:=ak,body:=[.asg 1 (.kG "peek" 0),.oQ 0 cQ,.ite (.cmp .eq bF (.aR (.str [40]))) [.asg 2 (.kG "level" 0),.ite (.cmp .ne (.kG "peek" 0) (.aR (.str [41]))) [.raise (.aR (.str [41]))] [],.oQ 0 cQ] [.ite (.cmp .isIn bF (.tup [.aR (.str [116,101,120,116]),.aR (.str [101,109,112,116,121])])) [.asg 2 (.tup [bF])] [.ite (.cmp .eq bF (.aR (.str [110,111,116,65,108,108,111,119,101,100]))) [.asg 2 (.tup [.aR (.str [110,111,110,101])])] [.ite (.and (.cmp .vz bF o4) (.call "_is_name" [bF])) [.asg 2 (.tup [.aR (.str [114,101,102]),bF])] [.raise bF]]]],.asg 3 (.kG "peek" 0),.ite (.cmp .isIn dk (.tup [.aR (.str [63]),.aR (.str [42]),.aR (.str [43])])) [.oQ 0 cQ,.ite (.cmp .ne dk (.aR (.str [63]))) [.asg 2 (.tup [.aR (.str [115,111,109,101]),bZ])] [],.ite (.cmp .ne dk (.aR (.str [43]))) [.asg 2 (.tup [.aR (.str [99,104,111,105,99,101]),bZ,.tup [.aR (.str [101,109,112,116,121])]])] []] [],.ret bZ]}
noncomputable def MZ:List String:=["self","t","p","s"]
structure nL where
 nm:String
 fn:Fn
 fN:List String
 k:Nat
def io:List nL:=[⟨"_name_end",MT,Xr,7⟩,⟨"_is_name",Xs,Xu,8⟩,⟨"_tokens",MU,Xv,9⟩,⟨"read_pattern",t8,t9,11⟩,⟨"_read_def",Hl,Xw,12⟩,⟨"read_schema",Hm,Xx,13⟩,⟨"_null",Xy,Xz,14⟩,⟨"_mk",XA,XB,15⟩,⟨"_d",XC,XD,16⟩,⟨"_simple",XE,XF,17⟩,⟨"_run",XG,XH,18⟩,⟨"matches",XI,XJ,19⟩,⟨"_refs",MV,XK,20⟩,⟨"next_ones",XL,XM,21⟩,⟨"_fit",XN,XO,22⟩,⟨"fits",XQ,XS,23⟩,⟨"valid",XT,XU,24⟩,⟨"_go",Dh,XV,25⟩,⟨"first_bad",XW,XY,26⟩,⟨"_law_cat",XZ,X0,37⟩,⟨"_law_mix",Di,X1,38⟩,⟨"_law_mark",X2,X3,39⟩,⟨"_law_part",X4,X5,40⟩,⟨"_law_join",X6,X7,41⟩,⟨"_law_top",X8,X9,42⟩,⟨"_law_opens",Yb,Yc,43⟩,⟨"_law_node",Hn,Yd,44⟩,⟨"_law_kid",Ye,Yg,45⟩,⟨"_law_doc",Yh,Yi,46⟩,⟨"law",jX,AE,47⟩,⟨"peek",MW,MX,100+1⟩,⟨"level",Ho,MY,100+2⟩,⟨"part",Hp,MZ,100+3⟩]
def vK(f:String):Option nL:=io.find? λr=>r.nm==f
def eS(f:String):Option Fn:=(vK f).map nL.fn
theorem ua(h:eS f=aj d):∃r,r∈io/\vK f=aj r/\r.nm=f/\r.fn=d:=(g7.1 h).elim λr h=>⟨r,List.mem_of_find?_eq_some h.1,h.1,beq_iff_eq.1 (List.find?_some (p:=λr:nL=>r.nm==f) h.1),h.2⟩
section
set_option maxRecDepth 100000
section
noncomputable def aJ(s:aa):aW:=⟨s.toArray⟩
end
section
noncomputable def lW:List (String×aU):=[("len",.builtin "len"),("isinstance",.builtin "isinstance"),("all",.builtin "all"),("any",.builtin "any"),("sorted",.builtin "sorted"),("set",.type "set"),("list",.type "list"),("bool",.type "bool"),
 ("type",.type "type"),("range",.type "range"),("enumerate",.type "enumerate"),("zip",.type "zip"),("str",.type "str"),("int",.type "int"),("ValueError",.type "ValueError")]
end
section
noncomputable def qj:jN:={kind:=.module,names:=[],isGenerator:=ap,isCoroutine:=ap}
def si:dU->List bP×List dU×List dU×jN
 |.FunctionDef U1 U2 b U3 U4 U5 sc ..=>([],b,[],sc)
 |.ClassDef U1 U2 U3 b ..=>([],b,[],qj)
 |.Return v U1=>(v.toList,[],[],qj)
 |.Assign ts v U1=>(v::ts,[],[],qj)
 |.AugAssign t U1 v U2=>([v,t],[],[],qj)
 |.For t it b U1 U2=>([it,t],b,[],qj)
 |.While t b U1 U2=>([t],b,[],qj)
 |.If t a b U1=>([t],a,b,qj)
 |.Expr v U1=>([v],[],[],qj)
 |.Raise v U1 U2=>(v.toList,[],[],qj)
 |_=>([],[],[],qj)
end
section
noncomputable def gN(k:Nat):dU:=(ae1.main.body[k]?).getD (.Pass lN)
def gu(st:dU):List dU:=(si st).2.1
def mQ(st:dU):jN:=(si st).2.2.2
def ub(k:Nat):dU:=((gu (gN 10))[k]?).getD (.Pass lN)
def jY(k:Nat):dU:=if k<100 then gN k else ub (k-100)
end
section
noncomputable def x5:dU->zE
 |.FunctionDef U1 p ..=>p
 |_=>⟨[],[],am,[],[],am,[]⟩
end
section
open PySem PySem.W
noncomputable def ek(K:dg)(a:bc):jO:=(K.lookup a).getD {cls:=.none,data:=.plain}
def ip(K:dg)(a:bc):List oL:=match (ek K a).data with
 |.dict es U1=>es.toList
 |_=>[]
def eI(K:dg)(a:bc):K7:=match (ek K a).data with
 |.func fd=>fd
 |_=>lN
noncomputable def lp:aU->bc
 |.ref a=>a
 |_=>0
def vL(K:dg)(a:bc):Array aU:=match (ek K a).data with
 |.fields vs=>vs
 |_=>#[]
noncomputable def M0:Option aU->Nat
 |some (.str U1 t)=>t
 |_=>0
noncomputable def eJ(l:List oL)(n:aW):Option aU:=(l.find? λe=>e.key.isStr n).map (·.val)
noncomputable def M1:oL->Bool:=λe=>match e.key with
 |.str U1 U2=>ak
 |_=>ap
def jZ(l:List oL)(n:aW):bc:=match eJ l n with
 |some (.ref a)=>a
 |_=>0
def Hq(K:dg)(C:bc):bc:=match (ek K C).data with
 |.cls cd=>cd.ns
 |_=>0
noncomputable def M2:aU->Option (Nat×aa)
 |.str x t=>aj (t,x.cps.toList)
 |_=>am
def nM(K:dg):List (Nat×aa):=K.flatMap λp=>match p.2.data with
 |.seq vs U1=>vs.toList.filterMap M2
 |.dict es U1=>es.toList.filterMap λe=>M2 e.val
 |_=>[]
noncomputable def M3:aU->Tok
 |.int U1 t=>t
 |_=>0
noncomputable def Hr:aU->Tok
 |.str U1 t=>t
 |_=>0
noncomputable def M4:Data->Option (Array aU×Nat)
 |.seq vs n=>aj (vs,n)
 |_=>am
noncomputable def Dj{α:Type}(o:Option α)(f:α->Bool):Bool:=match o with
 |some a=>f a
 |none=>ap
def AF(K:dg)(c:String)(g:jO->Bool)(v:aU)(f:List aU->Bool):Bool:=
 v ==.ref (lp v)&&Dj (K.lookup (lp v)) λo=>o.cls ==.type c&&(g o&&Dj (M4 o.data) λp=>decide (p.1.size<=ci)&&f p.1.toList)
mutual
noncomputable def Dk(tk:List (Nat×aa))(K:dg):aU->V->Bool
 |v,.none=>v ==.none
 |v,.bool b=>v ==.bool b
 |v,.int i=>v ==.int i (M3 v)
 |v,.str y=>v ==.str (aJ y) (Hr v)&&(y.all (λc=>decide (c<128))&&tk.lookup (Hr v)==aj y)
 |v,.tup l=>AF K "tuple" (λo=>o.dict==am&&o.slots.toList.isEmpty) v λvs=>x6 tk K vs l
 |v,.lst l=>AF K "list" (λU=>ak) v λvs=>x6 tk K vs l
 |U1,.ty U2=>ap
 |U1,.set U2=>ap
noncomputable def x6(tk:List (Nat×aa))(K:dg):List aU->af->Bool
 |vs,[]=>vs.isEmpty
 |vs,x::l=>match vs with
  |[]=>ap
  |v::vs=>Dk tk K v x&&x6 tk K vs l
end
end
section
open PySem PySem.W
abbrev lq(K:dg):List oL:=ip K pW
abbrev nN(K:dg):bc:=jZ (lq K) "_P"
abbrev x7(K:dg):bc:=Hq K (nN K)
abbrev iq(K:dg):List oL:=ip K (x7 K)
abbrev iO(K:dg):bc:=jZ (lq K) (aP "_KIND")
end
section
open PySem PySem.W PySem.W.X PyProof.Rows
noncomputable def pw:dX:=ae1
def vw:dX:={pw with main:={pw.main with body:=(pw.main.body.take 27).drop 1++pw.main.body.drop 28}}
noncomputable def x8:List PySem.Str:=["_ALN","_KIND","_law_heads","_law_strs"]
noncomputable def M5(h:bK):dg:=(fk 40++(zF 47 33++zF 82 291)).filterMap λa=>(h.get? a).map λo=>(a,o)
noncomputable def x9(K:dg)(a:bc):Bool:=(K.lookup a).isSome
def dB(K:dg)(a:bc):Bool:=x9 K a&&((ek K a).data.ctorIdx==3&&(ip K a).all M1)
def M6(K:dg)(a:bc):Bool:=x9 K a&&((ek K a).cls ==.type "function"&&((ek K a).data.ctorIdx==7&&((eI K a).closure.isEmpty&&((eI K a).globals==pW&&((eI K a).builtins==xg&&((eI K a).defaults ==.none&&((eI K a).kwdefaults ==.none &&
 ((eI K a).code ==.ref (lp (eI K a).code)&&(x9 K (lp (eI K a).code)&&((ek K (lp (eI K a).code)).data.ctorIdx==9&&(vL K (lp (eI K a).code))[1]?==aj (.str (eI K a).qualname (M0 (vL K (lp (eI K a).code))[1]?))))))))))))
def Dl(K:dg)(a:bc):Cv×jN×zE:=((eI K a).body,(eI K a).scope,(eI K a).params)
def Dm(st:dU):Cv×jN×zE:=(.stmts (gu st),mQ st,x5 st)
def nB(K:dg)(l:List oL)(f:aW):Bool:=eJ l f==aj (.ref (jZ l f))&&M6 K (jZ l f)
def Dn(K:dg)(r:nL):List oL:=cond r.fn.cj (iq K) (lq K)
def M7(K:dg):Bool:=dB K pW&&(dB K xg&&(dB K FZ&&((eJ (ip K FZ) "sys.recursionlimit").isNone&&(dB K (x7 K)&&((eJ (iq K) "__getattribute__").isNone&&((eJ (iq K) "__getattr__").isNone))))))
def Hs(K:dg):Bool:=(eJ (iq K) "__setattr__").isNone&&((eJ (iq K) "t").isNone&&((eJ (iq K) "k").isNone&&(eJ (lq K) (aP "_P")==aj (.ref (nN K))&&((io.all λr=>nB K (Dn K r) (aP r.nm))&&(nB K (iq K) (aP "__init__")&&(makesIn K (nN K)))))))
def Do(K:dg):Bool:=findIn K (.ref (nN K)) "__init__"==aj (aj (.ref (jZ (iq K) (aP "__init__"))))&&(typeIn K (.ref (jZ (iq K) (aP "__init__")))==aj (.type "function")&&(eJ (lq K) (aP "_KIND")==aj (.ref (iO K))&&(x9 K (iO K)&&((ek K (iO K)).cls ==.type "dict"&&((ek K (iO K)).dict.isNone&&((ek K (iO K)).slots.isEmpty))))))
def Dp(K:dg):Bool:=(ek K (iO K)).data.ctorIdx==3&&((nM K).lookup 202==aj [103,114,111,117,112]&&((nM K).lookup 204==aj [99,104,111,105,99,101]&&((nM K).lookup 206==aj [105,110,116,101,114,108,101,97,118,101]&&((MS.all λp=>Dj (eJ (lq K) (aP p.1)) λu=>Dk (nM K) K u p.2)&&((nM K).all (λp=>decide (0<p.1)&&decide (p.1<700)&&decide (p.2.length<=ci))&&(lW.all (λp=>(eJ (lq K) (aP p.1)).isNone&&(eJ (ip K xg) (aP p.1)==aj p.2))))))))
def kB(K:dg):Bool:=M7 K&&(Hs K&&(Do K&&Dp K))
def kO(K:dg):Bool×Option jO×(bc×bc)×List oL×List (Cv×jN×zE)×(Cv×jN×zE):=
 (kB K,K.lookup (nN K),(nN K,x7 K),ip K (iO K),io.map (λr=>Dl K (jZ (Dn K r) (aP r.nm))),Dl K (jZ (iq K) (aP "__init__")))
def kE(a b:bc)(w:dy):Bool×Option jO×(bc×bc)×List oL×List (Cv×jN×zE)×(Cv×jN×zE):=
 (ak,aj (UO (aJ [95,80]) (aJ [95,80]) a b [.type "object"] [.type "object"] ak [] [] ap am am am am (aj (.str (aJ [95,80]) 244)) (aj (.str (aJ [95,80]) 252)) (aj (.bool ak)) "object.__new__"),(a,b),
  [⟨Cw w.params (aJ [44]),.str (aJ [44]) 201,.str (aJ [103,114,111,117,112]) 202⟩,⟨Cw w.params (aJ [124]),.str (aJ [124]) 203,.str (aJ [99,104,111,105,99,101]) 204⟩,⟨Cw w.params (aJ [38]),.str (aJ [38]) 205,.str (aJ [105,110,116,101,114,108,101,97,118,101]) 206⟩],
  io.map (λr=>Dm (jY r.k)),Dm (ub 0))
def Yf(s:bf):=(kO (M5 s.heap),s.toks)
def Ya(a b:bc)(w:dy):=(kE a b w,700)
theorem M8{σ τ α β:Type}{o:Option σ}{t:σ->Option τ}{f:τ->α}{g:τ->β}{a:α}{b:β}(h:(o.map λs=>(t s).map f)=aj (aj a))(k:(o.map λs=>(t s).map g)=aj (aj b)):(o.map λs=>(t s).map λx=>(f x,g x))=aj (aj (a,b)):=by
 cases o with
 |none=>exact no h
 |some s=>
  have h:(t s).map f=aj a:=aZ h;have k:(t s).map g=aj b:=aZ k;show aj (gT (λx=>(f x,g x)) (t s))=_
  cases e:t s with
  |none=>rw[e] at h;exact no h
  |some x=>
   rw[e] at h k;rw[<- aZ h,<- aZ k];rfl
theorem Yj{σ α β:Type}{o:Option σ}{u:σ->α}{v:σ->β}{p:α}{q:β}(h:o.map u=aj p)(k:o.map v=aj q):(o.map λs=>(u s,v s))=aj (p,q):=by
 cases o with
 |none=>exact no h
 |some s=>rw[<- aZ h,<- aZ k];rfl
end
end
section
set_option maxRecDepth 100000
open PySem PySem.W PySem.W.X PyProof.Rows
noncomputable def Xt(s:bf):Bool:=recOk (RowW.records Challenge.rw_sx_r156_2.row.toRowW) s
noncomputable def Dq{α:Type}(b:Bool)(f:bf->α)(w:dy):Option (Option α):=(fencedOpening treeTable pw w 3782).map λwM=>(topFrom treeTable pw (w.withFollow "special-get-raises" b) 3782 wM).map f
theorem Yk(w:dy):Dq ap (openSeen vw x8 (ae2 pw.main.body) Xt ak) w=aj (aj (openGood vw x8)):=by kernel_rfl
theorem Yl(w:dy):Dq ak (openSeen vw x8 (ae2 pw.main.body) Xt ak) w=aj (aj (openGood vw x8)):=by kernel_rfl
theorem Ym(w:dy):Dq ap Yf w=aj (aj (Ya 77 76 (w.withFollow "special-get-raises" ap))):=by kernel_rfl
theorem Yn(w:dy):Dq ak Yf w=aj (aj (Ya 77 76 (w.withFollow "special-get-raises" ak))):=by kernel_rfl
theorem left:LeftO pw vw x8 Xt Yf (Ya 77 76) 3782:=LeftO.of_split "special-get-raises" λw=>Yj (M8 (Yk w) (Ym w)) (M8 (Yl w) (Yn w))
end
noncomputable def ya(x):=5*x+1
noncomputable def mR:Nat->Nat->Nat
 |0,x=>x
 |n+1,x=>mR n (ya x)
theorem Ht(m n x):mR (m+n) x=mR n (mR m x):=by
 induction m generalizing x with
 |zero=>rw[jP];rfl
 |succ m ih=>rw[K8];exact ih _
theorem Yo(x m):ya x%m=ya (x%m)%m:=by
 unfold ya;rw[ae3,ae4,ae3 (5*(x%m)),ae4 5 (x%m),Nat.mod_mod]
theorem Yp(k):∃A B,(∀x,mR (2^k) x=(2^k*4*A+1)*x+2^k*(2*B+1)):=by
 induction k with
 |zero=>exact ⟨1,0,λx=>rfl⟩
 |succ k ih=>
  refine jk ih λA B h=>⟨A*(2^k*2*A+1),2*(2^k*A)*B+2^k*A+B,λx=>?_⟩;rw[s9,UP,Ht,h,h];generalize 2^k=p
  grind
theorem Yq(k x):mR (2^k) x%2^(k+1)=(x+2^k)%2^(k+1):=by
 refine jk (Yp k) λA B h=>?_;rw[h,s9];generalize 2^k=p;have e:(p*4*A+1)*x+p*(2*B+1)=x+p+p*2*(2*A*x+B):=by grind
 rw[e,Nat.add_mul_mod_self_left]
theorem Yr{p z y:Nat}(hz:z<p+p)(hy:y<p+p)(e:z%p=y%p)(h:z≠y):(z+p)%(p+p)=y:=by
 rcases xh z p with a | a<;>rcases xh y p with b | b
 .rw[qZ a,qZ b] at e;exact absurd e h
 .obtain ⟨y,rfl⟩:=FV b;rw[F0,qZ a,qZ (K9 hy)] at e;rw[qZ (UQ a p),e]
 .obtain ⟨z,rfl⟩:=FV a;have hz:=K9 hz;rw[F0,qZ hz,qZ b] at e;rw[jg,F0,qZ (b7 hz (ms _ _)),e]
 .obtain ⟨z,rfl⟩:=FV a;obtain ⟨y,rfl⟩:=FV b;rw[F0,qZ (K9 hz),F0,qZ (K9 hy)] at e;exact absurd (aE (·+p) e) h
theorem Ys(k):∀x y,y<2^k->∃n,n<2^k/\mR n x%2^k=y:=by
 induction k with
 |zero=>intro x y hy;exact ⟨0,by simp,by simp at hy;simp[hy,Nat.mod_one]⟩
 |succ k ih=>
  intro x y hy;have hp:0<2^k:=Nat.pow_pos aM;refine ar (ih x (y%2^k) (zG _ hp)) λn hn e=>?_;have e2:2^(k+1)=2^k+2^k:=(s9 ..).trans (UP _)
  by_cases h:mR n x%2^(k+1)=y
  .exact ⟨n,b7 (by assumption) (zH aM (dT k)),h⟩
  .refine ⟨n+2^k,e2▸UQ hn _,?_⟩;rw[Ht,Yq,<- Nat.mod_add_mod]
   have a1:mR n x%2^(k+1)%2^k=y%2^k:=by
    rw[Nat.mod_mod_of_dvd _ (Nat.pow_dvd_pow 2 (dT k)),e]
   have a2:mR n x%2^(k+1)<2^(k+1):=zG _ (UR _);rw[e2] at a2 hy h a1 ⊢;exact Yr a2 hy a1 h
abbrev Pr:=ae5
noncomputable def qk(mask:Nat)(p:Pr):Pr:=
 if p.more > 0 then {p with j:=p.j+1,more:=p.more-1} else
 let (i,perturb):=Cy mask p.i p.perturb
 {p with j:=i,more:=mv mask i-i,i,perturb}
noncomputable def cG(mask:Nat):Nat->Pr->Pr
 |0,p=>p
 |n+1,p=>cG mask n (qk mask p)
theorem vM(mask m n)(p):cG mask (m+n) p=cG mask n (cG mask m p):=by
 induction m generalizing p with
 |zero=>rw[jP];rfl
 |succ m ih=>rw[K8];exact ih _
theorem M9(mask n)(p):cG mask (n+1) p=qk mask (cG mask n p):=by
 rw[vM];rfl
noncomputable def fY(mask:Nat)(h:Int):Pr:=
 let i:=rd h%(mask+1)
 {j:=i,more:=mv mask i-i,i,perturb:=rd h,dummy:=am}
noncomputable def dF(mask:Nat)(h:Int):Nat->Nat×Nat
 |0=>(rd h%(mask+1),rd h)
 |n+1=>Cy mask (dF mask h n).1 (dF mask h n).2
def AG(mask:Nat)(h:Int)(n:Nat):Pr:=
 {j:=(dF mask h n).1,more:=mv mask (dF mask h n).1-(dF mask h n).1,i:=(dF mask h n).1,perturb:=(dF mask h n).2,dummy:=am}
theorem Yt(mask i):mv mask i-i<=9:=by
 unfold mv;split
 .exact ec (La ..)
 .rw[Cz];exact bW _
theorem Hu(mask):∀k p,k<=p.more->cG mask k p={p with j:=p.j+k,more:=p.more-k}
 |0=>λp U=>rfl
 |k+1=>λp h=>by
  have e:qk mask p={p with j:=p.j+1,more:=p.more-1}:=bw (b7 (ku k) h);refine (aE (cG mask k) e).trans ((Hu mask k _ (CA h)).trans ?_);rw[ae6,jg,kZ 1 k]
theorem Na(mask)(h)(n):cG mask (mv mask (dF mask h n).1-(dF mask h n).1+1) (AG mask h n)=AG mask h (n+1):=by
 rw[M9,Hu mask (mv mask (dF mask h n).1-(dF mask h n).1) (AG mask h n) (aV _)];exact if_neg (fZ.2 (ec (Cz _)))
theorem Nb(mask)(h):∀n,∃s,s<=10*n/\cG mask s (fY mask h)=AG mask h n
 |0=>⟨0,by simp,rfl⟩
 |n+1=>by
  refine ar (Nb mask h n) λs hs e=>⟨s+(mv mask (dF mask h n).1-(dF mask h n).1+1),?_,?_⟩
  .exact jh hs (cr (Yt mask (dF mask h n).1))
  .rw[vM,e,Na]
theorem Nc(mask)(h):∀n,(dF mask h n).2=rd h / 32^n
 |0=>(Nat.div_one _).symm
 |n+1=>by
  refine (?_:(dF mask h n).2 / 32=_);rw[Nc mask h n,Nat.div_div_eq_div_mul,s9]
theorem Yu(mask)(h)(n):(dF mask h (13+n)).2=0:=by
 rw[Nc]
 apply Nat.div_eq_of_lt
 exact b7 (td ((by exact (ae7 (US h (b:=(2^64:Int)) aM)).2 (ae8 h (b:=(2^64:Int)) aM))) (by decide:(2:Nat)^64<32^13)) (zH aM (dH _ _))
theorem Nd(mask)(h):∀n,(dF mask h (12+n)).1=mR n (dF mask h 12).1%(mask+1)
 |0=>by
  show (dF mask h 12).1=(dF mask h 12).1%(mask+1);rw[qZ];show (Cy mask _ _).1<_;unfold Cy;exact zG _ (ku _)
 |n+1=>by
  have e':mR (n+1) (dF mask h 12).1=ya (mR n (dF mask h 12).1):=by rw[Ht n 1];rfl
  have z:(dF mask h (12+1+n)).2=0:=Yu mask h n
  have z':(dF mask h (12+n)).2 / 32=0:=by
   rw[kY 12 1 n] at z;exact z
  rw[e'];show (Cy mask (dF mask h (12+n)).1 (dF mask h (12+n)).2).1=_;unfold Cy;simp only[z'];rw[Nd mask h n,Yo];unfold ya;simp[xi]
theorem Nf(hk:mask+1=2^k)(h)(hj:j<=mask):∃n,n<mask+13/\(dF mask h n).1=j:=by
 refine ar (Ys k (dF mask h 12).1 j (hk▸Lb hj)) λn hn e=>⟨12+n,ae9 (CB (hk.symm▸hn) 12) (kZ 12 (mask+1)),?_⟩;rw[Nd,hk,e]
theorem Yv(hk:mask+1=2^k)(h)(hj:j<=mask):∃s,s<10*vc mask/\(cG mask s (fY mask h)).j=j:=by
 refine ar (Nf hk h hj) λn hn e=>ar (Nb mask h n) λs hs e2=>?_;exact ⟨s,by unfold vc;lia,by rw[e2];exact e⟩
theorem Hv{α:Type}[DecidableEq α]:∀(l m:List α),l.Nodup->(∀a∈l,a∈m)->l.length<=m.length
 |[]=>λU U U=>bW _
 |a::l=>λm hn hs=>by
  have ha:=hs a (.head _);have nr:=pX.mp hn
  have:=Hv l (m.erase a) nr.2 λb hb=>by
   have bA:b≠a:=λe=>nr.1 (e▸hb);exact (afa bA).mpr (hs b (.tail _ hb))
  rw[afb ha] at this;have:0<m.length:=afc ha;exact afd this ‹l.length<=m.length-1›
def o5(xs:Array Nat):=∀i k,i<k->k<xs.size->xs.getD i 0<xs.getD k 0
theorem Yw(h:lo<hi):lo<=(lo+hi) / 2/\(lo+hi) / 2<hi:=
 ⟨(Nat.le_div_iff_mul_le (by decide)).2 (UP lo▸iE (gc h) lo),Nat.div_lt_of_lt_mul (Nat.two_mul hi▸UQ h hi)⟩
theorem Hw(xs)(hs:o5 xs)(j):∀d7 lo hi,hi-lo<=d7->lo<=hi->hi<=xs.size->
  (∀i,i<lo->xs.getD i 0<j)->(∀i,hi<=i->i<xs.size->j<=xs.getD i 0)->
  F1 xs j d7 lo hi<=xs.size/\(∀i,i<F1 xs j d7 lo hi->xs.getD i 0<j)/\(∀i,F1 xs j d7 lo hi<=i->i<xs.size->j<=xs.getD i 0)
 |0=>λlo hi hf hl hh h1 h2=>by
  have:lo=hi:=F2 hl (xj (UT.1 hf));subst this;exact ⟨hh,h1,h2⟩
 |d7+1=>λlo hi hf hl hh h1 h2=>by
  by_cases h:lo<hi
  .rw[show F1 xs j (d7+1) lo hi=_ from bw h];refine bm (Yw h) λg1 g2=>?_;generalize (lo+hi) / 2=m at g1 g2 ⊢;have hm:m<xs.size:=b7 g2 hh;have e:xs.getD m j=xs.getD m 0:=by simp[zI,hm]
   simp only[e]
   by_cases hc:xs.getD m 0<j
   .rw[bw hc];exact Hw xs hs j d7 _ _ (C4 hf (Lb g1)) g2 hh (λi jw=>(Lc (pY jw)).elim (λh3=>td (hs _ _ h3 hm) hc) λh3=>h3▸hc) h2
   .rw[if_neg hc];exact Hw xs hs j d7 _ _ (pY (b7 (Nat.sub_lt_sub_right g1 g2) hf)) g1 (gc hm) h1 (λi jw hi2=>(Lc jw).elim (λh3=>aB (fZ.1 hc) (gc (hs _ _ h3 hi2))) λh3=>h3▸fZ.1 hc)
  .rw[show F1 xs j (d7+1) lo hi=_ from if_neg h];have:lo=hi:=F2 hl (fZ.1 h);subst this;exact ⟨hh,h1,h2⟩
theorem AH(hs:o5 xs)(j):ky xs j<=xs.size/\(∀i,i<ky xs j->xs.getD i 0<j)/\(∀i,ky xs j<=i->i<xs.size->j<=xs.getD i 0):=
 Hw xs hs j xs.size 0 xs.size (aV _) (bW _) (aV _) (λU h=>absurd h (xk _)) (λi h1 h2=>absurd h2 (fZ.2 h1))
theorem Hx{xs:Array Nat}(h:i<xs.size):xs[i]?=aj (xs.getD i 0):=by
 simp[zI,h]
theorem Ng(hs:o5 xs)(h:i<xs.size):ky xs (xs.getD i 0)=i:=by
 refine d5 (AH hs (xs.getD i 0)) λh1 h2 h3=>?_
 rcases Ld (ky xs (xs.getD i 0)) i with c | c | c
 .exact absurd (hs _ _ c h) (fZ.2 (h3 _ (aV _) (td c h)))
 .exact c
 .exact absurd (h2 i c) (gf _)
theorem Nh{t:SetTable}(hs:o5 t.place)(h:i<t.place.size):t.slot (t.place.getD i 0)=.live i:=by
 unfold UU;simp only[Ng hs h,Hx h,f0,if_true]
set_option tactic.hygienic true in
theorem Ni{t:SetTable}(h:t.slot j=.live i):t.place[i]?=aj j:=by
 unfold UU at h;simp only at h
 split at h
 .rename_i h1
  injection (h) with h;subst h
  simpa using h1
 .split at h<;>cases h
theorem Nj{t:SetTable}(hd:t.dummies=#[])(j):t.slot j≠.dummy:=by
 unfold UU afe;rw[hd];simp only
 split
 .intro h;cases h
 .simp
theorem Dr{t:SetTable}(hs:o5 t.place)(hd:t.dummies=#[])(j):t.slot j=.empty<->j∉t.place:=by
 constructor
 .intro h hm;(refine a9 (aff.mp hm) λi zr=>?_;obtain ⟨hi,e⟩:=zr);have e2:t.place.getD i 0=j:=by simp[zI,hi,e]
  rw[<- e2,Nh hs hi] at h;cases h
 .intro h
  cases d8:t.slot j with
  |empty=>rfl
  |dummy=>exact absurd d8 (Nj hd j)
  |live i=>exact absurd (afg (Ni d8)) h
def sl(t:SetTable)(p:Pr)(m:Nat):=t.slot (cG t.mask m p).j
def ql(t:SetTable)(hashAt:Nat->Int)(h:Int)(p:Pr)(c:Nat):=∀m,m<c->∃i,sl t p m=.live i/\hashAt i≠h
theorem ql.ne(k:ql t hashAt h p c)(hm:m<c):sl t p m≠.empty:=(k m hm).elim λU g e=>UV (g.1.symm.trans e)
inductive nO(t:SetTable)(hashAt:Nat->Int)(h:Int)(p:Pr)(d:Nat):Option UW->Prop
 |bN (c i:Nat) (hc:c<d) (hl:sl t p c=.live i) (hh:hashAt i=h) (hb:ql t hashAt h p c):nO t hashAt h p d (aj (.candidate (cG t.mask c p).j i (cG t.mask (c+1) p)))
 |emp (c:Nat) (hc:c<=d) (hl:sl t p c=.empty) (hb:ql t hashAt h p c):nO t hashAt h p d (aj (.empty (cG t.mask c p).j p.dummy))
@[elab_as_elim] theorem nO.el{C:Option UW->Prop}{r:Option UW}(g:nO t hashAt h p d r)(h1:∀c i,c<d->sl t p c=.live i->hashAt i=h->ql t hashAt h p c->C (aj (.candidate (cG t.mask c p).j i (cG t.mask (c+1) p))))
  (h2:∀c,c<=d->sl t p c=.empty->ql t hashAt h p c->C (aj (.empty (cG t.mask c p).j p.dummy))):C r:=by
 cases g with
 |bN c i hc hl hh hb=>exact h1 c i hc hl hh hb
 |emp c hc hl hb=>exact h2 c hc hl hb
theorem Nk(mask)(p):(qk mask p).dummy=p.dummy:=by unfold qk;split<;>rfl
theorem Nl(mask):∀n p,(cG mask n p).dummy=p.dummy
 |0=>λU=>rfl
 |n+1=>λp=>(Nl mask n (qk mask p)).trans (Nk mask p)
theorem nO.step(hs:t.slot p.j=.live i)(hh:hashAt i≠h)(g:nO t hashAt h (qk t.mask p) d r):nO t hashAt h p (d+1) r:=by
 have sk:∀{c},ql t hashAt h (qk t.mask p) c->ql t hashAt h p (c+1):=λk m hm=>match m with
  |0=>⟨i,hs,hh⟩
  |m+1=>k m (UX hm)
 cases g with
 |bN c i hc hl hh hb=>exact .bN (c+1) i (Nat.succ_lt_succ hc) hl hh (sk hb)
 |emp c hc hl hb=>exact Nk t.mask p▸ .emp (c+1) (cr hc) hl (sk hb)
set_option tactic.hygienic true in
theorem Hy(hd:t.dummies=#[])(hashAt)(h):∀d7 p d,d<d7->sl t p d=.empty->nO t hashAt h p d (afh.go t hashAt h d7 p)
 |0=>λU U hf U=>absurd hf (xk _)
 |d7+1=>λp d hf he=>by
  show nO t hashAt h p d (match t.slot p.j with | .empty=>_ | .dummy=>_ | .live i=>if hashAt i==h then _ else _)
  cases d8:t.slot p.j with
  |empty=>exact .emp 0 (bW _) d8 λm hm=>absurd hm (xk _)
  |dummy=>exact absurd d8 (Nj hd _)
  |live i=>
   cases d with
   |zero=>exact UV (d8.symm.trans he)
   |succ d=>
    dsimp only
    split
    .rename_i hh
     exact .bN 0 i (ku _) d8 (beq_iff_eq.1 hh) λm hm=>absurd hm (xk _)
    .rename_i hh
     exact .step d8 (λe=>hh (beq_iff_eq.2 e)) (Hy hd hashAt h d7 (qk t.mask p) d (UX hf) he)
structure qm(t:SetTable):Prop where
 inc:o5 t.place
 gn:t.dummies=#[]
 pow:∃k,t.mask+1=2^k
 jA:∀j,j∈t.place->j<=t.mask
 room:t.place.size<=t.mask
theorem qm.free(T:qm t):∃j,j<=t.mask/\j∉t.place:=by
 refine F4 λhn=>?_
 have h1:∀j∈fk (t.mask+1),j∈t.place.toList:=λj hj=>by
  refine F4 λh=>hn ⟨j,?_,λh'=>h (F5.mpr h')⟩;have:=mr.mp hj;exact g8 ‹_›
 have:=Hv _ _ UY h1;simp only[UZ,dY] at this;have:=T.room;lia
theorem qm.hits(T:qm t)(h):∃d,d<10*vc t.mask/\t.slot (cG t.mask d (fY t.mask h)).j=.empty:=by
 refine ar T.free λj hj hn=>?_;refine a9 T.pow λk hk=>?_;refine ar (Yv hk h hj) λs hs e=>?_;exact ⟨s,hs,by rw[e,Dr T.inc T.gn];exact hn⟩
theorem o5.pairwise(hs:o5 xs):xs.toList.Pairwise (· < ·):=by
 rw[Le];intro i j hi hj zA;simp only[dY] at hi hj;have:=hs i j zA hj;simp only[zI,hi,hj,dif_pos] at this;simpa using this
theorem o5.WS(h:xs.toList.Pairwise (· < ·)):o5 xs:=by
 rw[Le] at h;intro i k KP hk;have:=h i k (td KP (by simpa using hk)) (by simpa using hk) KP;simp only[zI,hk,td KP hk,dif_pos];simpa using this
theorem Ds(T:qm t)(j):(t.put j).1.place.toList=t.place.toList.take (ky t.place j)++j::t.place.toList.drop (ky t.place j):=by
 unfold SetTable.put;rw[U0]
theorem Nm{α:Type}(l:List α)(p)(x:α):(l.take p++x::l.drop p).length=l.length+1:=by
 rw[bJ,re,<- jg,<- bJ,tg]
theorem Nn{xs:Array Nat}(h:i<xs.toList.length):xs.getD i 0=xs.toList[i]:=by
 simp only[zI,dY▸h,dif_pos];rfl
theorem Yx(hs:o5 xs)(j):(∀x∈xs.toList.take (ky xs j),x<j)/\∀x∈xs.toList.drop (ky xs j),j<=x:=by
 refine d5 (AH hs j) λav b2 b3=>?_;constructor<;>intro x hx<;>(refine a9 (Lf.mp hx) λi zr=>?_;obtain ⟨hi,rfl⟩:=zr)
 .rw[List.getElem_take,<- Nn];exact b2 i (b7 hi (Va _ _))
 .rw[mw] at hi;rw[List.getElem_drop,<- Nn];exact b3 _ (dH _ _) (dY▸(Nat.add_lt_of_lt_sub' hi))
theorem No(T:qm t)(j x):x∈(t.put j).1.place<->x=j\/x∈t.place:=by
 rw[<- F5,Ds T,dZ,cD,<- F5]
 conv=>rhs;rw[<- tg (ky t.place j) t.place.toList,dZ]
 exact or_left_comm
theorem Np(T:qm t)(j):(t.put j).1.place.size=t.place.size+1:=by
 rw[<- dY,Ds T,Nm,dY]
theorem Yy(T:qm t)(hj:j<=t.mask)(hn:j∉t.place)(hr:t.place.size+1<=t.mask):qm (t.put j).1:=by
 refine bm (Yx T.inc j) λb2 b3=>?_;refine ⟨.WS ?_,?_,T.pow,λx hx=>((No T j x).1 hx).elim (λe=>e▸hj) (T.jA x),(Np T j).symm▸hr⟩
 .rw[Ds T,List.pairwise_append];have hp:=T.inc.pairwise
  exact ⟨hp.sublist (List.take_sublist _ _),xl.mpr ⟨λx hx=>afi (b3 x hx) λe=>hn (e▸F5.1 (Lg hx)),hp.sublist (List.drop_sublist _ _)⟩,
   λa ha b hb=>(cD.1 hb).elim (λe=>e▸b2 a ha) λhb=>b7 (b2 a ha) (b3 b hb)⟩
 .show (if afe t.dummies j then _ else t.dummies)=_;rw[T.gn];rfl
def Reach(t:SetTable)(h:Int)(j:Nat):=∃d,(cG t.mask d (fY t.mask h)).j=j/\∀m,m<d->(cG t.mask m (fY t.mask h)).j∈t.place
structure Laid(t:SetTable)(es:Array (Int×aU)):Prop where
 tab:qm t
 size:t.place.size=es.size
 reach:∀p∈es.toList.zip t.place.toList,Reach t p.1.1 p.2
theorem Yz{α β:Type}(x:α)(y:β):∀(l:List α) (m:List β),l.length=m.length->p<=l.length->
  (l.take p++x::l.drop p).zip (m.take p++y::m.drop p)=(l.take p).zip (m.take p)++(x,y)::(l.drop p).zip (m.drop p):=λl m h hp=>by
 rw[afj (by rw[CC,CC,h]),List.zip_cons_cons]
theorem YA{α β:Type}(p)(l:List α)(m:List β)(h:l.length=m.length):l.zip m=(l.take p).zip (m.take p)++(l.drop p).zip (m.drop p):=by
 rw[<- afj (by rw[CC,CC,h]),tg,tg]
theorem Laid.put(L:Laid t es)(hr:t.place.size+1<=t.mask)
  (he:(cG t.mask d (fY t.mask h)).j=j) (hb:∀m,m<d->(cG t.mask m (fY t.mask h)).j∈t.place) (hn:j∉t.place) (hj:j<=t.mask) :
  Laid (t.put j).1 (zJ es (t.put j).2 (h,x)):=by
 have fF:ky t.place j<=es.toList.length:=by
  rw[dY,<- L.size];exact (AH L.tab.inc j).1
 have up:∀h' j',Reach t h' j'->Reach (t.put j).1 h' j':=λh' j' h=>h.imp λd h=>⟨h.1,λm gA=>(No L.tab j _).mpr (.inr (h.2 m gA))⟩;have cX:es.toList.length=t.place.toList.length:=by rw[dY,dY,L.size]
 refine ⟨Yy L.tab hj hn hr,?_,λp hp=>?_⟩
 .rw[Np L.tab,<- dY (xs:=zJ _ _ _),U0];exact (L.size.trans dY.symm▸(Nm es.toList _ _).symm)
 .rw[U0,Ds L.tab] at hp;replace hp:=(Yz (p:=ky t.place j) (h,x) j _ _ cX fF)▸hp;have hz:=YA (ky t.place j) es.toList t.place.toList cX
  rcases dZ.mp hp with hp | hp
  .exact up _ _ (L.reach p (hz▸my _ hp))
  .rcases cD.mp hp with rfl | hp
   .exact up _ _ ⟨d,he,hb⟩
   .exact up _ _ (L.reach p (hz▸nw _ hp))
theorem YB{es:Array (Int×aU)}{xs:Array Nat}{i:Nat}{e:Int×aU}{j:Nat}(h1:es[i]?=aj e)(h2:xs[i]?=aj j):(e,j)∈es.toList.zip xs.toList:=by
 have:(es.toList.zip xs.toList)[i]?=aj (e,j):=by
  rw[List.getElem?_zip_eq_some];simp[h1,h2]
 exact k8 this
theorem Nq(h:i<=mask):i+(mv mask i-i)<=mask:=by
 unfold mv;split
 .rwa [La]
 .rwa [Cz]
set_option tactic.hygienic true in
theorem Nr(h):∀d,(cG mask d (fY mask h)).j+(cG mask d (fY mask h)).more<=mask
 |0=>Nq (pY (zG _ (ku _)))
 |d+1=>by
  have ih:=Nr (mask:=mask) h d;rw[M9];generalize cG mask d (fY mask h)=q at ih ⊢;unfold qk
  split
  .rename_i c
   exact aB (ec ((jg _ _ _).trans (aE (q.j+·) (F6 c)))) ih
  .exact Nq (pY (zG _ (ku _)))
theorem Hz(h)(d):(cG mask d (fY mask h)).j<=mask:=aB (dH _ _) (Nr h d)
abbrev Dt:=Array (Option Nat)
noncomputable def o6(o:Dt)(j):=!(o.getD j (aj 0)).isNone
def Nt(mask)(o)(h)(j):=∃d,(cG mask d (fY mask h)).j=j/\∀m,m<d->o6 o (cG mask m (fY mask h)).j=ak
theorem YC(mask i):i<=mv mask i:=by
 unfold mv;split
 .exact dH _ _
 .exact aV _
theorem Nu(hk:mask+1=2^k)(o)(h)(Fu:o6 o (dF mask h n0).1=ap) :
  ∀d7 n,n<=n0->n0<n+d7->(∃s,cG mask s (fY mask h)=AG mask h n/\∀m,m<s->o6 o (cG mask m (fY mask h)).j=ak)->
   ∃j,F7 mask o d7 (dF mask h n).1 (dF mask h n).2=aj j/\o6 o j=ap/\j<=mask/\Nt mask o h j
 |0,n,h1,h2,U1=>absurd h2 (fZ.2 h1)
 |d7+1,n,h1,h2,⟨s,es,hs⟩=>by
  have wP:∀r,r<=mv mask (dF mask h n).1-(dF mask h n).1->(cG mask (s+r) (fY mask h)).j=(dF mask h n).1+r:=λr hr=>by
   rw[vM,es,Hu mask r _ hr];rfl
  have w6:(dF mask h n).1<=mv mask (dF mask h n).1:=YC _ _;have fF:=Na mask h n;unfold F7;rw[afk w6];generalize mv mask (dF mask h n).1-(dF mask h n).1=b at wP fF ⊢
  have tkn:∀m,s<=m->m-s<=b->(o.getD ((dF mask h n).1+(m-s)) (aj 0)).isNone=ap->o6 o (cG mask m (fY mask h)).j=ak:=λm c hb e=>by
   rw[<- F6 c,wP (m-s) hb];exact aE (!·) e
  cases hf:(fk (b+1)).find? (λk=>(o.getD ((dF mask h n).1+k) (aj 0)).isNone) with
  |some r=>
   have hf:=List.find?_range_eq_some.1 hf;have hr:r<=b:=pY (mr.1 hf.2.1);refine ⟨(dF mask h n).1+r,rfl,aE (!·) hf.1,?_,⟨s+r,wP r hr,λm hm=>?_⟩⟩
   .rw[<- wP r hr];exact Hz h (s+r)
   .rcases xh m s with c | c
    .exact hs m c
    .have bM:=Vb c hm;exact tkn m c (aB (gc bM) hr) ((k9 _).mp (hf.2.2 _ bM))
  |none=>
   have nh:∀r,r<=b->(o.getD ((dF mask h n).1+r) (aj 0)).isNone=ap:=λr hr=>
    ny.2 (List.find?_eq_none.mp hf r (mr.mpr (Lb hr)))
   have bA:n≠n0:=λe=>by
    have:=aE (!·) (nh 0 (bW _));rw[e] at this;exact vd (Fu.symm.trans this)
   refine Nu hk o h Fu d7 (n+1) (afi h1 bA) ((kY n d7 1)▸h2) ⟨s+(b+1),by rw[vM,es,fF],λm hm=>?_⟩
   rcases xh m s with c | c
   .exact hs m c
   .have hm:=pY (Vb c hm);exact tkn m c hm (nh _ hm)
structure uc(mask:Nat)(o:Dt)(hs:List Int):Prop where
 size:o.size=mask+1
 lt:∀j i:Nat,o[j]?=aj (aj i)->i<hs.length
 inj:∀j j' i:Nat,o[j]?=aj (aj i)->o[j']?=aj (aj i)->j=j'
 has:∀i (hi:i<hs.length),∃j:Nat,o[j]?=aj (aj i)/\Nt mask o hs[i] j
theorem HA(O:uc mask o hs)(hj:j<=mask):o6 o j=ak<->∃i:Nat,o[j]?=aj (aj i):=by
 have:j<o.size:=by rw[O.size];exact cr ‹_›
 unfold o6;simp only[zI,this,dif_pos,Lh this]
 cases h:o[j] with
 |none=>simp[afl,h]
 |some i=>simp[afl,h]
set_option tactic.hygienic true in
theorem YD(hk:mask+1=2^k)(O:uc mask o hs)(hl:hs.length<=mask)(h:Int) :
  ∃j,F7 mask o (vc mask) (rd h%(mask+1)) (rd h)=aj j/\uc mask (o.setIfInBounds j (aj hs.length)) (hs++[h]):=by
 refine ar ((by
   refine F4 λhn=>?_
   have h1:∀j:Nat,j<=mask->∃i,o[j]?=aj (aj i):=λj hj=>(HA O hj).mp (by
    cases h:o6 o j with
    |true=>rfl
    |false=>exact absurd ⟨j,hj,h⟩ hn)
   let f:Nat->Nat:=λj=>((o[j]?).getD am).getD 0
   have hf:∀j,j<=mask->o[j]?=aj (aj (f j)):=λj hj=>by
    refine a9 (h1 j hj) λi e=>?_;simp[f,e]
   have nd:((fk (mask+1)).map f).Nodup:=by
    rw[afm,CD];refine afn ?_ UY;intro a b ha hb bA e;have qW:=hf a (by have:=mr.mp ha;exact g8 ‹_›);have iX:=hf b (by have:=mr.mp hb;exact g8 ‹_›);rw[e] at qW;exact bA (O.inj _ _ _ qW iX)
   have:=Hv _ (fk hs.length) nd λx hx=>by
    (refine ar (eV.mp hx) λj hj az=>?_;subst az);exact mr.mpr (O.lt _ _ (hf j (by have:=mr.mp hj;exact g8 ‹_›)))
   simp only[ed,UZ] at this;lia)) λj0 hj0 hf=>?_
 refine ar (Nf hk h hj0) λn0 hn0 e0=>?_;refine cm (Nu hk o h (n0:=n0) (by rw[e0];exact hf) (vc mask) 0 (bW _) (by unfold vc;lia) ⟨0,rfl,λm hm=>absurd hm (xk _)⟩) λj hj cx hjm hr=>⟨j,hj,?_⟩;have cX:j<o.size:=by rw[O.size];exact cr ‹_›
 have get:∀j',(o.setIfInBounds j (aj hs.length))[j']?=if j=j' then aj (aj hs.length) else o[j']?:=λj'=>by
  rw[Array.getElem?_setIfInBounds]
  split
  .rename_i e;subst e;first | rfl | rw[bw cX]
  .rfl
 have tk:∀j',o6 o j'=ak->o6 (o.setIfInBounds j (aj hs.length)) j'=ak:=λj' h'=>by
  unfold o6 at h' ⊢;rw[Vc] at h' ⊢;rw[get]
  split
  .rfl
  .exact h'
 have notj:∀i,o[j]?≠aj (aj i):=λi e=>by
  have:=(HA O hjm).mpr ⟨i,e⟩;rw[cx] at this;cases this
 refine ⟨by simpa using O.size,λj' i e=>?_,λj1 j2 i e1 e2=>?_,λi hi=>?_⟩
 .rw[get] at e
  split at e
  .replace e:=aZ e;replace e:=aZ e;subst e;simp
  .have:=O.lt _ _ e;simp;exact eU ‹_›
 .rw[get] at e1 e2
  split at e1<;>split at e2
  .lia
  .replace e1:=aZ e1;replace e1:=aZ e1;subst e1;exact absurd (O.lt _ _ e2) (gf _)
  .replace e2:=aZ e2;replace e2:=aZ e2;subst e2;exact absurd (O.lt _ _ e1) (gf _)
  .exact O.inj _ _ _ e1 e2
 .rw[bJ,List.length_singleton] at hi
  rcases xh i hs.length with c | c
  ·(refine ar (O.has i c) λj' e' zr=>ar zr λd hd hb=>?_);have ee:(hs++[h])[i]'(by simp;assumption)=hs[i]:=List.getElem_append_left c;refine ⟨j',?_,d,?_,λm hm=>tk _ ?_⟩
   .rw[get,if_neg (λ(e:j=j')=>notj i (by rw[e];exact e'))];exact e'
   .rw[ee];exact hd
   .rw[ee];exact hb m hm
  .have e:i=hs.length:=by lia
   subst e;refine ar hr λd hd hb=>⟨j,by rw[get,bw rfl],d,?_,λm hm=>tk _ ?_⟩
   .simpa using hd
   .simpa using hb m hm
theorem YE(mask:Nat):uc mask (Array.replicate (mask+1) am) []:=by
 refine ⟨by simp,λj i e=>?_,λj j' i e U=>?_,λi hi=>absurd hi (xk _)⟩
 .rw[afo] at e;split at e<;>cases e
 .rw[afo] at e;split at e<;>cases e
theorem Nv(hk:mask+1=2^k):∀(l done:List Int) o,uc mask o done->done.length+l.length<=mask->
  ∃o',l.foldl (λacc h=>do
   let (owner,k) <- acc
   let j <- F7 mask owner (vc mask) (rd h%(mask+1)) (rd h)
   bH (owner.setIfInBounds j (aj k),k+1)) (aj (o,done.length))=aj (o',(done++l).length)/\uc mask o' (done++l)
 |[]=>λdone o O U=>⟨o,by simp,by simpa using O⟩
 |h::l=>λdone o O hl=>by
  simp only[re] at hl;refine ar (YD hk O (by lia) h) λj hj O'=>?_;refine ar (Nv hk l (done++[h]) _ O' (by simp;lia)) λo' e O''=>?_;refine ⟨o',?_,by simpa using O''⟩;rw[xn]
  have:(do
   let (owner,k) <- (aj (o,done.length):Option (Dt×Nat))
   let j <- F7 mask owner (vc mask) (rd h%(mask+1)) (rd h)
   bH (owner.setIfInBounds j (aj k),k+1))=aj (o.setIfInBounds j (aj done.length),done.length+1):=by
   simp[hj]
  rw[this];simpa using e
theorem YF(hk:mask+1=2^k)(hs:Array Int)(hl:hs.size<=mask):∃o,afp mask hs=aj o/\uc mask o hs.toList:=by
 refine ar (Nv hk hs.toList [] _ (YE mask) (by simpa using hl)) λo e O=>?_;refine ⟨o,?_,by simpa using O⟩;unfold afp;rw[<- Array.foldl_toList];simp only[rg] at e;rw[e];rfl
theorem Nw{α β:Type}{f:α->Option β}{g:α->β}:∀(l:List α),(∀a∈l,f a=aj (g a))->l.filterMap f=l.map g
 |[]=>λU=>rfl
 |a::l=>λh=>by rw[List.filterMap_cons_some (h a (.head _)),th,Nw l λb hb=>h b (.tail _ hb)]
noncomputable def qn(mask)(o:Dt):=(fk (mask+1)).filterMap λj=>(o.getD j am).map (j,·)
theorem ud(O:uc mask o hs)(j i:Nat):(j,i)∈qn mask o<->o[j]?=aj (aj i):=by
 unfold qn;rw[Vd];constructor
 ·(intro bu;(refine ar bu ?_;clear bu;intro j' hj' e))
  rw[Vc] at e
  cases h:o[j']? with
  |none=>rw[h] at e;cases e
  |some x=>
   rw[h] at e
   cases x with
   |none=>cases e
   |some y=>simp at e;obtain ⟨rfl,rfl⟩:=e;exact h
 .intro e;refine ⟨j,mr.mpr ?_,?_⟩
  .have:=(ve.mp e).1;rw[O.size] at this;exact this
  .rw[Vc,e];rfl
theorem Nx(mask)(o):(qn mask o).Pairwise λa b=>a.1<b.1:=by
 refine List.Pairwise.filterMap _ (λa a' h b hb b' iX=>?_) List.pairwise_lt_range
 cases h1:o.getD a am with
 |none=>rw[h1] at hb;cases hb
 |some x=>
  cases h2:o.getD a' am with
  |none=>rw[h2] at iX;cases iX
  |some y=>
   rw[h1] at hb;rw[h2] at iX;simp at hb iX;rw[<- hb,<- iX];exact h
theorem Ny(hk:mask+1=2^k)(finger moves)(led plain:Bool)(es:Array (Int×aU))(hl:es.size<=mask) :
  ∃t order,Ve mask finger moves led plain (es.map (·.1))=aj (t,order)/\order.toList.Perm (fk es.size)/\Laid t (order.filterMap (es[·]?))/\
   t.mask=mask/\t.finger=finger/\t.led=led/\t.moves=moves/\t.plain=plain:=by
 refine ar (YF hk (es.map (·.1)) (by simpa using hl)) λo e O=>?_;have cc:(es.map (·.1)).toList.length=es.size:=by simp
 have fh:((qn mask o).map (·.2)).Perm (fk es.size):=by
  refine (afq ?_ UY).mpr λi=>?_
  .rw[afm,CD];refine afn ?_ (Nx mask o)
   rintro ⟨j,i⟩ ⟨j',i'⟩ h1 h2 bM (e:i=i')
   subst e;have:=O.inj _ _ _ ((ud O _ _).mp h1) ((ud O _ _).mp h2);simp only at bM;lia
  .rw[mr];constructor
   .intro h;(refine a9 (eV.mp h) λz1 zr=>?_;obtain ⟨j,i'⟩:=z1;obtain ⟨h',rfl⟩:=zr);have:=O.lt _ _ ((ud O _ _).mp h');rw[cc] at this;exact this
   .intro h;refine ar (O.has i (by rw[cc];exact h)) λj e' U=>?_;exact eV.mpr ⟨(j,i),(ud O _ _).mpr e',rfl⟩
 have cX:(qn mask o).length=es.size:=by
  have:=fh.length_eq;simpa using this
 have UA:((qn mask o).map (·.2)).toArray.filterMap (es[·]?)=((qn mask o).map λp=>es[p.2]?.getD (0,.none)).toArray:=by
  rw[List.filterMap_toArray]
  congr 1
  rw[afr];refine Nw _ ?_
  (intro bu h;obtain ⟨j,i⟩:=bu)
  have hi:=O.lt _ _ ((ud O _ _).mp h);rw[cc] at hi;simp[hi]
 refine ⟨{mask,place:=((qn mask o).map (·.1)).toArray,dummies:=#[],finger,led,moves,plain},((qn mask o).map (·.2)).toArray,?_,fh,?_,rfl,rfl,rfl,rfl,rfl⟩
 .unfold Ve;rw[e];rfl
 .have sP:∀x,x∈((qn mask o).map (·.1)).toArray<->∃i:Nat,o[x]?=aj (aj i):=λx=>by
   simp only[afs,eV];constructor
   .rintro ⟨⟨j,i⟩,h,rfl⟩;exact ⟨i,(ud O _ _).mp h⟩
   ·(intro bu;(refine a9 bu ?_;clear bu;intro i h));exact ⟨(x,i),(ud O _ _).mpr h,rfl⟩
  refine ⟨⟨.WS ?_,rfl,⟨k,hk⟩,λj hj=>?_,?_⟩,?_,λp hp=>?_⟩
  .simp only[CD];exact Nx mask o
  .refine a9 ((sP j).mp hj) λi e'=>?_;have:=(ve.mp e').1;rw[O.size] at this;show j<=mask;exact g8 ‹_›
  .simp[cX];exact hl
  .rw[UA];simp
  .rw[UA] at hp;simp only[List.zip_map',eV] at hp
   ((refine a9 hp ?_;clear hp;intro z1 zr);obtain ⟨j,i⟩:=z1;obtain ⟨h,rfl⟩:=zr)
   have hj:=(ud O _ _).mp h;have hi:=O.lt _ _ hj;(refine ar (O.has i hi) λj' e' zr=>ar zr λd hd hb=>?_);have:=O.inj _ _ _ hj e';subst this
   have UC:(es.map (·.1)).toList[i]=(es[i]?.getD (0,.none)).1:=by
    rw[cc] at hi;simp[hi]
   refine ⟨d,?_,λm hm=>?_⟩
   .show (cG mask d (fY mask _)).j=j;rw[<- UC];exact hd
   .rw[sP];have h1:=hb m hm;have h2:(cG mask m (fY mask (es.map (·.1)).toList[i])).j<=mask:=Hz _ m;show ∃i':Nat,o[(cG mask m (fY mask (es[i]?.getD (0,.none)).1)).j]?=_;rw[<- UC];exact ((HA O h2).mp h1)
theorem Nz:∀d7 size n,n<size*2^d7->∃m,Vf n d7 size=size*2^m/\n<size*2^m/\(size*2^m<=max size (2*n))
 |0=>λsize n h=>⟨0,by simp[Vf],by simpa using h,aB (ec (Li size)) (zK _ _)⟩
 |d7+1=>λsize n h=>by
  unfold Vf
  by_cases c:size<=n
  .rw[bw c];refine bx (Nz d7 (size*2) n (by rw[s9] at h;rw[Cu,xi 2];exact h)) λm e h1 h2=>?_;refine ⟨m+1,?_,?_,?_⟩
   .rw[e,s9,Cu,xi 2]
   .rw[s9,xi (2^m),<- Cu];exact h1
   .rw[s9,xi (2^m),<- Cu];exact aB h2 (g9.2 ⟨aB (xi _ _▸vf 2 c) (xo _ _),xo _ _⟩)
  .rw[if_neg c];exact ⟨0,(Li size).symm,ae9 (Lj.1 c) (Li size).symm,aB (ec (Li size)) (zK _ _)⟩
theorem NB(n)(h:n<=8000):∃k,zL n=2^k/\n<2^k/\8<=2^k/\2^k<=8192:=by
 refine bx (Nz 64 8 n (kx h aM)) λm e h1 h2=>?_;have e8:8*2^m=2^(m+3):=by rw[Nat.pow_add];exact xi _ _
 have h3:8<=8*2^m:=aft 8 (UR m);rw[e8] at e h1 h2 h3;refine ⟨m+3,e,h1,h3,?_⟩
 rcases xh 13 (m+3) with c | c
 .exact absurd (aB (zH aM c) (aB h2 (g9.2 ⟨by decide,vf 2 h⟩))) (by decide:¬2^14<=2*8000)
 .exact zH aM c
set_option backward.match.sparseCases true
theorem o7{α:Type}{M:Ll}{A:fL}{c:Prop}[Decidable c]{a b:ig α}{Q:α->bf->Prop}{E:ah}{s:bf}(h:c)(k:aw M A a Q E s):aw M A (if c then a else b) Q E s:=(bw h).symm▸k
theorem ir{α:Type}{M:Ll}{A:fL}{c:Prop}[Decidable c]{a b:ig α}{Q:α->bf->Prop}{E:ah}{s:bf}(h:¬c)(k:aw M A b Q E s):aw M A (if c then a else b) Q E s:=(if_neg h).symm▸k
structure PH where
 obj:bc->Option jO
 tok:Nat->Option aa
structure PH.le(P Q:PH):Prop where
 obj:∀a o,P.obj a=aj o->Q.obj a=aj o
 tok:∀t x,P.tok t=aj x->Q.tok t=aj x
structure PH.ok(P:PH):Prop where
 len:∀t x,P.tok t=aj x->x.length<=ci
structure PH.on(P:PH)(s:bf):Prop where
 obj:∀a o,P.obj a=aj o->s.heap.get? a=aj o
 tok:∀t x,P.tok t=aj x->0<t/\t<s.toks
 pos:0<s.toks
 ok:P.ok
theorem PH.le.refl(P:PH):P.le P:=⟨λU U h=>h,λU U h=>h⟩
theorem PH.le.trans{P Q R:PH}(a:P.le Q)(b:Q.le R):P.le R:=⟨λx o h=>b.obj x o (a.obj x o h),λx o h=>b.tok x o (a.tok x o h)⟩
mutual
noncomputable def eK(w:dy):V->Int
 |.str s=>hashStr w (aJ s)
 |.tup l=>Vg (Lm (rN w l))
 |_=>0
noncomputable def rN(w:dy):af->List Int
 |[]=>[]
 |x::xs=>eK w x::rN w xs
end
noncomputable def ue(n:String):=["NoneType","bool","int","str","type","tuple","list","set"].contains n
noncomputable def jG(w:dy):=!w.params.followText "set-order"
structure gO(t:SetTable)(es:Array (Int×aU)):Prop where
 laid:Laid t es
 lo:7<=t.mask
 hi:t.mask<=8191
 load:t.place.size*5<t.mask*3
structure NC where
 a:bc
 o:jO
 vs:Array aU
 n:Nat
structure rP(P:PH)(c:String)(d:NC):Prop where
 obj:P.obj d.a=aj d.o
 cls:d.o.cls=.type c
 data:d.o.data=.seq d.vs d.n
 len:d.vs.size<=ci
structure YG where
 a:bc
 o:jO
 es:Array (Int×aU)
 ep:Nat
 t:SetTable
 fs:List (Int×aU)
structure yb(w:dy)(P:PH)(d:YG):Prop where
 obj:P.obj d.a=aj d.o
 ex:d.o.ExactSet
 data:d.o.data=.set d.es d.ep d.t
 cf:gO d.t d.es
 led:d.t.led=jG w
 perm:d.es.toList.Perm d.fs
mutual
noncomputable def aA(w:dy)(P:PH):aU->V->Prop
 |v,.none=>v=.none
 |v,.bool b=>v=.bool b
 |v,.int i=>∃t,v=.int i t
 |v,.str s=>∃t,v=.str (aJ s) t/\(∀c∈s,c<128)/\P.tok t=aj s
 |v,.ty n=>v=.type n/\ue n=ak
 |v,.tup l=>∃d,v=.ref d.a/\rP P "tuple" d/\(d.o.dict=am/\d.o.slots=#[])/\bp w P d.vs.toList l
 |v,.lst l=>∃d,v=.ref d.a/\rP P "list" d/\bp w P d.vs.toList l
 |v,.set l=>∃d,v=.ref d.a/\yb w P d/\l.Nodup/\bU w P d.fs l
noncomputable def bp(w:dy)(P:PH):List aU->af->Prop
 |vs,[]=>vs=[]
 |vs,x::xs=>match vs with
  |[]=>False
  |v::vs=>aA w P v x/\bp w P vs xs
noncomputable def bU(w:dy)(P:PH):List (Int×aU)->af->Prop
 |es,[]=>es=[]
 |es,x::xs=>match es with
  |[]=>False
  |e::es=>(e.1=eK w x/\dS x=ak/\aA w P e.2 x)/\bU w P es xs
end
section
theorem aA.none:aA w P .none .none:=rfl
theorem aA.bool(b):aA w P (.bool b) (.bool b):=rfl
theorem aA.ty(n)(h:ue n=ak):aA w P (.type n) (.ty n):=⟨rfl,h⟩
theorem aA.int(i)(t):aA w P (.int i t) (.int i):=⟨t,rfl⟩
theorem aA.str(s)(t)(h:∀c∈s,c<128)(k:P.tok t=aj s):aA w P (.str (aJ s) t) (.str s):=⟨t,rfl,h,k⟩
theorem aA.tup{a o vs n l}(h1:P.obj a=aj o)(h2:o.cls=.type "tuple")(h3:o.data=.seq vs n)(h4:bp w P vs.toList l)(h5:o.dict=am/\o.slots=#[])(h6:vs.size<=ci):aA w P (.ref a) (.tup l):=⟨⟨a,o,vs,n⟩,rfl,⟨h1,h2,h3,h6⟩,h5,h4⟩
theorem aA.lst{a o vs n l}(h1:P.obj a=aj o)(h2:o.cls=.type "list")(h3:o.data=.seq vs n)(h4:bp w P vs.toList l)(h6:vs.size<=ci):aA w P (.ref a) (.lst l):=⟨⟨a,o,vs,n⟩,rfl,⟨h1,h2,h3,h6⟩,h4⟩
theorem bp.nil:bp w P [] []:=rfl
theorem bp.cons{v vs x xs}(h:aA w P v x)(r:bp w P vs xs):bp w P (v::vs) (x::xs):=⟨h,r⟩
theorem bU.nil:bU w P [] []:=rfl
theorem bU.cons{h v es x xs}(h1:h=eK w x)(h2:dS x=ak)(h3:aA w P v x)(r:bU w P es xs):bU w P ((h,v)::es) (x::xs):=⟨⟨h1,h2,h3⟩,r⟩
theorem rP.mono(h:rP P c d)(hp:P.le P'):rP P' c d:=⟨hp.obj _ _ h.obj,h.cls,h.data,h.len⟩
theorem yb.mono(h:yb w P d)(hp:P.le P'):yb w P' d:=⟨hp.obj _ _ h.obj,h.ex,h.data,h.cf,h.led,h.perm⟩
mutual
theorem aA.oR(hp:P.le P'):∀x {v:aU},aA w P v x->aA w P' v x
 |.none=>λh=>h
 |.bool U1=>λh=>h
 |.int U1=>λh=>h
 |.str U1=>λh=>vg (λU r=>⟨r.1,r.2.1,hp.tok _ _ r.2.2⟩) h
 |.ty U1=>λh=>h
 |.tup l=>λh=>vg (λU r=>⟨r.1,r.2.1.mono hp,r.2.2.1,bp.oR hp l r.2.2.2⟩) h
 |.lst l=>λh=>vg (λU r=>⟨r.1,r.2.1.mono hp,bp.oR hp l r.2.2⟩) h
 |.set l=>λh=>vg (λU r=>⟨r.1,r.2.1.mono hp,r.2.2.1,bU.oR hp l r.2.2.2⟩) h
theorem bp.oR(hp:P.le P'):∀xs {vs:List aU},bp w P vs xs->bp w P' vs xs
 |[]=>λh=>h
 |x::xs=>λh=>by cases ‹List aU› with | nil=>exact h | cons v vs=>exact ⟨aA.oR hp x h.1,bp.oR hp xs h.2⟩
theorem bU.oR(hp:P.le P'):∀xs {es:List (Int×aU)},bU w P es xs->bU w P' es xs
 |[]=>λh=>h
 |x::xs=>λh=>by cases ‹List (Int×aU)› with | nil=>exact h | cons e es=>exact ⟨⟨h.1.1,h.1.2.1,aA.oR hp x h.1.2.2⟩,bU.oR hp xs h.2⟩
end
theorem aA.mono(hp:P.le P')(h:aA w P v x):aA w P' v x:=aA.oR hp x h
theorem bp.mono(hp:P.le P')(h:bp w P vs xs):bp w P' vs xs:=bp.oR hp xs h
theorem bU.mono(hp:P.le P')(h:bU w P es xs):bU w P' es xs:=bU.oR hp xs h
theorem bp.ind{C:List aU->af->Prop}(h0:C [] [])(h1:∀v x vs xs,aA w P v x->bp w P vs xs->C vs xs->C (v::vs) (x::xs)):∀xs {vs:List aU},bp w P vs xs->C vs xs
 |[]=>λh=>h.symm▸h0
 |x::xs=>λh=>by cases ‹List aU› with | nil=>exact h.elim | cons v vs=>exact h1 v x vs xs h.1 h.2 (bp.ind h0 h1 xs h.2)
theorem bU.ind{C:List (Int×aU)->af->Prop}(h0:C [] [])(h1:∀e x es xs,e.1=eK w x/\dS x=ak/\aA w P e.2 x->bU w P es xs->C es xs->C (e::es) (x::xs)):∀xs {es:List (Int×aU)},bU w P es xs->C es xs
 |[]=>λh=>h.symm▸h0
 |x::xs=>λh=>by cases ‹List (Int×aU)› with | nil=>exact h.elim | cons e es=>exact h1 e x es xs h.1 h.2 (bU.ind h0 h1 xs h.2)
theorem bp.length(h:bp w P vs xs):vs.length=xs.length:=bp.ind (C:=λvs xs=>vs.length=xs.length) rfl (λU U U U U U ih=>aE (·+1) ih) xs h
theorem bp.append(h:bp w P vs xs)(k:bp w P us ys):bp w P (vs++us) (xs++ys):=bp.ind (C:=λvs xs=>bp w P (vs++us) (xs++ys)) k (λU U U U h U ih=>⟨h,ih⟩) xs h
theorem Du{α:Type}{i:Nat}{x:α}{Q:Prop}(h:([]:List α)[i]?=aj x):Q:=nomatch (List.getElem?_nil.symm.trans h:am=aj x)
theorem bp.at(h:bp w P vs xs):∀i:Nat,(∀x,xs[i]?=aj x->∃v,vs[i]?=aj v/\aA w P v x)/\∀v,vs[i]?=aj v->∃x,xs[i]?=aj x/\aA w P v x:=
 bp.ind (C:=λvs xs=>∀i,(∀x,xs[i]?=aj x->∃v,vs[i]?=aj v/\aA w P v x)/\∀v,vs[i]?=aj v->∃x,xs[i]?=aj x/\aA w P v x) (λU=>⟨λU h=>Du h,λU h=>Du h⟩)
  (λv x vs xs h U ih i=>by cases i with | zero=>exact ⟨λy e=>⟨v,rfl,aZ e▸h⟩,λy e=>⟨x,rfl,aZ e▸h⟩⟩ | succ i=>exact ih i) xs h
theorem bp.get(h:bp w P vs xs){i:Nat}(hx:xs[i]?=aj x):∃v,vs[i]?=aj v/\aA w P v x:=(h.at i).1 x hx
theorem bp.get'(h:bp w P vs xs){i:Nat}(hv:vs[i]?=aj v):∃x,xs[i]?=aj x/\aA w P v x:=(h.at i).2 v hv
theorem bp.take(h:bp w P vs xs):∀n,bp w P (vs.take n) (xs.take n):=
 bp.ind (C:=λvs xs=>∀n,bp w P (vs.take n) (xs.take n)) (λn=>by rw[afu,afu];rfl) (λv x vs xs h U ih n=>by cases n with | zero=>exact bp.nil | succ n=>exact ⟨h,ih n⟩) xs h
theorem bp.drop(h:bp w P vs xs):∀n,bp w P (vs.drop n) (xs.drop n):=
 bp.ind (C:=λvs xs=>∀n,bp w P (vs.drop n) (xs.drop n)) (λn=>by rw[afv,afv];rfl) (λv x vs xs h r ih n=>by cases n with | zero=>exact ⟨h,r⟩ | succ n=>exact ih n) xs h
theorem bU.length(h:bU w P vs xs):vs.length=xs.length:=bU.ind (C:=λvs xs=>vs.length=xs.length) rfl (λU U U U U U ih=>aE (·+1) ih) xs h
theorem bU.append(h:bU w P vs xs)(k:bU w P us ys):bU w P (vs++us) (xs++ys):=bU.ind (C:=λvs xs=>bU w P (vs++us) (xs++ys)) k (λU U U U h U ih=>⟨h,ih⟩) xs h
theorem bU.values(h:bU w P vs xs):bp w P (vs.map (·.2)) xs:=bU.ind (C:=λvs xs=>bp w P (vs.map (Ln:Int×aU->aU)) xs) bp.nil (λU U U U h U ih=>⟨h.2.2,ih⟩) xs h
theorem bU.at(h:bU w P vs xs):∀i:Nat,(∀x,xs[i]?=aj x->∃e,vs[i]?=aj e/\e.1=eK w x/\dS x=ak/\aA w P e.2 x)/\∀e,vs[i]?=aj e->∃x,xs[i]?=aj x/\e.1=eK w x/\dS x=ak/\aA w P e.2 x:=
 bU.ind (C:=λvs xs=>∀i,(∀x,xs[i]?=aj x->∃e,vs[i]?=aj e/\e.1=eK w x/\dS x=ak/\aA w P e.2 x)/\∀e,vs[i]?=aj e->∃x,xs[i]?=aj x/\e.1=eK w x/\dS x=ak/\aA w P e.2 x) (λU=>⟨λU h=>Du h,λU h=>Du h⟩)
  (λv x vs xs h U ih i=>by cases i with | zero=>exact ⟨λy e=>⟨v,rfl,aZ e▸h⟩,λy e=>⟨x,rfl,aZ e▸h⟩⟩ | succ i=>exact ih i) xs h
theorem bU.get'(h:bU w P vs xs){i:Nat}(hv:vs[i]?=aj e):∃x,xs[i]?=aj x/\e.1=eK w x/\dS x=ak/\aA w P e.2 x:=(h.at i).2 e hv
theorem bU.get(h:bU w P vs xs){i:Nat}(hx:xs[i]?=aj x):∃e,vs[i]?=aj e/\e.1=eK w x/\dS x=ak/\aA w P e.2 x:=(h.at i).1 x hx
theorem bU.rF{Q:Prop}(h:bU w P (e::es) xs)(k:∀x ys,xs=x::ys->e.1=eK w x/\dS x=ak/\aA w P e.2 x->bU w P es ys->Q):Q:=by
 cases xs with
 |nil=>exact (by injection h)
 |cons x ys=>exact k x ys rfl h.1 h.2
theorem bU.perm(p:pQ.Perm es):∀{xs:af},bU w P es xs->∃xs',xs'.Perm xs/\bU w P pQ xs':=by
 induction p with
 |nil=>exact λh=>⟨_,.rfl,h⟩
 |cons e U1 ih=>exact λh=>h.rF λx ys e h r=>(ih r).elim λzs q=>⟨x::zs,e▸q.1.cons x,h,q.2⟩
 |swap a b l=>exact λh=>h.rF λx ys e h r=>r.rF λy zs e' h' r=>⟨y::x::zs,by rw[e,e'];exact F8 ..,h',h,r⟩
 |trans U1 U2 ih1 ih2=>exact λh=>(ih2 h).elim λys q=>(ih1 q.2).elim λzs q'=>⟨zs,q'.1.trans q.1,q'.2⟩
theorem bU.Mg{Q:Prop}(h:bU w P es (x::xs))(k:∀e fs,es=e::fs->e.1=eK w x/\dS x=ak/\aA w P e.2 x->bU w P fs xs->Q):Q:=by
 cases es with
 |nil=>exact h.elim
 |cons e fs=>exact k e fs rfl h.1 h.2
theorem bU.aht(p:l.Perm l'):∀{es:List (Int×aU)},bU w P es l'->∃fs,es.Perm fs/\bU w P fs l:=by
 induction p with
 |nil=>exact λh=>⟨_,.rfl,h⟩
 |cons x U1 ih=>exact λh=>h.Mg λx ys e h r=>(ih r).elim λzs q=>⟨x::zs,e▸q.1.cons x,h,q.2⟩
 |swap a b l=>exact λh=>h.Mg λx ys e h r=>r.Mg λy zs e' h' r=>⟨y::x::zs,by rw[e,e'];exact F8 ..,h',h,r⟩
 |trans U1 U2 ih1 ih2=>exact λh=>(ih2 h).elim λys q=>(ih1 q.2).elim λzs q'=>⟨zs,q.1.trans q'.1,q'.2⟩
theorem aA.set{a o es ep t l l'}(h1:P.obj a=aj o)(h2:o.ExactSet)(h3:o.data=.set es ep t)(h4:gO t es)(h5:t.led=jG w)(h6:bU w P es.toList l')(h7:l'.Perm l)(h8:l.Nodup):aA w P (.ref a) (.set l):=
 (h6.aht h7.symm).elim λfs q=>⟨⟨a,o,es,ep,t,fs⟩,rfl,⟨h1,h2,h3,h4,h5,q.1⟩,h8,q.2⟩
theorem yb.rep(h:yb w P d)(r:bU w P d.fs l):∃l',l'.Perm l/\bU w P d.es.toList l':=r.perm h.perm
end
mutual
noncomputable def lz:V->Vh
 |.none=>.none
 |.bool b=>.bool b
 |.int i=>.int i
 |.str s=>.str (aJ s)
 |.tup l=>.tuple (nP l)
 |.lst l=>.list (nP l)
 |.ty _ | .set _=>.none
noncomputable def nP:af->List Vh
 |[]=>[]
 |x::xs=>lz x::nP xs
end
theorem ND(a b):(aJ a==aJ b)=(a==b):=by
 by_cases h:a=b
 .subst h;rw[f0,f0]
 .have:aJ a≠aJ b:=λe=>h ((by simpa[aJ] using e));rw[kz.mpr h,kz.mpr this]
mutual
theorem AI:∀a b,dj a=ak->dj b=ak->Lo (lz a) (lz b)=eX a b
 |.none=>λb U hb=>by cases b with | ty _=>exact aY hb | set _=>exact aY hb | _=>rfl
 |.bool x=>λb U hb=>by cases b with | ty _=>exact aY hb | set _=>exact aY hb | _=>rfl
 |.int x=>λb U hb=>by cases b with | ty _=>exact aY hb | set _=>exact aY hb | _=>rfl
 |.str x=>λb U hb=>by cases b with | ty _=>exact aY hb | set _=>exact aY hb | str y=>exact ND x y | _=>rfl
 |.ty x=>λb ha U=>aY ha
 |.set x=>λb ha U=>aY ha
 |.tup x=>λb ha hb=>by cases b with | ty _=>exact aY hb | set _=>exact aY hb | tup y=>exact HB x y ha hb | _=>rfl
 |.lst x=>λb ha hb=>by cases b with | ty _=>exact aY hb | set _=>exact aY hb | lst y=>exact HB x y ha hb | _=>rfl
theorem HB:∀a b,gW a=ak->gW b=ak->afw (nP a) (nP b)=lS a b
 |[]=>λb U U=>by cases b<;>rfl
 |x::xs=>λb ha hb=>by
  cases b with
  |nil=>rfl
  |cons y ys=>
   show (Lo (lz x) (lz y)&&afw (nP xs) (nP ys))=(eX x y&&lS xs ys);rw[AI x y (aI ha) (aI hb),HB xs ys (ax ha) (ax hb)]
end
mutual
theorem o8:∀a,dj a=ak->(lz a).depth=dm a
 |.none=>λU=>rfl
 |.bool U1=>λU=>rfl
 |.int U1=>λU=>rfl
 |.str U1=>λU=>rfl
 |.ty U1=>λh=>aY h
 |.set U1=>λh=>aY h
 |.tup x=>λh=>aE (·+1) (vN x h)
 |.lst x=>λh=>aE (·+1) (vN x h)
theorem vN:∀a,gW a=ak->afx (nP a)=i0 a
 |[]=>λU=>rfl
 |x::xs=>λh=>by
  show max (lz x).depth (afx (nP xs))=max (dm x) (i0 xs);rw[o8 x (aI h),vN xs (ax h)]
end
section
theorem YH(hs:∀c∈x,c<128):(lz (.str x)).canLay0=ak:=by
 show afy (aJ x)=ak;simp only[afy,aJ];rw[afz,eE];intro c hc;have:=hs c hc;simp;exact bD ‹_›
mutual
theorem aA.Aj(hp:P.on s):∀x {v:aU},aA w P v x->dj x=ak->(∃as,Reads s.heap v (lz x) as)/\(lz x).canLay0=ak
 |.none=>λh U=>by cases (show _=jQ from h);exact ⟨⟨_,.none⟩,rfl⟩
 |.bool b=>λh U=>by cases (show _=Vi b from h);exact ⟨⟨_,.bool b⟩,rfl⟩
 |.int i=>λh U=>by obtain ⟨t,rfl⟩:=h;exact ⟨⟨_,.int i t⟩,rfl⟩
 |.str s=>λh U=>by (refine bx h ?_;clear h;intro t av r cI;subst av;clear cI);exact ⟨⟨_,.str _ t⟩,YH r⟩
 |.ty U1=>λU hx=>aY hx
 |.set U1=>λU hx=>aY hx
 |.tup l=>λh hx=>by
  (refine ar h ?_;clear h;intro d av r;subst av);exact (bp.Aj hp l r.2.2 hx).imp (λq=>q.imp λas q=>.tuple (hp.obj _ _ r.1.obj) r.1.cls r.1.data q) id
 |.lst l=>λh hx=>by
  (refine ar h ?_;clear h;intro d av r;subst av);exact (bp.Aj hp l r.2 hx).imp (λq=>q.elim λas q=>⟨_,.list (hp.obj _ _ r.1.obj) r.1.cls r.1.data q⟩) id
theorem bp.Aj(hp:P.on s):∀xs {vs:List aU},bp w P vs xs->gW xs=ak->(∃as,ReadsAll s.heap vs (nP xs) as)/\Vh.canLayAll0 (nP xs)=ak
 |[]=>λh U=>by cases (show _=[] from h);exact ⟨⟨_,.nil⟩,rfl⟩
 |x::xs=>λh hx=>by
  cases ‹List aU› with
  |nil=>exact h.elim
  |cons v vs=>
   have a:=aA.Aj hp x h.1 (aI hx);have b:=bp.Aj hp xs h.2 (ax hx);exact ⟨a.1.elim λU p=>b.1.elim λU q=>⟨_,.cons p q⟩,dM.2 ⟨a.2,b.2⟩⟩
end
theorem aA.reads(hp:P.on s)(h:aA w P v x)(hx:dj x=ak):(∃as,Reads s.heap v (lz x) as)/\(lz x).canLay0=ak:=aA.Aj hp x h hx
end
theorem AJ(x)(hx:dj x=ak):∀l,gW l=ak->((nP l).any λy=>Lo y (lz x))=l.any λy=>eX y x
 |[]=>λU=>rfl
 |y::l=>λh=>by
  show (Lo (lz y) (lz x)||_)=(eX y x||_);rw[AI y x (aI h) hx,AJ x hx l (ax h)]
section
theorem YI(hp:P.on s)(ra:aA w P a x)(rb:aA w P b y)(hx:dj x=ak)(hy:dj y=ak)(hd:min (dm x) (dm y)<=100)(hu:A.units+200<dD)
  (h:Q (.bool (eX x y)) s):aw (aH an w) A (kA .Eq a b) Q E s:=by
 (refine bm (ra.reads hp hx) λz1 c1=>?_;obtain ⟨as,r1⟩:=z1);(refine bm (rb.reads hp hy) λz1 c2=>?_;obtain ⟨bs,r2⟩:=z1);exact SeqAt.compareEq_reads r1 r2 c1 c2 (by rw[o8 x hx,o8 y hy];exact jB hu (bD hd)) (by rw[AI x y hx hy];exact h)
theorem YJ(hp:P.on s)(ra:aA w P a x)(rb:aA w P b y)(hx:dj x=ak)(hy:dj y=ak)(hd:min (dm x) (dm y)<=100)(hu:A.units+200<dD)
  (h:Q (.bool (!eX x y)) s):aw (aH an w) A (kA .NotEq a b) Q E s:=by
 (refine bm (ra.reads hp hx) λz1 c1=>?_;obtain ⟨as,r1⟩:=z1);(refine bm (rb.reads hp hy) λz1 c2=>?_;obtain ⟨bs,r2⟩:=z1);exact SeqAt.compareNe_reads r1 r2 c1 c2 (by rw[o8 x hx,o8 y hy];exact jB hu (bD hd)) (by rw[AI x y hx hy];exact h)
theorem eq_bool(hp:P.on s)(ra:aA w P a x)(rb:aA w P b y)(hx:dj x=ak)(hy:dj y=ak)(hd:min (dm x) (dm y)<=100)(hu:A.units+200<dD)
  (h:Q (eX x y) s):aw (aH an w) A (eqBool a b) Q E s:=by
 (refine bm (ra.reads hp hx) λz1 c1=>?_;obtain ⟨as,r1⟩:=z1);(refine bm (rb.reads hp hy) λz1 c2=>?_;obtain ⟨bs,r2⟩:=z1);exact SeqAt.eqBoolOverData an w A E s a b _ _ as bs Q r1 r2 c1 c2 (by rw[o8 x hx,o8 y hy];exact jB hu (bD hd)) (by rw[AI x y hx hy];exact h)
theorem YK(hp:P.on s)(ra:aA w P a x)(rb:aA w P b (.lst l))(hx:dj x=ak)(hy:gW l=ak)(hd:min (i0 l) (dm x)<=100)(hu:A.units+200<dD)
  (h:Q (.bool (l.any λy=>eX y x)) s):aw (aH an w) A (kA .In a b) Q E s:=by
 (refine bm (ra.reads hp hx) λz1 c1=>?_;obtain ⟨as,r1⟩:=z1);(refine bm (rb.reads hp hy) λz1 c2=>?_;obtain ⟨bs,r2⟩:=z1);exact SeqAt.in_list_reads r2 r1 c2 c1 (by rw[o8 x hx,vN l hy];exact nI hu (aB (iE hd 1) (by decide))) (by rw[AJ x hx l hy];exact h)
theorem YL(hp:P.on s)(ra:aA w P a x)(rb:aA w P b (.lst l))(hx:dj x=ak)(hy:gW l=ak)(hd:min (i0 l) (dm x)<=100)(hu:A.units+200<dD)
  (h:Q (.bool (!l.any λy=>eX y x)) s):aw (aH an w) A (kA .NotIn a b) Q E s:=by
 (refine bm (ra.reads hp hx) λz1 c1=>?_;obtain ⟨as,r1⟩:=z1);(refine bm (rb.reads hp hy) λz1 c2=>?_;obtain ⟨bs,r2⟩:=z1);exact SeqAt.notIn_list_reads r2 r1 c2 c1 (by rw[o8 x hx,vN l hy];exact nI hu (aB (iE hd 1) (by decide))) (by rw[AJ x hx l hy];exact h)
theorem YM(hp:P.on s)(ra:aA w P a x)(rb:aA w P b (.tup l))(hx:dj x=ak)(hy:gW l=ak)(hd:min (i0 l) (dm x)<=100)(hu:A.units+200<dD)
  (h:Q (.bool (l.any λy=>eX y x)) s):aw (aH an w) A (kA .In a b) Q E s:=by
 (refine bm (ra.reads hp hx) λz1 c1=>?_;obtain ⟨as,r1⟩:=z1);(refine bm (rb.reads hp hy) λz1 c2=>?_;obtain ⟨bs,r2⟩:=z1);exact SeqAt.in_tuple_reads r2 r1 c2 c1 (by rw[o8 x hx,vN l hy];exact nI hu (aB (iE hd 1) (by decide))) (by rw[AJ x hx l hy];exact h)
theorem YN(hp:P.on s)(ra:aA w P a x)(rb:aA w P b (.tup l))(hx:dj x=ak)(hy:gW l=ak)(hd:min (i0 l) (dm x)<=100)(hu:A.units+200<dD)
  (h:Q (.bool (!l.any λy=>eX y x)) s):aw (aH an w) A (kA .NotIn a b) Q E s:=by
 (refine bm (ra.reads hp hx) λz1 c1=>?_;obtain ⟨as,r1⟩:=z1);(refine bm (rb.reads hp hy) λz1 c2=>?_;obtain ⟨bs,r2⟩:=z1);exact SeqAt.notIn_tuple_reads r2 r1 c2 c1 (by rw[o8 x hx,vN l hy];exact nI hu (aB (iE hd 1) (by decide))) (by rw[AJ x hx l hy];exact h)
theorem NE:∀n x v A s Q,dm x<=n->A.units+n<dD->(∀a o,P.obj a=aj o->s.heap.get? a=aj o)->aA w P v x->mI x=ak->
  (∀tk,Q (eK w x) {s with toks:=tk})->aw (aH an w) A (pyHash v) Q E s:=by
 intro n
 induction n with
 |zero=>
  intro x v A s Q hd hu hp r hx h
  cases x with
  |str t=>(refine ar r ?_;clear r;intro k av az;subst av;clear az);exact afA (h _)
  |tup=>exact absurd hd (xf _)
  |_=>exact aY hx
 |succ n ih=>
  intro x v A s Q hd hu hp r hx h
  cases x with
  |str t=>(refine ar r ?_;clear r;intro k av az;subst av;clear az);exact afA (h _)
  |tup l=>
   (refine cm r ?_;clear r;intro d av S cI h4;subst av;clear cI);have hT:s.TypeIs (.ref d.a) "tuple":=⟨d.o,hp _ _ S.obj,S.cls⟩;refine au (wpAny_cRoomFor_or (.inr (kx (dH _ _) hu)) ?_);refine au (rh hT F.slot_tuple_hash.lookup ?_);show aw _ _ (if (aj (afB "tuple.__hash__")==aj jQ)=ak then _ else _) Q E s;refine ir (by rw[afC];exact vd) ?_;refine au (rh hT F.slot_tuple_hash.lookup ?_);show aw _ _ (callSpecialIfBoundUnlessNone? (.ref d.a) "__hash__" _>>=_) Q E s;refine au (wpAny_callSpecialIfBoundUnlessNone?_slot hT F.slot_tuple_hash (mz F.slot_tuple_hash hT F.entry_tuple_hash ?_ (F.args_tuple_hash_1 _)));show aw _ _ (afD (.ref d.a)>>=_) _ _ s;refine au (wpAny_tupleItemsOf (hp _ _ S.obj) S.data ?_);refine au ?_;rw[<- zM]
   refine zN _
    (λrest b s'=>∃left,bp w P rest left/\(qe left=ak/\i0 left<=n)/\b.toList++rN w left=rN w l/\∃tk,s'={s with toks:=tk})
    _ ?_ ?_ _ _ ⟨l,h4,⟨hx,g8 hd⟩,rfl,s.toks,rfl⟩
   .intro v rest b s' zr;refine cm zr ?_;clear zr;intro left hl hh hb zr;refine a9 zr ?_;clear zr;intro tk zq;subst zq
    cases left with
    |nil=>exact (by injection hl)
    |cons y ys=>
     refine au (ih y v _ _ _ (aB (zK _ _) hh.2) (kY A.units n 1▸hu) hp hl.1 (aI hh.1) λzu=>?_);have e:(b.push (eK w y)).toList++rN w ys=rN w l:=by rw[F9,b8];exact hb
     first
      |exact aC ⟨ys,hl.2,⟨ax hh.1,aB (xo _ _) hh.2⟩,e,zu,rfl⟩
      |exact au (aC (aC ⟨ys,hl.2,⟨ax hh.1,aB (xo _ _) hh.2⟩,e,zu,rfl⟩))
   .intro b s' zr;refine cm zr ?_;clear zr;intro left hl zx hb zr;clear zx;refine a9 zr ?_;clear zr;intro tk zq;subst zq
    cases left with
    |cons=>exact hl.elim
    |nil=>
     rw[show rN w []=[] from rfl,eh] at hb;show aw _ _ (retInt (Lm b.toList)) _ _ _;rw[hb];refine wpAny_ret_mkInt ?_;replace h:∀tk,Q (Vg (Lm (rN w l))) {s with toks:=tk}:=h;revert h;generalize Lm (rN w l)=i;intro h;show aw _ _ (if (decide (-(2:Int)^63<=i)&&decide (i<2^63))=ak then _ else _) Q E _;unfold Vg at h
     by_cases hr:(decide (-(2:Int)^63<=i)&&decide (i<2^63))=ak
     .rw[bw hr] at h ⊢;exact aC (h _)
     .rw[if_neg hr] at h ⊢;exact au (ti (aC (h _)))
  |_=>exact aY hx
end
theorem HC{α:Type}{M:Ll}{A:fL}{c:Prop}[Decidable c]{a b:ig α}{Q:α->bf->Prop}{E:ah}{s:bf}(h1:c->aw M A a Q E s)(h2:¬c->aw M A b Q E s):aw M A (if c then a else b) Q E s:=
 (Decidable.em c).elim (λh=>o7 h (h1 h)) λh=>ir h (h2 h)
theorem AK{α β:Type}{f:α->β->ig (ForInStep β)}{r0:β}{Q:β->bf->Prop}(J:List α->Prop)
  (turn:∀x rest,J (x::rest)->aw M A (f x r0) (λr s'=>match r with | .yield b=>s'=s/\b=r0/\J rest | .done b=>Q b s') E s) (fin:J []->Q r0 s) {l:List α} (h:J l):aw M A (Ga l r0 f) Q E s:=
 zN f (λrest b s'=>s'=s/\b=r0/\J rest) Q (λx rest b s' h=>by obtain ⟨rfl,rfl,h⟩:=h;exact turn x rest h) (λb s' h=>by obtain ⟨rfl,rfl,h⟩:=h;exact fin h) l r0 ⟨rfl,rfl,h⟩
theorem nQ{c:Prop}[Decidable c]{a b:Prop}(h1:a)(h2:b):if c then a else b:=by split<;>assumption
theorem gO.fits(F:gO t es):t.fits es.size=ak:=by
 have h3:t.dummies=#[]:=F.laid.tab.gn;simp only[Vj,Gc,h3,fM,beq_iff_eq,nz];exact ⟨F.laid.size,by simpa using F.laid.tab.room⟩
theorem gO.odd(F:gO t es):t.gaveWay=ap:=by
 refine a9 F.laid.tab.pow λk hk=>?_;have hk0:k≠0:=λe=>by subst e;have:=F.lo;simp at hk;lia
 refine a9 (Nat.exists_eq_succ_of_ne_zero hk0) λj az=>?_;subst az;unfold SetTable.gaveWay;rw[s9] at hk;simp only[kz];lia
section
mutual
theorem NF:∀x,mI x=ak->dj x=ak
 |.str U1=>λU=>rfl
 |.tup l=>λh=>NG l h
 |.none=>λh=>aY h
 |.bool U1=>λh=>aY h
 |.int U1=>λh=>aY h
 |.ty U1=>λh=>aY h
 |.lst U1=>λh=>aY h
 |.set U1=>λh=>aY h
theorem NG:∀l,qe l=ak->gW l=ak
 |[]=>λU=>rfl
 |x::l=>λh=>dM.2 ⟨NF x (aI h),NG l (ax h)⟩
end
theorem jl(h:dS x=ak):dj x=ak/\mI x=ak/\dm x<=5:=⟨NF x (aI h),aI h,eT (ax h)⟩
mutual
theorem NH:∀x y,mI x=ak->eX x y=V.beq x y
 |.str U1=>λy U=>by cases y<;>rfl
 |.tup l=>λy h=>by cases y with | tup m=>exact NJ l m h | _=>rfl
 |.none=>λU h=>aY h
 |.bool U1=>λU h=>aY h
 |.int U1=>λU h=>aY h
 |.ty U1=>λU h=>aY h
 |.lst U1=>λU h=>aY h
 |.set U1=>λU h=>aY h
theorem NJ:∀l m,qe l=ak->lS l m=V.vA l m
 |[]=>λm U=>by cases m<;>rfl
 |x::l=>λm h=>by
  cases m with
  |nil=>rfl
  |cons y m=>show (eX x y&&lS l m)=(V.beq x y&&V.vA l m);rw[NH x y (aI h),NJ l m (ax h)]
end
theorem NK(x y)(hx:mI x=ak):eX x y=decide (x=y):=by
 rw[NH x y hx]
 cases h:V.beq x y with
 |true=>exact (eP (V.beq_eq x y h)).symm
 |false=>exact (decide_eq_false λe:x=y=>nomatch (e▸V.beq_refl x:V.beq x y=ak).symm.trans h).symm
def vO(n:Nat)(ys:af):=qe ys=ak/\i0 ys<=n
theorem vO.hd(h:vO n (y::ys)):dm y<=n/\mI y=ak:=⟨aB (zK _ _) h.2,aI h.1⟩
theorem vO.tl(h:vO n (y::ys)):vO n ys:=⟨ax h.1,aB (xo _ _) h.2⟩
theorem YO:∀n x v s Q,dm x<=n->(∀a o,P.obj a=aj o->s.heap.get? a=aj o)->aA w P v x->mI x=ak->
  Q ak s->aw (aH an w) A (Vk n v) Q E s:=by
 intro n
 induction n with
 |zero=>
  intro x v s Q hd hp r hx h
  cases x with
  |str=>(refine ar r λt av az=>?_;subst av;clear az);exact aC h
  |tup=>exact absurd hd (xf _)
  |_=>exact aY hx
 |succ n ih=>
  intro x v s Q hd hp r hx h
  cases x with
  |str=>(refine ar r λt av az=>?_;subst av;clear az);exact aC h
  |tup l=>
   (refine cm r λd av S cI h4=>?_;subst av;clear cI);have hT:s.TypeIs (.ref d.a) "tuple":=⟨d.o,hp _ _ S.obj,S.cls⟩;unfold Vk;refine au (rh hT F.slot_tuple_eq.lookup ?_);refine au (CE hT isSubtype_tuple_tuple ?_);refine au (ri (hp _ _ S.obj) S.data ?_);refine au ?_;rw[<- zM];refine AK (λrest=>∃ys,bp w P rest ys/\vO n ys) (λv rest hI=>ar hI λys hr hh=>?_) ?_ ⟨l,h4,hx,g8 hd⟩
   .cases ys with
    |nil=>exact (by injection hr)
    |cons y ys=>
     refine au (ih y v _ _ hh.hd.1 hp hr.1 hh.hd.2 ?_);exact aC ⟨rfl,rfl,ys,hr.2,hh.tl⟩
   .exact λU=>aC h
  |_=>exact aY hx
theorem YP:∀n x v s Q,dm x<=n->(∀a o,P.obj a=aj o->s.heap.get? a=aj o)->aA w P v x->mI x=ak->
  Q ap s->aw (aH an w) A (afE n v) Q E s:=by
 intro n
 induction n with
 |zero=>
  intro x v s Q hd hp r hx h
  cases x with
  |str=>(refine ar r λt av az=>?_;subst av;clear az);exact aC h
  |tup=>exact absurd hd (xf _)
  |_=>exact aY hx
 |succ n ih=>
  intro x v s Q hd hp r hx h
  cases x with
  |str=>(refine ar r λt av az=>?_;subst av;clear az);exact aC h
  |tup l=>
   (refine cm r λd av S cI h4=>?_;subst av;clear cI);have hT:s.TypeIs (.ref d.a) "tuple":=⟨d.o,hp _ _ S.obj,S.cls⟩
   set_option smartUnfolding false in show aw _ A (Lp (.ref d.a)>>=_) Q E s
   refine au (Gd hT ?_);refine au (aC ?_);refine au (ri (hp _ _ S.obj) S.data ?_);refine au ?_;rw[<- zM];refine AK (λrest=>∃ys,bp w P rest ys/\vO n ys) (λv rest hI=>ar hI λys hr hh=>?_) ?_ ⟨l,h4,hx,g8 hd⟩
   .cases ys with
    |nil=>exact (by injection hr)
    |cons y ys=>
     set_option smartUnfolding false in refine au (ih y v _ _ hh.hd.1 hp hr.1 hh.hd.2 ?_)
     exact aC ⟨rfl,rfl,ys,hr.2,hh.tl⟩
   .exact λU=>aC h
  |_=>exact aY hx
theorem NM(hp:∀a o,P.obj a=aj o->s.heap.get? a=aj o)(r:aA w P v x)(he:dS x=ak)(h:Q ak s) :
  aw (aH an w) A (Vk 8 v) Q E s:=YO 8 x v s Q (by have:=(jl he).2.2;exact bD ‹_›) hp r (jl he).2.1 h
theorem NN(hp:∀a o,P.obj a=aj o->s.heap.get? a=aj o)(r:aA w P v x)(he:dS x=ak)(h:Q ap s) :
  aw (aH an w) A (afE 8 v) Q E s:=YP 8 x v s Q (by have:=(jl he).2.2;exact bD ‹_›) hp r (jl he).2.1 h
theorem YQ(hp:∀a o,P.obj a=aj o->s.heap.get? a=aj o)(r:aA w P v x)(he:dS x=ak) :
  ∀l,(∀u∈l,∃y,aA w P u y/\dS y=ak)->∀(Q:Bool->bf->Prop),Q ap s->aw (aH an w) A (searchCouldBeSeen v l) Q E s:=by
 intro l hl Q h;refine au ?_;refine AK (λrest=>∀u∈rest,∃y,aA w P u y/\dS y=ak) (λu rest hr=>?_) ?_ hl
 .refine ar (hr u (.head _)) λy ry hy=>?_;have T3:∀u∈rest,∃y,aA w P u y/\dS y=ak:=λu hu=>hr u (.tail _ hu);refine nA (nQ ?_ ?_)
  .exact aC ⟨rfl,rfl,T3⟩
  .refine au (NM hp r he ?_);refine au (NM hp ry hy ?_);refine au (NN hp r he ?_);refine au (NN hp ry hy ?_);exact aC ⟨rfl,rfl,T3⟩
 .exact λU=>aC h
end
section
variable {an:dX}{w:dy}{A:fL}{E:ah}{P:PH}{s:bf}
theorem NO(hp:P.on s)(r:aA w P v x)(he:dS x=ak)(h:Q ak s):aw (aH an w) A (isSame v v) Q E s:=by
 cases x with
 |str t=>
  (refine bx r λk av az ht=>?_;subst av;clear az);show aw _ _ (afF _ _ _) Q E s;unfold afF;have h1:(k==0)=ap:=kz.mpr (mB (hp.tok _ _ ht).1);rw[h1,bw (f0 k)];exact aC h
 |tup=>(refine ar r λd av az=>?_;subst av;clear az);exact wpAny_isSame_ref_self h
 |_=>exact aY (jl he).2.1
structure cY(w:dy)(P:PH)(h:bK)(a:bc)(o:jO)(es:Array (Int×aU))(ep:Nat)(t:SetTable)(l:af):Prop where
 get:h.get? a=aj o
 ex:o.ExactSet
 data:o.data=.set es ep t
 cf:gO t es
 led:t.led=jG w
 rep:bU w P es.toList l
 nodup:l.Nodup
theorem cY.entry(S:cY w P s.heap a o es ep t l){i:Nat}(h:es[i]?=aj e):∃x,l[i]?=aj x/\e.1=eK w x/\dS x=ak/\aA w P e.2 x:=
 S.rep.get' (by simpa using h)
def yc(t:SetTable)(h:Int)(j:Nat):=∃d,(cG t.mask d (fY t.mask h)).j=j/\t.slot j=.empty/\∀m,m<d->sl t (fY t.mask h) m≠.empty
def cR(w:dy)(t:SetTable)(v:V):=fY t.mask (eK w v)
def Seen(l:af)(v:V)(x:afG):=x≠.empty/\∀i,x=.live i->l[i]?≠aj v
theorem Seen.live(h:l[i]?≠aj v):Seen l v (.live i):=⟨UV,λU e=>afG.live.inj e▸h⟩
noncomputable def Dv(es:Array (Int×aU))(i:Nat):=(es[i]?.map (·.1)).getD 0
theorem cY.hash(S:cY w P s.heap a o es ep t l)(hv:l[i]?=aj v):Dv es i=eK w v:=by
 (refine bx (S.rep.get hv) λe he hh az=>?_;clear az);show (es[i]?.map (·.1)).getD 0=_;rw[<- Vl,he];exact hh
theorem Dw(t)(p)(k c):sl t (cG t.mask k p) c=sl t p (k+c):=aE (λq:Pr=>t.slot q.j) (vM ..).symm
theorem YR{k c m:Nat}(h:m<k+c):m<k\/∃q,q<c/\k+q=m:=(xh m k).imp id λg=>⟨m-k,Vb g h,F6 g⟩
theorem cY.met(S:cY w P s.heap a o es ep t l)(hv:v∈l):∃i d,l[i]?=aj v/\sl t (cR w t v) d=.live i/\∀m,m<=d->sl t (cR w t v) m≠.empty:=by
 (refine a9 (Lf.mp hv) λi zr=>?_;obtain ⟨hi,e1⟩:=zr);have hx:l[i]?=aj v:=by rw[oM hi,e1]
 (refine bx (S.rep.get hx) λe he hh az=>?_;clear az);rw[Vl] at he;have cX:i<t.place.size:=S.cf.laid.size▸(ve.mp he).1;have df:t.place[i]?=aj (t.place.getD i 0):=Hx cX;refine ar (S.cf.laid.reach (e,t.place.getD i 0) (YB he df)) λd hd hb=>?_;have T:=S.cf.laid.tab;rw[show e.1=_ from hh] at hd hb;exact ⟨i,d,hx,(aE t.slot hd).trans (Nh T.inc cX),λm hm h=>(Dr T.inc T.gn _).1 h ((Lc hm).elim (hb m) λe=>e▸hd▸afg df)⟩
theorem cY.seen(S:cY w P s.heap a o es ep t l)(h6:∀m,m<k->Seen l v (sl t p m))(hb:ql t (Dv es) (eK w v) (cG t.mask k p) c)(m)(hm:m<k+c):Seen l v (sl t p m):=
 (YR hm).elim (h6 m) λh=>by
  (refine ar h λq hq az=>?_;subst az);refine ar (hb q hq) λi g1 g2=>?_;rw[<- Dw,g1];exact .live λhv=>g2 (S.hash hv)
theorem cY.absent(S:cY w P s.heap a o es ep t l)(h6:∀m,m<k->Seen l v (sl t (cR w t v) m))(he:sl t (cR w t v) k=.empty):v∉l:=λhv=>by
 refine bX (S.met hv) λi d h1 h2 h3=>?_
 rcases xh d k with q | q
 .exact (h6 d q).2 i h2 h1
 .exact h3 k q he
theorem cY.ahw(S:cY w P s.heap a o es ep t l)(h):∀u∈(es.filter λe=>e.1==h).toList.map (·.2),∃y,aA w P u y/\dS y=ak:=λu hu=>by
 (refine ar (eV.mp hu) λe he az=>?_;subst az);(refine a9 (aff.mp (Array.mem_filter.mp (F5.mp he)).1) λj zr=>?_;obtain ⟨hj,ej⟩:=zr);refine cm (S.entry (i:=j) (e:=e) (by rw[Lh hj,ej])) λz U U hz hzr=>?_;exact ⟨z,hzr,hz⟩
structure YS(w:dy)(P:PH)(t:SetTable)(es:Array (Int×aU))(l:af)(v:V)(i n:Nat)(u:Int×aU)(y:V):Prop where
 ent:es[i]?=aj u
 at_:l[i]?=aj y
 elem:dS y=ak
 rep:aA w P u.2 y
 eq:eX y v=decide (y=v)
 next:y≠v->∀m,m<n->Seen l v (sl t (cR w t v) m)
theorem cY.bN(S:cY w P s.heap a o es ep t l){v:V}(h6:∀m,m<k->Seen l v (sl t (cR w t v) m))(hl:sl t (cG t.mask k (cR w t v)) c=.live i)(hb:ql t (Dv es) (eK w v) (cG t.mask k (cR w t v)) c) :
  ∃q:(Int×aU)×V,YS w P t es l v i (k+(c+1)) q.1 q.2:=by
 have hi:i<es.size:=S.cf.laid.size▸(ve.mp (Ni hl)).1;refine cm (S.entry (Lh hi)) λy hy U FG Cl=>?_;refine ⟨(es[i],y),Lh hi,hy,FG,Cl,NK y v (jl FG).2.1,λbA m hm=>?_⟩
 rcases Lc (pY hm) with q | rfl
 .exact S.seen h6 hb m q
 .show Seen l v (sl t (cR w t v) (k+c));rw[<- Dw,hl];exact .live λh=>bA (aZ (hy.symm.trans h))
theorem YT(t:SetTable):t.sameMemory t.moves t.mask=aj ak:=bw (f0 _)
set_option maxHeartbeats 1000000 in
theorem YU(hp:P.on s)(S:cY w P s.heap a o es ep t l)(hx:aA w P x v)(he:dS v=ak)(hu:A.units+200<dD)(oD)
  (oG:v∈l->(oD=ak->Q (.there am) s)/\(oD=ap->∀i,l[i]?=aj v->Q (.there (aj i)) s))
  (Cg:v∉l->∀j,yc t (eK w v) j->Q (.free j ap) s) :
  ∀d7 k d (stand:Option ae5),k<=d->d<k+d7->d<10*vc t.mask->sl t (cR w t v) d=.empty->
   stand.getD (t.probeStart (eK w v))=cG t.mask k (cR w t v)->(∀m,m<k->Seen l v (sl t (cR w t v) m))->
   aw (aH an w) A (setSearchFrom a x (eK w v) oD d7 stand) Q E s:=by
 intro d7
 induction d7 with
 |zero=>exact λk d stand h1 h2=>absurd h2 (fZ.2 h1)
 |succ d7 ih=>
  intro k d stand h1 h2 h3 h4 h5 h6;show aw _ A (setState a>>=_) Q E s;refine au (kC S.get S.data S.cf.fits ?_);dsimp only;rw[S.cf.odd,if_neg vd,h5];generalize hr:afh t _ (eK w v) (cG t.mask k (cR w t v))=r
  have g:nO t (Dv es) (eK w v) (cG t.mask k (cR w t v)) (d-k) r:=
   hr▸Hy S.cf.laid.tab.gn _ _ _ _ (d-k) (kx (xp _ _) h3) ((Dw _ _ _ _).trans ((F6 h1).symm▸h4))
  clear hr;refine nO.el g (λc i hc hl hh hb=>?_) (λc hc hl hb=>?_)
  .refine (S.bN h6 hl hb).elim λq C=>?_;refine nA ((λg=>nQ (au (YQ hp.obj hx he _ (S.ahw _) _ g)) g) ?_);rw[C.ent];refine au (gg (eq_bool hp C.rep hx (jl C.elem).1 (jl he).1 (aB (vh _ _) (bD (jl he).2.2)) hu ?_));refine au (kC S.get S.data S.cf.fits ?_);have hn:k+(c+1)<=d:=kZ k _▸Nat.add_le_of_le_sub h1 hc;have aed:=λbA=>ih (k+(c+1)) d (aj (cG t.mask (c+1) (cG t.mask k (cR w t v)))) hn (b7 h2 (by rw[jg,kZ d7];exact iE (gD (ms _ _) _) _)) h3 h4 (vM ..).symm (C.next bA);dsimp only;rw[YT,C.eq];have hs:t.slot (cG t.mask c (cG t.mask k (cR w t v))).j=.live i:=hl
   by_cases hyv:q.2=v
   .rw[eP hyv];have hd:=oG (k8 (hyv▸C.at_))
    cases oD with
    |true=>exact aC (hd.1 rfl)
    |false=>
     dsimp only;rw[bw rfl,hs];dsimp only;rw[C.ent];exact au (NO hp C.rep C.elem (au (aC (aC (hd.2 rfl i (hyv▸C.at_))))))
   .rw[decide_eq_false hyv,CF];dsimp only;rw[bw rfl,hs];dsimp only;rw[C.ent];exact au (NO hp C.rep C.elem (au (aC (aed hyv))))
  .dsimp only;rw[(λt v k=>Nl _ _ _),<- vM];rw[Dw] at hl;have hs:=S.seen h6 hb;exact aC (Cg (S.absent hs hl) _ ⟨_,rfl,hl,λm hm=>(hs m hm).1⟩)
end
section
variable {an:dX}{w:dy}{A:fL}{E:ah}{P:PH}{s:bf}
variable {a:bc}{o:jO}{es:Array (Int×aU)}{ep:Nat}{t:SetTable}{l:af}
theorem NP(hp:P.on s)(S:cY w P s.heap a o es ep t l)(hx:aA w P x v)(he:dS v=ak)(hu:A.units+200<dD)(oD)
  (oG:v∈l->(oD=ak->Q (.there am) s)/\(oD=ap->∀i,l[i]?=aj v->Q (.there (aj i)) s))
  (Cg:v∉l->∀j,yc t (eK w v) j->Q (.free j ap) s) :
  aw (aH an w) A (setSearch a x (eK w v) oD) Q E s:=
 (S.cf.laid.tab.hits (eK w v)).elim λd h=>YU hp S hx he hu oD oG Cg 100000 0 d am (bW _) ((jP 100000).symm▸td h.1 ((by exact kx (vf 10 (gD S.cf.hi 15)) (by decide)))) h.1 h.2 rfl λm hm=>absurd hm (xk _)
theorem YV(hr:bU w P es.toList l)(h:Ge x es=ak):es.all (λe=>isExactStrKey e.2)=ak/\es.all (λe=>e.2.scannable)=ak:=by
 simp only[Ge,fM] at h;refine ⟨?_,h.2⟩;rw[afH];intro i hi;have h2:=afH.mp h.2 i hi;refine cm (hr.get' (i:=i) (e:=es[i]) (by simp[hi])) λy U U FG Cl=>?_;generalize es[i].2=u at h2 Cl ⊢
 cases y with
 |str=>(refine ar Cl λt av az=>?_;subst av;clear az);rfl
 |tup=>(refine ar Cl λd av az=>?_;subst av;clear az);exact aY h2
 |_=>exact aY ((jl FG).2.1)
theorem YW(hr:bU w P es.toList l)(hp:P.on s):es.findIdx? (λe=>e.2.isStr (aJ k))=l.findIdx? (λy=>decide (y=.str k)):=by
 obtain ⟨el⟩:=es;rw[List.findIdx?_toArray];simp only at hr;clear hp;refine bU.ind (C:=λel l=>el.findIdx? (λe=>e.2.isStr (aJ k))=l.findIdx? (λy=>decide (y=.str k))) rfl (λe y el ys h U ih=>?_) l hr;rw[Vm,Vm,ih];have hh:=(jl h.2.1).2.1;have r:=h.2.2;generalize e.2=u at r ⊢
 have:u.isStr (aJ k)=decide (y=.str k):=by
  rw[<- NK y (.str k) hh]
  cases y with
  |str z=>(refine ar r λt av az=>?_;subst av;clear az);exact ND z k
  |tup=>(refine ar r λd av az=>?_;subst av;clear az);rfl
  |_=>exact aY hh
 rw[this]
theorem NQ(hp:P.on s)(S:cY w P s.heap a o es ep t l)(hx:aA w P (.str (aJ k) tk) (.str k))(hb:Ge (.str (aJ k) tk) es=ak)(hu:A.units+200<dD)(oD)
  (oG:∀i,l[i]?=aj (.str k)->Q (.found i) s) (Cg:V.str k∉l->Q .absent s):aw (aH an w) A (setScan a (.str (aJ k) tk) h oD es) Q E s:=by
 refine o7 ((YV S.rep hb).1) ?_;unfold setScanStrs;rw[YW S.rep hp]
 cases hf:l.findIdx? (λy=>decide (y=.str k)) with
 |none=>
  refine aC (Cg λhm=>?_);have:=List.findIdx?_eq_none_iff.mp hf _ hm;simp at this
 |some i=>
  dsimp only;refine ar (List.findIdx?_eq_some_iff_getElem.mp hf) λhi hpi U=>?_;have FP:l[i]?=aj (.str k):=by rw[oM hi];simpa using hpi
  refine cm (S.rep.get FP) λe he hh hel hr=>?_;have oH:es[i]?=aj (e.1,e.2):=by simpa using he
  rw[oH];dsimp only;refine au (rj S.get S.data S.cf.fits ?_);have df:dj (.str k)=ak:=rfl;refine au (eq_bool hp hr hx df df (bW 100) hu ?_);have sZ:eX (.str k) (.str k)=ak:=f0 k;rw[sZ]
  cases oD with
  |true=>exact aC (oG i FP)
  |false=>
   refine au (rj S.get S.data S.cf.fits ?_);rw[bne_self_eq_false];exact aC (oG i FP)
theorem HD(hp:P.on s)(S:cY w P s.heap a o es ep t l)(hx:aA w P x v)(he:dS v=ak)(hu:A.units+200<dD)
  (h:∀r,r.isSome=l.contains v->Q r s):aw (aH an w) A (setFind a x (eK w v)) Q E s:=by
 refine au (kC S.get S.data S.cf.fits ?_);have yes:v∈l->l.contains v=ak:=λh=>by simpa using h
 have no:v∉l->l.contains v=ap:=λh=>by simpa using h
 by_cases hb:Ge x es=ak
 .refine o7 hb ?_;refine au (ti ?_)
  cases v with
  |str k=>
   (refine bx hx λtk av h1 h2=>?_;subst av);exact au (NQ hp S (.str k tk h1 h2) hb hu ap (λi hi=>aC (h _ (by rw[yes (k8 hi)];rfl))) λhn=>aC (h _ (by rw[no hn];rfl)))
  |tup=>(refine ar hx λd av az=>?_;subst av;clear az);exact aY (aI (aI hb))
  |_=>exact aY (jl he).2.1
 .refine ir hb ?_;refine au (NP hp S hx he hu ap ?_ ?_)
  .intro hv;exact ⟨λe=>by simp at e,λU i hi=>aC (h _ (by rw[yes hv];rfl))⟩
  .intro hv j _;exact aC (h _ (by rw[no hv];rfl))
theorem NR(ho:s.heap.get? a=aj o)(hd:o.data=.set es ep t)(hf:t.fits es.size=ak)
  (hl:t.relaid (es.map (·.1)) wanted=aj (t',order)) (cX:(order.filterMap (es[·]?)).size=es.size) (hw:¬zL wanted > oN)
  (hz:es.size<=oN) (h:Q () {s with heap:=s.heap.update a (pZ (order.filterMap (es[·]?)) t')}):aw (aH an w) A (setRelay a wanted) Q E s:=by
 refine au (kC ho hd hf ?_);dsimp only;rw[if_neg hw,hl];refine au (vi (a:=(order.filterMap (es[·]?),t')) ?_ ?_)
 .show (if ((order.filterMap (es[·]?)).size != es.size)=ak then _ else _)=_;rw[if_neg (by simp[cX])]
 .exact zO ho hd h (by rw[cX];exact hz)
theorem gO.plain(F:gO t es)(b):gO {t with plain:=b} es:=
 ⟨⟨⟨F.laid.tab.inc,F.laid.tab.gn,F.laid.tab.pow,F.laid.tab.jA,F.laid.tab.room⟩,F.laid.size,F.laid.reach⟩,F.lo,F.hi,F.load⟩
theorem Laid.plain(L:Laid t es)(b):Laid {t with plain:=b} es:=⟨⟨L.tab.inc,L.tab.gn,L.tab.pow,L.tab.jA,L.tab.room⟩,L.size,L.reach⟩
theorem AL{order:Array Nat}(hp:order.toList.Perm (fk es.size)):(order.filterMap (es[·]?)).toList.Perm es.toList:=by
 rw[Array.toList_filterMap];exact (hp.filterMap _).trans (by rw[filterMap_getElem?_range])
theorem HE(hn:es.size*2<=wanted)(hb:wanted<=8000):∃t' order,t.relaid (es.map (·.1)) wanted=aj (t',order)/\order.toList.Perm (fk es.size)/\gO t' (order.filterMap (es[·]?))/\t'.led=t.led/\
  ¬zL wanted > oN/\(order.filterMap (es[·]?)).size=es.size/\t'.mask+1=zL wanted:=by
 refine cm (NB wanted hb) λk hk h1 h8 h13=>?_;have bM:es.size*2<2^k:=kx hn h1;have hm1:2^k-1+1=2^k:=zP (tQ h8);rw[<- hk] at bM hm1 h8 h13;(refine Au (Ny (mask:=zL wanted-1) (k:=k) (hm1.trans hk) t.finger (t.movedTo (zL wanted-1)) t.led t.plain es (CA (kx (aft _ (by decide)) bM))) λt' order e fh B7 hm U zr=>?_;obtain ⟨wW,_,_⟩:=zr)
 have cX:(order.filterMap (es[·]?)).size=es.size:=by
  have:=(AL fh).length_eq
  rwa [dY,dY] at this
 refine ⟨t',order,e,fh,⟨B7,hm▸afI h8 1,hm▸afI h13 1,?_⟩,wW,fZ.2 (aB h13 (xq▸by decide)),cX,hm▸hm1⟩;rw[B7.size,cX,hm];generalize zL wanted=z at *;exact Ms (CA bM) (CA (tQ h8))
theorem NS:∀n x v s Q,(∀a o,P.obj a=aj o->s.heap.get? a=aj o)->aA w P v x->mI x=ak->
  (∀b,Q b s)->aw (aH an w) A (hashByValue n v) Q E s:=by
 intro n
 induction n with
 |zero=>
  intro x v s Q hp r hx h
  cases x with
  |str=>(refine ar r λt av az=>?_;subst av;clear az);exact aC (h _)
  |tup=>(refine ar r λd av az=>?_;subst av;clear az);exact aC (h _)
  |_=>exact aY hx
 |succ n ih=>
  intro x v s Q hp r hx h
  cases x with
  |str=>(refine ar r λt av az=>?_;subst av;clear az);exact aC (h _)
  |tup l=>
   (refine cm r λd av S cI h4=>?_;subst av;clear cI);have hT:s.TypeIs (.ref d.a) "tuple":=⟨d.o,hp _ _ S.obj,S.cls⟩;refine au (rh hT F.slot_tuple_hash.lookup ?_);refine au (ri (hp _ _ S.obj) S.data ?_);refine au ?_;rw[<- zM];refine zN _ (λrest r s'=>s'=s/\∃ys,bp w P rest ys/\qe ys=ak) _ ?_ ?_ _ _ ⟨rfl,l,h4,hx⟩
   .rintro v rest b s' ⟨rfl,ys,hr,hh⟩
    cases ys with
    |nil=>exact (by injection hr)
    |cons y ys=>exact au (ih y v _ _ hp hr.1 (aI hh) λb'=>nA (nQ (aC (aC (h _))) (aC ⟨rfl,ys,hr.2,ax hh⟩)))
   .rintro ⟨b1,b2⟩ s' ⟨rfl,-⟩
    cases b1<;>exact aC (h _)
  |_=>exact aY hx
structure YX where
 o:jO
 es:Array (Int×aU)
 ep:Nat
 t:SetTable
 l:af
def bS(w:dy)(P:PH)(h:bK)(a:bc)(l:af):=∃d:YX,cY w P h a d.o d.es d.ep d.t d.l/\d.l.Perm l
theorem yd{h:bK}(ho:h.get? a=aj o)(hex:o.ExactSet)(hd:o.data=.set es ep t)(F:gO t' pQ)(wW:t'.led=jG w)(hr:bU w P pQ.toList l')(hn:l'.Nodup) :
  cY w P (h.update a (pZ pQ t')) a {o with data:=.set pQ (ep+1) t'} pQ (ep+1) t' l':=by
 refine ⟨?_,hex,rfl,F,wW,hr,hn⟩
 .have:=xr (pZ pQ t') ho (by rw[Lq pQ t' hd];rfl)
  rwa [Lq pQ t' hd] at this
structure lA(w:dy)(P:PH)(n:Nat)(t2:SetTable)(dn:Array (Int×aU))(l':af):Prop where
 laid:Laid t2 dn
 lo:7<=t2.mask
 hi:t2.mask<=8191
 led:t2.led=jG w
 size:dn.size=n+1
 rep:bU w P dn.toList l'
 nodup:l'.Nodup
theorem gO.put(F:gO t es)(hf:yc t h j)(x):Laid (t.put j).1 (zJ es (t.put j).2 (h,x)):=by
 (refine bx hf λd av he hb=>?_;subst av);have T:=F.laid.tab;exact F.laid.put (Vn λc=>absurd F.load (fZ.2 (Lr c (by decide)))) rfl (λm hm=>F4 λh=>hb m hm ((Dr T.inc T.gn _).2 h)) ((Dr T.inc T.gn _).mp he) (Hz h d)
theorem cY.new(S:cY w P s.heap a o es ep t l)(hx:aA w P x v)(he:dS v=ak)(hv:v∉l)(hf:yc t (eK w v) j)(b:Bool) :
  ∃l',lA w P es.size (if b then (t.put j).1 else {(t.put j).1 with plain:=ap}) (zJ es (t.put j).2 (eK w v,x)) l'/\l'.Perm (l++[v]):=by
 have L:=S.cf.put hf x;have hp:=SetTable.insertAt_perm es (t.put j).2 (eK w v,x)
 refine bx ((by
   rw[F9] at hp;refine ar (bU.perm hp (S.rep.append (.cons rfl he hx .nil))) λl' p r=>?_;exact ⟨l',p,r,(zQ.mpr ⟨S.nodup,by simp,λa ha b hb e=>hv ((show a=v from e.trans (en.1 hb))▸ha)⟩).perm p.symm⟩)) λl' p r n=>?_
 have cX:(zJ es (t.put j).2 (eK w v,x)).size=es.size+1:=by
  have:=hp.length_eq
  rwa [dY,dY,Vo] at this
 refine ⟨l',?_,p⟩
 cases b with
 |true=>exact ⟨L,S.cf.lo,S.cf.hi,S.led,cX,r,n⟩
 |false=>exact ⟨L.plain ap,S.cf.lo,S.cf.hi,S.led,cX,r,n⟩
section
theorem lA.fill(N:lA w P n t2 dn l'):t2.fill=n+1:=by
 rw[<- N.size,<- N.laid.size];unfold Gc;rw[N.laid.tab.gn];rfl
theorem lA.fits(N:lA w P n t2 dn l'):t2.fits dn.size=ak:=by
 simp only[Vj,fM,beq_iff_eq,nz];exact ⟨N.laid.size,by simp only[Gc,N.laid.tab.gn];exact N.laid.tab.room⟩
theorem lA.cf(N:lA w P n t2 dn l')(h:¬t2.tooFull=ak):gO t2 dn:=by
 refine ⟨N.laid,N.lo,N.hi,?_⟩;have:¬(t2.fill*5 >= t2.mask*3):=by simpa[SetTable.tooFull] using h
 rw[N.laid.size,N.size];rw[N.fill] at this;exact Lj.1 this
theorem lA.get(N:lA w P n t2 dn l')(S:cY w P s.heap a o es ep t l):(s.heap.update a (pZ dn t2)).get? a=aj {o with data:=.set dn (ep+1) t2}:=by
 have:=xr (pZ dn t2) S.get (by rw[Lq dn t2 S.data];rfl)
 rwa [Lq dn t2 S.data] at this
theorem lA.is(N:lA w P n t2 dn l')(p:l'.Perm m)(S:cY w P s.heap a o es ep t l)(h:¬t2.tooFull=ak):bS w P (s.heap.update a (pZ dn t2)) a m:=
 ⟨⟨_,_,_,_,l'⟩,yd S.get S.ex S.data (N.cf h) N.led N.rep N.nodup,p⟩
theorem lA.WT(N:lA w P n t2 dn l')(p:l'.Perm m)(S:cY w P s.heap a o es ep t l){t3:SetTable}{order:Array Nat}(hp:order.toList.Perm (fk dn.size))(F:gO t3 (order.filterMap (dn[·]?)))(led:t3.led=t2.led) :
  bS w P ((s.heap.update a (pZ dn t2)).update a (pZ (order.filterMap (dn[·]?)) t3)) a m:=by
 refine ar (bU.perm (AL hp) N.rep) λl3 p3 r3=>?_;exact ⟨⟨_,_,_,_,l3⟩,yd (o:={o with data:=.set dn (ep+1) t2}) (N.get S) S.ex rfl F (led.trans N.led) r3 (N.nodup.perm p3.symm),p3.trans p⟩
end
end
section
theorem Dx(h:n<=4000):n<=oN:=by rw[xq];exact bD ‹_›
theorem NT(h:n<=50000):zR n=n*4:=if_neg (fZ.2 h)
theorem NU(N:lA w P n t2 dn l')(p:l'.Perm m)(S:cY w P s.heap a o es ep t l)(hn:n<2000)
  (h:∀h',lO a s.heap h'->bS w P h' a m->Q ak {s with heap:=h'}) :
  aw (aH an w) A (do
   Vp a dn t2
   if (!ap&&t2.tooFull)=ak then do
    setRelay a (zR (n+1))
    bH ak
   else bH ak) Q E s:=by
 have hz:dn.size<=oN:=Dx (N.size▸bD hn);refine au (zO S.get S.data ?_ hz)
 by_cases hfull:t2.tooFull=ak
 .have Cr:=NT (n:=n+1) (bD hn);(refine Au (HE (t:=t2) (es:=dn) (wanted:=zR (n+1)) (by rw[Cr,N.size];exact vf _ (by decide)) (by rw[Cr];exact s8 4 hn)) λt3 order e3 fh F3 led3 hw3 zr=>?_;obtain ⟨zl,_⟩:=zr);refine o7 (show (!ap&&t2.tooFull)=ak from hfull) ?_;exact au (NR (s:={s with heap:=s.heap.update a (pZ dn t2)}) (N.get S) rfl N.fits e3 zl hw3 hz (aC (h _ ((mC ..).trans (mC ..)) (N.WT p S fh F3 led3))))
 .refine ir (show ¬(!ap&&t2.tooFull)=ak from hfull) ?_;exact aC (h _ (mC ..) (N.is p S hfull))
theorem YY(F:gO t es)(h)(x):∃j,yc t h j/\layNew t es h x=(zJ es (t.put j).2 (h,x),(t.put j).1,ap,ap):=by
 refine ar (F.laid.tab.hits h) λd0 hd0 he0=>?_;have g:nO t (λU=>h+1) h (fY t.mask h) d0 (t.probe (λU=>h+1) h (t.probeStart h)):=Hy F.laid.tab.gn _ h _ _ d0 hd0 he0;have KS:∀r,t.probe (λU=>h+1) h (t.probeStart h)=r->t.freeSlot h=(match r with | some (.empty j d)=>aj (d.getD j,d.isSome) | _=>am):=λr e=>e▸rfl;generalize e:t.probe (λU=>h+1) h (t.probeStart h)=r at g;have KS:=KS r e
 cases g with
 |bN c i U1 U2 hh=>exact absurd hh (Vq (Int.lt_succ h))
 |emp c hc hl hb=>
  have hf:yc t h (cG t.mask c (fY t.mask h)).j:=⟨c,rfl,hl,λm hm=>hb.ne hm⟩;have L:=F.put hf x;refine ⟨_,hf,?_⟩
  have sR:(t.put (cG t.mask c (fY t.mask h)).j).1.fits (zJ es (t.put (cG t.mask c (fY t.mask h)).j).2 (h,x)).size=ak:=by
   simp only[Vj,fM,beq_iff_eq,nz];exact ⟨L.size,by simp only[Gc,L.tab.gn];exact L.tab.room⟩
  unfold layNew;rw[show t.freeSlot h=aj ((cG t.mask c (fY t.mask h)).j,ap) from KS];dsimp only;rw[sR];unfold SetTable.orStandIn;rw[bw sR];rfl
theorem YZ(hn:es.size*2<=wanted)(hb:wanted<=8000):∃(t':SetTable) (order:Array Nat),order.toList.Perm (fk es.size)/\gO t' (order.filterMap (es[·]?))/\t'.led=t.led/\(order.filterMap (es[·]?)).size=es.size/\
  Gf t es wanted=(order.filterMap (es[·]?),t',ap):=by
 (refine Au (HE (t:=t) hn hb) λt' order e fh F wW U zr=>?_;obtain ⟨cX,_⟩:=zr);refine ⟨t',order,fh,F,wW,cX,?_⟩;unfold Gf;rw[e];dsimp only;have hc:coversAll order es.size=ak:=by unfold coversAll;exact List.isPerm_iff.mpr fh
 rw[hc,F.fits];rfl
theorem NV{g:Bool->ig Unit}(hg:∀b aF Q',Q' () aF->aw (aH an w) A (g b) Q' E aF)(N:lA w P n t2 dn l')(p:l'.Perm m)(S:cY w P s.heap a o es ep t l)(hn:n<2000)
  (h:∀h',lO a s.heap h'->bS w P h' a m->Q (aj ak) {s with heap:=h'}) :
  aw (aH an w) A (do
    Vp a dn t2
    if (!ap&&t2.tooFull)=ak then do
      g (Gf t2 dn (zR dn.size)).2.2
      Vp a (Gf t2 dn (zR dn.size)).1 (Gf t2 dn (zR dn.size)).2.1
      bH (aj ak)
     else bH (aj ak)) Q E s:=by
 have hz:dn.size<=oN:=Dx (N.size▸bD hn);refine au (zO S.get S.data ?_ hz)
 by_cases hfull:t2.tooFull=ak
 .have Cr:=NT (n:=dn.size) (N.size▸bD hn);refine My (YZ (t:=t2) (es:=dn) (wanted:=zR dn.size) (by rw[Cr];exact vf _ (by decide)) (by rw[Cr,N.size];exact s8 4 hn)) λt3 order fh F3 led3 zl eall=>?_;rw[bw (show (!ap&&t2.tooFull)=ak from hfull),eall];exact au (hg _ _ _ (au (zO (s:={s with heap:=s.heap.update a (pZ dn t2)}) (N.get S) rfl (aC (h _ ((mC ..).trans (mC ..)) (N.WT p S fh F3 led3))) (zl▸hz))))
 .refine ir (show ¬(!ap&&t2.tooFull)=ak from hfull) ?_;exact aC (h _ (mC ..) (N.is p S hfull))
theorem HF(hp:P.on s)(S:bS w P s.heap a l)(hx:aA w P x v)(he:dS v=ak)(hu:A.units+200<dD)(hn:v∉l->l.length<2000)
  (h:∀b h',lO a s.heap h'->bS w P h' a (dI l v)->Q b {s with heap:=h'}):aw (aH an w) A (Vr a x (eK w v)) Q E s:=by
 refine ar S λdz S pl=>?_
 have FA:v∉dz.l->dz.es.size<2000:=λhv=>by
  have:=S.rep.length;rw[dY] at this;rw[this,pl.length_eq];exact hn λh=>hv (pl.mem_iff.mpr h)
 have same:v∈dz.l->∀b,Q b s:=λhv b=>by
  have:=h b s.heap (Gg ..) ⟨⟨dz.o,dz.es,dz.ep,dz.t,dz.l⟩,S,by
   unfold dI;rw[bw (by simpa using pl.mem_iff.mp hv)];exact pl⟩
  exact this
 have new:v∉dz.l->∀b h',lO a s.heap h'->bS w P h' a (dz.l++[v])->Q b {s with heap:=h'}:=λhv b h' hs ⟨⟨o1,dn,ep1,t1,l1⟩,S1,p1⟩=>by
  refine h b h' hs ⟨⟨o1,dn,ep1,t1,l1⟩,S1,p1.trans ?_⟩;unfold dI;rw[if_neg (by simpa using λhm=>hv (pl.mem_iff.mpr hm))];exact pl.append_right _
 refine gg (au (kC S.get S.data S.cf.fits ?_))
 by_cases hb:Ge x dz.es=ak
 .refine o7 hb ?_;refine au (au (ti ?_))
  cases v with
  |str k=>
   (refine bx hx λtk av h1 h2=>?_;subst av);refine au (NQ hp S (.str k tk h1 h2) hb hu ak ?_ ?_)
   .intro i hi;exact aC (aC (same (k8 hi) _))
   .intro hv;refine (YY S.cf (eK w (.str k)) (.str (aJ k) tk)).elim λj hj=>?_;rw[hj.2];refine au (m:=bH ()) (aC ?_);have N:=λb=>S.new (.str k tk h1 h2) he hv hj.1 b
    have Uy:∀b aF Q',Q' () aF->aw (aH an w) A (match b with | true=>rule "set.scan.the-table-gave-way" | false=>bH ()) Q' E aF:=
     λb aF Q' hq=>by cases b<;>first | exact aC hq | exact ti hq
    refine nA (nQ ?_ ?_)
    .refine au (NS 8 (.str k) _ s _ hp.obj (.str k tk h1 h2) rfl λb=>?_);exact (N b).elim λU N=>NV Uy N.1 N.2 S (FA hv) λh' hs hS=>aC (new hv _ h' hs hS)
    .refine au (aC ?_);exact (N ak).elim λU N=>NV Uy N.1 N.2 S (FA hv) λh' hs hS=>aC (new hv _ h' hs hS)
  |tup=>(refine ar hx λd av az=>?_;subst av;clear az);exact aY (aI (aI hb))
  |_=>exact aY (jl he).2.1
 .refine ir hb ?_;refine au (NP hp S hx he hu ak ?_ ?_)
  .intro hv;exact ⟨λU=>aC (same hv _),λe=>by simp at e⟩
  .intro hv j hf;refine au (kC S.get S.data S.cf.fits ?_);refine nA (nQ ?_ ?_)
   .refine au (NS 8 v x s _ hp.obj hx (jl he).2.1 λb=>?_);exact (S.new hx he hv hf b).elim λU N=>NU N.1 N.2 S (FA hv) λh' hs hS=>new hv _ h' hs hS
   .refine au (aC ?_);exact (S.new hx he hv hf ak).elim λU N=>NU N.1 N.2 S (FA hv) λh' hs hS=>new hv _ h' hs hS
end
theorem HG{α:Type}:∀(l:List α) i (h:i<l.length),(l[i]::l.eraseIdx i).Perm l
 |a::l,0,h=>by simp
 |a::l,i+1,h=>by
  exact (F8 ..).trans ((HG l i (by simpa using h)).cons a)
theorem NW{α:Type}(next):∀d7 k (left:List α) (out:Array α),left.length<=d7->(Vs next d7 k left out).toList.Perm (out.toList++left)
 |0=>λk left out h=>by
  have:left=[]:=xt (by lia);subst this;rw[eh];exact .rfl
 |d7+1=>λk left out h=>by
  cases left with
  |nil=>rw[eh];exact .rfl
  |cons a l=>
   have bM:next k%(a::l).length<(a::l).length:=zG _ (by simp)
   have e:Vs next (d7+1) k (a::l) out=Vs next d7 (k+1) ((a::l).eraseIdx (next k%(a::l).length)) (out.push (a::l)[next k%(a::l).length]):=by
    show (match (a::l)[next k%(a::l).length]? with | some x=>_ | none=>_)=_;rw[oM bM]
   rw[e];refine (NW next d7 (k+1) _ _ (by rw[afJ bM];exact g8 ‹_›)).trans ?_;rw[F9,b8];refine afK _ ?_;rw[Vt];have:=HG _ _ bM;exact this
theorem NX{α:Type}(next)(xs:Array α):(Gh next xs).toList.Perm xs.toList:=by
 unfold Gh;simpa using NW next xs.size 0 xs.toList #[] (by simp)
section
theorem Y0(hn:n≠0)(h:∀i dr,i<n->Q i {s with drawn:=dr}):aw (aH an w) A (Vu .order n) Q E s:=λΓ p U=>by
 unfold Vu;rw[ig.wp_choose];exact ⟨hn,h _ _ (zG _ (Nat.pos_of_ne_zero hn))⟩
theorem HH{α:Type}:∀n (xs:List α) s (Q:List α->bf->Prop),xs.length<=n->(∀ys dr,ys.Perm xs->Q ys {s with drawn:=dr})->aw (aH an w) A (drawOrder n xs) Q E s
 |0,xs=>λs Q hn h=>by
  have:xs=[]:=xt (by lia);subst this;exact aC (h [] s.drawn .nil)
 |n+1,[]=>λs Q hn h=>aC (h [] s.drawn .nil)
 |n+1,x::xs=>λs Q hn h=>by
  show aw _ A (Vu .order (x::xs).length>>=_) Q E s;refine au (Y0 (Nat.succ_ne_zero _) λi dr hi=>?_);rw[oM hi];refine au (HH n _ _ _ (by rw[afJ hi];simp at hn;simp;assumption) λys dr' hp=>aC ?_);exact h _ _ ((hp.cons _).trans (HG _ _ hi))
theorem vP(h:Q (!jG w) s):aw (aH an w) A setsByText Q E s:=by
 refine au (zS (aC ?_));have:(aH an w).w.params.followText "set-order"= !jG w:=by unfold jG;rw[Vv];rfl
 rw[this];exact h
theorem NY(S:cY w P s.heap a o es ep t l)(h:∀ys dr,ys.toList.Perm es.toList->Q ys {s with drawn:=dr}):aw (aH an w) A (setWalk a) Q E s:=by
 refine au (kC S.get S.data S.cf.fits ?_);refine au (vP ?_)
 cases hl:jG w with
 |false=>
  simp only[Vw,if_true];exact au (zS (aC (h _ s.drawn (NX _ _))))
 |true=>
  simp only[zT,xu,if_false];refine nA (nQ ?_ ?_)
  .exact au (HH _ _ _ _ (by simp) λys dr hp=>aC (h _ dr (by simpa using hp)))
  .have e:t.led=ak:=S.led.trans hl;refine au ?_;show aw _ _ (if (!t.led&&decide (es.size > 1))=ak then _ else _) _ _ _;exact ir (by rw[e];simp) (aC (aC (h _ s.drawn .rfl)))
theorem Y1:∀as,(∀b∈as,∃l,bS w P s.heap b l)->(∀a o,P.obj a=aj o->s.heap.get? a=aj o)->∀(Q:Bool->bf->Prop),(∀b,Q b s)->aw (aH an w) A (setsQuiet as) Q E s:=by
 refine λas has hp Q h=>au ?_;refine zN _ (λrest r s'=>s'=s/\(∀b∈rest,b∈as)) _ ?_ ?_ _ _ ⟨rfl,λU h=>h⟩
 .rintro b rest r s' ⟨rfl,hr⟩
  (refine jk (has b (hr b (.head _))) λU z2 zr=>?_;obtain ⟨o,es,ep,t,l⟩:=z2;obtain ⟨S,-⟩:=zr);refine au (rn S.get S.data S.cf.fits ?_);refine au ?_;rw[<- zM];refine zN _ (λTY r' de=>de=s'/\(∃ys,bU w P TY ys)) _ ?_ ?_ _ _ ⟨rfl,_,S.rep⟩
  .rintro ⟨h1,x⟩ TY r' de ⟨rfl,ys,oF⟩
   cases ys with
   |nil=>exact (by injection oF)
   |cons y ys=>
    have e3:aA w P x y:=oF.1.2.2
    cases y with
    |str k=>(refine ar e3 λtk av az=>?_;subst av;clear az);exact aC ⟨rfl,ys,oF.2⟩
    |tup l=>
     (refine bx e3 λd av S cI=>?_;subst av;clear cI);refine au (rh ⟨d.o,hp _ _ S.obj,S.cls⟩ F.slot_tuple_eq.lookup ?_);refine nA (nQ ?_ ?_)
     .refine aC ?_
      first | exact aC (aC (h _)) | exact aC (h _)
     .exact aC ⟨rfl,ys,oF.2⟩
    |_=>exact aY ((jl oF.1.2.1).2.1)
  .rintro r' de ⟨rfl,_⟩
   cases r' with
   |mk r1 r2=>
    cases r1 with
    |none=>exact aC ⟨rfl,λb hb=>hr b (.tail _ hb)⟩
    |some v=>first | exact aC (aC (h _)) | exact aC (h _)
 .rintro r s' ⟨rfl,_⟩
  cases r with
  |mk r1 r2=>cases r1<;>exact aC (h _)
end
def hO(w:dy):jO:={cls:=.type "set",dict:=am,data:=.set #[] 0 (.fresh 0 0 (jG w))}
section
variable {an:dX}{w:dy}{A:fL}{E:ah}{P:PH}{s:bf}
theorem rQ(P)(h:bK):bS w P (h.push (hO w)) h.objs.size []:=
 ⟨⟨hO w,#[],0,_,[]⟩,⟨fU _ rfl,⟨rfl,rfl,rfl⟩,rfl,(by refine ⟨⟨⟨λi k U hk=>by simp[Gi] at hk,rfl,⟨3,rfl⟩,λj hj=>by simp[Gi] at hj,by simp[Gi]⟩,rfl,λp hp=>by simp[Gi] at hp⟩,?_,?_,?_⟩<;>simp[Gi]),rfl,.nil,.nil⟩,.nil⟩
theorem HI(h:Q (.ref s.heap.objs.size) {s with heap:=s.heap.push (hO w)}):aw (aH an w) A (newSet (.type "set")) Q E s:=by
 refine au (vP ?_);rw[Vv];exact au (Vx (aC h))
theorem cY.sameBut(S:cY w P h a o es ep t l)(hs:lO b h h')(bA:a≠b):cY w P h' a o es ep t l:=
 ⟨(hs.2 a bA).trans S.get,S.ex,S.data,S.cf,S.led,S.rep,S.nodup⟩
theorem cY.keeps(S:cY w P h a o es ep t l)(hs:h.get? a=aj o->h'.get? a=aj o):cY w P h' a o es ep t l:=
 ⟨hs S.get,S.ex,S.data,S.cf,S.led,S.rep,S.nodup⟩
theorem bS.keeps(S:bS w P h a l)(hs:∀o,h.get? a=aj o->h'.get? a=aj o):bS w P h' a l:=S.imp λd q=>⟨q.1.keeps (hs d.o),q.2⟩
theorem bS.mono(S:bS w P h a l)(hp:P.le P'):bS w P' h a l:=S.imp λd q=>⟨⟨q.1.get,q.1.ex,q.1.data,q.1.cf,q.1.led,q.1.rep.mono hp,q.1.nodup⟩,q.2⟩
theorem bS.nodup(S:bS w P h a l):l.Nodup:=S.elim λd q=>q.1.nodup.perm q.2
theorem bS.perm(S:bS w P h a l)(p:l.Perm l'):bS w P h a l':=S.imp λd q=>⟨q.1,q.2.trans p⟩
theorem bS.type(S:bS w P s.heap a l):s.TypeIs (.ref a) "set":=S.elim λd q=>⟨d.o,q.1.get,q.1.ex.1⟩
theorem bS.lt(S:bS w P h a l):a<h.objs.size:=S.elim λd q=>dE q.1.get
theorem aA.mF(hp:∀a o,P.obj a=aj o->s.heap.get? a=aj o)(r:aA w P (.ref a) (.set l)):bS w P s.heap a l:=by
 (refine cm r ?_;clear r;intro d e S h8 r)
 (injection e with e;cases e)
 exact ar (S.rep r) λl' h7 h6=>⟨⟨_,_,_,_,_⟩,⟨hp _ _ S.obj,S.ex,S.data,S.cf,S.led,h6,h8.perm h7.symm⟩,h7⟩
theorem PH.on.sameBut(hp:P.on s)(hs:lO a s.heap h')(ha:P.obj a=am):∀b o,P.obj b=aj o->h'.get? b=aj o:=λb o hb=>by
 have bA:b≠a:=λe=>by subst e;rw[ha] at hb;cases hb
 exact (hs.2 b bA).trans (hp.obj b o hb)
theorem NZ(hp:P.on s)(S:cY w P s.heap a o es ep t l)(Sf:bS w P s.heap f lf)(bA:a≠f)(hot:∀b∈others,∃l,bS w P s.heap b l)
  (h:∀ys dr h',ys.toList.Perm es.toList->lO f s.heap h'->bS w P h' f lf->Q ys {s with heap:=h',drawn:=dr}) :
  aw (aH an w) A (Vy a others (aj f)) Q E s:=by
 refine au (kC S.get S.data S.cf.fits ?_);refine au (vP ?_);have plainWalk:aw (aH an w) A (setWalk a) Q E s:=NY S λys dr hp=>h ys dr s.heap hp (Gg ..) Sf;refine nA (nQ plainWalk ?_);refine au (Y1 _ ?_ hp.obj _ λb=>?_)
 .intro b hb
  rcases cD.mp hb with rfl | hb
  .exact ⟨_,⟨_,_,_,_,_⟩,S,.rfl⟩
  .exact hot b hb
 .refine nA (nQ plainWalk ?_);refine au (ti ?_);refine ar Sf λz1q SF pf=>au (kC SF.get SF.data SF.cf.fits ?_);refine nA (nQ ?_ ?_)
  .have cX:z1q.es.size<=oN:=by
    have h1:=SF.cf.laid.size;have h2:=SF.cf.laid.tab.room;have h3:=SF.cf.hi;rw[xq];lia
   refine au (zO SF.get SF.data ?_ cX);refine aC (h es s.drawn _ .rfl (mC ..) ⟨⟨_,_,_,_,z1q.l⟩,yd SF.get SF.ex SF.data ?_ ?_ SF.rep SF.nodup,pf⟩)
   .have:=SF.cf.plain (z1q.t.plain&&t.plain);exact ⟨⟨⟨this.laid.tab.inc,this.laid.tab.gn,this.laid.tab.pow,this.laid.tab.jA,this.laid.tab.room⟩,this.laid.size,this.laid.reach⟩,this.lo,this.hi,this.load⟩
   .show (z1q.t.led&&t.led)=_;rw[SF.led,S.led,Vz]
  .exact aC (h es s.drawn s.heap .rfl (Gg ..) ⟨⟨z1q.o,z1q.es,z1q.ep,z1q.t,z1q.l⟩,SF,pf⟩)
theorem gO.fill(F:gO t es):t.fill=es.size:=by unfold Gc;rw[F.laid.tab.gn,F.laid.size];rfl
theorem Y2(S:bS w P s.heap a l)(hm:l.length+more<=4000)
  (h:∀h' o es ep t l',lO a s.heap h'->cY w P h' a o es ep t l'->l'.Perm l->(es.size+more)*5<t.mask*3->Q () {s with heap:=h'}):aw (aH an w) A (setRoomFor a more) Q E s:=by
 refine ar S λdz S p=>?_;have cc:dz.es.size=l.length:=dY.symm.trans (S.rep.length.trans p.length_eq);have B9:dz.t.fill=dz.es.size:=S.cf.fill;have aea:dz.t.place.size=dz.es.size:=S.cf.laid.size;have h8:(dz.es.size+more)*2<=8000:=s8 2 (cc▸hm:dz.es.size+more<=4000);unfold setRoomFor;refine au (kC S.get S.data S.cf.fits ?_);dsimp only;unfold SetTable.roomFor;rw[B9,aea]
 by_cases hc:(dz.es.size+more)*5 >= dz.t.mask*3
 .rw[bw hc];dsimp only;(refine Au (HE (t:=dz.t) (es:=dz.es) (wanted:=(dz.es.size+more)*2) (s8 2 (dH _ _)) h8) λt3 order e3 fh F3 led3 hw3 zr=>?_;obtain ⟨zl,B6⟩:=zr);refine NR S.get S.data S.cf.fits e3 zl hw3 (Dx (by lia)) (ar (bU.perm (AL fh) S.rep) λl3 p3 r3=>?_);refine h _ _ _ _ _ l3 (mC ..) (yd S.get S.ex S.data F3 (led3.trans S.led) r3 (S.nodup.perm p3.symm)) (p3.trans p) (bx (NB ((dz.es.size+more)*2) h8) λk hk KR U=>?_);rw[hk] at B6;rw[zl];rw[<- B6] at KR;exact Ms (pY KR) (tQ F3.lo)
 .rw[if_neg hc];exact aC (h s.heap dz.o dz.es dz.ep dz.t dz.l (Gg ..) S p (Lj.1 hc))
theorem Dy(h:v∉l):dI l v=l++[v]:=by unfold dI;rw[if_neg (by simpa using h)]
theorem N0(ls)(hn:ls.Nodup):∀(ys:af),ys.Nodup->(ys.foldl dI ls).Perm (bI ls ys):=by
 intro ys
 induction ys generalizing ls with
 |nil=>intro _;simp[bI]
 |cons y ys ih=>
  refine λhy=>bm (pX.mp hy) λh1 h2=>?_;rw[xn];unfold dI
  by_cases hc:ls.contains y=ak
  .rw[bw hc];refine (ih ls hn h2).trans ?_;unfold bI;have:(!ls.contains y)=ap:=by rw[hc];rfl
   rw[xv,this];exact .rfl
  .rw[if_neg hc];have nr:(ls++[y]).Nodup:=zQ.mpr ⟨hn,by simp,λa ha b hb=>by simp at hb;subst hb;exact λe=>hc (by rw[<- e];simpa using ha)⟩;refine (ih (ls++[y]) nr h2).trans ?_;unfold bI;have e1:(!ls.contains y)=ak:=by simpa using hc
   rw[xv,e1,bw rfl,b8];refine afK _ ?_;rw[Vt];refine VA.cons _ ?_
   have:ys.filter (λx=>!(ls++[y]).contains x)=ys.filter λx=>!ls.contains x:=by
    apply VB
    intro x hx;have sU:x≠y:=λe=>h1 (e▸hx);simp[sU]
   rw[this]
theorem Dz(p:ys.Perm zs):(bI ls ys).Perm (bI ls zs):=(p.filter _).append_left _
structure Y3(w:dy)(P:PH)(f:bc)(lf yl:af)(h0:bK)(rest:List (Int×aU))(hd:bK)(ds rs:af):Prop where
 eq:yl=ds++rs
 rep:bU w P rest rs
 same:lO f h0 hd
 set:bS w P hd f (ds.foldl dI lf)
theorem Y4(hp:P.on s)(Sf:bS w P s.heap f lf)(S:cY w P s.heap a o es ep t l)(bA:f≠a)(FT:P.obj f=am)(hu:A.units+200<dD)(Ko:(bI lf l).length<=2000)
  (Kc:∀aF Q',aF.heap.get? a=s.heap.get? a->Q' () aF->aw (aH an w) A each Q' E aF)
  (h:∀h' dr,lO f s.heap h'->bS w P h' f (bI lf l)->Q () {s with heap:=h',drawn:=dr}) :
  aw (aH an w) A (do
   for (h,x) in <- Vy a [f] (aj f) do
    let _ <- xw [x] (Vr f x h)
    each
    if (<- setState a).2.1 != ep then VC "set.changed-during-merge") Q E s:=by
 refine au (NZ hp S Sf (fV bA) (others:=[f]) (λb hb=>en.1 hb▸⟨_,Sf⟩) λys dr eD fh gI aes=>?_);refine ar (bU.perm fh S.rep) λyl py ry=>?_;have Un:yl.Nodup:=S.nodup.perm py.symm;rw[<- zM];refine au (zN _ (λrest r s'=>∃hd,s'={s with heap:=hd,drawn:=dr}/\∃ds rs,Y3 w P f lf yl s.heap rest hd ds rs) _ ?_ ?_ _ _ ⟨eD,rfl,[],yl,rfl,ry,gI,aes⟩)
 .intro zp rest r s' zr;obtain ⟨hh,x⟩:=zp;refine ar zr λhd zq zr=>jk zr λds rs I=>?_;subst zq
  cases rs with
  |nil=>exact nomatch I.rep
  |cons y rs=>
   have r:=I.rep.1
   cases (show hh=eK w y from r.1)
   refine au (gg (HF (s:={s with heap:=hd,drawn:=dr}) ⟨hp.sameBut I.same FT,hp.tok,hp.pos,hp.ok⟩ I.set r.2.2 r.2.1 hu
    ((by
      intro hy;have sub:(ds++[y]).Sublist (ds++y::rs):=VD (List.Sublist.cons_cons y (List.nil_sublist rs)) ds;have p1:=(N0 lf Sf.nodup (ds++[y]) ((I.eq▸Un).sublist sub)).length_eq;rw[VE,show List.foldl dI (ds.foldl dI lf) [y]=_ from Dy hy,bJ] at p1;exact aB (ec p1) (aB (VD (sub.filter _) lf).length_le (I.eq▸(Dz py).length_eq▸Ko)))) λb kq nc Kg=>?_))
   have w0:=I.same.trans nc;have fD:=S.sameBut w0 (fV bA);refine au (Kc _ _ (w0.2 a (fV bA)) (au (kC (s:={s with heap:=kq,drawn:=dr}) fD.get fD.data fD.cf.fits ?_)));exact ir (by simp) (aC ⟨kq,rfl,ds++[y],rs,I.eq.trans (b8 ds [y] rs).symm,I.rep.2,w0,by rw[VE];exact Kg⟩)
 .refine λr s' zr=>ar zr λhd zq zr=>?_;refine jk zr λds rs I=>?_;subst zq
  cases rs with
  |cons=>exact I.rep.elim
  |nil=>
   have e:yl=ds:=I.eq.trans (eh ds);exact aC (h hd dr I.same (I.set.perm (e▸(N0 lf Sf.nodup _ Un).trans (Dz py))))
theorem Y5(SF:cY w P h f of ef epf tf lf)(S:cY w P s.heap a o es ep t l)(p:l.Perm m) :
  bS w P (h.update f (pZ es {t with finger:=tf.finger,led:=tf.led&&t.led,moves:=tf.moves,plain:=tf.plain&&t.plain})) f m:=
 have F:=S.cf
 ⟨⟨_,_,_,_,l⟩,yd SF.get SF.ex SF.data ⟨⟨⟨F.laid.tab.inc,F.laid.tab.gn,F.laid.tab.pow,F.laid.tab.jA,F.laid.tab.room⟩,F.laid.size,F.laid.reach⟩,F.lo,F.hi,F.load⟩ (by show (tf.led&&t.led)=_;rw[SF.led,S.led,Vz]) S.rep S.nodup,p⟩
theorem Y6(SF:cY w P h f of ef epf tf lf)(S:cY w P s.heap a o es ep t l)(p:l.Perm m)(hr:es.size*5<tf.mask*3)(hm:es.size<=tf.mask) :
  ∃q,Ve tf.mask tf.finger tf.moves (tf.led&&t.led) (tf.plain&&t.plain) (es.map (·.1))=aj q/\(q.2.filterMap (es[·]?)).size=es.size/\bS w P (h.update f (pZ (q.2.filterMap (es[·]?)) q.1)) f m:=by
 refine a9 SF.cf.laid.tab.pow λk hk=>?_;(refine Au (Ny hk tf.finger tf.moves (tf.led&&t.led) (tf.plain&&t.plain) es hm) λt' order e fh B7 gA U zr=>?_;obtain ⟨aee,_,_⟩:=zr)
 have cX:(order.filterMap (es[·]?)).size=es.size:=by
  have:=(AL fh).length_eq
  rwa [dY,dY] at this
 exact ar (bU.perm (AL fh) S.rep) λl3 p3 r3=>⟨(t',order),e,cX,⟨_,_,_,_,l3⟩,yd SF.get SF.ex SF.data ⟨B7,gA▸SF.cf.lo,gA▸SF.cf.hi,by rw[B7.size,cX,gA];exact hr⟩ (by rw[aee,SF.led,S.led,Vz]) r3 (S.nodup.perm p3.symm),p3.trans p⟩
theorem HJ(hp:P.on s)(Sf:bS w P s.heap f lf)(So:bS w P s.heap a l)(bA:f≠a)(FT:P.obj f=am)(hu:A.units+200<dD)
  (ahF:lf.length+l.length<=4000) (Ko:(bI lf l).length<=2000)
  (Kc:∀aF Q',aF.heap.get? a=s.heap.get? a->Q' () aF->aw (aH an w) A each Q' E aF)
  (h:∀h' dr,lO f s.heap h'->bS w P h' f (bI lf l)->Q () {s with heap:=h',drawn:=dr}):aw (aH an w) A (setMerge f a each) Q E s:=by
 refine ar So λdz S p=>?_;have cc:dz.es.size=l.length:=dY.symm.trans (S.rep.length.trans p.length_eq);refine ir (by simpa using bA) (au (kC S.get S.data S.cf.fits ?_))
 by_cases hemp:dz.es.isEmpty=ak
 .refine o7 hemp ?_;obtain rfl:l=[]:=xt (cc.symm.trans (by simpa using hemp));exact aC (h s.heap s.drawn (Gg ..) (show bS w P s.heap f (lf++[]) from (eh lf).symm▸Sf))
 .refine ir hemp (au (Y2 Sf (by lia) λcZ of ef epf tf lf' fK SF pf Ka=>?_));refine au (kC (s:={s with heap:=cZ}) SF.get SF.data SF.cf.fits ?_);have B9:tf.fill=ef.size:=SF.cf.fill;have Ke:ef.size=lf.length:=dY.symm.trans (SF.rep.length.trans pf.length_eq);dsimp only
  by_cases hz:ef.size=0
  .have hu0:bI lf l=l:=by rw[xt (Ke.symm.trans hz)];simp[bI]
   rw[hu0] at h;have d8:dz.es.size<=oN:=Dx (by lia)
   by_cases B6:(tf.mask==dz.t.mask&&dz.t.dummies.isEmpty)=ak
   .rw[show tf.road dz.t=.slotForSlot by unfold VF;rw[if_neg (by rw[B9,hz];simp),bw B6]];exact zO (s:={s with heap:=cZ}) SF.get SF.data (h _ s.drawn (fK.trans (mC ..)) (Y5 SF S p)) d8
   .rw[show tf.road dz.t=.clean by unfold VF;rw[if_neg (by rw[B9,hz];simp),if_neg B6]];refine (Y6 SF S p (by rw[hz,jP] at Ka;exact Ka) (by have:=Ka;lia)).elim λq hq=>?_;rw[hq.1];refine au (vi (a:=(q.2.filterMap (dz.es[·]?),q.1)) ?_ (zO (s:={s with heap:=cZ}) SF.get SF.data (h _ s.drawn (fK.trans (mC ..)) hq.2.2) (hq.2.1.symm▸d8)));show (if ((q.2.filterMap (dz.es[·]?)).size != dz.es.size)=ak then _ else _)=_;rw[if_neg (by simp[hq.2.1])]
  .rw[show tf.road dz.t=.oneByOne by unfold VF;rw[bw (by rw[B9];simpa using hz)]]
   exact Y4 (s:={s with heap:=cZ}) ⟨hp.sameBut fK FT,hp.tok,hp.pos,hp.ok⟩ ⟨⟨_,_,_,_,_⟩,SF,pf⟩ (S.sameBut fK (fV bA)) bA FT hu ((Dz p).length_eq▸Ko) (λaF Q' e=>Kc aF Q' (e.trans (fK.2 a (fV bA))))
    λh' dr hs S'=>h h' dr (fK.trans hs) (S'.perm (Dz p))
end
def iP(mu:List bc)(h h':bK):=∀b o,b∉mu->h.get? b=aj o->(∀vs,o.data≠.fields vs)->∃sl,h'.get? b=aj {o with slots:=sl}
theorem iP.trans(x:iP mu cZ eD)(y:iP mu eD kq):iP mu cZ kq:=λb o hb e hn=>by
 refine a9 (x b o hb e hn) λsl zo=>?_;refine a9 (y b _ hb zo hn) λwZ aeP=>?_;exact ⟨wZ,aeP⟩
theorem iP.mono(x:iP m h h')(hm:∀a∈m,a∈m'):iP m' h h':=λb o hb e hn=>x b o (λhh=>hb (hm b hh)) e hn
noncomputable def HK:aU:=.type "ValueError"
def AM(ao)(l)(x)(h:bK):=
 ao.StaysIn h/\ao.get? x=am/\h.FunFrames ao l/\∃oe vs,h.get? x=aj oe/\oe.cls=HK/\oe.data=.fields vs/\
  (vs[1]?=aj .none\/∃T oT ts y,vs[1]?=aj (.ref T)/\ao.get? T=am/\T≠x/\h.get? T=aj oT/\oT.data=.fields ts/\ts[3]?=aj y)
def kN(ao)(l)(x)(h:bK):=
 ao.StaysIn h/\ao.get? x=am/\h.FunFrames ao l/\∃oe vs,h.get? x=aj oe/\oe.cls=HK/\oe.data=.fields vs/\
  (∃T oT ts y,vs[1]?=aj (.ref T)/\ao.get? T=am/\T≠x/\h.get? T=aj oT/\oT.data=.fields ts/\ts[3]?=aj y)
theorem kN.any(e:kN ao l x h):AM ao l x h:=
 ⟨e.1,e.2.1,e.2.2.1,e.2.2.2.imp λU=>vg λU q=>⟨q.1,q.2.1,q.2.2.1,.inr q.2.2.2⟩⟩
theorem kN.outer(e:kN ao (ad::l) x h):kN ao l x h:=
 ⟨e.1,e.2.1,e.2.2.1.2.2,e.2.2.2⟩
section
theorem N1
  (cx:A.frames=aj (ad::outer)) (hl:s.heap.FunFrames ao (ad::outer)) (hf:ad.frame=aj L)
  (he:s.heap.get? x=aj oe) (u7:oe.cls=HK) (u9:ao.StaysIn s.heap) (nu:ao.get? x=am) (hd:oe.data=.fields vs) (cX:1<vs.size)
  (h:∀h',kN ao (ad::outer) x h'->iP [] s.heap h'->Q () {s with heap:=h'}) :
  aw M A (do let a <- frameOf ad;let pl <- entryPlaceOf L ahC;let b <- EntryCells.newEntry head a .none (ei L) .none pl;zU (.ref x) 1 b) Q E s:=by
 have aeK:x∉(ad::outer).filterMap (·.frame):=λhm=>by
  (refine bm (hl.mem hm) λU zr=>?_;obtain ⟨o,ho,nq⟩:=zr);obtain rfl:=aZ (he.symm.trans ho);exact nq vs hd
 refine au (wpAny_frameOf_fun cx hl hf λcZ fK=>?_);refine au (wpAny_entryPlaceOf λpl df=>?_);refine au (ro ?_ (df.sizeOk5 _ _ _ _ _));have T7:cZ.get? x=aj oe:=(fK.2.1 x aeK).trans he;have TZ:ao.StaysIn cZ:=λb o pT=>(fK.2.1 b λhm=>by rw[(hl.mem hm).1] at pT;cases pT).trans (u9 b o pT);have T6:=fo (h:=cZ) {cls:=.type "traceback",dict:=am,data:=.fields ([head,.ref L,.none,ei L,.none]++(if pl.isEmpty then cU 6 jQ else pl)).toArray} T7;refine Gj T6 hd cX ?_;have UG:cZ.objs.size≠x:=mB (dE T7);have T8:=Ls hd (·.setIfInBounds 1 (lg cZ.objs.size))
 have Kf:=(Gk (cZ.push {cls:=.type "traceback",dict:=am,data:=.fields ([head,.ref L,.none,ei L,.none]++(if pl.isEmpty then cU 6 jQ else pl)).toArray})
  (zV (·.setIfInBounds 1 (lg cZ.objs.size))) (fV UG)).trans (fU cZ rfl)
 have keep:∀b o,b≠x->cZ.get? b=aj o->((cZ.push {cls:=.type "traceback",dict:=am,data:=.fields ([head,.ref L,.none,ei L,.none]++(if pl.isEmpty then cU 6 jQ else pl)).toArray}).update x (zV (·.setIfInBounds 1 (lg cZ.objs.size)))).get? b=aj o:=λb o hbe hb=>by
  rw[Gk _ _ (fV hbe)];exact fo _ hb
 have notx:∀b o,s.heap.get? b=aj o->(∀vs,o.data≠.fields vs)->b≠x:=λb o hb hn e=>by
  subst e;obtain rfl:=aZ (he.symm.trans hb);exact hn vs hd
 have ks:iP [] s.heap _:=λb o U hb hn=>by
  refine a9 (fK.2.2 b o hb) λsl e=>?_;exact ⟨sl,keep b _ (notx b o hb hn) e⟩
 refine h _ ⟨λb o hb=>?_,nu,?_,_,_,(xr (zV (·.setIfInBounds 1 (lg cZ.objs.size))) T6 (VG T8)),?_,T8,cZ.objs.size,_,_,ei L,?_,TZ.fresh,UG,Kf,rfl,?_⟩ ks
 .exact keep b o (λe=>by subst e;rw[nu] at hb;cases hb) (TZ b o hb)
 .exact hl.of_keeps λb o hb hn=>by
   refine a9 (ks b o (by simp) hb hn) λsl e=>?_;exact ⟨_,e,rfl⟩
 .have:(zV (·.setIfInBounds 1 (lg cZ.objs.size)) oe).cls=oe.cls:=by obtain ⟨c,d,dt,sl⟩:=oe;cases dt<;>rfl
  rw[this];exact u7
 .simp[cX]
 .rfl
theorem HL(cx:A.frames=aj (ad::outer))(hf:ad.frame=aj L)(hx:AM ao (ad::outer) x s.heap)
  (h:∀h',kN ao (ad::outer) x h'->iP [] s.heap h'->Q () {s with heap:=h'}):aw M A (zW (.ref x) ad) Q E s:=by
 (refine fy hx λu9 nu hl zr=>?_;refine bX zr λoe vs he u7 zr=>?_;refine bm zr λhd h1=>?_);unfold zW;simp only[hf];refine h1.elim (λh1=>?_) λzr=>vI zr λT oT ts y h1 zC zB zr=>d5 zr λhT s5 h3=>?_
 .refine au (lP he hd h1 ?_);exact N1 cx hl hf he u7 u9 nu hd (ve.mp h1).1 h
 .refine au (lP he hd h1 ?_);refine o7 (show (lg T != jQ)=ak from by simp) ?_;refine au (lP hT s5 h3 ?_);refine nA (nQ ?_ ?_)
  .exact aC (h s.heap ⟨u9,nu,hl,oe,vs,he,u7,hd,T,oT,ts,y,h1,zC,zB,hT,s5,h3⟩ ((λb o U e U=>⟨o.slots,e⟩)))
  .refine au (Gj hT s5 (ve.mp h3).1 ?_);have other:∀b,b≠T->(s.heap.update T (zV (·.setIfInBounds 3 jQ))).get? b=s.heap.get? b:=λb hb=>Gk _ _ (fV hb)
   have noRecord:∀b o,s.heap.get? b=aj o->(∀vs,o.data≠.fields vs)->b≠T:=λb o hb nq q=>by
    rw[q,hT] at hb;replace hb:=aZ hb;subst hb;exact nq ts s5
   refine N1 (s:={s with heap:=s.heap.update T (zV (·.setIfInBounds 3 jQ))}) cx (hl.of_keeps λb o hb nq=>⟨o,(other b (noRecord b o hb nq)).trans hb,rfl⟩) hf ((other x (fV zB)).trans he) u7
    (λb o pT=>(other b λq=>by rw[q,zC] at pT;cases pT).trans (u9 b o pT)) nu hd (ve.mp h1).1
    λh' hT' hk=>h h' hT' (iP.trans (λb o U hb nq=>⟨o.slots,(other b (noRecord b o hb nq)).trans hb⟩) hk)
theorem AN(hx:kN ao l x s.heap)(h:∀h',kN ao l x h'->iP [] s.heap h'->Q () {s with heap:=h'}) :
  aw M A (setFlight (.ref x) f) Q E s:=by
 (refine fy hx λu9 nu hl zr=>?_;refine bX zr λoe vs he u7 zr=>?_;refine bm zr λhd zr=>?_;refine vI zr λT oT ts y h1 zC zB zr=>?_;refine d5 zr λhT s5 h3=>?_);refine au (lP he hd h1 ?_);refine o7 (show (lg T != jQ)=ak from by simp) ?_;have xc:=(ve.mp h3).1;refine Gj hT s5 xc ?_;have other:∀b,b≠T->(s.heap.update T (zV (·.setIfInBounds 3 (f.elim .none λf=>ei f)))).get? b=s.heap.get? b:=λb hb=>Gk _ _ (fV hb)
 have noRecord:∀b o,s.heap.get? b=aj o->(∀vs,o.data≠.fields vs)->b≠T:=λb o hb nq q=>by
  rw[q,hT] at hb;replace hb:=aZ hb;subst hb;exact nq ts s5
 have UE:=Ls s5 (·.setIfInBounds 3 (f.elim .none λf=>ei f))
 refine h _ ⟨λb o pT=>(other b λq=>by rw[q,zC] at pT;cases pT).trans (u9 b o pT),nu,hl.of_keeps λb o hb nq=>⟨o,(other b (noRecord b o hb nq)).trans hb,rfl⟩,oe,vs,(other x (fV zB)).trans he,u7,hd,T,_,_,(f.elim .none λf=>ei f),h1,zC,zB,
  xr _ hT (VG UE),UE,by simp[xc]⟩ λb o U hb nq=>⟨o.slots,(other b (noRecord b o hb nq)).trans hb⟩
theorem N2(cx:A.frames=aj (ad::outer))(hf:ad.frame=aj L)(hx:AM ao (ad::outer) x s.heap)
  (h:∀h',kN ao outer x h'->iP [] s.heap h'->Q () {s with heap:=h'}):aw M A (Lu ad (.ref x)) Q E s:=by
 exact au (HL cx hf hx λcZ hT Fx=>AN (s:={s with heap:=cZ}) hT λeD Ca Fw=>h eD Ca.outer (Fx.trans Fw))
theorem Y7(hx:kN ao (ad::outer) x s.heap)(h:∀h',kN ao (ad::outer) x h'->iP [] s.heap h'->E (.ref x) {s with heap:=h'}):VH M A ad E (.ref x) s:=by
 have d9:=hx;(refine fy hx λu9 nu hl zr=>?_;refine bX zr λoe vs he u7 zr=>?_;refine bm zr λhd zr=>?_;refine vI zr λT oT ts y h1 zC zB zr=>?_;refine d5 zr λhT s5 h3=>?_);refine au (lP he hd h1 ?_);refine ir (show ¬(lg T==jQ)=ak from by simp) ?_
 first | exact AN d9 h | exact au (aC (AN d9 h))
theorem Y8(cx:A.frames=aj (ad::outer))(hf:ad.frame=aj L)(hx:AM ao (ad::outer) x s.heap)(h:∀h',kN ao (ad::outer) x h'->iP [] s.heap h'->E (.ref x) {s with heap:=h'}):notedBy M A ad E (.ref x) s:=
 HL cx hf hx h
end
theorem N3(h:Runs M Γ p t fs s e s'):s.heap.objs.size<=s'.heap.objs.size:=by
 induction h<;>(try simp only[bf.setGen,Gl,fq] at *)<;>lia
theorem Y9(h:Returns M Γ p s r s'):s.heap.objs.size<=s'.heap.objs.size:=N3 h
theorem Za(h:Wakes M Γ p g r s res s'):s.heap.objs.size<=s'.heap.objs.size:=by
 have wk:∀{Γ':Ctx} {p':vj} {t:ig Fin} {fs:List Frame} {f:End->GenState} {c d:End->Prop},(∃zo aF,Runs M Γ' p' t fs (s.setGen g .running) zo aF/\c zo/\d zo/\s'=aF.setGen g (f zo))->s.heap.objs.size<=s'.heap.objs.size:=
  λh=>h.elim λU h=>h.elim λU q=>q.2.2.2▸(N3 q.1:(s.setGen g .running).heap.objs.size<=_)
 unfold Wakes at h;revert h
 cases s.gens[g]? with
 |none=>exact gE
 |some st=>cases st with
  |fresh c=>cases r with
   |send v=>cases v with
    |none=>exact wk
    |_=>exact λh=>h.2▸aV _
   |throw x=>exact λh=>h.2▸aV _
  |suspended=>exact wk
  |running=>exact λh=>h.2▸aV _
  |finished=>exact λh=>h.2▸aV _
theorem Zb{α:Type}(M)(Γ)(n)(t:ig α):∀(Q:α->vj->bf->Prop) E p s,n<=s.heap.objs.size->ig.wp M Γ t Q E p s->
  ig.wp M Γ t (λa p' s'=>n<=s'.heap.objs.size/\Q a p' s') (λe p' s'=>n<=s'.heap.objs.size/\E e p' s') p s:=by
 induction t with
 |pure a=>intro Q E p s hn h;exact ⟨hn,h⟩
 |raise e=>intro Q E p s hn h;exact ⟨hn,h⟩
 |unsupported U1=>intro Q E p s _ h;exact h
 |finish U1=>intro Q E p s _ h;exact h
 |rule U1 k ih=>intro Q E p s hn h;exact ih () Q E p s hn h
 |«at» p' k ih=>intro Q E p s hn h;exact ih () Q E p' s hn h
 |load a U1 k ih=>intro Q E p s hn h;exact ar h λo ho h=>⟨o,ho,ih o Q E p s hn h⟩
 |update a U1 f k ih=>intro Q E p s hn h;exact ⟨h.1,ih () Q E p _ (by show n<=(s.heap.update _ _).objs.size;rw[Gl];exact hn) h.2⟩
 |loadIfAlive a k ih=>intro Q E p s hn h;exact ih _ Q E p s hn h
 |point U1 k ih=>intro Q E p s hn h;exact ih () Q E p s hn h
 |register U1 U2=>intro Q E p s _ h;exact h
 |alloc o k ih=>intro Q E p s hn h;exact ih _ Q E p _ (by show n<=(s.heap.push _).objs.size;rw[fq];exact eU hn) h
 |fresh k ih=>intro Q E p s hn h;exact ih _ Q E p _ hn h
 |ask k ih=>intro Q E p s hn h;exact ih _ Q E p s hn h
 |choose src m k ih=>intro Q E p s hn h;exact ⟨h.1,ih _ Q E p _ hn h.2⟩
 |os q U1 k ih=>intro Q E p s hn h;exact ih _ Q E p _ hn h
 |call c hd U1 U2 k ih=>intro Q E p s hn h;exact eZ h λr s' hr h=>⟨r,s',hr,ih r Q E p s' (aB hn (Y9 hr)) h⟩
 |handled own k ih=>intro Q E p s hn h;exact ih _ Q E p s hn h
 |genState g k ih=>intro Q E p s hn h;exact ar h λst hs h=>⟨st,hs,ih _ Q E p s hn h⟩
 |newGen c k ih=>intro Q E p s hn h;exact ih _ Q E p _ hn h
 |resume g r U1 k ih=>intro Q E p s hn h;exact eZ h λres s' hw h=>⟨res,s',hw,ih res Q E p s' (aB hn (Za hw)) h⟩
 |yield U1 U2 U3 U4=>intro Q E p s _ h;exact h
 |stack k ih=>intro Q E p s hn h;exact ih _ Q E p s hn h
 |fork U1 U2=>intro Q E p s _ h;exact h
 |thread k ih=>intro Q E p s hn h;exact ih _ Q E p s hn h
 |await U1 U2 U3 U4 U5=>intro Q E p s _ h;exact h
theorem hU{α:Type}{M:Ll}{A:fL}{s:bf}{t:ig α}{Q:α->bf->Prop}{E:ah}
  (h:aw M A t (λa s'=>s.heap.objs.size<=s'.heap.objs.size->s.toks<=s'.toks->Q a s') (λe s'=>s.heap.objs.size<=s'.heap.objs.size->s.toks<=s'.toks->E e s') s):aw M A t Q E s:=by
 refine wpAny_with_toks (aV _) ?_;intro Γ p hΓ;have:=Zb M Γ s.heap.objs.size t _ _ p s (aV _) (h Γ p hΓ);exact ig.wp_mono M Γ t (λU U U x=>x.2 x.1) (λU U U x=>x.2 x.1) p s this
structure Step(mu:List bc)(P:PH)(s:bf)(P':PH)(s':bf):Prop where
 le:P.le P'
 on:P'.on s'
 new:∀a o,P'.obj a=aj o->P.obj a=aj o\/s.heap.objs.size<=a
 keep:∀a o,a∉mu->s.heap.get? a=aj o->s'.heap.get? a=aj o
 size:s.heap.objs.size<=s'.heap.objs.size
 gens:s'.gens=s.gens
 os:s'.os=s.os
 toks:s.toks<=s'.toks
namespace Step
theorem refl(hp:P.on s):Step mu P s P s:=⟨.refl P,hp,λU U h=>.inl h,λU U U h=>h,aV _,rfl,rfl,aV _⟩
theorem trans(x:Step mu P s aX aF)(y:Step mu aX aF dc a8):Step mu P s dc a8 where
 le:=x.le.trans y.le
 on:=y.on
 new:=λa o h=>by
  rcases y.new a o h with h | h
  .exact x.new a o h
  .exact .inr (aB x.size h)
 keep:=λa o hm h=>y.keep a o hm (x.keep a o hm h)
 size:=aB x.size y.size
 gens:=y.gens.trans x.gens
 os:=y.os.trans x.os
 toks:=aB x.toks y.toks
theorem mono(x:Step mu P s aX aF)(h:∀a∈mu,a∈mu'):Step mu' P s aX aF:=
 ⟨x.le,x.on,x.new,λa o hm e=>x.keep a o (λhh=>hm (h a hh)) e,x.size,x.gens,x.os,x.toks⟩
theorem up(x:Step [] P s aX aF):Step mu' P s aX aF:=x.mono λU h=>by cases h
end Step
def PH.eW(P:PH)(a:bc)(o:jO):PH:=⟨λb=>if b=a then aj o else P.obj b,P.tok⟩
noncomputable def PH.Am(P:PH)(t:Nat)(x:aa):PH:=⟨P.obj,λu=>if u=t then aj x else P.tok u⟩
section
variable {w:dy}{P:PH}{s:bf}
theorem PH.on.none_of(hp:P.on s)(h:s.heap.get? a=am):P.obj a=am:=by
 cases e:P.obj a with
 |none=>rfl
 |some o=>rw[hp.obj a o e] at h;cases h
theorem HM(h:bK):h.get? h.objs.size=am:=by
 cases e:h.get? h.objs.size with
 |none=>rfl
 |some o=>exact absurd (dE e) (gf _)
theorem Step.ll(hp:P.on s)(h:s.toks<=tk):Step [] P s P {s with toks:=tk}:=
 ⟨.refl P,⟨hp.obj,λt x e=>⟨(hp.tok t x e).1,b7 (hp.tok t x e).2 h⟩,b7 hp.pos h,hp.ok⟩,λU U h=>.inl h,λU U U h=>h,aV _,rfl,rfl,h⟩
theorem Step.WO(hp:P.on s):Step [] P s P {s with drawn:=dr}:=
 ⟨.refl P,⟨hp.obj,hp.tok,hp.pos,hp.ok⟩,λU U h=>.inl h,λU U U h=>h,aV _,rfl,rfl,aV _⟩
set_option tactic.hygienic true in
theorem Step.tok(hp:P.on s)(h:s.toks<=t)(ht:t<tk)(hl:x.length<=ci):Step [] P s (P.Am t x) {s with toks:=tk}:=by
 have hn:P.tok t=am:=by
  cases e:P.tok t with
  |none=>rfl
  |some y=>exact absurd (hp.tok t y e).2 (fZ.2 h)
 refine ⟨⟨λa o e=>e,λu y e=>?_⟩,⟨hp.obj,λu y e=>?_,kx (bW _) ht,⟨λu y e=>by
  simp only[PH.Am] at e
  split at e
  .replace e:=aZ e;subst e;exact hl
  .exact hp.ok.len u y e⟩⟩,λU U h=>.inl h,λU U U h=>h,aV _,rfl,rfl,aB h (gc ht)⟩
 .show (if u=t then _ else _)=_;rw[if_neg (λe'=>by subst e';rw[hn] at e;cases e)];exact e
 .simp only[PH.Am] at e
  split at e
  .rename_i e';subst e';exact ⟨b7 hp.pos h,ht⟩
  .have:=hp.tok u y e;exact ⟨this.1,b7 this.2 (aB h (gc ht))⟩
theorem aA.Mj(hx:∀c∈x,c<128):aA w (P.Am t x) (.str (aJ x) t) (.str x):=.str x t hx (by simp[PH.Am])
theorem PH.ok.eW(hp:P.ok)(hl:∀vs n,o.data=.seq vs n->vs.size<=ci):(P.eW a o).ok:=
 ⟨hp.len⟩
set_option tactic.hygienic true in
theorem Step.push(hp:P.on s)(ho:o.isFreed=ap)(hl:∀vs n,o.data=.seq vs n->vs.size<=ci):Step [] P s (P.eW s.heap.objs.size o) {s with heap:=s.heap.push o}:=by
 have hn:=hp.none_of (HM s.heap);refine ⟨⟨λa o' e=>?_,λU U e=>e⟩,⟨λa o' e=>?_,hp.tok,hp.pos,hp.ok.eW hl⟩,λa o' e=>?_,λa o' U e=>fo _ e,by rw[fq];exact dT _,rfl,rfl,aV _⟩
 .show (if a=_ then _ else _)=_;rw[if_neg (λe'=>by subst e';rw[hn] at e;cases e)];exact e
 .simp only[PH.eW] at e
  split at e
  .rename_i e';subst e';replace e:=aZ e;subst e;exact fU _ ho
  .exact fo _ (hp.obj a o' e)
 .simp only[PH.eW] at e
  split at e
  .rename_i e';subst e';exact .inr (aV _)
  .exact .inl e
set_option tactic.hygienic true in
theorem PH.on.freeze(hp:P.on s)(h:s.heap.get? a=aj o)(hl:∀vs n,o.data=.seq vs n->vs.size<=ci):(P.eW a o).on s:=
 ⟨λb o' e=>by
  simp only[PH.eW] at e
  split at e
  .rename_i e';subst e';replace e:=aZ e;subst e;exact h
  .exact hp.obj b o' e,hp.tok,hp.pos,hp.ok.eW hl⟩
theorem PH.nF(h:P.obj a=am):P.le (P.eW a o):=
 ⟨λb o' e=>by
  show (if b=a then _ else _)=_;rw[if_neg (λe'=>by subst e';rw[h] at e;cases e)];exact e,λU U e=>e⟩
theorem PH.tI:(P.eW a o).obj a=aj o:=by simp[PH.eW]
theorem Step.keeps(hp:P.on s)(hk:∀b o,s.heap.get? b=aj o->h'.get? b=aj o)(hz:s.heap.objs.size<=h'.objs.size)(ht:s.toks<=tk):Step [] P s P {s with heap:=h',toks:=tk}:=
 ⟨.refl P,⟨λa o e=>hk a o (hp.obj a o e),λt x e=>⟨(hp.tok t x e).1,b7 (hp.tok t x e).2 ht⟩,b7 hp.pos ht,hp.ok⟩,λU U h=>.inl h,λa o U e=>hk a o e,hz,rfl,rfl,ht⟩
set_option tactic.hygienic true in
theorem Step.freeze(x:Step mu P s aX aF)(h:aF.heap.get? a=aj o)(hl:∀vs n,o.data=.seq vs n->vs.size<=ci)(hn:s.heap.objs.size<=a)(hP:aX.obj a=am):Step mu P s (aX.eW a o) aF:=
 ⟨x.le.trans (PH.nF hP),x.on.freeze h hl,λb o' e=>by
  simp only[PH.eW] at e
  split at e
  .rename_i e';subst e';exact .inr hn
  .exact x.new b o' e,x.keep,x.size,x.gens,x.os,x.toks⟩
theorem Step.extBut(hp:P.on s)(hI:P.obj I=am)(he:rq I s.heap h')(hz:s.heap.objs.size<=h'.objs.size)(ht:s.toks<=tk):Step [I] P s P {s with heap:=h',toks:=tk}:=
 ⟨.refl P,⟨λa o e=>he a o (λha=>by subst ha;rw[hI] at e;cases e) (hp.obj a o e),λt x e=>⟨(hp.tok t x e).1,b7 (hp.tok t x e).2 ht⟩,b7 hp.pos ht,hp.ok⟩,λU U h=>.inl h,λa o hm e=>he a o (by simpa using hm) e,hz,rfl,rfl,ht⟩
theorem Step.old(x:Step mu P s aX aF)(h:∀a∈mu,a∈mu'\/s.heap.objs.size<=a):Step mu' P s aX aF:=
 ⟨x.le,x.on,x.new,λa o hm e=>x.keep a o (λhh=>(h a hh).elim hm λhz=>absurd (dE e) (fZ.mpr hz)) e,x.size,x.gens,x.os,x.toks⟩
theorem Step.eo(x:Step mu P s aX aF)(hP:P.obj a=am)(ha:a<s.heap.objs.size):aX.obj a=am:=by
 cases e:aX.obj a with
 |none=>rfl
 |some o=>rcases x.new a o e with h | h;rw[hP] at h;cases h;exact absurd ha (fZ.mpr h)
theorem PH.on.fresh(hp:P.on s)(h:s.heap.objs.size<=a):P.obj a=am:=by
 cases e:P.obj a with
 |none=>rfl
 |some o=>exact absurd (dE (hp.obj a o e)) (fZ.mpr h)
end
abbrev Gv(w)(P)(s)(r:V)(Q:ah):=∀v P' s',Step [] P s P' s'->aA w P' v r->Q v s'
section
theorem o9(hp:P.on s)(hr:aA w P v r)(h:Gv w P s r Q):Q v s:=h v P s (.refl hp) hr
theorem vQ(hp:P.on s)(ht:s.toks<=tk)(h:Gv w P s (.int i) Q):Q (.int i t) {s with toks:=tk}:=h _ P _ (.ll hp ht) (.int i t)
theorem jH(hp:P.on s)(h:Gv w P s (.bool b) Q):Q (.bool b) s:=h _ P _ (.refl hp) (.bool b)
theorem vR(hp:P.on s)(hx:∀c∈x,c<128)(hl:x.length<=ci)(h:Gv w P s (.str x) Q):Q (.str (aJ x) s.toks) {s with toks:=s.toks+1}:=
 h _ _ _ (.tok hp (aV _) (iF _) hl) (.Mj hx)
theorem AO(a b):aJ a++aJ b=aJ (a++b):=by
 show Lv (a.toArray++b.toArray)=_;simp[aJ]
theorem dJ(a):(aJ a).length=a.length:=by simp[aJ,zX]
theorem j4(h:n<=ci):n<=oN:=by rw[xq];unfold ci at h;exact bD ‹_›
theorem rR(h:n<=ci):(n:Int)<2^63:=by unfold ci at h;lia
theorem aA.qd(hp:P.on s)(r:aA w P (.ref a) (.tup l)):∃items n,IsT s.heap a items n/\bp w P items.toList l/\l.length<=ci:=by
 (refine cm r λz1 e S h5 h4=>?_;obtain ⟨a',⟨c,d,dt,sl⟩,vs,n⟩:=z1)
 (injection e with e;cases e)
 cases h5.1;cases h5.2;cases S.cls;cases (show dt=.seq vs n from S.data)
 exact ⟨vs,n,hp.obj _ _ S.obj,h4,h4.length▸S.len⟩
theorem aA.xO(hp:P.on s)(r:aA w P (.ref a) (.lst l)):∃items,s.heap.IsList a items/\bp w P items.toList l/\l.length<=ci:=by
 refine bx r λd e S h4=>?_
 (injection e with e;cases e)
 exact ⟨d.vs,⟨d.o,hp.obj _ _ S.obj,S.cls,d.n,S.data⟩,h4,h4.length▸S.len⟩
theorem aA.Ak(r:aA w P v (.tup l)):∃a,v=.ref a:=r.elim λd q=>⟨d.a,q.1⟩
theorem aA.vx(r:aA w P v (.lst l)):∃a,v=.ref a:=r.elim λd q=>⟨d.a,q.1⟩
theorem aA.setRef(r:aA w P v (.set l)):∃a,v=.ref a:=r.elim λd q=>⟨d.a,q.1⟩
theorem HN(hp:P.on s)(hr:bp w P vs l)(hl:l.length<=ci)(h:Gv w P s (.tup l) Q):Q (.ref s.heap.objs.size) {s with heap:=s.heap.push {cls:=.type "tuple",data:=.seq vs.toArray n}}:=
 h _ _ _ (.push hp rfl λU U e=>by injection (e) with e;subst e;simpa[hr.length] using hl) (.tup PH.tI rfl rfl (hr.mono (PH.nF (hp.none_of (HM _)))) ⟨rfl,rfl⟩ (by simpa[hr.length] using hl))
theorem DA(hp:P.on s)(hr:bp w P vs l)(hl:l.length<=ci)(h:Gv w P s (.lst l) Q):Q (.ref s.heap.objs.size) {s with heap:=s.heap.push {cls:=.type "list",data:=.seq vs.toArray n}}:=
 h _ _ _ (.push hp rfl λU U e=>by injection (e) with e;subst e;simpa[hr.length] using hl) (.lst PH.tI rfl rfl (hr.mono (PH.nF (hp.none_of (HM _)))) (by simpa[hr.length] using hl))
theorem Zc(hp:P.on s)(ru:aA w P u (.int a))(rv:aA w P v (.int b))(h:Gv w P s (.int (a+b)) Q):aw (aH an w) A (vk .Add u v) Q E s:=by
 obtain ⟨t,rfl⟩:=ru;obtain ⟨t',rfl⟩:=rv;exact PySem.P.add_int (vQ hp (dT _) h)
theorem Zd(hp:P.on s)(ru:aA w P u (.int a))(rv:aA w P v (.int b))(h:Gv w P s (.int (a-b)) Q):aw (aH an w) A (vk .Sub u v) Q E s:=by
 obtain ⟨t,rfl⟩:=ru;obtain ⟨t',rfl⟩:=rv;exact PySem.P.sub_int (vQ hp (dT _) h)
theorem Ze(hp:P.on s)(ru:aA w P u (.int a))(rv:aA w P v (.int b))(hb:0<b)(h:Gv w P s (.int (a%b)) Q):aw (aH an w) A (vk .Mod u v) Q E s:=by
 obtain ⟨t,rfl⟩:=ru;obtain ⟨t',rfl⟩:=rv;refine PyProof.Rows.mod_int' (by lia) ?_;rw[Int.fmod_eq_emod_of_nonneg a (by lia)];exact vQ hp (dT _) h
theorem Zf(hp:P.on s)(ru:aA w P u (.str a))(rv:aA w P v (.str b))(hf:(a++b).length<=ci)(h:Gv w P s (.str (a++b)) Q):aw (aH an w) A (vk .Add u v) Q E s:=by
 (refine bx ru λt av h1 h2=>?_;subst av);(refine bx rv λt' av jM mq=>?_;subst av);refine PySem.P.add_str ?_
 by_cases ha:a=[]
 .subst ha;rw[bw (by simp[aJ,zX])];exact o9 hp (.str _ _ jM mq) h
 .rw[if_neg (by simp[aJ,zX,ha])]
  by_cases hb:b=[]
  .subst hb;rw[bw (by simp[aJ,zX])];rw[eh] at h;exact o9 hp (.str _ _ h1 h2) h
  .rw[if_neg (by simp[aJ,zX,hb]),AO];exact ⟨by rw[dJ];exact j4 hf,vR hp (λc hc=>(dZ.mp hc).elim (h1 c) (jM c)) hf h⟩
theorem Zg(hp:P.on s)(ru:aA w P u (.tup a))(rv:aA w P v (.tup b))(hf:(a++b).length<=ci)(h:Gv w P s (.tup (a++b)) Q):aw (aH an w) A (vk .Add u v) Q E s:=by
 obtain ⟨x,rfl⟩:=ru.Ak;obtain ⟨y,rfl⟩:=rv.Ak;(refine bX (ru.qd hp) λi1 n1 t1 r1 az=>?_;clear az);(refine bX (rv.qd hp) λi2 n2 t2 r2 az=>?_;clear az);have l1:=r1.length;have l2:=r2.length;simp only[dY] at l1 l2
 by_cases h1:i1.isEmpty=ak
 .have:a=[]:=xt (by rw[<- l1];simpa using h1);subst this;exact VI ⟨_,t1,rfl⟩ ⟨_,t2,rfl⟩ afL afM F.slot_tuple_add F.entry_tuple_add (F.args_tuple_add_2 _ _) (AutoSeq1.tuple___add___tuple_tuple_0 x i1 n1 y i2 n2 h1) ⟨t1,t2,o9 hp rv h⟩
 .by_cases h2:i2.isEmpty=ak
  .have:b=[]:=xt (by rw[<- l2];simpa using h2);subst this;rw[eh] at h;exact VI ⟨_,t1,rfl⟩ ⟨_,t2,rfl⟩ afL afM F.slot_tuple_add F.entry_tuple_add (F.args_tuple_add_2 _ _) (AutoSeq1.tuple___add___tuple_tuple_1 x i1 n1 y i2 n2 h1 h2) ⟨t1,t2,o9 hp ru h⟩
  .refine PySem.P.add_tuple t1 t2 h1 h2 ?_ (j4 (by rw[bJ] at hf;lia));have:i1++i2=(i1.toList++i2.toList).toArray:=by simp
   rw[this];exact HN hp (r1.append r2) hf h
end
set_option backward.match.sparseCases false
abbrev Gb(w:dy)(P)(s:bf)(b:Bool)(Q:Bool->bf->Prop):=∀s',Step [] P s P s'->Q b s'
section
variable {an:dX}{w:dy}{A:fL}{E:ah}{P:PH}{s:bf}{Q:ah}{B:Bool->bf->Prop}
theorem Zh(hp:P.on s)(ru:aA w P u (.lst a))(rv:aA w P v (.lst b))(hf:(a++b).length<=ci)(h:Gv w P s (.lst (a++b)) Q):aw (aH an w) A (vk .Add u v) Q E s:=by
 ((refine bx ru ?_;clear ru;intro c av S r1);subst av)
 ((refine bx rv ?_;clear rv;intro d av T r2);subst av)
 obtain ⟨x,⟨cls,dd,data,sl⟩,i1,n⟩:=c;obtain ⟨y,⟨cls2,dd2,data2,sl2⟩,i2,n2⟩:=d;obtain rfl:cls=_:=S.cls;obtain rfl:data=.seq i1 n:=S.data;obtain rfl:cls2=_:=T.cls;obtain rfl:data2=.seq i2 n2:=T.data;have ho:=hp.obj _ _ S.obj;have ho2:=hp.obj _ _ T.obj;have e:i1++i2=(i1.toList++i2.toList).toArray:=by simp
 refine VI ⟨_,ho,rfl⟩ ⟨_,ho2,rfl⟩ noFill_list_add seq_list_add PySem.F.slot_list_add PySem.F.entry_list_add (PySem.F.args_list_add_2 _ _) (PyProof.Rows.list_addW x y i1 i2 n n2 dd dd2 sl sl2 (j4 (by rw[bJ,<- r1.length,<- r2.length] at hf;exact hf))) ⟨ho,ho2,e▸DA hp (r1.append r2) hf h⟩
theorem Zi(hp:P.on s)(ru:aA w P u (.int a))(rv:aA w P v (.int b))(h:Gv w P s (.bool (decide (a<b))) Q):aw (aH an w) A (kA .Lt u v) Q E s:=by
 obtain ⟨_,rfl⟩:=ru;obtain ⟨_,rfl⟩:=rv;exact PySem.P.lt_int (jH hp h)
theorem Zj(hp:P.on s)(ru:aA w P u (.int a))(rv:aA w P v (.int b))(h:Gv w P s (.bool (decide (a<=b))) Q):aw (aH an w) A (kA .LtE u v) Q E s:=by
 obtain ⟨_,rfl⟩:=ru;obtain ⟨_,rfl⟩:=rv;exact PySem.P.le_int (jH hp h)
theorem Zk(hp:P.on s)(ru:aA w P u (.int a))(rv:aA w P v (.int b))(h:Gv w P s (.bool (decide (b<a))) Q):aw (aH an w) A (kA .Gt u v) Q E s:=by
 obtain ⟨_,rfl⟩:=ru;obtain ⟨_,rfl⟩:=rv;exact PySem.P.gt_int (jH hp h)
theorem Zl(hp:P.on s)(ru:aA w P u (.int a))(rv:aA w P v (.int b))(h:Gv w P s (.bool (decide (b<=a))) Q):aw (aH an w) A (kA .GtE u v) Q E s:=by
 obtain ⟨_,rfl⟩:=ru;obtain ⟨_,rfl⟩:=rv;exact PySem.P.ge_int (jH hp h)
theorem N4(p s):lT p s=ak<->∃i,i+p.length<=s.length/\((s.drop i).take p.length==p)=ak:=by
 induction s with
 |nil=>
  cases p with
  |nil=>exact ⟨λU=>⟨0,aV _,rfl⟩,λU=>rfl⟩
  |cons c p=>exact ⟨λh=>absurd h vd,λh=>ar h λi h U=>absurd (aB (ms _ _) h) (xf _)⟩
 |cons c s ih=>
  rw[MB,Gm,ih];constructor
  .rintro (h | ⟨i,h1,h2⟩)
   .rw[tj] at h;refine a9 h λr e=>⟨0,?_,?_⟩
    .rw[<- e];simp
    .rw[<- e];simp
   .exact ⟨i+1,by simp;lia,by simpa using h2⟩
  ·(intro bu;(refine ar bu ?_;clear bu;intro i h1 h2))
   cases i with
   |zero=>
    left
    rw[tj];rw[beq_iff_eq] at h2;rw[tm] at h2
    exact ⟨(c::s).drop p.length,by
                     conv=>lhs;arg 1;rw[<- h2]
                     exact tg _ _⟩
   |succ i=>exact .inr ⟨i,by simp at h1;lia,by simpa using h2⟩
theorem AP(x p)(i):Builtin.Str.subAt (aJ x) (aJ p) i=((x.drop i).take p.length==p):=by
 rw[StrLaws.subAt_eq];simp[aJ,zX]
theorem N5(x p):(!(nC (aJ x) (aJ p) 0 (aJ x).length 1).isEmpty)=lT p x:=by
 rw[ii,StrLaws.found_iff,N4];simp only[dJ,AP]
theorem Zm(hp:P.on s)(ru:aA w P u (.str a))(rv:aA w P v (.str b))(h:Gv w P s (.bool (lT a b)) Q):aw (aH an w) A (kA .In u v) Q E s:=by
 ((refine ar ru ?_;clear ru;intro _ av az);subst av;clear az);((refine ar rv ?_;clear rv;intro _ av az);subst av;clear az);refine PySem.P.in_str ?_;rw[N5];exact jH hp h
theorem Zn(hp:P.on s)(ru:aA w P u (.str a))(rv:aA w P v (.str b))(h:Gv w P s (.bool (!lT a b)) Q):aw (aH an w) A (kA .NotIn u v) Q E s:=by
 ((refine ar ru ?_;clear ru;intro _ av az);subst av;clear az);((refine ar rv ?_;clear rv;intro _ av az);subst av;clear az);refine PySem.P.notIn_str ?_;rw[N5];exact jH hp h
theorem N6(ru:aA w P u a)(rv:aA w P v b)(hi:Ay a b=aj r):plainIs u v=ak/\(u==v)=r:=by
 cases b with
 |none=>
  cases (show v=.none from rv)
  (have hz:=aZ hi;cases hz)
  cases a with
  |none=>cases (show u=.none from ru);exact ⟨rfl,rfl⟩
  |bool=>cases (show u=.bool _ from ru);exact ⟨rfl,rfl⟩
  |ty=>cases ru.1;exact ⟨rfl,rfl⟩
  |_=>(refine a9 ru ?_;clear ru;intro _ h);first | (cases h;exact ⟨rfl,rfl⟩) | (cases h.1;exact ⟨rfl,rfl⟩)
 |ty n=>
  cases a with
  |ty m=>
   cases rv.1;cases ru.1
   (have hz:=aZ hi;cases hz)
   exact ⟨rfl,(by
     by_cases e:m=n
     .subst e;rw[f0,f0]
     .rw[kz.2 e,kz.2 λh=>e (CG.inj h)])⟩
  |_=>exact no hi
 |_=>exact no hi
theorem Zo(hp:P.on s)(ru:aA w P u a)(rv:aA w P v b)(hi:Ay a b=aj r)(h:Gv w P s (.bool r) Q):aw (aH an w) A (kA .Is u v) Q E s:=
 have k:=N6 ru rv hi
 wpAny_is_plain k.1 (by rw[k.2];exact jH hp h)
theorem Zp(hp:P.on s)(ru:aA w P u a)(rv:aA w P v b)(hi:Ay a b=aj r)(h:Gv w P s (.bool (!r)) Q):aw (aH an w) A (kA .IsNot u v) Q E s:=
 have k:=N6 ru rv hi
 wpAny_isNot_plain k.1 (by rw[k.2];exact jH hp h)
theorem aA.strOf(r:aA w P v (.str x)):∃t,v=.str (aJ x) t:=r.imp λU h=>h.1
theorem aA.tN(hp:P.on s)(r:aA w P v (.str x)):x.length<=ci:=r.elim λU h=>hp.ok.len _ _ h.2.2
theorem aA.ascii(r:aA w P v (.str x)):∀c∈x,c<128:=r.elim λU h=>h.2.1
theorem gO.Ml(h:gO t es):es.size<8191:=by
 rw[<- h.laid.size];exact ae0 (b7 h.load (aB (s8 3 h.hi) (by decide:8191*3<=8191*5)))
theorem noBool_set:lh (.type "set") "__bool__"=bH am:=by rw[tn,tq];kernel_rfl
theorem N7
  (ho:s.heap.get? a=aj o) (hex:o.ExactSet) (hd:o.data=.set es ep t) (hf:t.fits es.size=ak) (sR:(es.size:Int)<2^63)
  (h:B (!es.isEmpty) {s with toks:=s.toks+1+1}):aw (aH an w) A (Gn (.ref a)) B E s:=by
 have hT:s.TypeIs (.ref a) "set":=⟨o,ho,hex.1⟩
 have bA:((es.size:Int) != 0)= !es.isEmpty:=by
  unfold Array.isEmpty
  rcases UL es.size with e | e
  .rw[e];rfl
  .have h2:es.size≠0:=mB e;have h1:((es.size:Int) != 0)=ak:=bne_iff_ne.mpr λh=>h2 (VJ h);rw[h1,decide_eq_false h2];rfl
 have key:aw (aH an w) A (runValue (.builtin "len" ⟨[.ref a],[]⟩)) (λr s'=>r=.int es.size (s.toks+1)/\B (!es.isEmpty) s') E s:=by
  refine VK (vm entry_len ?_);rw[xx plain_len _]
  exact kD (wpAny_len_body_set (Q:=λr s'=>r=.int es.size (s.toks+1)/\B (!es.isEmpty) s') ho hex hd hf sR ⟨rfl,h⟩)
   (λfin s' h'=>by ((refine ar h' ?_;clear h';intro r av hq);subst av);exact hq) λU U e=>e
 refine au (afN (name:=aP "__bool__") hT noBool_set ?_);refine au (rh (name:=aP "__len__") hT F.slot_set_len.lookup ?_);exact au (kD key (λr s' h'=>by obtain ⟨rfl,hq⟩:=h';exact aC (bA▸hq)) λU U e=>e)
theorem Zq:lh (.type "type") "__bool__"=bH am:=by rw[tn,tq];kernel_rfl
theorem Zr:lh (.type "type") "__len__"=bH am:=by rw[tn,tq];kernel_rfl
theorem N8(h:ue n=ak):n="NoneType"\/n="bool"\/n="int"\/n="str"\/n="type"\/n="tuple"\/n="list"\/n="set":=by
 simpa[ue] using h
theorem HO(h:ue n=ak):s.TypeIs (.type n) "type":=by
 rcases N8 h with rfl | rfl | rfl | rfl | rfl | rfl | rfl | rfl<;>(show Lp _=_;kernel_rfl)
theorem AQ{α β:Type}{l:List α}{m:List β}(h:l.length=m.length):l.isEmpty=m.isEmpty:=by
 cases l<;>cases m<;>simp_all
theorem DB(hp:P.on s)(r:aA w P v x)(h:Gb w P s (ck x) B):aw (aH an w) A (Gn v) B E s:=by
 have up:Step [] P s P {s with toks:=s.toks+1+1}:=.ll hp (dH _ 2)
 cases x with
 |none=>cases (show v=.none from r);exact λU U U=>h s (.refl hp)
 |bool b=>cases (show v=.bool b from r);exact Go (h s (.refl hp))
 |int i=>obtain ⟨t,rfl⟩:=r;exact PyProof.Rows.truthy_int (h s (.refl hp))
 |str l=>
  have hl:=r.tN hp
  ((refine ar r ?_;clear r;intro t av az);subst av;clear az)
  refine PySem.P.truthy_str (by rw[dJ];exact VL.2 (rR hl)) ?_
  have e:(((aJ l).length:Int) != 0)=ck (.str l):=by
   rw[dJ];cases l<;>rfl
  rw[e];exact h _ up
 |ty n=>cases r.1;exact (by
   refine au (afN (name:=aP "__bool__") (HO r.2) Zq ?_);exact au (rh (name:=aP "__len__") (HO r.2) Zr (aC (h s (.refl hp)))))
 |tup l=>
  ((refine cm r ?_;clear r;intro d av S cI r1);subst av;clear cI)
  have e2:(!d.vs.isEmpty)=ck (.tup l):=by show _= !l.isEmpty;rw[<- AQ r1.length];simp
  exact PyProof.Rows.truthy_tuple (items:=d.vs) ⟨d.o,hp.obj _ _ S.obj,S.cls,d.n,S.data⟩ (rR S.len) (e2▸h _ up)
 |lst l=>
  ((refine bx r ?_;clear r;intro d av S r1);subst av)
  have e2:(!d.vs.isEmpty)=ck (.lst l):=by show _= !l.isEmpty;rw[<- AQ r1.length];simp
  exact wpAny_truthy_list ⟨d.o,hp.obj _ _ S.obj,S.cls,d.n,S.data⟩ (rR S.len) (e2▸h _ up)
 |set l=>
  ((refine cm r ?_;clear r;intro d av S cI r1);subst av;clear cI)
  have e2:(!d.es.isEmpty)=ck (.set l):=by show _= !l.isEmpty;rw[<- AQ r1.length,<- AQ S.perm.length_eq];simp
  exact N7 (hp.obj _ _ S.obj) S.ex S.data S.cf.fits (Int.lt_of_lt_of_le (iY.2 S.cf.Ml) (by decide)) (e2▸h _ up)
theorem Zs(hp:P.on s)(r:aA w P v x)(h:Gv w P s (.bool (!ck x)) Q):aw (aH an w) A (unaryOp .Not v) Q E s:=
 not_value (DB hp r λs' st=>h _ P s' st (.bool _))
theorem Zt(hp:P.on s)(r:aA w P v (.int i))(h:Gv w P s (.int (-i)) Q):aw (aH an w) A (unaryOp .USub v) Q E s:=by
 obtain ⟨t,rfl⟩:=r;exact PyProof.Rows.neg_int (vQ hp (dT _) h)
end
set_option backward.match.sparseCases true
inductive nR:aU->Option Int->Prop
 |none:nR .none am
 |int (i t):nR (.int i t) (aj i)
set_option tactic.hygienic true in
theorem N9(n:Nat)(v:Int):(qf n v:Int)=if v<0 then max (v+n) 0 else min v n:=UN (by
 split
 .exact Int.le_max_right _ _
 .rename_i h;exact afO.2 ⟨Gp.1 h,CH n⟩)
set_option tactic.hygienic true in
theorem Oa(n:Nat)(i:Int):qf n i=Lw n i:=by
 unfold qf Lw
 congr 1
 split
 .rename_i h;rw[afP (afQ (afR _▸afS h)),Int.max_comm]
 .rename_i h;rw[afT (afO.2 ⟨Gp.1 h,CH n⟩)]
set_option tactic.hygienic true in
theorem Ob(n:Nat)(i:Int):qf n i<=n:=zY.1 (by
 rw[N9];split
 .rename_i h;exact Int.max_le.2 ⟨afQ (afR _▸afS h),CH n⟩
 .exact Int.min_le_right _ _)
theorem Oc(n:Nat)(lo:Option Int):eR n lo=lo.elim 0 (Lw n):=by cases lo<;>simp[eR,Oa]
theorem Od(n:Nat)(hi:Option Int):gq n hi=hi.elim n (Lw n):=by cases hi<;>simp[gq,Oa]
theorem Oe(n:Nat)(hi:Option Int):gq n hi<=n:=by
 cases hi
 .exact aV _
 .exact Ob _ _
theorem Of(n:Nat)(lo:Option Int):eR n lo<=n:=by
 cases lo
 .exact bW _
 .exact Ob _ _
theorem DC{α:Type}(l:List α)(lo hi:Option Int):cut l lo hi=(l.drop (eR l.length lo)).take (gq l.length hi-eR l.length lo):=by
 unfold cut;rw[afU]
theorem AR{α:Type}(l:List α)(lo hi:Option Int):(cut l lo hi).length<=l.length:=by
 unfold cut;rw[mw];exact aB (xp _ _) (Gq _ _)
section
theorem bp.cut(r:bp w P vs l)(lo hi:Option Int):bp w P (Internal.cut vs lo hi) (Internal.cut l lo hi):=by
 unfold Internal.cut;rw[r.length];exact (r.take _).drop _
theorem Zu{α:Type}{l:List α}{lo hi:Option Int}{x:α}(h:x∈Internal.cut l lo hi):x∈l:=Gr (Lg h)
theorem Og{k n:Nat}(h:k<n):seqIndex? (k:Int) n=aj k:=by
 have h0:(0:Int)<=k:=CH k;have h2:(k:Int)<n:=iY.2 h;unfold seqIndex?;simp[h0,Gp.2 h0,h2]
theorem Zv{x y r:V}{u v:aU}(hp:P.on s)(ru:aA w P u x)(rv:aA w P v y)(hi:dN x y=aj r)(h:Gv w P s r Q):aw (aH an w) A (zZ u v) Q E s:=by
 refine ar (MF hi) λk ey hi=>?_;subst ey;refine a9 rv λtv az=>?_;subst az
 cases x with
 |str l=>
  have hl:=ru.tN hp;have ha:=ru.ascii;(refine bx ru λt av h1 h2=>?_;subst av);(refine ar (g7.mp hi) λc hc az=>?_;subst az);have bM:k<l.length:=(p4.mp hc).1;have:=rR hl;refine PySem.P.getItem_str (c:=c) ?_ ?_ ?_
  .simp only[xy,decide_eq_false_iff_not];lia
  .rw[dJ,Og bM];simpa[aJ] using hc
  .exact vR (x:=[c]) hp (λd hd=>en.1 hd▸ha _ (k8 hc)) (show 1<=ci by decide) h
 |tup l=>
  refine a9 ru.Ak λa az=>?_;subst az;refine bX (ru.qd hp) λitems n t1 r1 hl=>?_;have bM:k<l.length:=(p4.mp hi).1;have:=rR hl;refine ar (r1.get hi) λv hv rv=>?_;have e:items.size=l.length:=r1.length;exact PySem.P.getItem_tuple (k:=k) (y:=v) t1 (by lia) (by lia) (Og (e▸bM)) (by simpa using hv) (o9 hp rv h)
 |lst l=>
  refine a9 ru.vx λa az=>?_;subst az;refine bx (ru.xO hp) λitems t1 r1 hl=>?_;have bM:k<l.length:=(p4.mp hi).1;have:=rR hl;exact ar (r1.get hi) λv hv rv=>wpAny_getItem_list t1 (CH k) (Int.lt_trans (iY.2 bM) this) (by simpa using hv) (o9 hp rv h)
 |_=>exact no hi
theorem Zw(hp:P.on s)(ru:aA w P u x)(hi:Hh x=aj r)(h:Gv w P s r Q):aw (aH an w) A (call (.builtin "len") [u]) Q E s:=by
 cases x with
 |str l=>
  have hl:=ru.tN hp;(refine bx ru λt av h1 h2=>?_;subst av)
  ·(have hz:=aZ hi;cases hz)
   refine PySem.P.len_str (by rw[dJ];exact VL.2 (rR hl)) ?_;rw[dJ];exact vQ hp (dH _ 2) h
 |tup l=>
  refine a9 ru.Ak λa az=>?_;subst az;refine bX (ru.qd hp) λitems n t1 r1 hl=>?_;have e:=r1.length;simp only[dY] at e
  (have hz:=aZ hi;cases hz)
  refine PySem.P.len_tuple t1 (by have e:=r1.length;rw[dY] at e;rw[e];exact VL.2 (rR hl)) ?_;rw[e];exact vQ hp (dH _ 2) h
 |lst l=>
  refine a9 ru.vx λa az=>?_;subst az;refine bx (ru.xO hp) λitems t1 r1 hl=>?_;have e:=r1.length;simp only[dY] at e
  (have hz:=aZ hi;cases hz)
  refine Calls.call_len_list t1 (by have e:=r1.length;rw[dY] at e;rw[e];exact rR hl) ?_;rw[e];exact vQ hp (dH _ 2) h
 |_=>exact no hi
theorem nR.WR(h:nR v k):IsPart v k:=by cases h;exact .none;exact .int _ _
theorem nR.partValue(h:nR v k):∃p,PySem.partValue p=v/\p.map (·.1)=k:=by
 cases h with
 |none=>exact ⟨am,rfl,rfl⟩
 |int i t=>exact ⟨aj (i,t),rfl,rfl⟩
theorem Oh(h:nR v k)(hK:K k s):aw (aH an w) A (Builtin.Slice.slicePartIndex v) K E s:=by
 cases h with
 |none=>exact afV hK
 |int i t=>exact PyProof.Rows.slicePart_int hK
theorem Zx(lo hi:Option Int)(n:Nat):VM lo hi 1 (n:Int)=((eR n lo:Int),(gq n hi:Int)):=by
 unfold VM;have h1:¬((1:Int)<0):=by decide
 simp only[h1,if_false];have key:∀v:Int,(if v<0 then max (v+n) 0 else min v n)=((qf n v:Nat):Int):=λv=>(N9 n v).symm
 cases lo<;>cases hi<;>simp only[eR,gq,key]<;>rfl
theorem Zy(xs:Array aU)(a k:Nat):((fk k).filterMap λ(j:Nat)=>xs[((a:Int)+(j:Int)*1).toNat]?)=(xs.toList.drop a).take k:=by
 have e:(λ(j:Nat)=>xs[((a:Int)+(j:Int)*1).toNat]?)=λj=>xs[a+j]?:=by
  funext j
  have:((a:Int)+(j:Int)*1).toNat=a+j:=by rw[Int.mul_one];rfl
  rw[this]
 rw[e];have:=pick_run xs a k;rw[afr] at this;exact this
theorem Zz{t sl:bc}{items:Array aU}{n:Nat}{vl vu:aU}{lo hi:Option Int}(ht:IsT s.heap t items n)(hs:s.heap.IsSliceOf sl vl vu .none)(pl:nR vl lo)(pu:nR vu hi)(cX:items.size<=oN)
  (h1:cut items.toList lo hi=items.toList->Q (.ref t) s) (h2:Q (.ref s.heap.objs.size) {s with heap:=s.heap.push {cls:=.type "tuple",data:=.seq (cut items.toList lo hi).toArray}}) :
  aw (aH an w) A (zZ (.ref t) (.ref sl)) Q E s:=by
 have hT:s.TypeIs (.ref t) "tuple":=⟨_,ht,rfl⟩;have KD:PyProof.Rows.IsTup s.heap t items:=⟨_,ht,rfl,n,rfl⟩;refine bx (id hs) λos FL hcs KY=>?_;have hTs:s.TypeIs (.ref sl) "slice":=⟨os,FL,hcs⟩
 have sV:sizeOk (.seq (cut items.toList lo hi).toArray):=by
  show (cut items.toList lo hi).toArray.size<=oN;have:=AR items.toList lo hi;simp only[dY,afW] at this ⊢;lia
 unfold zZ
 try with_reducible refine gg ?_
 first | refine au (aC ?_) | skip
 refine au (wpAny_sequenceKey hT aM ?_)
 refine au (Gs (name:=aP "__getitem__") hT VN
  (mz VN hT PyProof.Rows.entry_tuple_getitem ?_ (PyProof.Rows.args_tuple_getitem _ _)))
 show aw _ _ (afD (.ref t)>>=_) _ _ s;refine au (PyProof.Rows.tupleItemsOf_ KD ?_);refine au (Gd hTs ?_);refine au (au (au (lP FL KY (x:=vl) rfl (au (lP FL KY (x:=vu) rfl (au (lP FL KY (x:=.none) rfl (aC ?_))))))));refine au (afV ?_);show aw _ _ (if ((1:Int)==0)=ak then _ else _) _ _ s;refine au (Oh pl (au (Oh pu (au (aC ?_)))));show aw _ _ (match VM lo hi 1 (items.size:Int) with | (lo,hi)=>bH (lo,(1:Int),Lx lo hi 1)) _ _ s;rw[Zx lo hi items.size]
 have df:Lx (eR items.size lo:Int) (gq items.size hi:Int) 1=gq items.size hi-eR items.size lo:=by
  unfold Lx;have h1:(1:Int) > 0:=by decide
  simp only[h1,if_true,Int.ediv_one]
  by_cases c:(eR items.size lo:Int)<gq items.size hi
  .rw[bw c,Int.sub_add_cancel];exact afX _ _
  .rw[if_neg c];exact (CI (zY.1 (Gp.1 c))).symm
 show aw _ _ (bH ((eR items.size lo:Int),(1:Int),Lx (eR items.size lo:Int) (gq items.size hi:Int) 1)) _ _ s;rw[df];refine aC ?_
 have e:(cut items.toList lo hi)=(items.toList.drop (eR items.size lo)).take (gq items.size hi-eR items.size lo):=by
  rw[DC,dY]
 have fresh:aw (aH an w) A.in1 (do return <- vn (<- Gu ((fk (gq items.size hi-eR items.size lo)).filterMap λ(k:Nat)=>items[((eR items.size lo:Int)+(k:Int)*1).toNat]?).toArray)) (λfin s'=>∃r,fin=.done (.ret r)/\aw (aH an w) A (bH r) Q E s') E s:=by
  rw[Zy,<- e]
  first
   |exact au (m:=Gu _) (ro (aC ⟨_,rfl,aC h2⟩) sV)
   |exact au (m:=Gu _) (ro (au (aC (aC ⟨_,rfl,aC h2⟩))) sV)
   |exact au (au (m:=Gu _) (ro (aC (aC ⟨_,rfl,aC h2⟩)) sV))
   |exact au (au (m:=Gu _) (ro (aC ⟨_,rfl,aC h2⟩) sV))
 by_cases hw:((eR items.size lo:Int)==0&&(1:Int)==1&&(gq items.size hi-eR items.size lo)==items.size)=ak
 .have wX:cut items.toList lo hi=items.toList:=by
   simp only[fM,beq_iff_eq] at hw;rw[e,hw.2,Int.ofNat_eq_zero.1 hw.1.1,tm,Gw (by simp)]
  show aw _ _ (if _=ak then _ else _) _ _ s;refine o7 hw (au (m:=Builtin.Tuple.tupleIsExact _) ?_);refine au (Gd hT (aC ?_));show aw _ _ (if ((CG "tuple"==CG "tuple"))=ak then _ else _) _ _ s;exact au (ti (aC ⟨_,rfl,aC (h1 wX)⟩))
 .show aw _ _ (if _=ak then _ else _) _ _ s;exact ir hw fresh
theorem ZA(x:aa)(lo hi:Option Int):(Gx lo hi 1 x.length).filterMap ((aJ x).cps[·]?)=cut x lo hi/\(Gx lo hi 1 x.length).length=gq x.length hi-eR x.length lo:=by
 have key:Gx lo hi 1 x.length=(fk (gq x.length hi-eR x.length lo)).map (eR x.length lo+·):=by
  rw[<- sliceRange_one,Oc,Od];unfold Gx;have h1:(1:Int) > 0:=by decide
  cases lo<;>cases hi<;>simp[clipAt_cast]
 rw[key];refine ⟨?_,by simp⟩;rw[pick_run,DC];simp[aJ]
theorem ZB{x r:V}{u vl vu:aU}{sl:bc}{lo hi:Option Int}(hp:P.on s)(ru:aA w P u x)(hs:s.heap.IsSliceOf sl vl vu .none)(pl:nR vl lo)(pu:nR vu hi)(jw:kL x lo hi=aj r)(h:Gv w P s r Q) :
  aw (aH an w) A (zZ u (.ref sl)) Q E s:=by
 cases x with
 |str l=>
  have hl:=ru.tN hp;have ha:=ru.ascii
  (replace jw:=aZ jw;cases jw)
  (refine bx ru λt av h1 h2=>?_;subst av)
  ·(refine ar pl.partValue λp1 av e1=>?_;subst av);(refine ar pu.partValue λp2 av e2=>?_;subst av);refine wpAny_getItem_str_slice (l:=p1) (u:=p2) (st:=am) hs rfl ?_;unfold sliceMade slicePicked;simp only[Option.map_none,Option.getD_none,e1,e2,dJ];refine bm (ZA l lo hi) λk1 k2=>?_
   by_cases hw:((1:Int)==1&&(Gx lo hi 1 l.length).length==l.length)=ak
   .rw[bw hw]
    have:cut l lo hi=l:=by
     rw[k2] at hw;simp only[fM,beq_iff_eq] at hw;rw[DC,hw.2,Mt hw.2 (Oe l.length hi) (Of l.length lo),tm,Gw (by simp)]
    rw[this] at h;exact o9 hp (.str _ _ h1 h2) h
   .rw[if_neg hw,k1];exact ⟨by show (aJ _).length<=_;rw[dJ];exact j4 (aB (AR _ _ _) hl),vR hp (λc hc=>ha c (Zu hc)) (aB (AR _ _ _) hl) h⟩
 |tup l=>
  refine a9 ru.Ak λa az=>?_;subst az;refine bX (ru.qd hp) λitems n t1 r1 hl=>?_
  (replace jw:=aZ jw;cases jw)
  have e:=r1.length;simp only[dY] at e;refine Zz t1 hs pl pu (j4 (e▸hl)) (λhc=>?_) (HN hp (r1.cut lo hi) (aB (AR _ _ _) hl) h)
  have:cut l lo hi=l:=by
   have hh:=r1.cut lo hi;rw[hc] at hh;have h3:(cut l lo hi).length=l.length:=hh.length.symm.trans r1.length;unfold cut at h3 ⊢;rw[mw,CC] at h3;have h4:=Oe l.length hi;rw[Gy h4] at h3;have h5:=Mt h3 h4 (Of l.length lo);rw[h5] at h3 ⊢;rw[VO] at h3;rw[h3,tm,Gz]
  rw[this] at h;exact o9 hp ru h
 |lst l=>
  refine a9 ru.vx λa az=>?_;subst az;refine bx (ru.xO hp) λitems t1 r1 hl=>?_
  (replace jw:=aZ jw;cases jw)
  have e:=r1.length;simp only[dY] at e;refine wpAny_getItem_list_slice t1 hs pl.WR pu.WR .none (by simp) ?_ (j4 (e▸hl));rw[slicePick_plain,<- Oc,<- Od];have:(List.take (gq items.size hi-eR items.size lo) (List.drop (eR items.size lo) items.toList))=cut items.toList lo hi:=by rw[DC,dY]
  rw[this];exact DA hp (r1.cut lo hi) (aB (AR _ _ _) hl) h
 |_=>exact no jw
end
set_option backward.match.sparseCases false
section
open PySem Builtin Builtin.Str
noncomputable def mS(s sub:aW)(hi iC:Nat):aa->Nat->Nat->aa
 |[],U1,U2=>[]
 |i::l,cnt,free=>if ((cnt<iC/\free<=i)/\i+sub.length<=hi)/\subAt s sub i=ak then i::mS s sub hi iC l (cnt+1) (i+sub.length) else mS s sub hi iC l cnt free
theorem HP:mS s sub hi iC [] c f=[]:=rfl
theorem uf:mS s sub hi iC (i::l) cnt free=if ((cnt<iC/\free<=i)/\i+sub.length<=hi)/\subAt s sub i=ak then i::mS s sub hi iC l (cnt+1) (i+sub.length) else mS s sub hi iC l cnt free:=rfl
theorem HQ(s sub)(hi iC):∀l st,(Ga l st (afY s sub hi iC)).run.fst.toList=st.fst.toList++mS s sub hi iC l st.fst.size st.snd
 |[]=>λst=>by simp[HP]
 |i::l=>λst=>by
  rw[CJ];unfold afY;rw[uf]
  split
  .have:=HQ s sub hi iC l (st.fst.push i,i+sub.length);simp only[F9,Vo,b8,Vt] at this;exact this
  .exact HQ s sub hi iC l st
theorem HR(s sub)(iC):nC s sub 0 s.length iC=mS s sub s.length iC (zF 0 (s.length+1)) 0 0:=by
 rw[StrLaws.occ_eq,HQ];simp
theorem HS(x p)(a)(ha:a<=x.length):(a+p.length<=x.length/\subAt (aJ x) (aJ p) a=ak)<->p.isPrefixOf (x.drop a)=ak:=by
 rw[AP,beq_iff_eq,tj];constructor
 ·(intro bu;(refine bm bu ?_;clear bu;intro h1 h2))
  exact ⟨(x.drop a).drop p.length,by
                    conv=>lhs;arg 1;rw[<- h2]
                    exact tg _ _⟩
 ·(intro bu;(refine a9 bu ?_;clear bu;intro r e))
  have h:(x.drop a).length=p.length+r.length:=by rw[<- e,bJ]
  rw[mw] at h;refine ⟨Nat.add_le_of_le_sub' ha (by rw[h];exact dH _ _),?_⟩;rw[<- e,List.take_left'];rfl
theorem AS(x)(i j):strSub (aJ x) i j=aJ ((x.drop i).take (j-i)):=by
 have:=StrLaws.strSub_toList (aJ x) i j
 have e:(strSub (aJ x) i j).cps=((x.drop i).take (j-i)).toArray:=by
  apply Array.toList_inj.mp
  rw[this];simp[aJ]
 show Lv _=Lv _;exact aE Lv e
theorem ZC(x p)(hp:p≠[])(iC):∀m a cnt free,m+a=x.length->cnt+(m+1)<=iC->
  GA (aJ x) p.length free (mS (aJ x) (aJ p) x.length iC (zF a (m+1)) cnt free)=(iK p (x.drop a) (free-a) ((x.drop free).take (a-free))).map aJ:=by
 have df:1<=p.length:=by cases p with | nil=>exact absurd rfl hp | cons=>simp
 intro m
 induction m with
 |zero=>
  intro a cnt free mn hc;obtain rfl:a=x.length:=(jP a).symm.trans mn;rw[GB,uf,if_neg (λh=>afZ x.length (aB (iE df _) ((dJ p)▸h.1.2))),af0,HP,GA,Ly,WZ,dJ,AS];simp
 |succ m ih=>
  intro a cnt free mn hc;have bM:a<x.length:=mn▸VP (ku m);have gA:m+(a+1)=x.length:=(kY m a 1).trans mn;rw[GB,CK bM]
  by_cases hf:a<free
  .rw[uf,if_neg (λh=>fZ.2 h.1.1.2 hf),show free-a=(free-(a+1))+1 from (GC (Lz hf)).symm,W0,ih (a+1) cnt free gA (tA hc),
    CI (gc hf),CI hf]
  .have hf:=fZ.1 hf;rw[CI hf,W1];have key:=HS x p a (gc bM);rw[CK bM] at key
   by_cases bN:p.isPrefixOf (x[a]::x.drop (a+1))=ak
   .rw[bw bN,uf,bw ⟨⟨⟨b7 (FX (ku _)) hc,hf⟩,by rw[dJ];exact (key.mpr bN).1⟩,(key.mpr bN).2⟩,GA,dJ,ih (a+1) (cnt+1) (a+p.length) gA (aB (ec (kY cnt 1 (m+1))) hc),AS,
     Nat.add_sub_add_left a p.length 1,CI (iE df a)]
    simp
   .rw[if_neg bN,uf,if_neg (λh=>bN (key.mp ⟨(dJ p)▸h.1.2,h.2⟩)),ih (a+1) cnt free gA (tA hc),CI (eU hf)]
    congr 2
    rw[afk hf,List.take_add_one]
    congr 1
    rw[z0,F6 hf,oM bM];rfl
theorem Oi(x p)(hp:p≠[]):LA (aJ x) (nC (aJ x) (aJ p) 0 (aJ x).length ((aJ x).length+1)) (aJ p).length=(fH x p).map aJ:=by
 rw[af1,HR,dJ,dJ];have:=ZC x p hp (x.length+1) x.length 0 0 0 (by lia) (by lia);rw[this];rfl
set_option tactic.hygienic true in
theorem ZD(x p)(hp:p≠[])(iC):∀m a cnt free,m+a=x.length->cnt+(m+1)<=iC->free<=a->
  mS (aJ x) (aJ p) x.length iC (zF a (m+1)) cnt free=[]->lT p (x.drop a)=ap:=by
 have df:1<=p.length:=by cases p with | nil=>exact absurd rfl hp | cons=>simp
 intro m
 induction m with
 |zero=>
  intro a cnt free mn _ _ _;rw[VQ (ec ((jP a).symm.trans mn).symm)]
  cases p with
  |nil=>exact absurd rfl hp
  |cons=>rfl
 |succ m ih=>
  intro a cnt free mn hc hf h;have bM:a<x.length:=mn▸VP (ku m);rw[GB,uf] at h;rw[CK bM,MB,xy];have key:=HS x p a (gc bM);rw[CK bM] at key
  split at h
  .cases h
  .rename_i hn
   refine ⟨?_,ih (a+1) cnt free ((kY m a 1).trans mn) (tA hc) (eU hf) h⟩;rw[ny];intro hh;have:=key.mpr hh;exact hn ⟨⟨⟨b7 (FX (ku _)) hc,hf⟩,by rw[dJ];exact this.1⟩,this.2⟩
theorem ZE(x p b)(hp:p≠[]):∀m a,m+a=x.length->
  (mS (aJ x) (aJ p) x.length 1 (zF a (m+1)) 0 0=[]/\cK p b (x.drop a)=x.drop a)\/
  ∃i,a<=i/\i+p.length<=x.length/\mS (aJ x) (aJ p) x.length 1 (zF a (m+1)) 0 0=[i]/\cK p b (x.drop a)=(x.drop a).take (i-a)++b++x.drop (i+p.length):=by
 have df:1<=p.length:=by cases p with | nil=>exact absurd rfl hp | cons=>simp
 have full:∀l free,mS (aJ x) (aJ p) x.length 1 l 1 free=[]:=by
  intro l
  induction l with
  |nil=>intro _;rfl
  |cons i l ih=>exact λfree=>(if_neg λh=>gf 1 h.1.1.1).trans (ih free)
 intro m
 induction m with
 |zero=>
  intro a mn
  left
  obtain rfl:a=x.length:=(jP a).symm.trans mn;rw[GB,uf,if_neg (λh=>afZ x.length (aB (iE df _) ((dJ p)▸h.1.2))),af0,HP,Ly];exact ⟨rfl,rfl⟩
 |succ m ih=>
  intro a mn;have bM:a<x.length:=mn▸VP (ku m);have key:=HS x p a (gc bM);rw[GB,uf];rw[CK bM] at key ⊢;rw[MA]
  by_cases bN:p.isPrefixOf (x[a]::x.drop (a+1))=ak
  .right
   have hk:=key.mpr bN;refine ⟨a,aV _,hk.1,?_,?_⟩
   .rw[bw ⟨⟨⟨Nat.one_pos,bW _⟩,by rw[dJ];exact hk.1⟩,hk.2⟩,full]
   .rw[bw bN,<- CK bM,VR];simp
  .rw[if_neg bN,if_neg (λh=>bN (key.mp ⟨by have:=h.1.2;rw[dJ] at this;exact this,h.2⟩))];refine (ih (a+1) ((kY m a 1).trans mn)).elim (λz=>bm z λh1 h2=>?_) λz=>cm z λi h0 h1 h2 h3=>?_
   .exact .inl ⟨h1,by rw[h2]⟩
   .refine .inr ⟨i,tA h0,h1,h2,?_⟩;rw[h3,show i-a=(i-(a+1))+1 from (GC (Lz h0)).symm,af2];simp
theorem ZF(x p b)(hp:p≠[]):(nC (aJ x) (aJ p) 0 (aJ x).length 1=[]/\cK p b x=x)\/
  ∃i,nC (aJ x) (aJ p) 0 (aJ x).length 1=[i]/\glued (aJ b) (LA (aJ x) [i] (aJ p).length)=aJ (cK p b x):=by
 rw[HR,dJ];refine (ZE x p b hp x.length 0 (by lia)).elim (λz=>bm z λh1 h2=>?_) λz=>cm z λi h0 h1 h2 h3=>?_
 .exact .inl ⟨h1,by simpa using h2⟩
 .refine .inr ⟨i,h2,?_⟩;rw[af1,GA,GA,af3,dJ,dJ,AS,AS];simp only[tm,VO] at h3;rw[h3];show aJ _++aJ b++aJ _=_;rw[AO,AO,Gw (l:=x.drop (i+p.length)) (by simp),VO,tm]
theorem Oj(sep):∀ss,aW.join (aJ sep) (ss.map aJ)=aJ (gL sep ss)
 |[]=>rfl
 |[x]=>rfl
 |x::y::r=>by
  have ih:=Oj sep (y::r);simp only[th] at ih ⊢;show aJ x++aJ sep++aW.join (aJ sep) (aJ y::r.map aJ)=aJ (x++sep++gL sep (y::r));rw[ih,AO,AO]
theorem Ol(sep):∀ss,(ss.map vo).sum+ss.length*sep.length<=(gL sep ss).length+sep.length
 |[]=>ec (Nat.zero_mul _) |> λh=>aB (ec (jP _)) (aB h (bW _))
 |[x]=>ec (congr (aE HAdd.hAdd (Nat.add_zero _)) (VS _))
 |x::y::r=>by
  refine (?_:x.length+((y::r).map vo).sum+((y::r).length+1)*sep.length<=(x++sep++gL sep (y::r)).length+sep.length);rw[bJ,bJ,af4,<- jg,jg x.length];exact gD (aB (iE (Ol sep (y::r)) _) (ec (by rw[kZ (gL sep (y::r)).length,jg]))) _
theorem Om:∀{ss:List aa},c∈gL sep ss->c∈sep\/∃s∈ss,c∈s
 |[],h=>absurd h gU
 |[x],h=>.inr ⟨x,by simp,h⟩
 |x::y::r,h=>by
  rcases (dZ.1 h).imp_left dZ.1 with (h | h) | h
  .exact .inr ⟨x,by simp,h⟩
  .exact .inl h
  .rcases Om h with h | ⟨s,hs,h⟩
   .exact .inl h
   .exact .inr ⟨s,by simp at hs ⊢;exact .inr hs,h⟩
theorem DD:∀s k cur part,part∈iK sep s k cur->c∈part->c∈cur\/c∈s
 |[],U1=>λU U h hc=>.inl (en.1 h▸hc)
 |d::s,k+1=>λcur part h hc=>(DD s k cur part h hc).imp_right (cJ _)
 |d::s,0=>λcur part h hc=>by
  by_cases e:sep.isPrefixOf (d::s)=ak
  .rw[He e] at h;exact (cD.1 h).elim (λe=>.inl (e▸hc)) λh=>.inr ((DD s _ [] part h hc).elim (λh=>absurd h gU) (cJ _))
  .rw[Av e] at h;exact (DD s _ _ part h hc).elim (λh=>(dZ.1 h).imp_right λh=>cD.2 (.inl (en.1 h))) λh=>.inr (cJ _ h)
theorem On:∀s cur,lT sep s=ap->iK sep s 0 cur=[cur++s]
 |[]=>λcur U=>aE (·::[]) (eh cur).symm
 |d::s=>λcur h=>
  have h:=xy.1 h
  (Av λe=>vd (h.1.symm.trans e)).trans ((On s _ h.2).trans (aE (·::[]) (b8 cur [d] s)))
theorem DE{α:Type}(p:α->Bool)(l:List α):l.dropWhile p=l.drop (l.takeWhile p).length:=by
 have h:=GD (l₁:=l.takeWhile p) (l₂:=l.dropWhile p);rw[af5] at h;exact h.symm
theorem ZG(x cs):stripped (aJ cs).cps.contains ak ak (aJ x)=aJ (iL x cs)/\(VT (aJ cs).cps.contains ak ak (aJ x)=ak->iL x cs=x):=by
 have e0:((aJ cs).cps.contains:Nat->Bool)=(cs.contains ·):=by funext c;simp[aJ]
 rw[e0];have hx:(aJ x).cps.toList=x:=by simp[aJ]
 unfold stripped VT stripLo stripHi;simp only[if_true,hx,dJ];rw[AS];have e1:x.drop (x.takeWhile (cs.contains ·)).length=x.dropWhile (cs.contains ·):=(DE _ _).symm;rw[e1];generalize hy:x.dropWhile (cs.contains ·)=y;have hl:y.length=x.length-(x.takeWhile (cs.contains ·)).length:=by rw[<- hy,DE,mw]
 have e2:iL x cs=y.take (y.length-(y.reverse.takeWhile (cs.contains ·)).length):=by
  unfold iL;rw[hy,DE,List.drop_reverse];simp
 constructor
 .rw[e2]
  congr 2
  rw[hl];exact Nat.sub_right_comm _ _ _
 .intro h;simp only[fM,beq_iff_eq] at h;(refine bm h ?_;clear h;intro h1 h2);rw[e2];have:y=x:=by rw[<- hy,DE,h1,tm]
  subst this
  by_cases h0:y.length=0
  .have:=xt h0;subst this;rfl
  .rw[Gw];lia
theorem ZH(h:c∈iL x cs):c∈x:=by
 unfold iL at h;have h1:=af6.mp h;exact (z6 _).mem (af6.mp ((z6 _).mem h1))
theorem ZI(x cs):(iL x cs).length<=x.length:=by
 unfold iL;rw[af7];refine aB (z6 _).length_le ?_;rw[af7];exact (z6 _).length_le
theorem Oo:∀{s:aa},c∈cK p b s->c∈b\/c∈s
 |[],h=>.inr h
 |d::s,h=>by
  rw[MA] at h
  split at h
  .rcases dZ.mp h with h | h
   .exact .inl h
   .exact .inr (Lg h)
  .rcases cD.mp h with rfl | h
   .exact .inr (by simp)
   .rcases Oo h with h | h
    .exact .inl h
    .exact .inr (cJ _ h)
theorem ZJ(x p)(hp:p≠[])(h:(nC (aJ x) (aJ p) 0 (aJ x).length ((aJ x).length+1)).isEmpty=ak):lT p x=ap:=by
 rw[HR,dJ,LB] at h;simpa using ZD x p hp (x.length+1) x.length 0 0 0 (by lia) (by lia) (by lia) h
theorem ZK(x p)(h:x.length<p.length):lT p x=ap:=by
 rw[ny];refine λhh=>ar ((N4 p x).mp hh) λi h1 U=>?_;lia
theorem Op(h:∀c∈x,c<128):LC (aJ x)=1:=by
 unfold LC;rw[bw];simp only[aJ,afz,eE,nz];intro c hc;have:=h c hc;exact bD ‹_›
end
set_option backward.match.sparseCases true
section
variable {an:dX}{w:dy}{A:fL}{E:ah}{P:PH}{s:bf}{Q:ah}
theorem aA.Mk(r:aA w P v (.str x)):s.TypeIs v "str":=by
 obtain ⟨t,rfl⟩:=r.strOf;exact tB s _ t
theorem ZL(hp:P.on s)(ru:aA w P u (.str x))(rv:aA w P v (.str p))(h:Gv w P s (.bool (tU x p 0)) Q) :
  aw (aH an w) A (call (.builtin "str.startswith") [u,v]) Q E s:=by
 refine a9 ru.strOf λt az=>?_;subst az;refine a9 rv.strOf λt' az=>?_;subst az;refine GF F.slot_str_startswith (tB s _ _) F.entry_str_startswith (F.args_str_startswith_2 _ _) (gives_str_startswith _ _ _ _) ?_;rw[AP,dJ,dJ];exact jH hp h
theorem ZM(hp:P.on s)(ru:aA w P u (.str x))(rv:aA w P v (.str p))(rz:aA w P z (.int i))(hi:0<=i)(h:Gv w P s (.bool (tU x p i.toNat)) Q) :
  aw (aH an w) A (call (.builtin "str.startswith") [u,v,z]) Q E s:=by
 refine a9 ru.strOf λt az=>?_;subst az;refine a9 rv.strOf λt' az=>?_;subst az;refine a9 rz λtz az=>?_;subst az;refine GF F.slot_str_startswith (tB s _ _) F.entry_str_startswith (F.args_str_startswith_3 _ _ _) (gives_str_startswith_from _ _ _ _ _ _) ?_;rw[AP,dJ,dJ];have:fromIndex x.length i=i.toNat:=by unfold fromIndex;rw[if_neg (by lia)];lia
 rw[this];exact jH hp h
theorem ZN(hp:P.on s)(ru:aA w P u (.str x))(rv:aA w P v (.str p))(h:Gv w P s (.bool (i3 x p)) Q) :
  aw (aH an w) A (call (.builtin "str.endswith") [u,v]) Q E s:=by
 refine a9 ru.strOf λt az=>?_;subst az;refine a9 rv.strOf λt' az=>?_;subst az;refine GF F.slot_str_endswith (tB s _ _) F.entry_str_endswith (F.args_str_endswith_2 _ _) (gives_str_endswith _ _ _ _) ?_;rw[AP,dJ,dJ]
 have e:(decide (0+p.length<=x.length)&&((x.drop (x.length-p.length)).take p.length==p))=i3 x p:=by
  unfold i3;rw[jP]
  by_cases hl:p.length<=x.length
  .rw[Gw (by rw[mw];exact ec (Nat.sub_sub_self (by assumption)))]
  .simp[hl]
 rw[e];exact jH hp h
theorem ZO(hp:P.on s)(ru:aA w P u (.str x))(rv:aA w P v (.str p))(h:Gv w P s (.str (iL x p)) Q) :
  aw (aH an w) A (call (.builtin "str.strip") [u,v]) Q E s:=by
 have hl:=ru.tN hp;refine a9 ru.strOf λt az=>?_;subst az;refine a9 rv.strOf λt' az=>?_;subst az;refine GF F.slot_str_strip (tB s _ _) F.entry_str_strip (F.args_str_strip_2 _ _) (gives_str_strip_chars _ _ _ _) (bm (ZG x p) λe1 e2=>?_)
 by_cases hs:VT (aJ p).cps.contains ak ak (aJ x)=ak
 .rw[bw hs];rw[e2 hs] at h;exact o9 hp ru h
 .rw[if_neg hs,e1];have:=ZI x p;exact ⟨by rw[dJ];exact j4 (aB ‹_› ‹_›),vR hp (λc hc=>ru.ascii c (ZH hc)) (aB ‹_› ‹_›) h⟩
theorem ZP{ss:List aa}(ha:∀x∈ss,∀c∈x,c<128)(hl:∀x∈ss,x.length<=ci):∀{P:PH} {s:bf},P.on s->
  ∃P',Step [] P s P' {s with toks:=s.toks+ss.length}/\bp w P' (strsFrom s.toks (ss.map aJ)) (ss.map .str):=by
 induction ss with
 |nil=>intro P s hp;exact ⟨P,.refl hp,.nil⟩
 |cons x ss ih=>
  intro P s hp;have st:=Step.tok (t:=s.toks) (tk:=s.toks+1) (x:=x) hp (aV _) (iF _) (hl x (by simp));refine ar (ih (λy hy=>ha y (by simp[hy])) (λy hy=>hl y (by simp[hy])) st.on) λP' co r'=>⟨P',?_,?_⟩
  .have:=st.trans co;rw[show s.toks+(x::ss).length=s.toks+1+ss.length by simp;lia];exact this
  .exact .cons ((aA.Mj (ha x (by simp))).mono co.le) r'
theorem ZQ(hp:P.on s)(ru:aA w P u (.str x))(rv:aA w P v (.str p))(bA:p.isEmpty=ap)(hf:(fH x p).length<=ci)(h:Gv w P s (.lst ((fH x p).map .str)) Q) :
  aw (aH an w) A (call (.builtin "str.split") [u,v]) Q E s:=by
 have hl:=ru.tN hp;have ha:=ru.ascii;have s7:=rv.ascii;have KA:=ru;have Cn:p≠[]:=by intro e;subst e;simp at bA
 refine a9 ru.strOf λt az=>?_;subst az;refine a9 rv.strOf λt' az=>?_;subst az
 have itself:lT p x=ap->Q (.ref s.heap.objs.size) {s with heap:=s.heap.push {cls:=.type "list",data:=.seq [VU (aJ x) t].toArray}}:=λhn=>by
  have e:fH x p=[x]:=by unfold fH;rw[On _ _ hn];rfl
  rw[e] at h;exact DA hp (.cons KA .nil) (by simp[ci]) h
 have k1:=Op ha;have k2:=Op s7
 by_cases h1:(decide ((aJ x).length<(aJ p).length)||decide (LC (aJ x)<LC (aJ p)))=ak
 .refine LD F.slot_str_split (tB s _ _) F.entry_str_split (F.args_str_split_2 _ _) (meets_str_split_cannot_occur _ _ _ _ h1) ?_;rw[k1,k2] at h1;simp only[dJ,Gm,nz] at h1;exact itself (ZK x p (by lia))
 .have jM:=ny.mpr h1;have hy:((aJ p).length==0)=ap:=by rw[dJ];cases p<;>simp_all
  by_cases w7:(nC (aJ x) (aJ p) 0 (aJ x).length ((aJ x).length+1)).isEmpty=ak
  .exact LD F.slot_str_split (tB s _ _) F.entry_str_split (F.args_str_split_2 _ _) (meets_str_split_not_found _ _ _ _ jM hy w7) (itself (ZJ x p Cn w7))
  .refine LD F.slot_str_split (tB s _ _) F.entry_str_split (F.args_str_split_2 _ _) (meets_str_split_sep _ _ _ _ jM hy (ny.mpr w7) (by rw[dJ];exact j4 hl) ?_) ?_
   .rw[Oi x p Cn,ed];exact j4 hf
   .rw[Oi x p Cn,ed]
    refine ar (ZP (w:=w) (ss:=fH x p) (λy hy c hc=>by
     rcases DD _ _ _ _ hy hc with hh | hh
     .cases hh
     .exact ha c hh) (λy hy=>aB ((split_len _ _ _ _).2 y hy) ‹_›) hp) λP' st r=>?_
    show Q _ _
    have st2:=Step.push (P:=P') (s:={s with toks:=s.toks+(fH x p).length}) (o:={cls:=.type "list",data:=.seq (strsFrom s.toks ((fH x p).map aJ)).toArray}) st.on rfl (λvs n e=>by
     injection (e) with e;subst e;simpa[af8] using hf)
    refine h _ _ _ (st.trans st2) (.lst PH.tI rfl rfl (r.mono st2.le) (by simpa[af8] using hf))
theorem ZR:∀{ss:List aa},bp w P vs (ss.map .str)->∃ps,vs=VV ps/\ps.map (·.1)=ss.map aJ/\(∀x∈ss,∀c∈x,c<128):=by
 induction vs with
 |nil=>intro ss r;cases ss with
  |nil=>exact ⟨[],rfl,rfl,nofun⟩
  |cons=>exact r.elim
 |cons v vs ih=>
  intro ss r
  cases ss with
  |nil=>exact (by injection r)
  |cons y ss=>
   refine bx (ih r.2) λps e1 e2 e3=>?_;(refine bx r.1 λt av k1 k2=>?_;subst av);exact ⟨(aJ y,t)::ps,aE (FY _) e1,aE (FY _) e2,gF.2 ⟨k1,e3⟩⟩
theorem Oq(r:bp w P vs l)(h:jC l=aj ss):∃ps,vs=VV ps/\ps.map (·.1)=ss.map aJ/\(∀x∈ss,∀c∈x,c<128):=ZR (xR h▸r)
theorem ZS(hp:P.on s)(ru:aA w P u (.str x))(rv:aA w P v (.lst l))(hs:jC l=aj ss)(hf:(gL x ss).length<=ci)(h:Gv w P s (.str (gL x ss)) Q) :
  aw (aH an w) A (call (.builtin "str.join") [u,v]) Q E s:=by
 have hl:=ru.tN hp;refine a9 ru.strOf λt az=>?_;subst az;refine a9 rv.vx λa az=>?_;subst az;refine bx (rv.xO hp) λitems t1 r1 hl1=>bx (Oq r1 hs) λps e1 e2 e3=>?_;have e0:items=(VV ps).toArray:=by rw[<- e1]
 subst e0;refine LD F.slot_str_join (tB s _ _) F.entry_str_join (F.args_str_join_2 _ _) (meets_str_join_list (aJ x) t a ps ?_) ⟨t1,?_⟩
 .rw[StrLaws.joinTotal,e2];have:=Ol x ss
  apply decide_eq_false
  rw[xq];simp only[ij,ed,dJ];have e:((λx=>x.length)∘aJ:aa->Nat)=vo:=by funext y;simp[dJ]
  rw[e];unfold ci at *;lia
 .match ps,e2,r1 with
  |[],e2,r1=>
   have:ss=[]:=by simpa using e2.symm
   subst this;exact ⟨by show (GG _ _).length<=_;simp[GG,aW.empty,zX],vR (x:=[]) hp (by simp) (by simp) h⟩
  |[p],e2,r1=>
   obtain ⟨y,rfl⟩:∃y,ss=[y]:=by
    cases ss with
    |nil=>simp at e2
    |cons y r=>cases r with | nil=>exact ⟨y,rfl⟩ | cons=>simp at e2
   simp at e2;have hl:l=[.str y]:=xR hs;subst hl;have r2:bp w P [VU p.1 p.2] [V.str y]:=r1;exact o9 hp r2.1 h
  |p::q::r,e2,r1=>
   show Made.post (.str (GG (aJ x) ((p::q::r).map (·.1)))) _ s;rw[e2,af3,Oj];refine ⟨by rw[dJ];exact j4 hf,vR hp (λc hc=>?_) hf h⟩
   rcases Om hc with hc | ⟨z,hz,hc⟩
   .exact ru.ascii c hc
   .exact e3 z hz c hc
theorem ZT(hp:P.on s)(ru:aA w P u (.str x))(rv:aA w P v (.str p))(rz:aA w P z (.str b))(rk:aA w P k (.int 1))(bA:p.isEmpty=ap)(Ut:(p==b)=ap)
  (hf:(cK p b x).length<=ci) (h:Gv w P s (.str (cK p b x)) Q):aw (aH an w) A (call (.builtin "str.replace") [u,v,z,k]) Q E s:=by
 have hl:=ru.tN hp;have hlb:=rz.tN hp;have ha:=ru.ascii;have w9:=rz.ascii;have KA:=ru;have Cn:p≠[]:=by intro e;subst e;simp at bA
 (refine bx ru λt av k1 k2=>?_;subst av)
 ·(refine bx rv λt1 av k3 k4=>?_;subst av)
  ·(refine bx rz λt2 av k5 k6=>?_;subst av)
   .refine a9 rk λt3 az=>?_;subst az
    .have h0:(t1==0||t2==0)=ap:=by
      have a1:=(hp.tok _ _ k4).1;have a2:=(hp.tok _ _ k6).1;simp;lia
     have C1:(t1==t2)=ap:=by
      rw[kz];intro e;subst e;rw[k4] at k6;replace k6:=aZ k6;subst k6;simp at Ut
     have hyz:(aJ p==aJ b)=ap:=by
      rw[kz];intro e;have:p=b:=by simpa[aJ] using e
      subst this;simp at Ut
     have g:Gives (Builtin.«str.replace» ⟨[.str (aJ x) t,.str (aJ p) t1,.str (aJ b) t2,.int 1 t3],[]⟩) (if (nC (aJ x) (aJ p) 0 (aJ x).length 1).isEmpty=ak then .val (.str (aJ x) t) else .str (GG (aJ b) (LA (aJ x) (nC (aJ x) (aJ p) 0 (aJ x).length 1) (aJ p).length))):=by
      show Gives (if ((nC (aJ x) (aJ p) 0 (aJ x).length 1).isEmpty||((aJ p).length==0&&(aJ b).length==0))=ak then (do rule "str.replace.nothing";vn (.str (aJ x) t)) else
       (do
         let same <- isSame (.str (aJ p) t1) (.str (aJ b) t2)
         if same=ak then (do rule "str.replace.old-is-new";vn (.str (aJ x) t)) else
         if af9 ((aJ x).length+(nC (aJ x) (aJ p) 0 (aJ x).length 1).length*(aJ b).length)=ak then VC "str.replace:memory" else
         retStr (GG (aJ b) (LA (aJ x) (nC (aJ x) (aJ p) 0 (aJ x).length 1) (aJ p).length)))) _
      have df:((aJ p).length==0)=ap:=by rw[dJ];cases p<;>simp_all
      rw[df,CL,CM]
      split
      .exact .rule (.of_eq rfl)
      .rw[isSame_str_other _ _ _ _ h0 C1 hyz]
       have:af9 ((aJ x).length+(nC (aJ x) (aJ p) 0 (aJ x).length 1).length*(aJ b).length)=ap:=by
        apply decide_eq_false
        have:=StrLaws.occ_length_le (aJ x) (aJ p) 0 (aJ x).length 1;have h2:(nC (aJ x) (aJ p) 0 (aJ x).length 1).length*(aJ b).length<=1*(aJ b).length:=s8 _ this;rw[xq];rw[dJ] at h2 ⊢;rw[dJ] at h2 ⊢;unfold ci at *;lia
       rw[this];exact .of_eq rfl
     refine GF F.slot_str_replace (tB s _ _) F.entry_str_replace (F.args_str_replace_4 _ _ _ _) g ?_
     rcases ZF x p b Cn with ⟨e1,e2⟩ | ⟨i,e1,e2⟩
     .rw[e1,bw (show (([]:aa).isEmpty=ak) from rfl)];rw[e2] at h;exact o9 hp KA h
     .rw[e1,if_neg (by simp),e2];refine ⟨by rw[dJ];exact j4 hf,vR hp (λc hc=>?_) hf h⟩
      rcases Oo hc with hc | hc
      .exact w9 c hc
      .exact ha c hc
end
def Agree(fp:List bc)(h:bK)(s:bf):=∀b∈fp,∀o,h.get? b=aj o->s.heap.get? b=aj o
noncomputable def pa:=["list_iterator","tuple_iterator","range_iterator","set_iterator"]
def yf(h:bK)(I):=∃o n,h.get? I=aj o/\o.cls=.type n/\n∈pa
noncomputable def mT(e:bP):=e.ctorIdx==25
noncomputable def nS(e:bP):=e.ctorIdx==23
theorem Os(h:mT e=ak):∃a b c,e=.Tuple a b c:=by cases e<;>first | exact ⟨_,_,_,rfl⟩ | cases h
def pe(an)(w)(fp)(I)(h):=
 ∀s A E Q,Agree fp h s->Q (.ref I) s->aw (aH an w) A (nD (.ref I)) Q E s
noncomputable def iQ(an:dX)(w:dy)(fp:List bc)(I:bc):af->PH->bK->Prop
 |[],P,h=>yf h I/\pe an w fp I h/\∀P' s A E Q,P.le P'->P'.on s->Agree fp h s->(∀b∈fp,P'.obj b=am)->A.handled=am->
   (∀s',Step fp P' s P' s'->Q am s')->aw (aH an w) A (mD (.ref I)) Q E s
 |x::l,P,h=>yf h I/\pe an w fp I h/\∀P' s A E Q,P.le P'->P'.on s->Agree fp h s->(∀b∈fp,P'.obj b=am)->A.handled=am->
   (∀v gC s',Step fp P' s gC s'->aA w gC v x->iQ an w fp I l gC s'.heap->Q (aj v) s')->aw (aH an w) A (mD (.ref I)) Q E s
noncomputable def hV(an:dX)(w:dy)(own:Bool)(fp:List bc)(I:bc):af->PH->bK->Prop
 |[],P,h=>I∈fp/\pe an w fp I h/\∀P' s A E Q,P.le P'->P'.on s->Agree fp h s->(∀b∈fp,P'.obj b=am)->A.handled=am->
   (∀s',Step fp P' s P' s'->Q am s')->aw (aH an w) A (mD (.ref I)) Q E s
 |x::l,P,h=>I∈fp/\pe an w fp I h/\∀P' s A E (target:bP) (Q:ah),P.le P'->P'.on s->Agree fp h s->(∀b∈fp,P'.obj b=am)->A.handled=am->
   (mT target=ak\/(own=ap/\nS target=ak))->
   (∀v gC s',Step fp P' s gC s'->aA w gC v x->hV an w own fp I l gC s'.heap->Q v s')->
   aw (aH an w) A (mD (.ref I)) (λr aF=>∃v,r=aj v/\aw (aH an w) A (VW target (.ref I) v) (λU a8=>Q v a8) E aF) E s
section
theorem Agree.refl:Agree fp s.heap s:=λU U U e=>e
theorem iQ.cls(i:iQ an w fp I l P h):yf h I:=by cases l<;>exact i.1
theorem iQ.self(i:iQ an w fp I l P h):pe an w fp I h:=by cases l<;>exact i.2.1
theorem hV.self(i:hV an w own fp I l P h):pe an w fp I h:=by cases l<;>exact i.2.1
theorem iQ.frame(i:iQ an w fp I l P h)(hI:I∈fp)(hp:P.le P')(ha:∀b∈fp,∀o,h.get? b=aj o->h'.get? b=aj o):iQ an w fp I l P' h':=by
 have hc:yf h' I:=eZ i.cls λo n e r=>⟨o,n,ha I hI o e,r⟩;have hs:pe an w fp I h':=λs A E Q a q=>i.self s A E Q (λb hb o e=>a b hb o (ha b hb o e)) q
 cases l with
 |nil=>exact ⟨hc,hs,λgC s A E Q h1 h2 h3 h4 h5 h6=>i.2.2 gC s A E Q (hp.trans h1) h2 (λb hb o e=>h3 b hb o (ha b hb o e)) h4 h5 h6⟩
 |cons x l=>exact ⟨hc,hs,λgC s A E Q h1 h2 h3 h4 h5 h6=>i.2.2 gC s A E Q (hp.trans h1) h2 (λb hb o e=>h3 b hb o (ha b hb o e)) h4 h5 h6⟩
theorem hV.frame(i:hV an w own fp I l P h)(hp:P.le P')(ha:∀b∈fp,∀o,h.get? b=aj o->h'.get? b=aj o):hV an w own fp I l P' h':=by
 have hs:pe an w fp I h':=λs A E Q a q=>i.self s A E Q (λb hb o e=>a b hb o (ha b hb o e)) q
 cases l with
 |nil=>exact ⟨i.1,hs,λgC s A E Q h1 h2 h3 h4 h5 h6=>i.2.2 gC s A E Q (hp.trans h1) h2 (λb hb o e=>h3 b hb o (ha b hb o e)) h4 h5 h6⟩
 |cons x l=>exact ⟨i.1,hs,λgC s A E t Q h1 h2 h3 h4 h5 h6 h7=>i.2.2 gC s A E t Q (hp.trans h1) h2 (λb hb o e=>h3 b hb o (ha b hb o e)) h4 h5 h6 h7⟩
theorem ZU(hc:yf s.heap I)(hQ:Q () s):aw (aH an w) A (VW target (.ref I) v) Q E s:=by
 (refine bX hc λz1 n ho hn hm=>?_;obtain ⟨cls,dct,dt,sl⟩:=z1);simp only at hn;subst hn
 have key:∀(v:aU),aw (aH an w) A (match (lg I,v) with
  |(.ref r,.ref a)=>(do
   let o <- load r
   match o.cls,o.data with
   |.type n,.fields vs=>
    if (["enumerate","zip","dict_itemiterator","dict_reverseitemiterator","odict_iterator","itertools.zip_longest","itertools.pairwise"].contains n&&vs[0]?==aj (ei a))=ak then do
     rule "for.unpacks-the-owned-tuple"
     updateField r 0 .none
    else bH ()
   |U1,U2=>bH ():ig Unit)
  |_=>bH ()) Q E s:=by
  intro v
  cases v with
  |ref a=>
   refine au (wpAny_load ho ?_)
   cases dt with
   |fields vs=>
    dsimp only;rw[if_neg]
    .exact aC hQ
    .have:(["enumerate","zip","dict_itemiterator","dict_reverseitemiterator","odict_iterator","itertools.zip_longest","itertools.pairwise"].contains n)=ap:=by
      simp only[pa,cD,gU,or_false] at hm
      rcases hm with rfl | rfl | rfl | rfl<;>decide
     rw[this];simp
   |_=>exact aC hQ
  |_=>exact aC hQ
 cases target<;>first | exact aC hQ | exact key v
theorem iQ.Mp:∀{l:af} {P:PH} {h:bK},I∈fp->iQ an w fp I l P h->hV an w ap fp I l P h
 |[],P,h,hI,i=>⟨hI,i.self,λP' s A E Q h1 h2 h3 h4 h5 h6=>i.2.2 P' s A E Q h1 h2 h3 h4 h5 h6⟩
 |x::l,P,h,hI,i=>⟨hI,i.self,λP' s A E target Q h1 h2 h3 h4 h5 h6 h7=>i.2.2 P' s A E _ h1 h2 h3 h4 h5 λv gC s' st r it=>⟨v,rfl,ZU it.cls (h7 v gC s' st r (it.Mp hI))⟩⟩
theorem ZV(bA:a≠I):∀{rest:af} {i:Nat} {P:PH} {h:bK},(∃o n,P.obj a=aj o/\o.cls=.type "list"/\o.data=.seq items n)->bp w P (items.toList.drop i) rest->h.IsListIter I a i->
  iQ an w [I] I rest P h:=by
 intro rest
 induction rest with
 |nil=>
  intro i P h hP hr bN
  have hx:items[i]?=am:=by
   have:=hr.length;simp only[mw,dY,rg] at this;exact z7 (xj this)
  refine ⟨bx bN λo ho hc U=>⟨o,_,ho,hc,by simp[pa]⟩,λs A E Q ag q=>?_,λP' s A E Q h1 h2 h3 h4 h5 h6=>?_⟩
  .exact aga (bN.at λo e=>ag I (.head _) _ e) q
  .refine bX hP λo n e1 e2 e3=>?_;have hl:s.heap.IsList a items:=⟨o,h2.obj _ _ (h1.obj _ _ e1),e2,n,e3⟩;refine hU (wpAny_pyNext_list_end h5 (bN.at λo e=>h3 I (.head _) _ e) hl hx λh' he hz ht=>?_);exact h6 _ (Step.extBut h2 (h4 I (.head _)) he hz ht)
 |cons x rest ih=>
  intro i P h hP hr bN
  obtain ⟨v,hv⟩:∃v,items.toList.drop i=v::items.toList.drop (i+1):=by
   cases hd:items.toList.drop i with
   |nil=>rw[hd] at hr;cases hr
   |cons v r=>exact ⟨v,by rw[<- GH,hd];rfl⟩
  rw[hv] at hr
  have hx:items[i]?=aj v:=by
   have:(items.toList.drop i)[0]?=aj v:=by rw[hv];rfl
   rw[z0] at this;simpa using this
  refine ⟨bx bN λo ho hc U=>⟨o,_,ho,hc,by simp[pa]⟩,λs A E Q ag q=>?_,λP' s A E Q h1 h2 h3 h4 h5 h6=>?_⟩
  .exact aga (bN.at λo e=>ag I (.head _) _ e) q
  .refine bX hP λo n e1 e2 e3=>?_;have hl:s.heap.IsList a items:=⟨o,h2.obj _ _ (h1.obj _ _ e1),e2,n,e3⟩;refine bm hr λrv rr=>?_
   .refine hU (wpAny_pyNext_list_item (bN.at λo e=>h3 I (.head _) _ e) hl hx λh' zn hs hz ht=>?_);exact h6 v P' _ (Step.extBut h2 (h4 I (.head _)) hs.extBut hz ht) (rv.mono h1) (ih ⟨o,n,h1.obj _ _ e1,e2,e3⟩ (rr.mono h1) zn)
theorem ZW(bA:a≠I):∀{rest:af} {i:Nat} {P:PH} {h:bK},(∃o n,P.obj a=aj o/\o.cls=.type "tuple"/\o.data=.seq items n)->bp w P (items.toList.drop i) rest->h.IsTupleIter I a i->
  iQ an w [I] I rest P h:=by
 have FU:∀{h h':bK} {i:Nat},h.IsTupleIter I a i->(∀o,h.get? I=aj o->h'.get? I=aj o)->h'.IsTupleIter I a i:=λx e=>ar x λo ho r=>⟨o,e _ ho,r⟩;intro rest
 induction rest with
 |nil=>
  intro i P h hP hr bN
  have hx:items[i]?=am:=by
   have:=hr.length;simp only[mw,dY,rg] at this;exact z7 (xj this)
  refine ⟨bx bN λo ho hc U=>⟨o,_,ho,hc,by simp[pa]⟩,λs A E Q ag q=>?_,λP' s A E Q h1 h2 h3 h4 h5 h6=>?_⟩
  .exact agb (FU bN λo e=>ag I (.head _) _ e) q
  .refine bX hP λo n e1 e2 e3=>?_;have hl:s.heap.IsTuple a items:=⟨o,h2.obj _ _ (h1.obj _ _ e1),e2,n,e3⟩;refine hU (wpAny_pyNext_tuple_end h5 (FU bN λo e=>h3 I (.head _) _ e) hl hx λh' he hz ht=>?_);exact h6 _ (Step.extBut h2 (h4 I (.head _)) he hz ht)
 |cons x rest ih=>
  intro i P h hP hr bN
  obtain ⟨v,hv⟩:∃v,items.toList.drop i=v::items.toList.drop (i+1):=by
   cases hd:items.toList.drop i with
   |nil=>rw[hd] at hr;cases hr
   |cons v r=>exact ⟨v,by rw[<- GH,hd];rfl⟩
  rw[hv] at hr
  have hx:items[i]?=aj v:=by
   have:(items.toList.drop i)[0]?=aj v:=by rw[hv];rfl
   rw[z0] at this;simpa using this
  refine ⟨bx bN λo ho hc U=>⟨o,_,ho,hc,by simp[pa]⟩,λs A E Q ag q=>?_,λP' s A E Q h1 h2 h3 h4 h5 h6=>?_⟩
  .exact agb (FU bN λo e=>ag I (.head _) _ e) q
  .refine bX hP λo n e1 e2 e3=>?_;have hl:s.heap.IsTuple a items:=⟨o,h2.obj _ _ (h1.obj _ _ e1),e2,n,e3⟩;refine bm hr λrv rr=>?_
   .refine hU (wpAny_pyNext_tuple_item (FU bN λo e=>h3 I (.head _) _ e) hl hx λh' zn hs hz ht=>?_);exact h6 v P' _ (Step.extBut h2 (h4 I (.head _)) hs.extBut hz ht) (rv.mono h1) (ih ⟨o,n,h1.obj _ _ e1,e2,e3⟩ (rr.mono h1) zn)
theorem ZX:∀{n:Nat} {i:Int} {P:PH} {h:bK},IsRangeIter h I i n 1->iQ an w [I] I ((fk n).map λ(k:Nat)=>V.int (i+(k:Int))) P h:=by
 intro n
 induction n with
 |zero=>
  intro i P h bN;refine ⟨⟨_,_,bN,rfl,by simp[pa]⟩,λs A E Q ag q=>agc (ag I (.head _) _ bN) q,λP' s A E Q h1 h2 h3 h4 h5 h6=>?_⟩;exact hU (wpAny_pyNext_range_end h5 (h3 I (.head _) _ bN) (by lia) λh' he hz ht=>h6 _ (Step.extBut h2 (h4 I (.head _)) he hz ht))
 |succ n ih=>
  intro i P h bN
  have e:((fk (n+1)).map λ(k:Nat)=>V.int (i+(k:Int)))=V.int i::(fk n).map λ(k:Nat)=>V.int ((i+1)+(k:Int)):=by
   rw[List.range_succ_eq_map,th,ij]
   congr 1
   .simp
   .apply LF;intro k _;simp;lia
  rw[e];refine ⟨⟨_,_,bN,rfl,by simp[pa]⟩,λs A E Q ag q=>agc (ag I (.head _) _ bN) q,λP' s A E Q h1 h2 h3 h4 h5 h6=>?_⟩;refine hU (wpAny_pyNext_range_item (h3 I (.head _) _ bN) (by lia) λh' zn hs hz ht=>?_);refine h6 _ P' _ (Step.extBut h2 (h4 I (.head _)) hs.extBut hz ht) (.int _ _) (ih ?_);have:((n+1:Nat):Int)-1=(n:Int):=by lia
  rw[this] at zn;exact zn
end
section
set_option maxRecDepth 100000
theorem DF:Slot "set_iterator" "__next__" "set_iterator.__next__":=
 .of (owner:="set_iterator") (n:="__next__") (by rw[tn,tq];kernel_rfl) (by decide +kernel) (by decide +kernel) (by decide +kernel)
  (by first | exact .inl (by decide +kernel) | exact .inr (by decide +kernel)) (by rw[z8];kernel_rfl)
theorem Ot:Slot "set_iterator" "__iter__" "set_iterator.__iter__":=
 .of (owner:="set_iterator") (n:="__iter__") (by rw[tn,tq];kernel_rfl) (by decide +kernel) (by decide +kernel) (by decide +kernel)
  (by first | exact .inl (by decide +kernel) | exact .inr (by decide +kernel)) (by rw[z8];kernel_rfl)
theorem ZY:CN CP "set_iterator.__next__"=aj Builtin.«set_iterator.__next__»:=entryFor_of_tree (by kernel_rfl)
theorem ZZ:CN CP "set_iterator.__iter__"=aj Builtin.«dict_keyiterator.__iter__»:=
 GI (id':="dict_keyiterator.__iter__") (by kernel_rfl) (by first | rfl | decide +kernel | (unfold agd;simp +decide [age])) (by decide +kernel) (by kernel_rfl)
theorem Z0:CN CP "set.__iter__"=aj Builtin.«frozenset.__iter__»:=
 GI (id':="frozenset.__iter__") (by kernel_rfl) (by first | rfl | decide +kernel | (unfold agd;simp +decide [age])) (by decide +kernel) (by kernel_rfl)
abbrev ug(h:bK)(I:bc)(first:aU)(i:Nat)(a:aU)(n ep:Nat):=h.get? I=aj {cls:=.type "set_iterator",dict:=am,data:=.fields #[first,ei i,a,ei n,ei ep],slots:=#[]}
section
theorem HT(hI:I∈fp)(St:Nat->bK->Prop)(vs:List aU){P₀:PH}
  (cls:∀i h,St i h->yf h I) (self:∀i h,St i h->pe an w fp I h) (agree:∀i h h',St i h->(∀b∈fp,∀o,h.get? b=aj o->h'.get? b=aj o)->St i h')
  (item:∀i v (s:bf) (A:fL) (E:ah) (Q:Option aU->bf->Prop) (P':PH),vs[i]?=aj v->St i s.heap->P₀.le P'->P'.on s->A.handled=am->(∀h',St (i+1) h'->rq I s.heap h'->Q (aj v) {s with heap:=h'})->aw (aH an w) A (mD (.ref I)) Q E s)
  (done:∀(s:bf) (A:fL) (E:ah) (Q:Option aU->bf->Prop) (P':PH),St vs.length s.heap->P₀.le P'->P'.on s->A.handled=am->(∀h',rq I s.heap h'->Q am {s with heap:=h'})->aw (aH an w) A (mD (.ref I)) Q E s) :
  ∀(rest:af) (i:Nat) (P:PH) (h:bK),P₀.le P->bp w P (vs.drop i) rest->i<=vs.length->St i h->iQ an w fp I rest P h:=by
 have up:∀{P:PH} {s:bf} {h':bK} {tk:Nat},P.on s->(∀b∈fp,P.obj b=am)->rq I s.heap h'->s.heap.objs.size<=h'.objs.size->s.toks<=tk->Step fp P s P {s with heap:=h',toks:=tk}:=λh1 h2 h3 h4 h5=>
  (Step.extBut h1 (h2 I hI) h3 h4 h5).mono λb hb=>by simp at hb;subst hb;exact hI
 intro rest
 induction rest with
 |nil=>
  intro i P h hP hr hi fj;have:i=vs.length:=F2 hi (xj (mw.symm.trans hr.length));subst this;refine ⟨cls _ _ fj,self _ _ fj,λP' s A E Q h1 h2 h3 h4 h5 h6=>?_⟩;exact hU (done s A _ _ P' (agree _ _ _ fj h3) (hP.trans h1) h2 h5 λh' he hz ht=>h6 _ (up h2 h4 he hz ht))
 |cons x rest ih=>
  intro i P h hP hr hi fj
  obtain ⟨v,hv⟩:∃v,vs.drop i=v::vs.drop (i+1):=by
   cases hd:vs.drop i with
   |nil=>rw[hd] at hr;cases hr
   |cons v r=>exact ⟨v,by rw[<- GH,hd];rfl⟩
  rw[hv] at hr
  have hx:vs[i]?=aj v:=by
   have:(vs.drop i)[0]?=aj v:=by rw[hv];rfl
   rw[z0] at this;simpa using this
  (refine bm hr ?_;clear hr;intro rv rr)
  .refine ⟨cls _ _ fj,self _ _ fj,λP' s A E Q h1 h2 h3 h4 h5 h6=>?_⟩
   exact hU (item i v s A _ _ P' hx (agree _ _ _ fj h3) (hP.trans h1) h2 h5 λh' aeA he hz ht=>
    h6 v P' _ (up h2 h4 he hz ht) (rv.mono h1) (ih (i+1) P' _ (hP.trans h1) (rr.mono h1) ((p4.mp hx).1) aeA))
variable {A:fL}{E:ah}{P:PH}{s:bf}
theorem HU(bN:ug s.heap I first i a n ep)(h:Q (.ref I) s):aw (aH an w) A (nD (.ref I)) Q E s:=by
 have hT:s.TypeIs (.ref I) "set_iterator":=⟨_,bN,rfl⟩;refine agf hT Ot (mz Ot hT ZZ ?_ ((by unfold argsOk;kernel_rfl)));show aw _ _ (vn (.ref I)) _ _ s;exact aC ⟨_,rfl,"set_iterator",_,hT,DF.lookup,h⟩
theorem yg{Q:Option aU->bf->Prop}(bN:ug s.heap I first i (.ref a) es.size ep)
  (ho:s.heap.get? a=aj o) (hd:o.data=.set es ep t) (hf:t.fits es.size=ak)
  (h:aw (aH an w) A.in1 (if let .int slot _:=first then (do
    match <- xz a slot.toNat ((i:Int)).toNat ((ep:Int)).toNat with
    |some (x,next)=>zU (.ref I) 0 (ei next);zU (.ref I) 1 (ei ((i:Int)+1));vn x
    |none=>zU (.ref I) 2 .none;VX (<- LG (.type "StopIteration") []):ig Fin)
   else (do
    let aj places <- GJ first | unsupported "internal:set_iterator"
    match places[((i:Int)).toNat]? with
    |some (.int place U1)=>let x <- setNextDrawn a place.toNat ((ep:Int)).toNat;zU (.ref I) 1 (ei ((i:Int)+1));vn x
    |some U1=>VC "internal:set_iterator"
    |none=>zU (.ref I) 0 (ei 0);zU (.ref I) 2 .none;VX (<- LG (.type "StopIteration") [])))
   (λfin s'=>∃v,fin=.done (.ret v)/\Q (aj v) s') (λe s'=>aw (aH an w) A (do if <- VY e (.type "StopIteration") then bH am else throw e) Q E s') s) :
  aw (aH an w) A (mD (.ref I)) Q E s:=by
 have hT:s.TypeIs (.ref I) "set_iterator":=⟨_,bN,rfl⟩;unfold mD
 refine au (agg (Gs (name:=aP "__next__") hT DF
  (mz DF hT ZY ?_ ((by unfold argsOk;kernel_rfl)))))
 show aw _ _ (fieldsOf (.ref I)>>=_) _ _ s;refine au (agh bN rfl ?_);show aw _ _ (setEntries a>>=_) _ _ s;refine au (rn ho hd hf ?_);show aw _ _ (if (((es.size:Nat):Int) != (es.size:Int))=ak then _ else _) _ _ s;refine ir (by simp) ?_;exact kD h (λfin s' ⟨v,e,q⟩=>⟨v,e,aC q⟩) (λU U e=>e)
theorem HV{Q:Option aU->bf->Prop}(hh:A.handled=am)(h:∀h',(∀b o,s.heap.get? b=aj o->h'.get? b=aj o)->Q am {s with heap:=h'}) :
  aw (aH an w) A.in1 (do VX (<- LG (.type "StopIteration") [])) K (λe s'=>aw (aH an w) A (do if <- VY e (.type "StopIteration") then bH am else throw e) Q E s') s:=by
 refine au ?_;refine au (ro ?_ (by size_fits));refine au (m:=LH _ _) (vi (a:=jQ) (by first | rfl | (simp only[LH];rfl)) ?_);refine ro ?_ (by size_fits);refine au (agi ?_);rw[show A.in1.handled=am from hh];refine au (aC (wpAny_throw ?_));refine au (CE (T:="StopIteration") (b:=ak) ⟨_,fU _ rfl,rfl⟩ agj ?_);exact aC (h _ λb o e=>fo _ (fo _ e))
theorem ExtBut.keep(x:rq I cZ eD)(k:∀b o,eD.get? b=aj o->kq.get? b=aj o):rq I cZ kq:=λb o hb e=>k b o (x b o hb e)
theorem ExtBut.trans'(x:rq I cZ eD)(y:rq I eD kq):rq I cZ kq:=λb o hb e=>y b o hb (x b o hb e)
theorem Z1(bA:a≠I)(hl:jG w=ap){P₀:PH}(ho:P₀.obj a=aj o)(hd:o.data=.set es ep t)(F:gO t es) :
  ∀rest i P h,P₀.le P->bp w P (((Gh ((aH an w).w.params.setOrder a ep) es).toList.map (·.2)).drop i) rest->i<=((Gh ((aH an w).w.params.setOrder a ep) es).toList.map (·.2)).length->
   ug h I (ei 0) i (.ref a) es.size ep->iQ an w [I] I rest P h:=by
 generalize pR:Gh ((aH an w).w.params.setOrder a ep) es=ys
 have walk:∀{A:fL} {E:ah} {s:bf} {Q:Option (aU×Nat)->bf->Prop} {i slot:Nat},s.heap.get? a=aj o->Q ((ys[i]?).map λe=>(e.2,slot)) s->aw (aH an w) A (xz a slot i ep) Q E s:=by
  intro A E s Q i slot hs hQ;refine au (kC hs hd F.fits ?_);refine au (vP ?_);rw[hl];simp only[Vw,if_true];refine ir (by simp) ?_;refine au ?_;refine au (kC hs hd F.fits ?_);refine au (vP ?_);rw[hl];simp only[Vw,if_true];refine au (zS (aC ?_));rw[pR];exact aC hQ
 refine HT (by simp) (λi h=>ug h I (ei 0) i (.ref a) es.size ep) _ (λi h st=>⟨_,_,st,rfl,by simp[pa]⟩) (λi h st s A E Q ag q=>HU (ag I (.head _) _ st) q) (λi h h' st ag=>ag I (.head _) _ st) ?_ ?_
 .intro i v s A E Q P' hv st hP nk hh hQ;have hs:=nk.obj _ _ (hP.obj _ _ ho);refine yg st hs hd F.fits ?_;show aw _ _ (xz a ((0:Int)).toNat ((i:Int)).toNat ((ep:Int)).toNat>>=_) _ _ _;refine au ?_;simp only[z9];refine walk hs ?_;rw[lQ,g7] at hv
  ((refine ar hv ?_;clear hv;intro e he az);subst az)
  have oH:ys[i]?=aj e:=by simpa using he
  rw[oH];refine au (nE st (by simp) λcZ bq fK=>?_);refine au (nE (s:={s with heap:=cZ}) bq (by simp) λeD bn gI=>?_);exact aC ⟨_,rfl,hQ eD bn (ExtBut.trans' fK.extBut gI.extBut)⟩
 .intro s A E Q P' st hP nk hh hQ;have hs:=nk.obj _ _ (hP.obj _ _ ho);have B5:ys[(ys.toList.map (·.2)).length]?=am:=z7 (by simp);generalize (ys.toList.map (·.2)).length=N at st B5;refine yg st hs hd F.fits ?_;show aw _ _ (xz a ((0:Int)).toNat ((N:Int)).toNat ((ep:Int)).toNat>>=_) _ _ _;refine au ?_;simp only[z9];refine walk hs ?_;rw[B5];refine au (nE st (by simp) λcZ bq fK=>?_);exact HV (s:={s with heap:=cZ}) hh λeD hk=>hQ eD (ExtBut.keep fK.extBut hk)
theorem Z2(bA:a≠I)(hl:jG w=ak)(wW:t.led=jG w)(df:(!t.plain&&decide (es.size > 1))=ap){P₀:PH}(ho:P₀.obj a=aj o)(hd:o.data=.set es ep t)(F:gO t es) :
  ∀rest i P h,P₀.le P->bp w P ((es.toList.map (·.2)).drop i) rest->i<=(es.toList.map (·.2)).length->
   (∃slot,ky t.place slot=i/\ug h I (ei slot) i (.ref a) es.size ep)->iQ an w [I] I rest P h:=by
 have walk:∀{A:fL} {E:ah} {s:bf} {Q:Option (aU×Nat)->bf->Prop} {i slot:Nat},s.heap.get? a=aj o->ky t.place slot=i->
   Q (match es[i]?,t.place[i]? with | some (_,x),aj j=>aj (x,j+1) | _,_=>am) s->aw (aH an w) A (xz a slot i ep) Q E s:=by
  intro A E s Q i slot hs hb hQ;unfold xz;refine au (kC hs hd F.fits ?_);dsimp only;refine au (vP ?_);rw[hl];simp only[zT,xu,if_false];show aw _ _ (if (!t.plain&&decide (es.size > 1))=ak then _ else _) _ _ _;rw[df];simp only[xu,if_false];refine au ?_;show aw _ _ (if (!t.led&& !es.isEmpty)=ak then _ else _) _ _ _;rw[wW,hl];simp only[zT,CL,xu,if_false];refine aC (aC ?_);rw[hb];exact hQ
 refine HT (by simp) (λi h=>∃slot,ky t.place slot=i/\ug h I (ei slot) i (.ref a) es.size ep) _ (λi h ⟨_,_,st⟩=>⟨_,_,st,rfl,by simp[pa]⟩) (λi h ⟨_,_,st⟩ s A E Q ag q=>HU (ag I (.head _) _ st) q) (λi h h' ⟨sl,hb,st⟩ ag=>⟨sl,hb,ag I (.head _) _ st⟩) ?_ ?_
 ·(intro i v s A E Q P' hv Cm hP nk hh hQ;(refine ar Cm ?_;clear Cm;intro slot hb st))
  have hs:=nk.obj _ _ (hP.obj _ _ ho);refine yg st hs hd F.fits ?_;show aw _ _ (xz a ((slot:Int)).toNat ((i:Int)).toNat ((ep:Int)).toNat>>=_) _ _ _;refine au ?_;simp only[z9];refine walk hs hb ?_;rw[lQ,g7] at hv
  ((refine ar hv ?_;clear hv;intro e he az);subst az)
  have oH:es[i]?=aj e:=by simpa using he
  have cX:i<t.place.size:=by rw[F.laid.size];exact (ve.mp oH).1
  have aeD:t.place[i]?=aj (t.place.getD i 0):=Hx cX;rw[oH,aeD];refine au (nE st (by simp) λcZ bq fK=>?_);refine au (nE (s:={s with heap:=cZ}) bq (by simp) λeD bn gI=>?_);refine aC ⟨_,rfl,hQ eD ⟨t.place.getD i 0+1,?_,bn⟩ (ExtBut.trans' fK.extBut gI.extBut)⟩;refine d5 (AH F.laid.tab.inc (t.place.getD i 0+1)) λb1 b2 b3=>?_;have hat:=Ng F.laid.tab.inc cX
  rcases Ld (ky t.place (t.place.getD i 0+1)) (i+1) with c | c | c
  .have:=b3 i (g8 ‹_›) cX;lia
  .exact c
  .have h1:=b2 (i+1) ‹_›;have:=F.laid.tab.inc i (i+1) (iF i) (aB ‹_› ‹_›);exact absurd this (fZ.2 (pY h1))
 ·(intro s A E Q P' sS hP nk hh hQ;(refine ar sS ?_;clear sS;intro slot hb st))
  have hs:=nk.obj _ _ (hP.obj _ _ ho);have B5:es[(es.toList.map (·.2)).length]?=am:=z7 (by simp);generalize (es.toList.map (·.2)).length=N at st B5 hb;refine yg st hs hd F.fits ?_;show aw _ _ (xz a ((slot:Int)).toNat ((N:Int)).toNat ((ep:Int)).toNat>>=_) _ _ _;refine au ?_;simp only[z9];refine walk hs hb ?_;rw[B5];refine au (nE st (by simp) λcZ bq fK=>?_);exact HV (s:={s with heap:=cZ}) hh λeD hk=>hQ eD (ExtBut.keep fK.extBut hk)
theorem Z3(bA:a≠I)(Al:T≠I){order:aa}(Kr:∀k∈order,k<es.size){P₀:PH}(ho:P₀.obj a=aj o)(hd:o.data=.set es ep t)(F:gO t es) :
  ∀(rest:af) (i:Nat) (P:PH) (h:bK),P₀.le P->bp w P ((order.map λk=>(es.getD k (0,.none)).2).drop i) rest->i<=(order.map λk=>(es.getD k (0,.none)).2).length->
   ((∃oT n,h.get? T=aj oT/\oT.data=.seq (order.map λ(k:Nat)=>ei k).toArray n)/\ug h I (.ref T) i (.ref a) es.size ep)->iQ an w [I,T] I rest P h:=by
 refine HT (by simp) (λi h=>(∃oT n,h.get? T=aj oT/\oT.data=.seq (order.map λ(k:Nat)=>ei k).toArray n)/\ug h I (.ref T) i (.ref a) es.size ep) _ (λi h ⟨_,st⟩=>⟨_,_,st,rfl,by simp[pa]⟩) (λi h ⟨_,st⟩ s A E Q ag q=>HU (ag I (.head _) _ st) q)
  (λi h h' ⟨⟨oT,n,h1,h2⟩,st⟩ ag=>⟨⟨oT,n,ag T (by simp) _ h1,h2⟩,ag I (.head _) _ st⟩) ?_ ?_
 ·(intro i v s A E Q P' hv Cm hP nk hh hQ;((refine bm Cm ?_;clear Cm;intro z1 st);obtain ⟨oT,n,hT,FS⟩:=z1))
  have hs:=nk.obj _ _ (hP.obj _ _ ho);refine yg st hs hd F.fits ?_;show aw _ _ (GJ (.ref T)>>=_) _ _ _;refine au (ri hT FS ?_);rw[lQ,g7] at hv
  ((refine ar hv ?_;clear hv;intro k hk az);subst az)
  have e1:(order.map λ(k:Nat)=>ei k).toArray[((i:Int)).toNat]?=aj (ei (k:Int)):=by simp[hk]
  show aw _ _ (match (order.map λ(k:Nat)=>ei k).toArray[((i:Int)).toNat]? with | some (.int place _)=>_ | some _=>_ | none=>_) _ _ _;rw[e1];show aw _ _ (setNextDrawn a ((k:Int)).toNat ((ep:Int)).toNat>>=_) _ _ _;refine au ?_;refine au (kC hs hd F.fits ?_);refine ir (by simp) ?_;have e2:es[((k:Int)).toNat]?=aj (es.getD k (0,.none)):=by simp[(Kr k (k8 hk))]
  rw[e2];refine aC ?_;refine au (nE st (by simp) λeD bn gI=>?_);exact aC ⟨_,rfl,hQ eD ⟨⟨oT,n,gI.extBut _ _ Al hT,FS⟩,bn⟩ gI.extBut⟩
 ·(intro s A E Q P' sS hP nk hh hQ;((refine bm sS ?_;clear sS;intro z1 st);obtain ⟨oT,n,hT,FS⟩:=z1))
  have e1:(order.map λ(k:Nat)=>ei k).toArray[(((order.map λk=>(es.getD k (0,.none)).2).length:Int)).toNat]?=am:=by simp
  generalize (order.map λk=>(es.getD k (0,.none)).2).length=N at st e1;refine yg st (nk.obj _ _ (hP.obj _ _ ho)) hd F.fits ?_;show aw _ _ (GJ (.ref T)>>=_) _ _ _;refine au (ri hT FS ?_);show aw _ _ (match (order.map λ(k:Nat)=>ei k).toArray[((N:Int)).toNat]? with | some (.int place _)=>_ | some _=>_ | none=>_) _ _ _;rw[e1];refine au (nE st (by simp) λcZ bq fK=>?_);refine au (nE (s:={s with heap:=cZ}) bq (by simp) λeD bn gI=>?_);exact HV (s:={s with heap:=eD}) hh λkq hk=>hQ kq (ExtBut.keep (ExtBut.trans' fK.extBut gI.extBut) hk)
end
end
abbrev uh(P':PH)(s s':bf)(fp:List bc):=∀b∈fp,s.heap.objs.size<=b/\b<s'.heap.objs.size/\P'.obj b=am
abbrev yh(an:dX)(w:dy)(P:PH)(s:bf)(l:af)(Q:ah):=
 ∀I fp P' s',Step [] P s P' s'->uh P' s s' fp->I∈fp->iQ an w fp I l P' s'.heap->Q (.ref I) s'
abbrev Ou(an:dX)(w:dy)(own:Bool)(P:PH)(s:bf)(l:af)(Q:ah):=
 ∀I fp P' s',Step [] P s P' s'->uh P' s s' fp->hV an w own fp I l P' s'.heap->Q (.ref I) s'
section
theorem Step.oP(hp:P.on s):Step [] P s P {s with heap:=s.heap.push o}:=
 Step.keeps hp (λb o' e=>fo _ e) (by rw[fq];exact dT _) (aV _)
theorem Ov(hp:P.on s)(r:aA w P u (.lst l))(h:yh an w P s l Q):aw (aH an w) A (nD u) Q E s:=by
 ((refine a9 r ?_;clear r;intro dz zr);(refine d5 zr ?_;clear zr;intro zq dzS h4);subst zq)
 .refine LI ⟨dz.o,hp.obj _ _ dzS.obj,dzS.cls,dz.n,dzS.data⟩ ?_;have cx:=hp.fresh (aV s.heap.objs.size);refine h s.heap.objs.size [s.heap.objs.size] P _ (Step.oP hp) ?_ (by simp) ?_
  .intro b hb;simp at hb;subst hb;exact ⟨aV _,by show _<(s.heap.push _).objs.size;rw[fq];exact iF _,cx⟩
  .exact ZV (ji (dE (hp.obj _ _ dzS.obj))) ⟨dz.o,dz.n,dzS.obj,dzS.cls,dzS.data⟩ (i:=0) (by simpa using h4) ⟨_,fU _ rfl,rfl,rfl⟩
theorem Ow(hp:P.on s)(r:aA w P u (.tup l))(h:yh an w P s l Q):aw (aH an w) A (nD u) Q E s:=by
 ((refine a9 r ?_;clear r;intro dz zr);(refine fy zr ?_;clear zr;intro zq dzS h5 h4);subst zq)
 .refine agk ⟨dz.o,hp.obj _ _ dzS.obj,dzS.cls,dz.n,dzS.data⟩ ?_;have cx:=hp.fresh (aV s.heap.objs.size);refine h s.heap.objs.size [s.heap.objs.size] P _ (Step.oP hp) ?_ (by simp) ?_
  .intro b hb;simp at hb;subst hb;exact ⟨aV _,by show _<(s.heap.push _).objs.size;rw[fq];exact iF _,cx⟩
  .exact ZW (ji (dE (hp.obj _ _ dzS.obj))) ⟨dz.o,dz.n,dzS.obj,dzS.cls,dzS.data⟩ (i:=0) (by simpa using h4) ⟨_,fU _ rfl,rfl,rfl⟩
theorem Ox{es ys:List (Int×aU)}(p:ys.Perm es)(r:bU w P es l):∃l',l'.Perm l/\bp w P (ys.map (·.2)) l':=by
 refine ar (r.perm p) λl' p' r'=>?_;exact ⟨l',p',r'.values⟩
theorem Z4{es:Array (Int×aU)}{order:aa}(p:order.Perm (fk es.size)):(order.map λk=>es.getD k (0,.none)).Perm es.toList:=by
 have:=p.map λk=>es.getD k (0,.none);refine this.trans ?_
 have e:(fk es.size).map (λk=>es.getD k (0,.none))=es.toList:=by
  apply List.ext_getElem
  .simp
  .intro i h1 h2;simp at h1;simp[h1]
 rw[e]
set_option maxHeartbeats 1000000 in
theorem Oy(hp:P.on s)(r:aA w P u (.set l))(h:∀l',l'.Perm l->yh an w P s l' Q):aw (aH an w) A (nD u) Q E s:=by
 ((refine a9 r ?_;clear r;intro z1 zr);obtain ⟨a,o,es,ep,t,fs⟩:=z1;obtain ⟨rfl,S0,h8,r0⟩:=zr)
 refine ar (S0.rep r0) λl₁ h7 h6=>?_;obtain ⟨h1,h2,h3,h4,h5,-⟩:=S0
 .have ho:=hp.obj _ _ h1;have hT:s.TypeIs (.ref a) "set":=⟨o,ho,h2.1⟩;have bM:=dE ho;refine agf hT F.slot_set_iter (mz F.slot_set_iter hT Z0 ?_ (F.args_set_iter_1 _));refine au (aC ?_);show aw _ _ (Builtin.Frozenset.sizeOf a>>=_) _ _ _;refine au (au (rn ho h3 h4.fits (aC ?_)));refine au ?_;refine au (kC ho h3 h4.fits ?_);refine au (vP (aC ?_));rw[Vv]
  have fin:∀s' P' first fp l',Step [] P s P' s'->l'.Perm l->(∀b∈fp,s.heap.objs.size<=b/\b<s'.heap.objs.size/\P'.obj b=am)->
    iQ an w (s'.heap.objs.size::fp) s'.heap.objs.size l' P' (s'.heap.push {cls:=.type "set_iterator",dict:=am,data:=.fields #[first,ei (0:Nat),.ref a,ei es.size,ei ep],slots:=#[]})->
    aw (aH an w) A.in1 (do vn (<- newFields "set_iterator" [first,ei 0,.ref a,ei es.size,ei (<- setEpoch a)]))
     (λfin de=>∃r,fin=.done (.ret r)/\∃T' r',de.TypeIs r T'/\lh (.type T') "__next__"=bH (aj r')/\Q r de) E s':=by
   intro s' P' first fp l' st hl dL it;refine au (rj (st.on.obj _ _ (st.le.obj _ _ h1)) h3 h4.fits ?_);refine au (ro (aC ⟨_,rfl,"set_iterator",_,⟨_,fU _ rfl,rfl⟩,DF.lookup,?_⟩));refine h l' hl _ (s'.heap.objs.size::fp) P' _ (st.trans (Step.oP st.on)) ?_ (by simp) it;intro b hb
   rcases cD.mp hb with rfl | hb
   .exact ⟨st.size,by show _<(s'.heap.push _).objs.size;rw[fq];exact iF _,st.on.fresh (aV _)⟩
   .refine d5 (dL b hb) λa1 a2 a3=>?_;exact ⟨a1,by show _<(s'.heap.push _).objs.size;rw[fq];exact GK a2,a3⟩
  show aw _ _ (if (jG w&&(!t.plain&&decide (es.size > 1)))=ak then _ else _) _ _ _
  by_cases hdr:(jG w&&(!t.plain&&decide (es.size > 1)))=ak
  .refine o7 hdr ?_;refine au (HH _ _ _ _ (by simp) λys dr pR=>?_);refine au (agl ?_ (by rw[ed,pR.length_eq,UZ];have:=h4.Ml;rw[xq];exact bD (gc ‹_›)));have st1:Step [] P s P {s with drawn:=dr}:=.WO hp;have Kr:∀k∈ys,k<es.size:=λk hk=>by simpa using pR.mem_iff.mp hk
   refine ar (Ox (Z4 pR) h6) λl' fG oF=>?_;rw[ij] at oF;refine fin _ P _ [s.heap.objs.size] l' (st1.trans (Step.oP (o:={cls:=.type "tuple",data:=.seq (ys.map λ(i:Nat)=>ei i).toArray}) st1.on)) (fG.trans h7) ?_ ?_
   .intro b hb;simp at hb;subst hb;exact ⟨aV _,by show _<(s.heap.push _).objs.size;rw[fq];exact iF _,hp.fresh (aV _)⟩
   .have hz:(s.heap.push {cls:=.type "tuple",data:=.seq (ys.map λ(i:Nat)=>ei i).toArray}).objs.size=s.heap.objs.size+1:=fq ..;refine Z3 (T:=s.heap.objs.size) (order:=ys) (P₀:=P) ?_ ?_ Kr h1 h3 h4 l' 0 P _ (.refl P) (by rw[tm];exact oF) (bW _) ⟨⟨_,_,fo _ (fU _ rfl),rfl⟩,fU _ rfl⟩
    .rw[hz];exact ji (GK bM)
    .rw[hz];exact ji (iF _)
  .refine ir hdr ?_;refine au (aC ?_)
   cases hl:jG w with
   |false=>
    refine ar (Ox (NX ((aH an w).w.params.setOrder a ep) es) h6) λl' fG oF=>?_;refine fin s P _ [] l' (.refl hp) (fG.trans h7) (by simp) ?_;exact Z1 (ji bM) hl h1 h3 h4 l' 0 P _ (.refl P) (by simpa using oF) (bW _) (fU _ rfl)
   |true=>
    have df:(!t.plain&&decide (es.size > 1))=ap:=by rw[hl,LJ] at hdr;exact ny.mpr hdr
    refine fin s P _ [] l₁ (.refl hp) h7 (by simp) ?_;refine Z2 (ji bM) hl h5 df h1 h3 h4 l₁ 0 P _ (.refl P) (by simpa using h6.values) (bW _) ⟨0,?_,fU _ rfl⟩;refine d5 (AH h4.laid.tab.inc 0) λb1 b2 b3=>?_
    rcases UL (ky t.place 0) with c | c
    .exact c
    .have:=b2 0 c;lia
end
section
theorem Z5{n:Int}{u:aU}(hp:P.on s)(r:aA w P u (.int n))(hn:n.natAbs<=ci)
  (h:∀v s',Step [] P s P s'->s.heap.objs.size<=s'.heap.objs.size->(∀de A' E' Q',(∀b o,s'.heap.get? b=aj o->de.heap.get? b=aj o)->P.on de->yh an w P de (tY n) Q'->aw (aH an w) A' (nD v) Q' E' de)->Q v s') :
  aw (aH an w) A (call (.type "range") [u]) Q E s:=by
 refine a9 r λt az=>?_;subst az
 .refine call_range_1 (h _ _ ?_ (by show _<=(s.heap.push _).objs.size;rw[fq];exact dT _) ?_)
  .exact Step.keeps (h':=s.heap.push {cls:=.type "range",data:=.fields #[.int 0 s.toks,.int n t,.int 1 (s.toks+1)]}) hp (λb o' e=>fo _ e) (by rw[fq];exact dT _) (by lia)
  .intro de A' E' Q' hk FK hQ;have hr:IsRange de.heap s.heap.objs.size 0 n 1 s.toks t (s.toks+1):=hk _ _ (IsRange.new ..);unfold ci at hn;refine wpAny_pyIter_range hr (small_one (by lia) (by lia) (by lia) (by lia)) ?_;have cx:=FK.fresh (aV de.heap.objs.size);refine hQ de.heap.objs.size [de.heap.objs.size] P _ (Step.oP FK) ?_ (by simp) ?_
   .intro b hb;simp at hb;subst hb;exact ⟨aV _,by show _<(de.heap.push _).objs.size;rw[fq];exact iF _,cx⟩
   .have e:tY n=(fk n.toNat).map λ(k:Nat)=>V.int (0+(k:Int)):=by unfold tY;simp
    rw[e]
    apply ZX
    rw[rangeSize_one];have:(if (0:Int)<n then n-0 else 0)=(n.toNat:Int):=by split<;>lia
    rw[this];exact fU _ rfl
theorem Z6{e it:bc}{h':bK}{x v:aU}{y:V}{i tk0 tk:Nat}(hp:P.on s)(h1:P.obj e=am)(h2:P.obj it=am)(hx:aA w P v y)
  (ht:h'.get? s.heap.objs.size=aj {cls:=.type "tuple",data:=.seq #[.int i tk0,v]}) (hk:∀b o,b≠e->b≠it->s.heap.get? b=aj o->h'.get? b=aj o) (hz:s.heap.objs.size<=h'.objs.size) (lK:s.toks<=tk) :
  ∃P',Step [e,it] P s P' {s with heap:=h',toks:=tk}/\aA w P' (.ref s.heap.objs.size) (.tup [.int i,y]):=by
 have st:Step [e,it] P s P {s with heap:=h',toks:=tk}:=
  ⟨.refl P,⟨λa o e'=>hk a o (λha=>by subst ha;rw[h1] at e';cases e') (λha=>by subst ha;rw[h2] at e';cases e') (hp.obj a o e'),λt x e=>⟨(hp.tok t x e).1,b7 (hp.tok t x e).2 lK⟩,b7 hp.pos lK,hp.ok⟩,
   λU U h=>.inl h,λa o hm e'=>hk a o (λha=>hm (by simp[ha])) (λha=>hm (by simp[ha])) e',hz,rfl,rfl,lK⟩
 have hn:=hp.fresh (aV s.heap.objs.size);refine ⟨_,st.freeze ht (λvs n e=>by injection (e) with e;subst e;simp[ci]) (aV _) hn,?_⟩;exact .tup PH.tI rfl rfl (.cons (.int _ _) (.cons (hx.mono (PH.nF hn)) .nil)) ⟨rfl,rfl⟩ (show 2<=ci by decide)
theorem Z7{a e it:bc}{items:Array aU}(hae:a≠e)(hai:a≠it)(UD:e≠it):∀{rest:af} {i:Nat} {P:PH} {h:bK},(∃o n,P.obj a=aj o/\o.cls=.type "list"/\o.data=.seq items n)->bp w P (items.toList.drop i) rest->
  (∃old,IsEnum h e it i old)->h.IsListIter it a i->hV an w ak [e,it] e ((rest.zipIdx i).map λp=>V.tup [.int p.2,p.1]) P h:=by
 intro rest
 induction rest with
 |nil=>
  (intro i P h hP hr sS bN;refine a9 sS λold he=>?_)
  have hx:items[i]?=am:=by
   have:=hr.length;simp only[mw,dY,rg] at this;exact z7 (xj (by assumption))
  refine ⟨.head _,λs A E Q ag q=>VZ (ag e (.head _) _ he) q,λP' s A E Q h1 h2 h3 h4 h5 h6=>?_⟩;refine bX hP λo n e1 e2 e3=>?_;have hl:s.heap.IsList a items:=⟨o,h2.obj _ _ (h1.obj _ _ e1),e2,n,e3⟩;exact hU (wpAny_pyNext_enum_end h5 (h3 e (.head _) _ he) (bN.at λo e'=>h3 it (.tail _ (.head _)) _ e') hl hx λh' oH hz ht=>h6 _ ((Step.extBut h2 (h4 it (.tail _ (.head _))) oH hz ht).mono λb hb=>by simp at hb;subst hb;simp))
 |cons x rest ih=>
  (intro i P h hP hr sS bN;refine a9 sS λold he=>?_)
  obtain ⟨v,hv⟩:∃v,items.toList.drop i=v::items.toList.drop (i+1):=by
   cases hd:items.toList.drop i with
   |nil=>rw[hd] at hr;cases hr
   |cons v r=>exact ⟨v,by rw[<- GH,hd];rfl⟩
  rw[hv] at hr
  have hx:items[i]?=aj v:=by
   have:(items.toList.drop i)[0]?=aj v:=by rw[hv];rfl
   rw[z0] at this;simpa using this
  rw[V0,th];refine ⟨.head _,λs A E Q ag q=>VZ (ag e (.head _) _ he) q,λP' s A E target Q h1 h2 h3 h4 h5 h6 h7=>?_⟩;refine bX hP λo n e1 e2 e3=>?_;have hl:s.heap.IsList a items:=⟨o,h2.obj _ _ (h1.obj _ _ e1),e2,n,e3⟩;refine bm hr λrv rr=>?_
  .refine hU (wpAny_pyNext_enum_item (h3 e (.head _) _ he) (bN.at λo e'=>h3 it (.tail _ (.head _)) _ e') hl hx UD λh' a1 a2 a3 a4 a5 hz ht=>⟨_,rfl,?_⟩);obtain ⟨elts,k,pos,rfl⟩:=Os (h6.resolve_right λc=>xA c.1);refine wpAny_letOwnedTupleGo_enum (s:={s with heap:=h',toks:=s.toks+1}) a1 λxd b1 b2=>?_;have bM:e<s.heap.objs.size:=dE (h3 e (.head _) _ he);have hk:∀b o,b≠e->b≠it->s.heap.get? b=aj o->xd.get? b=aj o:=λb o hb1 hb2 hb=>b2.extBut _ _ hb1 (a5 b o hb1 hb2 hb);refine ar (Z6 (s:=s) (e:=e) (it:=it) (x:=v) (tk:=s.toks+1) h2 (h4 e (.head _)) (h4 it (.tail _ (.head _))) (rv.mono h1) (b2.extBut _ _ (mB bM) a3) hk (by rw[b2.1];exact hz) (dT _)) λgC st rp=>h7 _ gC _ st rp (ih ⟨o,n,st.le.obj _ _ (h1.obj _ _ e1),e2,e3⟩ ((rr.mono h1).mono st.le) ⟨v,?_⟩ (a2.extBut b2.extBut UD.symm));have:((i+1:Nat):Int)=(i:Int)+1:=rfl;show IsEnum xd e it ((i+1:Nat):Int) v;rw[this];exact b1
theorem Z8{l:af}{u:aU}(hp:P.on s)(r:aA w P u (.lst l))
  (h:∀v P' s',Step [] P s P' s'->(∀A' E' Q',Ou an w ak P s (xW l) Q'->aw (aH an w) A' (nD v) Q' E' s')->Q v s') :
  aw (aH an w) A (call (.type "enumerate") [u]) Q E s:=by
 (refine a9 r λdz zr=>?_;refine d5 zr λzq dzS h4=>?_;subst zq)
 .have ho:=hp.obj _ _ dzS.obj;refine call_enumerate_list ⟨dz.o,ho,dzS.cls,dz.n,dzS.data⟩ λh' a1 a2 a3 a4=>?_;have bM:dz.a<s.heap.objs.size:=dE ho;have st:Step [] P s P {s with heap:=h'}:=Step.keeps hp a4 (by rw[a3];exact dH _ 2) (aV _);refine h _ P _ st λA' E' Q' hQ=>VZ a1 (hQ _ [s.heap.objs.size+1,s.heap.objs.size] P _ st ?_ ?_)
  .intro b hb;simp at hb
   rcases hb with rfl | rfl
   .exact ⟨dT _,by show _<h'.objs.size;rw[a3];exact iF _,hp.fresh (dT _)⟩
   .exact ⟨aV _,by show _<h'.objs.size;rw[a3];exact GK (iF _),hp.fresh (aV _)⟩
  .have:=Z7 (an:=an) (w:=w) (a:=dz.a) (e:=s.heap.objs.size+1) (it:=s.heap.objs.size) (items:=dz.vs) (ji (GK bM)) (ji bM) (mB (iF _)) (rest:=l) (i:=0) (P:=P) (h:=h') ⟨dz.o,dz.n,dzS.obj,dzS.cls,dzS.data⟩ (by simpa using h4) ⟨_,a1⟩ a2;exact this
end
section
theorem AT{h h':bK}{I a:bc}{i:Nat}(x:h.IsTupleIter I a i)(e:∀o,h.get? I=aj o->h'.get? I=aj o):h'.IsTupleIter I a i:=ar x λo ho r=>⟨o,e _ ho,r⟩
structure ui(z TI TO i1 i2 l1 l2:bc)(k:Nat)(h:bK):Prop where
 hz:tC h z TI TO .none
 Al:rA h TI (.ref i1) (.ref i2)
 LT:∃a b,rA h TO a b
 h1:h.IsTupleIter i1 l1 k
 h2:h.IsListIter i2 l2 k
theorem ui.keep{z TI TO i1 i2 l1 l2:bc}{k:Nat}{h h':bK}(x:ui z TI TO i1 i2 l1 l2 k h)(e:∀b∈[z,TI,TO,i1,i2],∀o,h.get? b=aj o->h'.get? b=aj o):ui z TI TO i1 i2 l1 l2 k h':=
 ⟨e z (.head _) _ x.hz,e TI (.tail _ (.head _)) _ x.Al,jk x.LT λa b y=>⟨a,b,e TO (.tail _ (.tail _ (.head _))) _ y⟩,AT x.h1 λo y=>e i1 (.tail _ (.tail _ (.tail _ (.head _)))) _ y,x.h2.at λo y=>e i2 (.tail _ (.tail _ (.tail _ (.tail _ (.head _))))) _ y⟩
theorem Z9{it t:bc}{i:Nat}{items:Array aU}{Q:ah}(hh:A.handled=am)(bN:s.heap.IsTupleIter it t i)(ht:s.heap.IsTuple t items)
  (hE:items[i]?=am->∀h' e,rq it s.heap h'->(∃o,h'.get? e=aj o/\o.cls=.type "StopIteration")->E (.ref e) {s with heap:=h'})
  (hQ:∀x,items[i]?=aj x->∀h',h'.IsTupleIter it t (i+1)->lO it s.heap h'->Q x {s with heap:=h'}):aw (aH an w) A (LK (.ref it)) Q E s:=by
 cases hx:items[i]? with
 |none=>exact (by
   refine bx (id bN) λo ho hc hd=>?_;(refine bx ht λol jL U zr=>?_;obtain ⟨nl,KZ⟩:=zr)
   refine au (Gs (name:=aP "__next__") bN.typeIs F.slot_tuple_iterator_next
    (mz F.slot_tuple_iterator_next bN.typeIs F.entry_tuple_iterator_next ?_ (F.args_tuple_iterator_next_1 _)))
   show aw _ _ (CQ (.ref it) 0>>=_) _ _ s;refine au (lP ho hd (x:=.ref t) rfl ?_);show aw _ _ (if (lg t==jQ)=ak then _ else _) _ _ s;refine ir (show ¬((lg t==jQ)=ak) from vd) ?_;show aw _ _ (CQ (.ref it) 1>>=_) _ _ s;refine au (lP ho hd (x:=.int i 0) rfl ?_);show aw _ _ (GJ (.ref t)>>=_) _ _ s;refine au (ri jL KZ ?_);simp only[z9,hx];refine au (ti (au (Gj ho hd (by simp) ?_)));show aw _ _ (LG (.type "StopIteration") []>>=_) _ _ _;refine au (au (ro ?_ (by size_fits)));refine au (m:=LH _ _) (vi (a:=jQ) (by first | rfl | (simp only[LH];rfl)) ?_);refine ro ?_ (by size_fits);refine au (agi ?_)
   first | rw[show A.in1.handled=am from hh] | rw[hh]
   refine au (aC (wpAny_throw ?_));exact (hE hx) _ _ (((mC ..).extBut.push _).push _) ⟨_,fU _ rfl,rfl⟩)
 |some x=>exact (by
   refine bx (id bN) λo ho hc hd=>?_;(refine bx ht λol jL U zr=>?_;obtain ⟨nl,KZ⟩:=zr)
   refine au (Gs (name:=aP "__next__") bN.typeIs F.slot_tuple_iterator_next
    (mz F.slot_tuple_iterator_next bN.typeIs F.entry_tuple_iterator_next ?_ (F.args_tuple_iterator_next_1 _)))
   show aw _ _ (CQ (.ref it) 0>>=_) _ _ s;refine au (lP ho hd (x:=.ref t) rfl ?_);show aw _ _ (if (lg t==jQ)=ak then _ else _) _ _ s;refine ir (show ¬((lg t==jQ)=ak) from vd) ?_;show aw _ _ (CQ (.ref it) 1>>=_) _ _ s;refine au (lP ho hd (x:=.int i 0) rfl ?_);show aw _ _ (GJ (.ref t)>>=_) _ _ s;refine au (ri jL KZ ?_);simp only[z9,hx];refine au (Gj ho hd (by simp) (aC ⟨x,rfl,aC ((hQ x hx) _ ?_ (mC ..))⟩))
   exact ⟨_,xr _ ho (VG (Ls hd _)),(jO.cls_mapFields ..).trans hc,by
    rw[Ls hd];simp[ei]⟩)
theorem à{it t:bc}{i:Nat}{items:Array aU}{Q:ah}(hh:A.handled=am)(bN:s.heap.IsListIter it t i)(ht:s.heap.IsList t items)
  (hE:items[i]?=am->∀h' e,rq it s.heap h'->(∃o,h'.get? e=aj o/\o.cls=.type "StopIteration")->E (.ref e) {s with heap:=h'})
  (hQ:∀x,items[i]?=aj x->∀h',h'.IsListIter it t (i+1)->lO it s.heap h'->Q x {s with heap:=h'}):aw (aH an w) A (LK (.ref it)) Q E s:=by
 cases hx:items[i]? with
 |none=>exact wpAny_nextOf_list_end hh bN ht hx (hE hx)
 |some x=>exact wpAny_nextOf_list_item bN ht hx (hQ x hx)
theorem Oz{h:bK}{z TI TO e:bc}{v:aU}{oe:jO}(hz:tC h z TI TO v)(ho:h.get? e=aj oe)(hc:oe.cls=.type "StopIteration"):e≠z:=λx=>by
 subst x;rw[hz] at ho;(replace ho:=aZ ho;cases ho);simp at hc
set_option maxHeartbeats 1000000 in
theorem OA{z TI TO i1 i2 l1 l2:bc}{k:Nat}{xs ys:Array aU}{Q:Option aU->bf->Prop}(hh:A.handled=am)(D:ZipApart z TI TO i1 i2 l1 l2)(S:ui z TI TO i1 i2 l1 l2 k s.heap)
  (hl1:s.heap.IsTuple l1 xs) (hl2:s.heap.IsList l2 ys)
  (hQ:∀x y,xs[k]?=aj x->ys[k]?=aj y->∀h',tC h' z TI TO (ei s.heap.objs.size)->rA h' TI (.ref i1) (.ref i2)->rA h' TO x y->h'.IsTupleIter i1 l1 (k+1)->h'.IsListIter i2 l2 (k+1)->rA h' s.heap.objs.size x y->h'.objs.size=s.heap.objs.size+1->
   (∀c o,c≠z->c≠TO->c≠i1->c≠i2->s.heap.get? c=aj o->h'.get? c=aj o)->Q (aj (.ref s.heap.objs.size)) {s with heap:=h'})
  (hN:xs[k]?=am\/ys[k]?=am->∀h',(∀c o,c≠z->c≠TO->c≠i1->c≠i2->s.heap.get? c=aj o->h'.get? c=aj o)->Q am {s with heap:=h'}) :
  aw (aH an w) A (mD (.ref z)) Q E s:=by
 obtain ⟨hz,Al,⟨a,b,LT⟩,h1,h2⟩:=S;have hT:s.TypeIs (.ref z) "zip":=⟨_,hz,rfl⟩
 have fin:∀h' e,(xs[k]?=am\/ys[k]?=am)->(∀c o,c≠z->c≠TO->c≠i1->c≠i2->s.heap.get? c=aj o->h'.get? c=aj o)->(∃o,h'.get? e=aj o/\o.cls=.type "StopIteration")->
   aw (aH an w) A (do if <- VY (.ref e) (.type "StopIteration") then bH am else throw (.ref e)) Q E {s with heap:=h'}:=λh' e hn hk wY=>ar wY λo ho hc=>
  au (CE (T:="StopIteration") (b:=ak) ⟨o,ho,hc⟩ agj (aC (hN hn _ hk)))
 unfold mD;refine au (agg (Gs (name:=aP "__next__") hT F.slot_zip_next (mz F.slot_zip_next hT F.entry_zip_next ?_ (F.args_zip_next_1 _))));show aw _ _ (CQ (.ref z) 2>>=_) _ _ _;refine au (lP hz rfl (x:=.bool ap) rfl ?_);show aw _ _ (CQ (.ref z) 3>>=_) _ _ _;refine au (lP hz rfl (x:=.ref TI) rfl ?_);refine au (ri Al rfl ?_);show aw _ _ (Builtin.SmallTypes.ownedTupleIsFree (.ref z)>>=_) _ _ _;refine au (au (lP hz rfl (x:=.none) rfl (aC ?_)));refine au (ti ?_);refine au (lP hz rfl (x:=.ref TO) rfl ?_);refine au (nE hz (by simp) λcZ B4 fK=>?_);replace B4:tC cZ z TI TO .ellipsis:=B4;refine au ?_;simp only[V0,List.zipIdx_nil,CJ,agm];refine au (au (LL ?_));show aw _ _ (LK (.ref i1)>>=_) _ _ _;have aeH:cZ.IsTuple l1 xs:=ar hl1 λo ho r=>⟨o,fK.extBut _ _ D.l1z ho,r⟩;have jM:cZ.IsTupleIter i1 l1 k:=AT h1 λo e=>fK.extBut _ _ D.i1z e;refine au (Z9 hh jM aeH (λhx eD e gI he=>ar he λoe Co va=>?_) λx hx eD aeo gI=>aC ?_)
 .have T2:tC eD z TI TO .ellipsis:=gI _ _ D.i1z.symm B4;exact nE T2 (by simp) λkq U nc=>fin kq e (.inl hx) (λc o c1 U c3 U x=>nc.extBut _ _ c1 (gI _ _ c3 (fK.extBut _ _ c1 x))) ⟨oe,nc.extBut _ _ (Oz T2 Co va) Co,va⟩
 .have TV:rA eD TO a b:=gI.extBut _ _ D.TOi1 (fK.extBut _ _ D.TOz LT);refine au (ri TV rfl ?_);refine au (agn TV λkq J1 nc=>?_);replace J1:rA kq TO x b:=J1;refine au (wpAny_letGo (aC ?_));refine au (au (LL ?_));show aw _ _ (LK (.ref i2)>>=_) _ _ _;refine au (à hh (((h2.extBut fK.extBut D.i2z).extBut gI.extBut D.i12.symm).extBut nc.extBut D.TOi2.symm) (((hl2.extBut fK.extBut D.l2z).extBut gI.extBut D.l2i1).extBut nc.extBut D.l2TO) (λhy Km e uZ he=>ar he λoe Co va=>?_) λy hy Km aem uZ=>aC ?_)
  .have T1:tC Km z TI TO .ellipsis:=uZ _ _ D.i2z.symm (nc.extBut _ _ D.TOz.symm (gI.extBut _ _ D.i1z.symm B4));exact nE T1 (by simp) λkr U uY=>fin kr e (.inr hy) (λc o c1 c2 c3 c4 x=>uY.extBut _ _ c1 (uZ _ _ c4 (nc.extBut _ _ c2 (gI.extBut _ _ c3 (fK.extBut _ _ c1 x))))) ⟨oe,uY.extBut _ _ (Oz T1 Co va) Co,va⟩
  .have TU:rA Km TO x b:=uZ.extBut _ _ D.TOi2 J1;refine au (ri TU rfl ?_);refine au (agn TU λkr Fr uY=>?_);replace Fr:rA kr TO x y:=Fr;refine au (wpAny_letGo (aC (aC ?_)));refine au (ri Fr rfl ?_);refine au (agl ?_);have cX:kr.objs.size=s.heap.objs.size:=by rw[uY.1,uZ.1,nc.1,gI.1,fK.1]
   have T0:tC kr z TI TO .ellipsis:=uY.extBut _ _ D.TOz.symm (uZ.extBut _ _ D.i2z.symm (nc.extBut _ _ D.TOz.symm (gI.extBut _ _ D.i1z.symm B4)))
   have T5:∀c o,c≠z->c≠TO->c≠i1->c≠i2->s.heap.get? c=aj o->kr.get? c=aj o:=λc o c1 c2 c3 c4 e=>
    uY.extBut _ _ c2 (uZ.extBut _ _ c4 (nc.extBut _ _ c2 (gI.extBut _ _ c3 (fK.extBut _ _ c1 e))))
   have aen:kr.IsTupleIter i1 l1 (k+1):=AT aeo λo e=>uY.extBut _ _ D.TOi1.symm (uZ.extBut _ _ D.i12 (nc.extBut _ _ D.TOi1.symm e));have ael:kr.IsListIter i2 l2 (k+1):=aem.extBut uY.extBut D.TOi2.symm;have Uf:z<kr.objs.size:=dE T0;show aw _ _ (ago (.ref z) (.ref kr.objs.size)>>=_) _ _ _;refine au ?_;unfold ago;have ad8:tC (kr.push {cls:=.type "tuple",data:=.seq #[x,y]}) z TI TO .ellipsis:=fo _ T0;refine au (nE ad8 (by simp) λaew J4 J6=>?_);replace J4:tC aew z TI TO (ei kr.objs.size):=J4;refine nE J4 (by simp) λCd Fs J5=>?_;replace Fs:tC Cd z TI TO (ei kr.objs.size):=Fs;have up:∀c o,c≠z->kr.get? c=aj o->Cd.get? c=aj o:=λc o c1 e=>J5.extBut _ _ c1 (J6.extBut _ _ c1 (fo _ e));have Ua:rA Cd kr.objs.size x y:=J5.extBut _ _ (mB Uf) (J6.extBut _ _ (mB Uf) (fU _ rfl));have hz8:Cd.objs.size=kr.objs.size+1:=by rw[J5.1,J6.1,fq]
   rw[cX] at Fs Ua hz8;refine aC ⟨_,rfl,aC ?_⟩;show Q (aj (.ref kr.objs.size)) _;rw[cX];exact hQ x y hx hy Cd Fs (up _ _ D.TIz (T5 _ _ D.TIz D.TITO D.TIi1 D.TIi2 Al)) (up _ _ D.TOz Fr) (AT aen λo e=>up _ o D.i1z e) (ael.at λo e=>up _ o D.i2z e) Ua hz8 λc o c1 c2 c3 c4 e=>up c o c1 (T5 c o c1 c2 c3 c4 e)
noncomputable abbrev DG(h:bK)(l1):=h.push {cls:=.type "tuple_iterator",data:=.fields #[.ref l1,.int 0 0]}
abbrev DH(h)(l1 l2):=(DG h l1).push {cls:=.type "list_iterator",data:=.fields #[.ref l2,.int 0 0]}
abbrev DI(h)(l1 l2):=(DH h l1 l2).push {cls:=.type "tuple",data:=.seq #[.ref h.objs.size,.ref (DG h l1).objs.size]}
abbrev DJ(h)(l1 l2):=(DI h l1 l2).push {cls:=.type "tuple",data:=.seq #[.none,.none]}
abbrev vS(h)(l1 l2):=(DJ h l1 l2).push {cls:=.type "zip",data:=.fields #[.none,.bool ap,.bool ap,.ref (DH h l1 l2).objs.size,.ref (DI h l1 l2).objs.size]}
set_option maxHeartbeats 1000000 in
theorem á(l1 l2)(xs ys) :
  Meets (Builtin.«zip.__new__» ⟨[.type "zip",.ref l1,.ref l2],[]⟩) (λU R s=>s.heap.IsTuple l1 xs/\s.heap.IsList l2 ys/\
   (∀h',h'.objs.size=s.heap.objs.size+5->ui (s.heap.objs.size+4) (s.heap.objs.size+2) (s.heap.objs.size+3) s.heap.objs.size (s.heap.objs.size+1) l1 l2 0 h'->(∀c o,s.heap.get? c=aj o->h'.get? c=aj o)->R (.ok (.ret (.ref (s.heap.objs.size+4)))) {s with heap:=h'})):=
 .of_wp λan w A R s h=>by
  obtain ⟨hp,g,d,tk,os⟩:=s;refine d5 h λhl1 hl2 h=>?_;have Ug:=sub_zip;have hL1:bK.IsTuple (agp ⟨hp,g,d,tk,os⟩) l1 xs:=hl1;have hL2:agq (agp ⟨hp.push {cls:=.type "tuple_iterator",data:=.fields #[.ref l1,.int 0 0]},g,d,tk,os⟩) l2 ys:=agq.push hl2 _
  wp_walk using agk hL1,LI hL2
  refine ⟨_,rfl,?_⟩;have z1:(DG hp l1).objs.size=hp.objs.size+1:=fq ..;have z2:(DH hp l1 l2).objs.size=hp.objs.size+2:=by rw[fq,z1]
  have z3:(DI hp l1 l2).objs.size=hp.objs.size+3:=by rw[fq,z2]
  have z4:(DJ hp l1 l2).objs.size=hp.objs.size+4:=by rw[fq,z3]
  have z5:(vS hp l1 l2).objs.size=hp.objs.size+5:=by rw[fq,z4]
  have g5:(vS hp l1 l2).get? (DJ hp l1 l2).objs.size=aj _:=fU _ rfl;have g4:(vS hp l1 l2).get? (DI hp l1 l2).objs.size=aj _:=fo _ (fU _ rfl);have g3:(vS hp l1 l2).get? (DH hp l1 l2).objs.size=aj _:=fo _ (fo _ (fU _ rfl));have g2:(vS hp l1 l2).get? (DG hp l1).objs.size=aj _:=fo _ (fo _ (fo _ (fU _ rfl)));have g1:(vS hp l1 l2).get? hp.objs.size=aj _:=fo _ (fo _ (fo _ (fo _ (fU _ rfl))));show R (.ok (.ret (.ref (DJ hp l1 l2).objs.size))) ⟨vS hp l1 l2,g,d,tk,os⟩;rw[z2,z3,z4] at g5;rw[z1,z2] at g3;rw[z3] at g4;rw[z1] at g2;rw[z4];exact h _ z5 ⟨g5,g3,⟨_,_,g4⟩,⟨_,g1,rfl,rfl⟩,⟨_,g2,rfl,rfl⟩⟩ λc o x=>fo _ (fo _ (fo _ (fo _ (fo _ x))))
theorem ã{fp:List bc}{T:bc}{h':bK}{v1 v2:aU}{y1 y2:V}{tk:Nat}(hp:P.on s)(dL:∀b∈fp,P.obj b=am)(r1:aA w P v1 y1)(r2:aA w P v2 y2)
  (ht:rA h' s.heap.objs.size v1 v2) (hk:∀b o,b∉fp->s.heap.get? b=aj o->h'.get? b=aj o) (hz:s.heap.objs.size<=h'.objs.size) (lK:s.toks<=tk) :
  ∃P',Step fp P s P' {s with heap:=h',toks:=tk}/\aA w P' (.ref s.heap.objs.size) (.tup [y1,y2]):=by
 have st:Step fp P s P {s with heap:=h',toks:=tk}:=
  ⟨.refl P,⟨λa o e'=>hk a o (λha=>by rw[dL a ha] at e';cases e') (hp.obj a o e'),λt x e=>⟨(hp.tok t x e).1,b7 (hp.tok t x e).2 lK⟩,b7 hp.pos lK,hp.ok⟩,
   λU U h=>.inl h,λa o hm e'=>hk a o hm e',hz,rfl,rfl,lK⟩
 have hn:=hp.fresh (aV s.heap.objs.size);refine ⟨_,st.freeze ht (λvs n e=>by injection (e) with e;subst e;simp[ci]) (aV _) hn,?_⟩;exact .tup PH.tI rfl rfl (.cons (r1.mono (PH.nF hn)) (.cons (r2.mono (PH.nF hn)) .nil)) ⟨rfl,rfl⟩ (show 2<=ci by decide)
theorem OB{α:Type}{l:List α}{i:Nat}{x:α}{r:List α}(h:l.drop i=x::r):l[i]?=aj x/\r=l.drop (i+1):=by
 constructor
 .have:(l.drop i)[0]?=aj x:=by rw[h];rfl
  rw[z0] at this;simpa using this
 .rw[<- GH,h];rfl
theorem ä{z TI TO i1 i2 l1 l2:bc}{xs ys:Array aU}(D:ZipApart z TI TO i1 i2 l1 l2):∀{r1 r2:af} {k:Nat} {P:PH} {h:bK},(∃o n,P.obj l1=aj o/\o.cls=.type "tuple"/\o.data=.seq xs n)->(∃o n,P.obj l2=aj o/\o.cls=.type "list"/\o.data=.seq ys n)->
  bp w P (xs.toList.drop k) r1->bp w P (ys.toList.drop k) r2->ui z TI TO i1 i2 l1 l2 k h->hV an w ak [z,TI,TO,i1,i2] z (tX r1 r2) P h:=by
 have self:∀{k:Nat} {h:bK},ui z TI TO i1 i2 l1 l2 k h->pe an w [z,TI,TO,i1,i2] z h:=λS s A E Q ag q=>agr (ag z (by simp) _ S.hz) q
 have ended:∀{k:Nat} {P:PH} {h:bK},(∃o n,P.obj l1=aj o/\o.cls=.type "tuple"/\o.data=.seq xs n)->(∃o n,P.obj l2=aj o/\o.cls=.type "list"/\o.data=.seq ys n)->(xs[k]?=am\/ys[k]?=am)->ui z TI TO i1 i2 l1 l2 k h->hV an w ak [z,TI,TO,i1,i2] z [] P h:=by
  (intro k P h wY Kz aeL S;refine bX wY λo1 n1 a1 a2 a3=>?_;refine bX Kz λo2 n2 b1 b2 b3=>?_)
  refine ⟨.head _,self S,λP' s A E Q h1 h2 h3 h4 h5 h6=>?_⟩;refine hU (OA h5 D (S.keep h3) ⟨o1,h2.obj _ _ (h1.obj _ _ a1),a2,n1,a3⟩ ⟨o2,h2.obj _ _ (h1.obj _ _ b1),b2,n2,b3⟩ (λx y ex ey=>aeL.elim (λe=>no (e.symm.trans ex)) λe=>no (e.symm.trans ey)) λU h' hk hz ht=>?_)
  refine h6 _ ⟨.refl P',⟨λa o e'=>hk a o (λha=>by rw[ha,h4 z (by simp)] at e';cases e') (λha=>by rw[ha,h4 TO (by simp)] at e';cases e') (λha=>by rw[ha,h4 i1 (by simp)] at e';cases e') (λha=>by rw[ha,h4 i2 (by simp)] at e';cases e') (h2.obj a o e'),h2.tok,h2.pos,h2.ok⟩,
   λU U h=>.inl h,λa o hm e'=>hk a o (λha=>hm (by simp[ha])) (λha=>hm (by simp[ha])) (λha=>hm (by simp[ha])) (λha=>hm (by simp[ha])) e',hz,rfl,rfl,aV _⟩
 intro r1
 induction r1 with
 |nil=>
  intro r2 k P h hP1 hP2 hr1 hr2 S
  have hx:xs[k]?=am:=by
   have:=hr1.length;simp only[mw,dY,rg] at this;exact z7 (xj this)
  exact ended hP1 hP2 (.inl hx) S
 |cons x1 r1 ih=>
  intro r2 k P h hP1 hP2 hr1 hr2 S
  cases r2 with
  |nil=>
   have hy:ys[k]?=am:=by
    have:=hr2.length;simp only[mw,dY,rg] at this;exact z7 (xj this)
   exact ended hP1 hP2 (.inr hy) S
  |cons x2 r2=>
   show hV an w ak [z,TI,TO,i1,i2] z (V.tup [x1,x2]::tX r1 r2) P h
   cases hd1:xs.toList.drop k with
   |nil=>rw[hd1] at hr1;cases hr1
   |cons v1 t1=>
    cases hd2:ys.toList.drop k with
    |nil=>rw[hd2] at hr2;cases hr2
    |cons v2 t2=>
     rw[hd1] at hr1;rw[hd2] at hr2;refine bm (OB hd1) λe1 az=>?_;subst az;refine bm (OB hd2) λe2 az=>?_;subst az;rw[Vl] at e1 e2;refine bm hr1 λq1 q2=>?_
     .refine bm hr2 λq3 q4=>?_
      .refine bX hP1 λo1 n1 a1 a2 a3=>bX hP2 λo2 n2 b1 b2 b3=>?_;refine ⟨.head _,self S,λP' s A E target Q h1 h2 h3 h4 h5 h6 h7=>?_⟩;obtain ⟨elts,kk,pos,rfl⟩:=Os (h6.resolve_right λc=>xA c.1);refine hU (OA h5 D (S.keep h3) ⟨o1,h2.obj _ _ (h1.obj _ _ a1),a2,n1,a3⟩ ⟨o2,h2.obj _ _ (h1.obj _ _ b1),b2,n2,b3⟩ (hN:=λhn=>hn.elim (λe=>no (e.symm.trans e1)) λe=>no (e.symm.trans e2)) λx y ex ey h' c1 c2 c3 c4 c5 c6 c7 c8 hz ht=>⟨_,rfl,?_⟩);refine wpAny_letOwnedTupleGo_zip (s:={s with heap:=h'}) c1 λxd d1 d2=>?_;have bM:z<s.heap.objs.size:=dE (h3 z (.head _) _ S.hz)
       refine ar (ã (s:=s) (T:=z) (tk:=s.toks) h2 h4 ((aZ (e1.symm.trans ex)▸q1).mono h1) ((aZ (e2.symm.trans ey)▸q3).mono h1) (d2.extBut _ _ (mB bM) c6)
        (λb o hb e'=>have hb2:=LM (LM hb);have hb3:=LM hb2;d2.extBut _ _ (GL hb) (c8 b o (GL hb) (GL hb2) (GL hb3) (GL (LM hb3)) e')) (by rw[d2.1];exact hz) (aV _)) λgC st rp=>?_
       refine h7 _ gC _ st rp (ih ⟨o1,n1,st.le.obj _ _ (h1.obj _ _ a1),a2,a3⟩ ⟨o2,n2,st.le.obj _ _ (h1.obj _ _ b1),b2,b3⟩ ((q2.mono h1).mono st.le) ((q4.mono h1).mono st.le) ?_);exact ⟨d1,d2.extBut _ _ D.TIz c2,⟨_,_,d2.extBut _ _ D.TOz c3⟩,AT c4 λo e'=>d2.extBut _ _ D.i1z e',c5.extBut d2.extBut D.i2z⟩
theorem å{l m:af}{u v:aU}{Q:ah}(hp:P.on s)(ru:aA w P u (.tup l))(rv:aA w P v (.lst m))
  (h:∀v P' s',Step [] P s P' s'->(∀A' E' Q',Ou an w ak P s (tX l m) Q'->aw (aH an w) A' (nD v) Q' E' s')->Q v s') :
  aw (aH an w) A (call (.type "zip") [u,v]) Q E s:=by
 (refine a9 ru λdz zr=>?_;refine fy zr λzq dzS h5 h4=>?_;subst zq)
 ·(refine a9 rv λez zr=>?_;refine d5 zr λzq ezS k4=>?_;subst zq)
  .have ho:=hp.obj _ _ dzS.obj;have FM:=hp.obj _ _ ezS.obj;have bM:dz.a<s.heap.objs.size:=dE ho;have aeF:ez.a<s.heap.objs.size:=dE FM
   refine callType_new F.called_zip aM (F.typeCall_zip_2 _ _) (F.newCall_zip_2 _ _) (λobj=>F.args_object_init_3 obj _ _) F.entry_zip_new
    (á dz.a ez.a dz.vs ez.vs) ⟨⟨dz.o,ho,dzS.cls,dz.n,dzS.data⟩,⟨ez.o,FM,ezS.cls,ez.n,ezS.data⟩,λh' hz S hk=>⟨⟨_,S.hz,rfl⟩,?_⟩⟩
   have st:Step [] P s P {s with heap:=h'}:=Step.keeps hp hk (by rw[hz];exact dH _ 5) (aV _);refine h _ P _ st λA' E' Q' hQ=>agr S.hz (hQ _ [s.heap.objs.size+4,s.heap.objs.size+2,s.heap.objs.size+3,s.heap.objs.size,s.heap.objs.size+1] P _ st ?_ ?_)
   .intro c hc
    have hb:s.heap.objs.size<=c/\c<s.heap.objs.size+5:=by
     simp at hc
     rcases hc with rfl | rfl | rfl | rfl | rfl
     .exact ⟨dH _ _,CB aM _⟩
     .exact ⟨dH _ _,CB aM _⟩
     .exact ⟨dH _ _,CB aM _⟩
     .exact ⟨aV _,FX aM⟩
     .exact ⟨dH _ _,CB aM _⟩
    exact ⟨hb.1,by show _<h'.objs.size;rw[hz];exact hb.2,hp.fresh hb.1⟩
   .exact ä (PyProof.Rows.zipApart_new bM aeF) ⟨dz.o,dz.n,dzS.obj,dzS.cls,dzS.data⟩ ⟨ez.o,ez.n,ezS.obj,ezS.cls,ezS.data⟩ (by simpa using h4) (by simpa using k4) S
end
set_option backward.match.sparseCases false
theorem HW:∀a b,iM a b= !decide (b<a)
 |[],b=>by rw[decide_eq_false (List.not_lt_nil b)];cases b<;>rfl
 |x::a,[]=>by rw[eP (List.nil_lt_cons x a)];rfl
 |x::a,y::b=>by
  refine (?_:(decide (x<y)||(x==y&&iM a b))=_);rw[StrLaws.lt_cons_cons,HW a b]
  rcases Ld x y with h | h | h
  .rw[eP h,decide_eq_false (ags h),beq_false_of_ne (mB h)];rfl
  .subst h;rw[decide_eq_false (gf x),f0];rfl
  .rw[eP h,decide_eq_false (ags h),beq_false_of_ne (mB h)];rfl
theorem vT:iM a b=ak<->a<=b:=by
 rw[HW,k9,decide_eq_false_iff_not];exact p5
theorem æ(a b):iM a b=ak\/iM b a=ak:=(List.le_total a b).imp vT.2 vT.2
theorem OC(a b c)(h:iM a b=ak)(h':iM b c=ak):iM a c=ak:=vT.2 (List.le_trans (vT.1 h) (vT.1 h'))
theorem OD(h:iM x y=ak):oY x (y::r)=x::y::r:=bw h
theorem OE(h:¬iM x y=ak):oY x (y::r)=y::oY x r:=if_neg h
theorem HX(x):∀l,(oY x l).Perm (x::l)
 |[]=>.rfl
 |y::r=>by
  by_cases h:iM x y=ak
  .rw[OD h]
  .rw[OE h];exact ((HX x r).cons y).trans (F8 ..)
theorem HY:∀l,(ik l).Perm l
 |[]=>.rfl
 |x::r=>(HX x _).trans ((HY r).cons x)
theorem OF(x):∀l,l.Pairwise (λa b=>iM a b=ak)->(oY x l).Pairwise (λa b=>iM a b=ak)
 |[]=>λU=>xl.2 ⟨λU h=>absurd h gU,.nil⟩
 |y::r=>λh=>by
  rw[xl] at h
  by_cases sU:iM x y=ak
  .rw[OD sU];refine xl.mpr ⟨λz hz=>?_,xl.mpr h⟩
   rcases cD.mp hz with rfl | hz
   .exact sU
   .exact OC _ _ _ sU (h.1 z hz)
  .rw[OE sU];refine xl.mpr ⟨λz hz=>?_,OF x r h.2⟩
   rcases cD.mp ((HX x r).mem_iff.mp hz) with rfl | hz
   .rcases æ z y with h1 | h1
    .exact absurd h1 sU
    .exact h1
   .exact h.1 z hz
theorem HZ:∀l,(ik l).Pairwise (λa b=>iM a b=ak)
 |[]=>.nil
 |x::r=>OF x _ (HZ r)
theorem OG(p:l.Perm m)(h:l.Pairwise (λa b=>iM a b=ak)):l=ik m:=
 VA.eq_of_pairwise (λa b U U h1 h2=>(List.le_antisymm (vT.1 h1) (vT.1 h2))) h (HZ m) (p.trans (HY m).symm)
theorem OH:∀p l,agt p l=ak->(p::l).Pairwise (λa b=>iM a.cps.toList b.cps.toList=ak)
 |p,[]=>λU=>by simp
 |p,x::r=>λh=>by
  rw[agt,fM] at h;have ih:=OH x r h.2
  have Uq:iM p.cps.toList x.cps.toList=ak:=by
   rw[HW];have:=h.1;rw[PyProof.Rows.ltCps_eq] at this;exact this
  refine xl.mpr ⟨λz hz=>?_,ih⟩
  rcases cD.mp hz with rfl | hz
  .exact Uq
  .exact OC _ _ _ Uq ((xl.mp ih).1 z hz)
section
theorem bp.rF{Q:Prop}(h:bp w P (e::es) xs)(k:∀x ys,xs=x::ys->aA w P e x->bp w P es ys->Q):Q:=by
 cases xs with
 |nil=>exact (by injection h)
 |cons x ys=>exact k x ys rfl h.1 h.2
theorem bp.perm(p:pQ.Perm es):∀{xs:af},bp w P es xs->∃xs',xs'.Perm xs/\bp w P pQ xs':=by
 induction p with
 |nil=>exact λh=>⟨_,.rfl,h⟩
 |cons e U1 ih=>exact λh=>h.rF λx ys e h r=>(ih r).elim λzs q=>⟨x::zs,e▸q.1.cons x,h,q.2⟩
 |swap a b l=>exact λh=>h.rF λx ys e h r=>r.rF λy zs e' h' r=>⟨y::x::zs,by rw[e,e'];exact F8 ..,h',h,r⟩
 |trans U1 U2 ih1 ih2=>exact λh=>(ih2 h).elim λys q=>(ih1 q.2).elim λzs q'=>⟨zs,q'.1.trans q.1,q'.2⟩
theorem OI:∀w,jC (w.map .str)=aj w
 |[]=>rfl
 |s::w=>aE (gT (s::·)) (OI w)
def H0(x):=(jD x).getD []
theorem OJ(p:l'.Perm l):∀{ss:List aa},jC l=aj ss->∃qY,jC l'=aj qY/\qY.Perm ss:=by
 intro ss h;have p':=p.map H0;rw[xR h,ij] at p';refine ⟨l'.map H0,?_,p'.trans (VA.of_eq (xB ss))⟩
 have e:l'=(l'.map H0).map V.str:=by
  rw[ij]
  exact (xB l').symm.trans (LF λx hx=>by
   have hm:=p.mem_iff.1 hx;rw[xR h] at hm;exact ar (eV.1 hm) λs U e=>by rw[<- e];rfl)
 exact (aE jC e).trans (OI _)
theorem OK(r:bp w P vs l)(h:jC l=aj ss):PyProof.Rows.StrsAre vs (ss.map aJ):=by
 refine bx (Oq r h) λps e1 e2 U=>?_;rw[e1,<- e2];clear e1 e2 r
 induction ps with
 |nil=>exact .nil
 |cons p ps ih=>exact .cons _ _ ih
end
section
open PyProof.Rows in
theorem ç(hp:P.on s)(r:bp w P vs l)(hs:jC l=aj ss)(h64:vs.length<64)(h:Gv w P s (.lst ((ik ss).map .str)) Q) :
  aw (aH an w) A (V1 vs) (λlv aF=>aw (aH an w) A (call (.builtin "list.sort") [lv]) (λU a8=>Q lv a8) E aF) E s:=by
 refine agu ?_ (by rw[xq];exact bD (gc ‹_›));have KJ:(s.heap.push (LN "list" vs.toArray 0)).get? s.heap.objs.size=aj (LN "list" vs.toArray 0):=fU _ rfl;have hS:=OK r hs;refine mz slot_list_sort ⟨_,KJ,rfl⟩ entry_list_sort (list_sort_treeK strKind_oneLt KJ hS.keysOf (λahE zi rest e=>keyKind_strs (by rw[<- e];exact hS)) h64 λco a1 a2=>⟨_,rfl,?_⟩) (args_list_sort _);refine bx (sorted_out_str hS a1 a2) λqY b1 b2 b3=>a9 (sortedHeap_at (out:=(GN co).map (·.2)) KJ) λe he=>?_
 have fh:((GN co).map (·.2)).toList.Perm vs:=by
  have h1:=(Array.perm_iff_toList_perm.mp a1).map Ln;rw[pairsOf_toList,List.map_snd_zip (aV _)] at h1;rw[Array.toList_map];exact h1
 refine ar (r.perm fh) λl' pl rl=>ar (OJ pl hs) λss2 c1 c2=>?_;have hS2:=OK rl c1
 have e3:qY=ss2.map aJ:=by
  rw[<- b1.strs,<- hS2.strs]
 have ad9:ss2=ik ss:=by
  refine OG c2 ?_
  have:=(by
    cases qY with
    |nil=>simp
    |cons x r=>exact OH x r b3:qY.Pairwise (λa b=>iM a.cps.toList b.cps.toList=ak))
  rw[e3,CD] at this;simpa[aJ] using this
 rw[xR c1,ad9] at rl
 have hz:s.heap.objs.size<=(V2 (s.heap.push (LN "list" vs.toArray 0)) s.heap.objs.size vs ((GN co).map (·.2))).objs.size:=by
  unfold V2;rw[Gl,fq,fq,Gl,fq];exact dH _ 3
 have st:Step [] P s P {s with heap:=V2 (s.heap.push (LN "list" vs.toArray 0)) s.heap.objs.size vs ((GN co).map (·.2))}:=
  Step.keeps hp (λb o e'=>by
   rw[sortedHeap_old (ji (dE e')) (by rw[fq];exact GK (dE e'))];exact fo _ e') hz (aV _)
 have hn:=hp.fresh (aV s.heap.objs.size);have cc:((GN co).map (·.2)).size=vs.length:=by rewrite[<- dY] at ⊢;rw[fh.length_eq]
 have st2:=st.freeze he (λu8 n e'=>by injection (e') with e';subst e';rw[cc];unfold ci;exact bD (gc ‹_›)) (aV _) hn;exact h _ _ _ st2 (.lst PH.tI rfl rfl (rl.mono (PH.nF hn)) (by rw[cc];unfold ci;exact bD (gc ‹_›)))
end
set_option backward.match.sparseCases true
section
set_option maxRecDepth 100000
section
variable {an:dX}{w:dy}{A:fL}{E:ah}{P:PH}{s:bf}{Q:ah}
theorem Step.sameBut(hp:P.on s)(hP:P.obj a=am)(hs:lO a s.heap h')(ht:s.toks<=tk):Step [a] P s P {s with heap:=h',toks:=tk,drawn:=dr}:=
 ⟨.refl P,⟨λb o e=>hs.extBut b o (λhb=>by subst hb;rw[hP] at e;cases e) (hp.obj b o e),λt x e=>⟨(hp.tok t x e).1,b7 (hp.tok t x e).2 ht⟩,b7 hp.pos ht,hp.ok⟩,λU U h=>.inl h,
  λb o hm e=>hs.extBut b o (by simpa using hm) e,by rw[hs.1];exact aV _,rfl,rfl,ht⟩
theorem H1(hp:P.on s)(hP:P.obj a=am)(S:bS w P s.heap a l)(hx:aA w P x v)(he:dS v=ak)(hu:A.units+200<dD)(hn:v∉l->l.length<2000)
  (h:∀b s',Step [a] P s P s'->bS w P s'.heap a (dI l v)->K b s'):aw (aH an w) A (setAdd a x) K E s:=by
 refine gg ?_;have df:=jl he;refine au (hU (NE 5 v x A s _ df.2.2 (jB ‹_›) hp.obj hx df.2.1 λtk hz ht=>?_));have st:=Step.ll (tk:=tk) hp ht;refine HF (s:={s with toks:=tk}) st.on S hx he hu hn λb h' hs S'=>?_;exact h b _ (st.up.trans (Step.sameBut (dr:=s.drawn) st.on hP hs (aV _))) S'
theorem è(args)(hck:V3 "set.__new__" ⟨.type "set"::args,[]⟩=bH ())
  (h:Q₁ (.ref s.heap.objs.size) {s with heap:=s.heap.push (hO w)}) :
  p6 (aH an w) A (.call (.builtin "set.__new__") ⟨.type "set"::args,[]⟩) (wants Q₁ E) s:=by
 refine Aa ?_;show aw _ A.in1 (do V3 "set.__new__" ⟨.type "set"::args,[]⟩;again (.builtin "set.__new__" ⟨.type "set"::args,[]⟩)) _ _ s;refine au (vi hck (aC ⟨GO F.plain_set_new _,vm F.entry_set_new ?_⟩));rw[xx F.plain_set_new _];have Ug:=LO;obtain ⟨hp,g,d,tk,os⟩:=s
 wp_walk
 refine zS (aC ?_);refine au (Vx (aC ?_));exact aC h
theorem yi(hp:P.on s):Step [] P s P {s with heap:=s.heap.push (hO w)}:=Step.oP hp
set_option maxHeartbeats 3200000 in
theorem OL(hct:checkTypeCall "set" ⟨args,[]⟩=bH ())(hnc:V3 "set.__new__" ⟨.type "set"::args,[]⟩=bH ())
  (hi:p6 (aH an w) A.in1 (.call (.builtin "set.__init__") ⟨.ref s.heap.objs.size::args,[]⟩) (wants (λr a8=>r=.none/\Q (.ref s.heap.objs.size) a8) E) {s with heap:=s.heap.push (hO w)}) :
  aw (aH an w) A (call (.type "set") args) Q E s:=by
 refine jk F.called_set.mro λc tl ahG=>?_;have ahD:=F.called_set.made;have Ug:=F.called_set.sub;refine V4 (Aa ?_);show aw _ _ (callAny (.type "set") _) _ _ _;refine aC ⟨Code.quiet_builtin _ (by decide +kernel),vm F.entry_type_call ?_⟩;rw[fL.under_plain (weight_type_call_type "set" args []) rfl];have h1:=F.called_set.notType;have h2:=F.called_set.canCreate
 repeat (any_goals (first | assumption | wp_step))
 refine codeAny_mono (è args hnc (E:=E) (Q₁:=λobj aF=>obj=.ref s.heap.objs.size/\aF={s with heap:=s.heap.push (hO w)}) ⟨rfl,rfl⟩) λr aF hr=>?_
 cases r with
 |error e=>exact hr
 |ok fl=>
  cases fl with
  |ret obj=>
   obtain ⟨rfl,rfl⟩:=hr;have hT:LP {s with heap:=s.heap.push (hO w)} (.ref s.heap.objs.size) "set":=⟨_,fU _ rfl,rfl⟩;have FP:=F.called_set.init.lookup;have hbi:=F.called_set.init.bind (.ref s.heap.objs.size)
   repeat (any_goals (first | assumption | wp_step))
   refine codeAny_mono hi λiV a8 J9=>?_
   cases iV with
   |error e=>exact J9
   |ok aep=>
    cases aep with
    |ret r=>
     obtain ⟨rfl,hq⟩:=J9
     repeat (any_goals (first | assumption | wp_step))
    |_=>exact J9.elim
  |_=>exact hr.elim
theorem OM:LP {s with heap:=s.heap.push (hO w)} (.ref s.heap.objs.size) "set":=⟨_,fU _ rfl,rfl⟩
set_option maxHeartbeats 3200000 in
theorem é(hp:P.on s)(h:∀a s',Step [] P s P s'->s.heap.objs.size<=a->a<s'.heap.objs.size->P.obj a=am->bS w P s'.heap a []->Q (.ref a) s'):aw (aH an w) A (call (.type "set") []) Q E s:=by
 refine OL F.typeCall_set_0 F.newCall_set_0 (agv F.called_set.init.plain F.entry_set_init (check_set_init OM ?_));have hS':(s.heap.push (hO w)).get? s.heap.objs.size=aj {cls:=.type "set",dict:=am,data:=.set #[] 0 (.fresh 0 0 (jG w))}:=fU _ rfl
 wp_walk
 exact ⟨rfl,h s.heap.objs.size _ (yi (w:=w) hp) (aV _) (rQ P s.heap).lt (hp.fresh (aV _)) (rQ P s.heap)⟩
theorem ë(l)(v):l.length<=(dI l v).length:=by
 unfold dI;split<;>simp
theorem ON:∀(r l:af),l.length<=(r.foldl dI l).length
 |[]=>λl=>aV _
 |x::r=>λl=>aB (ë l x) (ON r (dI l x))
theorem OO(l):eH l=l.foldl dI []:=rfl
theorem ì(qX:S∉fp)(hI:I∈fp)(hh:A.handled=am)(hu:A.units+201<dD):∀rest acc P s,P.on s->P.obj S=am->S<s.heap.objs.size->(∀b∈fp,P.obj b=am/\b<s.heap.objs.size)->
  iQ an w fp I rest P s.heap->bS w P s.heap S acc->rest.all dS=ak->(rest.foldl dI acc).length<=2000->
  (∀P' s',Step (S::fp) P s P' s'->bS w P' s'.heap S (rest.foldl dI acc)->R (.ok (.ret .none)) s')->
  p6 (aH an w) A (.builtin "set.update.loop" ⟨[.ref S,.ref I],[]⟩) R s:=by
 intro rest
 induction rest with
 |nil=>
  refine λacc P s hp hP hS dL it gR U U hR=>vm agw ?_;rw[xx V5 _];show aw _ A.in1 (mD (.ref I)>>=_) _ _ s;refine au (it.2.2 P s _ _ _ (.refl P) hp .refl (λb hb=>(dL b hb).1) hh λs' st=>?_);exact aC (hR P s' (st.mono λb hb=>cJ _ hb) (gR.keeps λo e=>st.keep _ _ qX e))
 |cons x rest ih=>
  intro acc P s hp hP hS dL it gR nh cc hR;rw[xC,fM] at nh;refine vm agw ?_;rw[xx V5 _];show aw _ A.in1 (mD (.ref I)>>=_) _ _ s;refine au (it.2.2 P s _ _ _ (.refl P) hp .refl (λb hb=>(dL b hb).1) hh λv P' aF st rv fE=>?_);show aw _ A.in1 (xw [v] (setAdd S v)>>=_) _ _ aF;refine au (gg ?_);have nv:P'.obj S=am:=st.eo hP hS;have aeb:bS w P' aF.heap S acc:=(gR.keeps λo e=>st.keep _ _ qX e).mono st.le;refine H1 st.on nv aeb rv nh.1 (by rw[tD];assumption) (λhv=>?_) λb a8 co JZ=>?_
  .have h1:=ON rest (dI acc x);rw[xn] at cc;rw[Dy hv,bJ] at h1;simp at h1;rw[Dy hv] at cc;exact aB ‹_› ‹_›
  .have stt:Step (S::fp) P s P' a8:=(st.mono λb hb=>cJ _ hb).trans (co.mono λb hb=>by simp at hb;subst hb;simp);refine aC ⟨GO V5 _,ih (dI acc x) P' a8 co.on nv (b7 hS stt.size) (λb hb=>⟨stt.eo (dL b hb).1 (dL b hb).2,b7 (dL b hb).2 stt.size⟩) ?_ JZ nh.2 (by simpa using cc) λdw cg cL hs=>?_⟩
   .exact fE.frame hI (.refl P') λb hb o e=>co.keep _ _ (by simp;intro e';subst e';exact qX hb) e
   .exact hR dw cg (stt.trans cL) (by simpa using hs)
set_option maxHeartbeats 3200000 in
theorem OP(hp:P.on s)(hT:s.TypeIs u T)(hT1:Ab (.type T) (.type "set")=bH ap)(hT2:Ab (.type T) (.type "frozenset")=bH ap)(hT3:(CG T==CG "dict")=ap)
  (bN:∀A' E' s' P' Q',Step [] P s P' s'->yh an w P' s' l Q'->aw (aH an w) A' (nD u) Q' E' s')
  (hh:A.handled=am) (hu:A.units+206<dD) (nh:l.all dS=ak) (cc:(l.foldl dI []).length<=2000)
  (h:∀a P' s',Step [] P s P' s'->s.heap.objs.size<=a->a<s'.heap.objs.size->P'.obj a=am->bS w P' s'.heap a (l.foldl dI [])->Q (.ref a) s'):aw (aH an w) A (call (.type "set") [u]) Q E s:=by
 have pU:LP {s with heap:=s.heap.push (hO w)} u T:=by
  cases u with
  |ref b=>refine ar hT λo ho hc=>?_;exact ⟨o,fo _ ho,hc⟩
  |_=>exact hT
 have cR:=yi (w:=w) hp;have wU:=(rQ (w:=w) P s.heap).lt;have hS':(s.heap.push (hO w)).get? s.heap.objs.size=aj {cls:=.type "set",dict:=am,data:=.set #[] 0 (.fresh 0 0 (jG w))}:=fU _ rfl;have hTS:LP {s with heap:=s.heap.push (hO w)} (.ref s.heap.objs.size) "set":=OM;refine OL (F.typeCall_set_1 u) (F.newCall_set_1 u) (agv F.called_set.init.plain F.entry_set_init (check_set_init_1 hTS ?_));unfold Builtin.«set.__init__» noKeywords agx;generalize hPI:nD=PI
 wp_walk
 subst hPI;refine bN _ _ _ P _ cR λI fp aX aF st fr hI it=>au (VK ?_);have w6:∀b∈fp,s.heap.objs.size<b:=λb hb=>b7 wU (fr b hb).1;have hn1:aX.obj s.heap.objs.size=am:=st.eo (hp.fresh (aV s.heap.objs.size)) wU;have Ku:=b7 wU st.size;refine ì (λhm=>gf _ (w6 _ hm)) hI (by simpa using hh) (by simp only[tD];exact WW ‹_›) l [] aX aF st.on hn1 Ku (λb hb=>⟨(fr b hb).2.2,(fr b hb).2.1⟩) it (((rQ P s.heap).keeps λo e=>st.keep _ _ (by simp) e).mono st.le) nh cc λP' s' co gR=>?_;have stt:Step (s.heap.objs.size::fp) P s P' s':=((cR.trans st).up).trans co;exact aC (aC ⟨rfl,h _ P' s' (stt.old λa ha=>.inr ((cD.1 ha).elim (λe=>ec e.symm) λha=>gc (w6 a ha))) (aV _) (b7 Ku co.size) (co.eo hn1 Ku) gR⟩)
end
end
section
set_option maxRecDepth 100000
section
variable {an:dX}{w:dy}{A:fL}{E:ah}{P:PH}{s:bf}{Q:ah}
theorem bS.G6(S:bS w P s.heap a l)(hP:P.obj a=am):∃o,s.heap.get? a=aj o/\(∀vs n,o.data≠.seq vs n)/\aA w (P.eW a o) (.ref a) (.set l):=by
 refine ar S λdz S p=>⟨dz.o,S.get,?_,?_⟩
 .intro vs n e;rw[S.data] at e;cases e
 exact .set PH.tI S.ex S.data S.cf S.led (S.rep.mono (PH.nF hP)) p (S.nodup.perm p)
theorem AU(st:Step [] P s P' s')(ha:s.heap.objs.size<=a)(hP:P'.obj a=am)(S:bS w P' s'.heap a l)(h:Gv w P s (.set l) Q):Q (.ref a) s':=by
 exact bx (S.G6 hP) λo ho hd r=>h _ _ _ (st.freeze ho (λvs n e=>absurd e (hd vs n)) ha hP) r
theorem H2(hp:P.on s)(r:aA w P u (.lst l)):s.TypeIs u "list":=by
 (refine bx r λd av S cI=>?_;subst av;clear cI);exact ⟨_,hp.obj _ _ S.obj,S.cls⟩
theorem DK(hp:P.on s)(r:aA w P u (.tup l)):s.TypeIs u "tuple":=by
 (refine bx r λd av S cI=>?_;subst av;clear cI);exact ⟨_,hp.obj _ _ S.obj,S.cls⟩
theorem lX(hp:P.on s)(r:aA w P u (.set l)):s.TypeIs u "set":=by
 (refine bx r λd av S cI=>?_;subst av;clear cI);exact ⟨_,hp.obj _ _ S.obj,S.ex.1⟩
set_option tactic.hygienic true in
theorem í(hp:P.on s)(r:aA w P u (.lst l))(hh:A.handled=am)(hu:A.units+206<dD)(hm:qg l=aj v)(h:Gv w P s v Q):aw (aH an w) A (call (.type "set") [u]) Q E s:=by
 unfold qg at hm
 split at hm
 .rename_i hc
  replace hm:=aZ hm;subst hm;rw[fM,nz] at hc;exact OP (l:=l) hp (H2 hp r) F.sub_list_set F.sub_list_frozenset (by decide) (λA' E' s' P' Q' st hQ=>Ov st.on (r.mono st.le) hQ) hh hu hc.1 (by rw[<- OO];exact hc.2) λa P' s' st h1 h2 h3 h4=>AU st h1 h3 h4 h
 .cases hm
theorem î:Ab (.type "tuple") (.type "set")=bH ap:=by rw[z8];kernel_rfl
theorem ï:Ab (.type "tuple") (.type "frozenset")=bH ap:=by rw[z8];kernel_rfl
set_option tactic.hygienic true in
theorem ð(hp:P.on s)(r:aA w P u (.tup l))(hh:A.handled=am)(hu:A.units+206<dD)(hm:qg l=aj v)(h:Gv w P s v Q):aw (aH an w) A (call (.type "set") [u]) Q E s:=by
 unfold qg at hm
 split at hm
 .rename_i hc
  replace hm:=aZ hm;subst hm;rw[fM,nz] at hc;exact OP (l:=l) hp (DK hp r) î ï (by decide) (λA' E' s' P' Q' st hQ=>Ow st.on (r.mono st.le) hQ) hh hu hc.1 (by rw[<- OO];exact hc.2) λa P' s' st h1 h2 h3 h4=>AU st h1 h3 h4 h
 .cases hm
theorem rP.same(S:rP P c d)(S':rP P c' d')(e:d.a=d'.a):d.vs=d'.vs:=
 have ho:d.o=d'.o:=aZ (S.obj.symm.trans (e▸S'.obj))
 (Data.seq.inj (S.data.symm.trans (ho▸S'.data))).1
mutual
theorem aA.det:∀x {y:V} {v:aU},mI x=ak->mI y=ak->aA w P v x->aA w P v y->x=y
 |.str s,y,v,U1,hy,rx,ry=>by
  (refine bx rx ?_;clear rx;intro t av az h1;subst av;clear az)
  cases y with
  |str s'=>(refine bx ry λt' e av h2=>?_;clear av);exact aE _ (aZ (h1.symm.trans ((VU.inj e).2▸h2)))
  |tup=>(refine ar ry λd e az=>?_;clear az);cases e
  |_=>exact aY hy
 |.tup l,y,v,hx,hy,rx,ry=>by
  (refine cm rx ?_;clear rx;intro d av S cI r;subst av;clear cI)
  cases y with
  |str s'=>(refine ar ry ?_;clear ry;intro t' e az;clear az);cases e
  |tup m=>(refine cm ry ?_;clear ry;intro d' e S' av r';clear av);exact aE _ (bp.det l hx hy r (S.same S' (iG e)▸r'))
  |_=>exact aY hy
 |.none,U1,U2,hx,U3,U4,U5=>aY hx
 |.bool U1,U2,U3,hx,U4,U5,U6=>aY hx
 |.int U1,U2,U3,hx,U4,U5,U6=>aY hx
 |.ty U1,U2,U3,hx,U4,U5,U6=>aY hx
 |.lst U1,U2,U3,hx,U4,U5,U6=>aY hx
 |.set U1,U2,U3,hx,U4,U5,U6=>aY hx
theorem bp.det:∀l {m:af} {vs:List aU},qe l=ak->qe m=ak->bp w P vs l->bp w P vs m->l=m
 |[],m,vs,U1,U2,r1,r2=>by
  cases (show vs=[] from r1)
  cases m with
  |nil=>rfl
  |cons=>exact r2.elim
 |x::l,m,vs,hl,hm,r1,r2=>by
  cases vs with
  |nil=>exact r1.elim
  |cons v vs=>exact r2.rF λy m e h r=>e▸congr (aE _ (aA.det x (aI hl) (aI (e▸hm)) r1.1 h)) (bp.det l (ax hl) (ax (e▸hm)) r1.2 r)
end
theorem bU.det:∀{l m:af},bU w P es l->bU w P es m->l=m:=by
 induction es with
 |nil=>
  intro l m r1 r2
  cases l with
  |nil=>cases m with
   |nil=>rfl
   |cons=>exact r2.elim
  |cons=>exact r1.elim
 |cons e es ih=>exact λr1 r2=>r1.rF λx l e1 h1 r1=>r2.rF λy m e2 h2 r2=>e1.trans (e2▸congr (aE _ (aA.det x (jl h1.2.1).2.1 (jl h2.2.1).2.1 h1.2.2 h2.2.2)) (ih r1 r2))
theorem bU.nil_inv(r:bU w P [] l):l=[]:=r.det .nil
theorem ñ:CN CP "set.__or__"=aj Builtin.«frozenset.__or__»:=
 GI (id':="frozenset.__or__") (by kernel_rfl) (by first | rfl | decide +kernel) (by decide +kernel) (by kernel_rfl)
theorem ò:CN CP "set.__and__"=aj Builtin.«frozenset.__and__»:=
 GI (id':="frozenset.__and__") (by kernel_rfl) (by first | rfl | decide +kernel) (by decide +kernel) (by kernel_rfl)
theorem ó:CN CP "set.__le__"=aj Builtin.«frozenset.__le__»:=
 GI (id':="frozenset.__le__") (by kernel_rfl) (by first | rfl | decide +kernel) (by decide +kernel) (by kernel_rfl)
theorem uj(hT:s.TypeIs (.ref a) "set")(h:K ak s):aw (aH an w) A (CR (.ref a)) K E s:=by
 exact au (CE hT LO (aC h))
theorem OQ(hT:s.TypeIs (.ref a) "set")(h:K (.type "set") s):aw (aH an w) A (Builtin.Frozenset.baseOf a) K E s:=by
 exact au (CE hT LO (aC h))
theorem OR(l):bI [] l=l:=by
 unfold bI;simp
theorem DL:∀{l m:af},l.Nodup->(∀x∈l,x∈m)->l.length<=m.length
 |[],U1,U2,U3=>bW _
 |x::l,m,hn,hs=>by
  rw[pX] at hn;have hx:=hs x (by simp);(refine a9 (List.append_of_mem hx) λm1 zr=>?_;obtain ⟨m2,rfl⟩:=zr)
  have:=DL (l:=l) (m:=m1++m2) hn.2 λy hy=>by
   have h1:=hs y (cJ _ hy);simp only[dZ,cD] at h1 ⊢
   rcases h1 with h1 | rfl | h1
   .exact .inl h1
   .exact absurd hy hn.1
   .exact .inr h1
  simp at this ⊢;exact cr ‹_›
theorem OS(hp:P.on s)(S:bS w P s.heap a l)(hl:l.length<=2000)(hu:A.units+200<dD)
  (h:∀b s',Step [] P s P s'->s.heap.objs.size<=b->b<s'.heap.objs.size->P.obj b=am->bS w P s'.heap b l->K (.ref b) s'):aw (aH an w) A (agy a) K E s:=by
 refine au (OQ S.type ?_);refine au (HI ?_);have cR:=yi (w:=w) hp;have bM:a<s.heap.objs.size:=by (refine ar S λz1 S U=>?_;obtain ⟨o,_,_,_,_⟩:=z1);exact dE S.get
 have hn:=hp.fresh (aV s.heap.objs.size);refine au (aC ?_);refine au ?_;refine HJ (s:={s with heap:=s.heap.push (hO w)}) cR.on (rQ P s.heap) (S.keeps λo e=>fo _ e) (mB bM) hn hu (by simp;exact bD ‹_›) (by rw[OR];exact hl) (λaF Q' U hQ=>aC hQ) λh' dr hs gR=>aC ?_;rw[OR] at gR;refine h s.heap.objs.size _ ((cR.up.trans (Step.sameBut (tk:=s.toks) (dr:=dr) cR.on hn hs (aV _))).old λb hb=>by simp at hb;subst hb;exact .inr (aV _)) (aV _) ?_ hn gR;show _<h'.objs.size;rw[hs.1];show _<(s.heap.push _).objs.size;rw[fq];exact iF _
set_option maxHeartbeats 1000000 in
theorem õ(hp:P.on s)(ru:aA w P u (.set a))(rv:aA w P v (.set b))(cc:(bI a b).length<=2000)(hu:A.units+210<dD)(h:Gv w P s (.set (bI a b)) Q) :
  aw (aH an w) A (vk .BitOr u v) Q E s:=by
 refine a9 ru.setRef λx az=>?_;subst az;refine a9 rv.setRef λy az=>?_;subst az;have pU:=lX hp ru;have oJ:=lX hp rv;have Sx:=ru.mF hp.obj;have Sy:=rv.mF hp.obj;have Kn:x<s.heap.objs.size:=Sx.lt;have Fy:y<s.heap.objs.size:=Sy.lt;have hla:a.length<=2000:=by unfold bI at cc;rw[bJ] at cc;lia
 have hlb:b.length<=2000:=by
  refine aB (DL Sy.nodup λz hz=>?_) cc;unfold bI;rw[dZ,iH]
  by_cases hza:z∈a
  .exact .inl hza
  .exact .inr ⟨hz,by simpa using hza⟩
 refine agz (op:=.BitOr) (id:="set.__or__") pU oJ F.fills_set_or F.slot_set_or (mz F.slot_set_or pU ñ ?_ (F.args_set_or_2 _ _));show aw _ _ (CT (andM (CR (.ref x)) (CR (.ref y))) _) _ _ _;refine au (au (uj pU (uj oJ ?_)));show aw _ _ (if (!ak)=ak then _ else _) _ _ _;refine au (aC ?_);refine au ?_;show aw _ _ (CT (agy x) _) _ _ _;refine au (OS hp Sx hla (by rw[tD];exact nI ‹_›) λc aF st h1 h2 h3 Sc=>?_);have fin:∀P' s',Step [] P s P' s'->P'.obj c=am->bS w P' s'.heap c (bI a b)->∃v,Fin.done (Flow.ret (lg c))=Fin.done (.ret v)/\v≠.notImplemented/\Q v s':=λP' s' co hc hS=>⟨_,rfl,by simp,AU co h1 hc hS h⟩;show aw _ _ (if (lg y != lg x)=ak then _ else _) _ _ _
 by_cases hyx:y=x
 .subst hyx;refine ir (by simp) (aC (aC (fin P aF st h3 ?_)))
  have e:bI a b=a:=by
   unfold bI
   have:b.filter (λx=>!a.contains x)=[]:=by
    rw[LQ];intro z hz;(refine ar Sx λz1 S1 p1=>?_;obtain ⟨_,_,_,_,l1⟩:=z1);(refine ar Sy λz1 S2 p2=>?_;obtain ⟨_,_,_,_,l2⟩:=z1);have e1:=S1.get.symm.trans S2.get;replace e1:=aZ e1;subst e1;have e2:=S1.data.symm.trans S2.data;injection e2 with e2 _ _
    subst e2;have:=S1.rep.det S2.rep;subst this;have:z∈a:=p1.mem_iff.mp (p2.mem_iff.mpr hz);simpa using this
   rw[this,eh]
  rw[e];exact Sc
 .refine o7 (by simpa using hyx) (au (aC ?_));refine au (gg ?_);have K1:aF.TypeIs (.ref y) "set":=lX st.on rv;have UJ:=rv.mF st.on.obj;refine au (uj K1 ?_);refine au (aC ?_);refine ar (id UJ) λz1q Sya py=>au (rj Sya.get Sya.data Sya.cf.fits ?_);have hcy:c≠y:=λe=>by subst e;exact absurd Fy (fZ.mpr h1)
  refine HJ st.on Sc UJ hcy h3 (by rw[tD];exact nI ‹_›) (by lia) cc (λa8 Q' gI hQ=>?_) λh' dr hs gR=>?_
  .skip
   refine au (rj (gI.trans Sya.get) Sya.data Sya.cf.fits ?_);exact ir (by simp) (aC hQ)
  .exact aC (aC (fin P _ ((st.up.trans (Step.sameBut (tk:=aF.toks) (dr:=dr) st.on h3 hs (aV _))).old λd hd=>by simp at hd;subst hd;exact .inr h1) h3 gR))
theorem cY.size(S:cY w P h a o es ep t l):es.size=l.length:=by
 have:=S.rep.length
 rwa [dY] at this
theorem OT(S:cY w P s.heap a o es ep t l)(h:K () s):aw (aH an w) A (V6 nm a ep) K E s:=
 au (rj S.get S.data S.cf.fits (by rw[if_neg (by simp)];exact aC h))
structure vU(w:dy)(P:PH)(s:bf)(la m:af)(rest:List (Int×aU))(s':bf)(lr acc:af):Prop where
 st:Step [s.heap.objs.size] P s P s'
 rep:bU w P rest lr
 set:bS w P s'.heap s.heap.objs.size acc
 nd:(acc++lr).Nodup
 le:(acc++lr).length<=2000
 eq:(acc++lr.filter λx=>la.contains x)=m.filter λx=>la.contains x
section
theorem vU.skip(I:vU w P s la m (e::rest) s' (y::lr) acc)(hb:la.contains y=ap):vU w P s la m rest s' lr acc:=by
 have sub:(acc++lr).Sublist (acc++y::lr):=VD (List.sublist_cons_self y lr) acc;exact ⟨I.st,I.rep.2,I.set,I.nd.sublist sub,aB sub.length_le I.le,by have:=I.eq;rwa [List.filter_cons_of_neg (p:=λx=>la.contains x) (ny.1 hb)] at this⟩
theorem vU.add(I:vU w P s la m (e::rest) s' (y::lr) acc)(hb:la.contains y=ak)(st:Step [s.heap.objs.size] P s' P de)(S:bS w P de.heap s.heap.objs.size (dI acc y)):vU w P s la m rest de lr (acc++[y]):=by
 have hy:y∉acc:=λhh=>(zQ.1 I.nd).2.2 y hh y dh rfl;have e:acc++y::lr=(acc++[y])++lr:=(b8 acc [y] lr).symm;refine ⟨I.st.trans st,I.rep.2,Dy hy▸S,e▸I.nd,e▸I.le,?_⟩;rw[b8];have:=I.eq
 rwa [List.filter_cons_of_pos (p:=λx=>la.contains x) hb] at this
end
set_option maxHeartbeats 2000000 in
theorem OU(hp:P.on s)(SW:cY w P (s.heap.push (hO w)) walked ow ew epw tw lw)(SA:cY w P (s.heap.push (hO w)) asked oa ea epa ta la)
  (Fz:walked<s.heap.objs.size) (qQ:asked<s.heap.objs.size) (hlw:lw.length<=2000) (hu:A.units+200<dD) (h:∀(m:af) s',m.Perm lw->Step [s.heap.objs.size] P s P s'->bS w P s'.heap s.heap.objs.size (m.filter λx=>la.contains x)->K agA s') :
  aw (aH an w) A (do
   let was <- setEpoch walked
   for (h,x) in <- Vy walked [asked,s.heap.objs.size] (aj s.heap.objs.size) do
    xw [x] do
     if (<- setFind asked x h).isSome then
      let _ <- Vr s.heap.objs.size x h
    V6 "frozenset.__and__" walked was) K E {s with heap:=s.heap.push (hO w)}:=by
 have cR:=yi (w:=w) hp;have hn:=hp.fresh (aV s.heap.objs.size);refine au (rj SW.get SW.data SW.cf.fits ?_);refine au (NZ (s:={s with heap:=s.heap.push (hO w)}) cR.on SW (rQ P s.heap) (ji Fz) (λc hc=>?_) λys dr h' pR hs hS=>?_)
 .rcases cD.1 hc with rfl | hc
  .exact ⟨la,⟨oa,ea,epa,ta,la⟩,SA,.rfl⟩
  .exact en.1 hc▸⟨_,rQ P s.heap⟩
 .refine ar (SW.rep.perm pR) λm pm rm=>?_;have ne:∀{c:bc},c<s.heap.objs.size->c∉[s.heap.objs.size]:=λh hm=>ji h (en.1 hm);rw[<- zM];refine au (zN _ (λrest U s'=>∃lr acc,vU w P s la m rest s' lr acc) _ ?_ ?_ _ _ ⟨m,[],(cR.up.trans (Step.sameBut (tk:=s.toks) (dr:=dr) cR.on hn hs (aV _))),rm,hS,SW.nodup.perm pm.symm,pm.length_eq▸hlw,rfl⟩)
  ·(intro bu rest _ s' Kz;obtain ⟨KE,z⟩:=bu;refine jk Kz λlr acc I=>?_)
   have SA':cY w P s'.heap asked oa ea epa ta la:=SA.keeps λe=>I.st.keep _ _ (ne qQ) (by rwa [agB _ _ _ (ji qQ)] at e);have UK:cY w P s'.heap walked ow ew epw tw lw:=SW.keeps λe=>I.st.keep _ _ (ne Fz) (by rwa [agB _ _ _ (ji Fz)] at e)
   cases lr with
   |nil=>exact nomatch I.rep
   |cons y lr=>
    have r:=I.rep.1;obtain rfl:KE=_:=r.1;refine au (gg (au (HD I.st.on SA' r.2.2 r.2.1 hu λf hf=>?_)));rw[hf]
    cases hb:la.contains y with
    |true=>
     refine au (HF I.st.on I.set r.2.2 r.2.1 hu (λU=>b7 (FX (ku lr.length)) (by have:=I.le;rwa [bJ] at this)) λbb xd hs2 hS2=>aC ?_);exact au (OT (UK.sameBut hs2 (ji Fz)) (aC ⟨_,_,I.add hb (Step.sameBut (tk:=s'.toks) (dr:=s'.drawn) I.st.on hn hs2 (aV _)) hS2⟩))
    |false=>exact aC (au (OT UK (aC ⟨_,_,I.skip hb⟩)))
  ·(intro _ s' Ck;refine jk Ck λlr acc I=>?_)
   cases I.rep.nil_inv;exact aC (h m s' pm I.st (I.eq▸(eh acc).symm▸I.set))
theorem bS.same(A:bS w P h x a)(B:bS w P h x b):a.Perm b:=by
 (refine ar A λz1 S1 p1=>?_;obtain ⟨_,_,_,_,l1⟩:=z1);(refine ar B λz1 S2 p2=>?_;obtain ⟨_,_,_,_,l2⟩:=z1)
 (have hz:=aZ (S1.get.symm.trans S2.get);cases hz)
 cases (Data.set.inj (S1.data.symm.trans S2.data)).1
 (have hz:=S1.rep.det S2.rep;cases hz)
 exact p1.symm.trans p2
theorem ö{a b m lx ly:af}(na:a.Nodup)(nb:m.Nodup)(pm:m.Perm ly)(px:lx.Perm a)(py:ly.Perm b):(m.filter λx=>lx.contains x).Perm (a.filter λx=>b.contains x):=
 (afq (nb.filter _) (na.filter _)).mpr λz=>by
  simp only[iH,gV];rw[px.mem_iff,pm.mem_iff,py.mem_iff];exact and_comm
theorem ø{a b m lx ly:af}(pm:m.Perm lx)(px:lx.Perm a)(py:ly.Perm b):(m.filter λx=>ly.contains x).Perm (a.filter λx=>b.contains x):=by
 have:(λx=>ly.contains x)=λx=>b.contains x:=by funext z;rw[ii];simp[py.mem_iff]
 rw[this];exact (pm.trans px).filter _
set_option maxHeartbeats 2000000 in
set_option tactic.hygienic true in
theorem ù(hp:P.on s)(ru:aA w P (.ref x) (.set a))(rv:aA w P (.ref y) (.set b))(cc:a.length<=2000)(hu:A.units+200<dD)(h:Gv w P s (.set (a.filter λx=>b.contains x)) Q) :
  aw (aH an w) A (Builtin.Frozenset.intersection "frozenset.__and__" x (.ref y)) Q E s:=by
 have Sx:=ru.mF hp.obj;have Sy:=rv.mF hp.obj;refine HC (λsU=>?_) λU=>?_
 ·(have hz:=iG (cq sU);cases hz)
  have e:(a.filter λx=>b.contains x)=a:=List.filter_eq_self.2 λz hz=>gV.2 ((Sx.same Sy).mem_iff.1 hz);exact OS hp Sx cc hu λc aF st h1 h2 h3 Sc=>AU st h1 h3 (e.symm▸Sc) h
 .have cR:=yi (w:=w) hp;have Kn:x<s.heap.objs.size:=Sx.lt;have Fy:y<s.heap.objs.size:=Sy.lt;(refine ar (aA.mF (s:={s with heap:=s.heap.push (hO w)}) cR.on.obj ru) λz1 SX px=>?_;obtain ⟨ox,ex,epx,tx,lx⟩:=z1);(refine ar (aA.mF (s:={s with heap:=s.heap.push (hO w)}) cR.on.obj rv) λz1 SY py=>?_;obtain ⟨oy,ey,epy,ty,ly⟩:=z1)
  have fin:∀(m l:af) s',m.Perm l->l.Perm (a.filter λx=>b.contains x)->Step [s.heap.objs.size] P s P s'->bS w P s'.heap s.heap.objs.size m->Q (.ref s.heap.objs.size) s':=λm l s' p p' st S=>
   AU (st.old λd hd=>.inr (en.1 hd▸aV _)) (aV _) (hp.fresh (aV _)) (S.perm (p.trans p')) h
  refine au (OQ (lX hp ru) (au (HI (au (aC (au (gg (au (uj (lX cR.on rv) ?_)))))))));refine au (aC (au (au (rn SY.get SY.data SY.cf.fits (aC (au (au (rn SX.get SX.data SX.cf.fits (aC ?_)))))))));have szx:=SX.size;have szy:=SY.size;have lenx:=px.length_eq
  by_cases cX:ey.size > ex.size
  .rw[bw cX];exact OU hp SX SY Kn Fy (lenx▸cc) hu λm s' pm st S=>aC (fin _ _ s' .rfl (ø pm px py) st S)
  .rw[if_neg cX];exact OU hp SY SX Fy Kn (by lia) hu λm s' pm st S=>aC (fin _ _ s' .rfl (ö (SX.nodup.perm px) (SY.nodup.perm pm.symm) pm px py) st S)
theorem ú(hp:P.on s)(ru:aA w P u (.set a))(rv:aA w P v (.set b))(cc:a.length<=2000)(hu:A.units+210<dD)(h:Gv w P s (.set (a.filter λx=>b.contains x)) Q) :
  aw (aH an w) A (vk .BitAnd u v) Q E s:=by
 refine a9 ru.setRef λx az=>?_;subst az;refine a9 rv.setRef λy az=>?_;subst az;have pU:=lX hp ru;have oJ:=lX hp rv;refine agz (op:=.BitAnd) (id:="set.__and__") pU oJ F.fills_set_and F.slot_set_and (mz F.slot_set_and pU ò ?_ (F.args_set_and_2 _ _));show aw _ _ (CT (andM (CR (.ref x)) (CR (.ref y))) _) _ _ _;refine au (au (uj pU (uj oJ ?_)));show aw _ _ (if (!ak)=ak then _ else _) _ _ _;refine au (aC (au (ù hp ru rv cc (by rw[tD];exact nI ‹_›) λv P' s' st r=>aC ⟨_,rfl,?_,h v P' s' st r⟩)));refine a9 r.setRef λc az=>?_;subst az;exact aU.noConfusion
end
end
section
set_option maxRecDepth 100000
section
theorem OV{l m:af}(h:l.Perm m):l.all p=m.all p:=by
 rw[ii,eE,eE];exact ⟨λk x hx=>k x (h.mem_iff.mpr hx),λk x hx=>k x (h.mem_iff.mp hx)⟩
set_option maxHeartbeats 1000000 in
set_option tactic.hygienic true in
theorem û(hp:P.on s)(ru:aA w P (.ref x) (.set a))(rv:aA w P (.ref y) (.set b))(hu:A.units+200<dD){id:String}(h:∀dr,K (a.all λz=>b.contains z) {s with drawn:=dr}) :
  aw (aH an w) A (agC id x y) K E s:=by
 refine ar (ru.mF hp.obj) λzx SX px=>?_;refine ar (rv.mF hp.obj) λzy SY py=>?_
 have hca:(a.all λz=>b.contains z)=zx.l.all λz=>zy.l.contains z:=by
  rw[OV px.symm]
  congr 1
  funext z;rw[ii];simp[py.mem_iff]
 rw[hca] at h;refine au (au (rn SX.get SX.data SX.cf.fits (aC ?_)));refine au (au (rn SY.get SY.data SY.cf.fits (aC ?_)));refine HC (λKR=>?_) λU=>?_
 .have:(zx.l.all λz=>zy.l.contains z)=ap:=by
   rw[ny];intro nh;rw[eE] at nh;have:=DL SX.nodup λz hz=>by simpa using nh z hz
   have h1:=SX.size;have h2:=SY.size;lia
  rw[this] at h;exact aC (h s.drawn)
 .refine au (rj SX.get SX.data SX.cf.fits ?_);refine au ?_
  have walked:∀K',(∀ys dr,ys.Perm zx.es.toList->K' ys {s with drawn:=dr})->aw (aH an w) A (Builtin.Frozenset.walkUnseen x y) K' E s:=by
   intro K' hK;refine au (rn SX.get SX.data SX.cf.fits ?_);refine au (rn SY.get SY.data SY.cf.fits ?_);refine au ?_
   have dG:aw (aH an w) A (Builtin.Frozenset.walk x) K' E s:=by
    exact au (NY SX λys dr pR=>aC (hK _ dr pR))
   refine AK (λrest=>∃zs,bU w P rest zs) (λhv rest hI=>a9 hI λzs hr=>?_) ?_ ⟨_,SX.rep.append SY.rep⟩
   .obtain ⟨h1,v⟩:=hv
    cases zs with
    |nil=>exact (by injection hr)
    |cons z FF=>
     ((refine bm hr ?_;clear hr;intro z1 e4);(refine d5 z1 ?_;clear z1;intro e1 e2 e3))
     cases z with
     |str k=>
      obtain ⟨tk,rfl,-⟩:∃tk,v=.str (aJ k) tk/\_:=e3;exact au (aC (aC ⟨rfl,rfl,FF,e4⟩))
     |tup l=>
      obtain ⟨d,rfl,S,-⟩:∃d:NC,v=.ref d.a/\_:=e3;have hT:s.TypeIs (.ref d.a) "tuple":=⟨d.o,hp.obj _ _ S.obj,S.cls⟩;refine au (au (rh hT F.slot_tuple_eq.lookup (aC ?_)));refine nA (nQ ?_ ?_)
      .exact au (kD dG (λv s' hv=>aC (aC hv)) λU U e=>e)
      .exact aC ⟨rfl,rfl,FF,e4⟩
     |_=>exact aY ((jl e2).2.1)
   .exact λU=>aC (hK _ s.drawn .rfl)
  refine walked _ λys dr pR=>?_;refine ar (SX.rep.perm pR) λm pm rm=>?_;have nh:(zx.l.all λz=>zy.l.contains z)=m.all λz=>zy.l.contains z:=(OV pm).symm;rw[nh] at h;refine au ?_;have FK:P.on {s with drawn:=dr}:=⟨hp.obj,hp.tok,hp.pos,hp.ok⟩;refine AK (λrest=>∃zs,bU w P rest zs/\(m.all λz=>zy.l.contains z)=zs.all λz=>zy.l.contains z) (λhv rest hI=>ar hI λzs hr sZ=>?_) ?_ ⟨m,rm,rfl⟩
  .obtain ⟨KE,v⟩:=hv
   cases zs with
   |nil=>exact (by injection hr)
   |cons z FF=>
    ((refine bm hr ?_;clear hr;intro z1 e4);(refine d5 z1 ?_;clear z1;intro e1 e2 e3))
    obtain rfl:KE=_:=e1;refine au (gg (HD (s:={s with drawn:=dr}) FK (SY.keeps λe=>e) e3 e2 hu λf hf=>?_));rw[xC] at sZ;refine HC (λhn=>?_) λhn=>?_
    .have:zy.l.contains z=ap:=by rw[<- hf];simpa using hn
     rw[this,CL] at sZ;rw[sZ] at h;exact aC (aC (h dr))
    .have:zy.l.contains z=ak:=by rw[<- hf];cases f<;>simp_all
     rw[this,LJ] at sZ;refine au ?_;refine au (rj (s:={s with drawn:=dr}) SX.get SX.data SX.cf.fits ?_);refine ir (by simp) ?_;exact aC (aC ⟨rfl,rfl,FF,e4,sZ⟩)
  .intro hI;(refine ar hI ?_;clear hI;intro zs hr sZ);cases hr.nil_inv;rw[sZ] at h;exact aC (h dr)
theorem ü{u v:aU}(hp:P.on s)(ru:aA w P u (.set a))(rv:aA w P v (.set b))(hu:A.units+210<dD)(h:Gv w P s (.bool (a.all λz=>b.contains z)) Q) :
  aw (aH an w) A (kA .LtE u v) Q E s:=by
 refine a9 ru.setRef λx az=>?_;subst az;refine a9 rv.setRef λy az=>?_;subst az;have pU:=lX hp ru;have oJ:=lX hp rv;refine ar (ru.mF hp.obj) λz1q SX px=>?_;refine ar (rv.mF hp.obj) λz2q SY py=>?_;show aw _ _ (richCompare .LtE (.ref x) (.ref y)) _ _ _;refine wpAny_richCompare_same_room pU oJ F.slot_set_le ?_ (by lia);refine mz F.slot_set_le pU ó ?_ (F.args_set_le_2 _ _);show aw _ _ (CR (.ref y)>>=_) _ _ _;refine au (uj oJ ?_);show aw _ _ (if (!ak)=ak then _ else _) _ _ _;refine au (aC ?_);refine au (aC ?_);refine au (au (rn SX.get SX.data SX.cf.fits (aC ?_)));refine au (au (rn SY.get SY.data SY.cf.fits (aC ?_)));show aw _ _ (CT (agC _ x y) _) _ _ _;refine au (û hp ru rv (by rw[tD];exact nI ‹_›) λdr=>aC ⟨_,rfl,by simp,?_⟩);exact h _ P _ (.WO hp) (.bool _)
set_option maxHeartbeats 1000000 in
theorem OW(hp:P.on s)(ru:aA w P u (.str k))(rv:aA w P v (.set b))(hu:A.units+210<dD)(h:∀s',Step [] P s P s'->K (b.contains (.str k)) s') :
  aw (aH an w) A (LR v u) K E s:=by
 refine a9 rv.setRef λy az=>?_;subst az;have oJ:=lX hp rv;refine ar (rv.mF hp.obj) λz1q SY py=>?_;unfold LR
 try with_reducible refine gg ?_
 refine au (rh oJ F.slot_set_contains.lookup ?_);show aw _ _ (if (aj (afB "set.__contains__")==aj jQ)=ak then _ else _) _ E s;refine ir (by rw[afC];exact vd) ?_
 refine au (wpAny_callSpecialUnlessNone?_slot (name:=aP "__contains__") oJ F.slot_set_contains
  (mz F.slot_set_contains oJ entry_set_contains ?_ (F.args_set_contains_2 _ _)))
 unfold Builtin.«frozenset.__contains__» agD;simp only[V7,LS];unfold agE Builtin.Frozenset.withSetAsKey setContains;refine au (aC ?_)
 try dsimp only
 refine au (aC ?_)
 try dsimp only
 refine au (wpAny_tryCatch ?_);refine gg ?_;have he:dS (.str k)=ak:=rfl;refine au (hU (NE 5 (.str k) u _ s _ (bW _) (by rw[tD];exact nI ‹_›) hp.obj ru rfl λtk hz ht=>?_));have st:=Step.ll (tk:=tk) hp ht;refine au (HD (s:={s with toks:=tk}) st.on (SY.keeps λe=>e) ru he (by rw[tD];exact nI ‹_›) λr hr=>?_);refine aC ?_;show aw _ _ (vn (Vi r.isSome)) _ _ _;rw[hr];have e:z1q.l.contains (.str k)=b.contains (.str k):=by rw[ii];simp[py.mem_iff]
 rw[e];exact aC ⟨_,rfl,Go (h _ st)⟩
theorem ý(hp:P.on s)(r:aA w P u (.tup l))(h:Gv w P s (.lst l) Q):aw (aH an w) A (call (.type "list") [u]) Q E s:=by
 ((refine a9 r ?_;clear r;intro dz zr);(refine fy zr ?_;clear zr;intro zq dzS h5 h4);subst zq)
 .have cX:=dzS.len;refine hU (call_list_seq dz.a (.inr rfl) (hp.obj _ _ dzS.obj) dzS.cls dzS.data (λh' c' hk hL hz ht=>?_) (j4 cX));have hn:=hp.fresh (aV s.heap.objs.size);have st:Step [] P s P {s with heap:=h'}:=Step.keeps hp hk hz ht;exact h _ _ _ (st.freeze hL (λu8 n' e=>by injection (e) with e;subst e;exact cX) (aV _) hn) (.lst PH.tI rfl rfl (h4.mono (PH.nF hn)) cX)
theorem þ(hp:P.on s)(r:aA w P u x)(h:Gv w P s (.ty (C8 x)) Q):aw (aH an w) A (call (.type "type") [u]) Q E s:=by
 have fin:ue (C8 x)=ak:=by cases x<;>rfl
 have hT:s.TypeIs u (C8 x):=by
  cases x with
  |none=>cases (show u=.none from r);rfl
  |bool b=>cases (show u=.bool b from r);rfl
  |int i=>obtain ⟨t,rfl⟩:=r;rfl
  |str l=>exact r.Mk
  |ty n=>cases r.1;exact HO r.2
  |tup l=>exact DK hp r
  |lst l=>exact H2 hp r
  |set l=>exact lX hp r
 refine call_type_of hT ?_ (h _ P s (.refl hp) (.ty _ fin))
 rcases N8 fin with e | e | e | e | e | e | e | e<;>rw[e]<;>decide
theorem ÿ(hp:P.on s)(ru:aA w P u x)(hi:Hi x=aj r)(h:Gv w P s r Q):aw (aH an w) A (call (.builtin "isinstance") [u,.type "str"]) Q E s:=by
 cases x with
 |str l=>
  (have hz:=aZ hi;cases hz)
  refine a9 ru.strOf λt az=>?_;subst az;exact PyProof.Rows.call_isinstance_yes (T:="str") rfl F.isi_meta_str F.sub_str_str (jH hp h)
 |tup l=>
  (have hz:=aZ hi;cases hz)
  refine a9 ru.Ak λa az=>?_;subst az;exact call_isinstance (isinstance_false_tuple (by decide +kernel) F.isi_meta_str F.sub_tuple_str) ⟨DK hp ru,h _ P _ (.ll hp (dT _)) (.bool _)⟩
 |_=>exact no hi
theorem Ā(hp:P.on s)(r:aA w P u (.set l))(h:Gv w P s (.bool (!l.isEmpty)) Q):aw (aH an w) A (call (.type "bool") [u]) Q E s:=by
 ((refine a9 r ?_;clear r;intro z1 zr);obtain ⟨a,o,es,ep,t,fs⟩:=z1;obtain ⟨rfl,⟨h1,h2,h3,h4,-,h5⟩,-,h6⟩:=zr)
 have g:Meets (Builtin.«bool.__new__» ⟨[.type "bool",.ref a],[]⟩) (λU R s=>s.heap.get? a=aj o/\R (.ok (.ret (.bool (!es.isEmpty)))) {s with toks:=s.toks+1+1}):=
  Meets.of_wp λan w A R s hs=>by
   obtain ⟨hp,g,d,tk,os⟩:=s;have f1:=F.conv_sub_bool;(refine bm hs ?_;clear hs;intro ho hs)
   repeat (any_goals (first | assumption | (with_reducible refine N7 (s:=⟨hp,g,d,tk,os⟩) ho h2 h3 h4.fits (by have:=h4.Ml;lia) ?_) | wp_step))
   all_goals first | exact ⟨_,rfl,hs⟩ | exact hs | skip
 have e2:(!es.isEmpty)= !l.isEmpty:=by rw[<- AQ (h5.length_eq.trans h6.length)];simp
 refine call_bool_1 g ⟨hp.obj _ _ h1,?_⟩;rw[e2];exact ⟨rfl,h _ P _ (.ll hp (by lia)) (.bool _)⟩
theorem ā(hp:P.on s)(ru:aA w P u (.str k))(rv:aA w P v (.set b))(hu:A.units+210<dD)(h:Gv w P s (.bool (b.contains (.str k))) Q):aw (aH an w) A (kA .In u v) Q E s:=by
 show aw _ _ (do return .bool (<- LR v u)) Q E s;exact au (OW hp ru rv hu λs' st=>aC (h _ P s' st (.bool _)))
theorem Ă(hp:P.on s)(ru:aA w P u (.str k))(rv:aA w P v (.set b))(hu:A.units+210<dD)(h:Gv w P s (.bool (!b.contains (.str k))) Q):aw (aH an w) A (kA .NotIn u v) Q E s:=by
 show aw _ _ (do return .bool (!(<- LR v u))) Q E s;exact au (OW hp ru rv hu λs' st=>aC (h _ P s' st (.bool _)))
theorem OX(r:bp w P vs l)(hb:l.all xT=ak):∀(i:Nat) v,vs[i]?=aj v->∃b,v=Vi b/\l[i]?=aj (V.bool b):=by
 intro i v hv;refine ar (r.get' hv) λx hx rx=>?_;have:=eE.mp hb x (k8 hx)
 cases x with
 |bool b=>cases rx;exact ⟨b,rfl,hx⟩
 |_=>exact aY this
theorem ă(hp:P.on s)(r:aA w P u (.lst l))(hh:A.handled=am)(hb:l.all xT=ak)(h:Gv w P s (.bool (l.all ck)) Q):aw (aH an w) A (call (.builtin "all") [u]) Q E s:=by
 refine a9 r.vx λa az=>?_;subst az;refine bx (r.xO hp) λitems t1 r1 hl=>?_;have len:=r1.length;simp only[dY] at len;refine hU (call_all_walk (LI t1 ?_));have bA:a≠s.heap.objs.size:=by (refine ar t1 ?_;clear t1;intro o ho _);exact ji (dE ho)
 refine ⟨s.heap.objs.size,_,_,_,_,_,λi=>ck (l.getD i .none),rfl,agF (by simpa using hh) _ a bA items,⟨⟨_,fU _ rfl,rfl,rfl⟩,t1.push _⟩,?_,λh' tk hk hz ht=>?_⟩
 .intro i v aF Q₁ aeW hi hQ;(refine ar (OX r1 hb i v (by simpa using hi)) λb av iX=>?_;subst av);have:ck (l.getD i .none)=b:=by rw[CU,iX];rfl
  have xa:Q₁ b aF:=by rw[<- this];exact hQ
  exact Go xa
 .have e:(fk items.size).all (λi=>ck (l.getD i .none))=l.all ck:=by
   rw[len,ii,eE,eE];constructor
   .intro k x hx;(refine a9 (Lf.mp hx) λi zr=>?_;obtain ⟨hi,e⟩:=zr);have:=k i (by simpa using hi);simpa[CU,oM hi,e] using this
   .intro k i hi;simp at hi;simpa[CU,oM hi] using k _ (V8 hi)
  rw[e];refine h _ P _ ?_ (.bool _);refine Step.keeps hp (λb o e'=>hk b o (λhm=>?_) (fo _ e')) (by have:(s.heap.push {cls:=.type "list_iterator",data:=.fields #[.ref a,.int 0 0]}).objs.size=s.heap.objs.size+1:=fq ..;exact hz) ht;simp at hm;subst hm;exact absurd (dE e') (gf _)
theorem Ą(hp:P.on s)(r:aA w P u (.lst l))(hh:A.handled=am)(hb:l.all xT=ak)(h:Gv w P s (.bool (l.any ck)) Q):aw (aH an w) A (call (.builtin "any") [u]) Q E s:=by
 refine a9 r.vx λa az=>?_;subst az;refine bx (r.xO hp) λitems t1 r1 hl=>?_;have len:=r1.length;simp only[dY] at len;refine hU (call_any_walk (LI t1 ?_));have bA:a≠s.heap.objs.size:=by (refine ar t1 ?_;clear t1;intro o ho _);exact ji (dE ho)
 refine ⟨s.heap.objs.size,_,_,_,_,_,λi=>ck (l.getD i .none),rfl,agF (by simpa using hh) _ a bA items,⟨⟨_,fU _ rfl,rfl,rfl⟩,t1.push _⟩,?_,λh' tk hk hz ht=>?_⟩
 .intro i v aF Q₁ aeW hi hQ;(refine ar (OX r1 hb i v (by simpa using hi)) λb av iX=>?_;subst av);have:ck (l.getD i .none)=b:=by rw[CU,iX];rfl
  have xa:Q₁ b aF:=by rw[<- this];exact hQ
  exact Go xa
 .have e:(fk items.size).any (λi=>ck (l.getD i .none))=l.any ck:=by
   rw[len,ii,V9,V9];constructor
   ·(intro bu;(refine ar bu ?_;clear bu;intro i hi k))
    simp at hi;exact ⟨l[i],V8 hi,by simpa[CU,oM hi] using k⟩
   ·(intro bu;(refine ar bu ?_;clear bu;intro x hx k))
    (refine a9 (Lf.mp hx) λi zr=>?_;obtain ⟨hi,e⟩:=zr);exact ⟨i,by simpa using hi,by simpa[CU,oM hi,e] using k⟩
  rw[e];refine h _ P _ ?_ (.bool _);refine Step.keeps hp (λb o e'=>hk b o (λhm=>?_) (fo _ e')) hz ht;simp at hm;subst hm;exact absurd (dE e') (gf _)
end
end
section
set_option maxRecDepth 100000
section
theorem ą(qX:S∉fp)(hI:I∈fp)(hh:A.handled=am):∀rest done vs P s c,P.on s->P.obj S=am->S<s.heap.objs.size->(∀b∈fp,P.obj b=am/\b<s.heap.objs.size)->
  iQ an w fp I rest P s.heap->s.heap.get? S=aj {cls:=.type "list",dict:=am,data:=.seq vs.toArray c,slots:=#[]}->bp w P vs done->(done++rest).length<=ci->
  (∀P' s' u8 c',Step (S::fp) P s P' s'->s'.heap.get? S=aj {cls:=.type "list",dict:=am,data:=.seq u8.toArray c',slots:=#[]}->bp w P' u8 (done++rest)->R (.ok (.ret res)) s')->
  p6 (aH an w) A (.builtin "list.extend.loop" ⟨[.ref S,.ref I,res],[]⟩) R s:=by
 intro rest
 induction rest with
 |nil=>
  refine λdone vs P s c hp hP hS dL it hL hr cc hR=>vm F.entry_extend_loop ?_;rw[xx F.plain_extend_loop _];show aw _ A.in1 (mD (.ref I)>>=_) _ _ s;refine au (it.2.2 P s _ _ _ (.refl P) hp .refl (λb hb=>(dL b hb).1) hh λs' st=>?_);exact aC (hR P s' vs c (st.mono λb hb=>cJ _ hb) (st.keep _ _ qX hL) (by simpa using hr))
 |cons x rest ih=>
  refine λdone vs P s c hp hP hS dL it hL hr cc hR=>vm F.entry_extend_loop ?_;rw[xx F.plain_extend_loop _];show aw _ A.in1 (mD (.ref I)>>=_) _ _ s;refine au (it.2.2 P s _ _ _ (.refl P) hp .refl (λb hb=>(dL b hb).1) hh λv P' aF st rv fE=>?_);have mo:=st.keep _ _ qX hL;have nv:P'.obj S=am:=st.eo hP hS;have zz:vs.length<=ci:=by rw[hr.length];rw[bJ] at cc;lia
  show aw _ A.in1 (Wa S (·.push v)>>=_) _ _ _;refine au ?_;have hs2:lO S aF.heap (aF.heap.update S (CV (·.push v))):=mC ..;have st2:=Step.sameBut (tk:=aF.toks) (dr:=aF.drawn) st.on nv hs2 (aV _);have stt:Step (S::fp) P s P' {aF with heap:=aF.heap.update S (CV (·.push v))}:=(st.mono λb hb=>cJ _ hb).trans (st2.mono λb hb=>by simp at hb;subst hb;simp);have aez:vs.toArray.size<=oN:=by simpa using j4 zz
  refine Wb mo rfl (aC ⟨GO F.plain_extend_loop _,ih (done++[x]) (vs++[v]) P' _ (c+1) st2.on nv (b7 hS stt.size) (λb hb=>⟨stt.eo (dL b hb).1 (dL b hb).2,b7 (dL b hb).2 stt.size⟩) ?_ ?_ ((hr.mono st.le).append (.cons rv .nil)) (by simpa using cc) λdw cg u8 c' cL Kh J8=>?_⟩) aez (by show (vs.toArray.push v).size<=oN+1;rw[Vo];exact cr ‹_›)
  .exact fE.frame hI (.refl P') λb hb o e=>st2.keep _ _ (by simp;intro e';subst e';exact qX hb) e
  .have:=xr (CV (·.push v)) mo rfl;rw[this];simp[CV]
  .exact hR dw cg u8 c' (stt.trans cL) Kh (by simpa using J8)
theorem Ć(hp:P.on s)(r:aA w P u (.lst l))(h:∀vs s',Step [] P s P s'->bp w P vs l->K vs s'):aw (aH an w) A (collect u) K E s:=by
 refine a9 r.vx λa az=>?_;subst az;refine bx (r.xO hp) λitems t1 r1 hl=>?_;have len:=r1.length;refine PyProof.Rows.collect_list (vs:=items.toList) (by simpa using t1) ?_ (j4 (by lia));refine h _ _ (Step.keeps hp (λb o e=>?_) (by rw[Gl,fq];exact dT _) (aV _)) r1;rw[Gk _ _ (mB (dE e))];exact fo _ e
theorem ć:splitId "set.__len__"=aj ("set","__len__"):=by kernel_rfl
theorem Ĉ(hT:s.TypeIs (.ref a) "set")(h:K ap s):aw (aH an w) A (Builtin.List.listLengthHint (.ref a)) K E s:=by
 refine au (rh hT F.slot_set_len.lookup ?_);rw[ć];refine au (CE hT LO ?_);rw[if_neg aM,bw aM];exact au (Gd hT (aC h))
noncomputable abbrev kH(s:bf):=s.heap.push {cls:=.type "list",data:=.seq ([]:List aU).toArray}
theorem ĉ(hS:s.heap.get? c=aj {cls:=.type "list",data:=.seq ([]:List aU).toArray})
  (h:∀h' n,lO c s.heap h'->h'.get? c=aj {cls:=.type "list",data:=.seq ([]:List aU).toArray n}->K () {s with heap:=h'}):aw (aH an w) A (Builtin.List.listTouch (.ref c)) K E s:=by
 show aw _ A (Wa c (·.push .none)>>=λU=>Wa c (·.pop)) _ _ _;refine au (Wb hS rfl ?_);have Ub:=xr (CV (·.push jQ)) hS rfl;exact Wb Ub rfl (h _ _ ((mC ..).trans (mC ..)) (xr (CV (·.pop)) Ub rfl))
theorem Ċ(h:a≠b):agG (.ref a) (.ref b)=ap:=by simp[agG];exact h
set_option maxHeartbeats 2000000 in
theorem ċ(hp:P.on s)(r:aA w P (.ref a) (.set l))(hh:A.handled=am)(hl:l.length<=ci)
  (h:∀l' vs P' s' c',l'.Perm l->Step [] P s P' s'->bp w P' vs l'->s'.heap.get? s.heap.objs.size=aj {cls:=.type "list",dict:=am,data:=.seq vs.toArray c',slots:=#[]}->R (.ok (.ret (.ref s.heap.objs.size))) s') :
  p6 (aH an w) A (.builtin "list.__iadd__" ⟨[.ref s.heap.objs.size,.ref a],[]⟩) R {s with heap:=kH s}:=by
 have bM:a<s.heap.objs.size:=(r.mF hp.obj).lt;have cR:Step [] P s P {s with heap:=kH s}:=Step.oP hp;have hz0:(kH s).objs.size=s.heap.objs.size+1:=fq ..;refine vm F.entry_list_iadd ?_;rw[xx F.plain_list_iadd _];show aw _ A.in1 (Builtin.List.listExtendWith (.ref s.heap.objs.size) (.ref a) (.ref s.heap.objs.size)) _ _ _;refine au (Gd (lX cR.on r) ?_);rw[Ċ (mB bM)];refine au (m:=nD (.ref a)) (Oy cR.on r λl' pl I fp aX aF st fr hI it=>?_);refine au (gg (Ĉ (lX st.on (r.mono st.le)) ?_));refine nA ?_;refine au (ti (au (ĉ (st.keep _ _ (by simp) (fU _ rfl)) λh' n zw Kg=>?_)));have wU:s.heap.objs.size<(kH s).objs.size:=hz0▸iF _;have wO:aX.obj s.heap.objs.size=am:=st.eo (hp.fresh (aV _)) wU;have st2:=Step.sameBut (tk:=aF.toks) (dr:=aF.drawn) st.on wO zw (aV _);have w6:∀b∈fp,s.heap.objs.size<b:=λb hb=>b7 wU (fr b hb).1;have qX:s.heap.objs.size∉fp:=λhm=>gf _ (w6 _ hm)
 refine aC ⟨GO F.plain_extend_loop _,ą qX hI hh l' [] [] aX _ _ st2.on wO (b7 wU (aB st.size st2.size)) (λb hb=>⟨(fr b hb).2.2,b7 (fr b hb).2.1 st2.size⟩)
  (it.frame hI (.refl aX) λb hb o e=>st2.keep _ _ (λhm=>qX (en.1 hm▸hb)) e) Kg .nil (pl.length_eq▸hl) λdw cg u8 c' cL Kh J8=>?_⟩
 refine h l' _ dw cg c' pl ((((cR.trans st).up.trans (st2.mono (mu':=s.heap.objs.size::fp) λb hb=>en.1 hb▸dh)).trans cL).old λb hb=>.inr ?_) J8 Kh
 rcases cD.mp hb with rfl | hb
 .exact aV _
 .exact gc (w6 b hb)
theorem OY(hp:P.on s)(hs:jC l=aj ss)(h64:l.length<64)
  (hc:∀A' E' K,A'.handled=am->(∀l' vs P' s',l'.Perm l->Step [] P s P' s'->bp w P' vs l'->K vs s')->aw (aH an w) A' (collect u) K E' s) (hh:A.handled=am)
  (h:Gv w P s (.lst ((ik ss).map .str)) Q):aw (aH an w) A (call (.builtin "sorted") [u]) Q E s:=by
 refine Calls.call_function_entry PyProof.Rows.kind_sorted PyProof.Rows.plain_sorted PyProof.Rows.entry_sorted (PyProof.Rows.args_sorted1 _) (au (m:=checkCount "sorted" 1 1 _) (aC ?_));refine au (hc _ _ _ (by simpa using hh) λl' vs P' s' pl st hr=>?_);refine ar (OJ pl hs) λqY e1 p1=>?_;have e2:ik qY=ik ss:=OG ((HY qY).trans p1) (HZ qY);rw[<- e2] at h;refine au (kD (ç (Q:=Q) (A:=A.in1) (E:=E) st.on hr e1 (by rw[hr.length,pl.length_eq];exact h64) λv dc a8 bn rv=>h v dc a8 (st.trans bn) rv) (λlv aF cZ=>?_) λU U e=>e);exact au (gg (kD cZ (λU a8 eD=>aC ⟨_,rfl,eD⟩) λU U e=>e))
theorem Č(hp:P.on s)(r:aA w P u (.lst l))(hs:jC l=aj ss)(h64:l.length<64)(hh:A.handled=am)(h:Gv w P s (.lst ((ik ss).map .str)) Q):aw (aH an w) A (call (.builtin "sorted") [u]) Q E s:=
 OY hp hs h64 (λA' E' K U hK=>Ć hp r λvs s' st hr=>hK l vs P s' .rfl st hr) hh h
theorem č(hp:P.on s)(r:aA w P u (.set l))(hs:jC l=aj ss)(h64:l.length<64)(hh:A.handled=am)(h:Gv w P s (.lst ((ik ss).map .str)) Q):aw (aH an w) A (call (.builtin "sorted") [u]) Q E s:=
 OY hp hs h64 (λA' E' K hh' hK=>(by
   refine a9 r.setRef λa az=>?_;subst az;refine au (VK (vm F.entry_proto_collect ?_));rw[xx F.plain_proto_collect _];show aw _ A'.in1 (V1 []>>=λl=>again (.builtin "list.__iadd__" ⟨[l,.ref a],[]⟩)) _ _ s;refine au (ro (aC ⟨GO F.plain_list_iadd _,ċ hp r hh' (by unfold ci;exact bD (gc ‹_›)) λl' vs P' s' c' pl st hr hL=>?_⟩));show aw _ A' (load s.heap.objs.size>>=_) _ _ s';exact au (wpAny_load hL (aC (hK l' _ P' s' pl st hr))))) hh h
def LstAt(w)(P)(h:bK)(a)(l):=∃vs,h.PlainList a vs/\bp w P vs.toList l
theorem LstAt.keeps(x:LstAt w P h a l)(hp:P.le P')(hk:∀o,h.get? a=aj o->h'.get? a=aj o):LstAt w P' h' a l:=
 let ⟨vs,⟨n,ho⟩,r⟩:=x;⟨vs,⟨n,hk _ ho⟩,r.mono hp⟩
theorem OZ(hp:P.on s)(hP:P.obj a=am)(L:LstAt w P s.heap a l)(hx:aA w P x v)(cc:(l++[v]).length<=ci)
  (h:∀s',Step [a] P s P s'->LstAt w P s'.heap a (l++[v])->Q .none s'):aw (aH an w) A (call (.builtin "list.append") [.ref a,x]) Q E s:=by
 refine ar L λvs ho r=>?_;have len:=r.length;simp only[dY] at len;refine wpAny_list_append_plain ho (λh' FM hs=>?_) (j4 (by rw[bJ] at cc;lia));refine h _ (Step.sameBut (tk:=s.toks) (dr:=s.drawn) hp hP hs (aV _)) ⟨_,FM,?_⟩;rw[F9];exact r.append (.cons hx .nil)
theorem O0(hp:P.on s)(hP:P.obj a=am)(S:bS w P s.heap a l)(hx:aA w P x v)(he:dS v=ak)(hu:A.units+210<dD)(hn:v∉l->l.length<2000)
  (h:∀s',Step [a] P s P s'->bS w P s'.heap a (dI l v)->Q .none s'):aw (aH an w) A (call (.builtin "set.add") [.ref a,x]) Q E s:=by
 refine mz F.slot_set_add S.type F.entry_set_add ?_ (F.args_set_add_2 _ _);unfold Builtin.«set.add» agD;simp only[V7,LS];unfold agE;refine au (aC ?_)
 try dsimp only
 refine au (aC ?_)
 try dsimp only
 refine au (H1 hp hP S hx he (by rw[tD];exact nI ‹_›) hn λb s' st hS=>?_);show aw _ _ (vn jQ) _ _ _;exact aC ⟨_,rfl,h s' st hS⟩
theorem Ď(hp:P.on s)(hP:P.obj a=am)(S:bS w P s.heap a l)(r:aA w P u (.set m))(hu:A.units+210<dD)(cc:(bI l m).length<=2000)
  (h:∀s',Step [a] P s P s'->bS w P s'.heap a (bI l m)->Q .none s'):aw (aH an w) A (call (.builtin "set.update") [.ref a,u]) Q E s:=by
 refine a9 r.setRef λy az=>?_;subst az;have Sy:=r.mF hp.obj
 have hay:a≠y:=λe=>by
  (refine bx r λd e' T az=>?_;clear az)
  cases (hP.symm.trans (e.trans (iG e')▸T.obj))
 have w5:l.length<=2000:=by unfold bI at cc;rw[bJ] at cc;lia
 have hlm:m.length<=2000:=by
  refine aB (DL Sy.nodup λz hz=>?_) cc;unfold bI;rw[dZ,iH]
  by_cases hza:z∈l
  .exact .inl hza
  .exact .inr ⟨hz,by simpa using hza⟩
 refine mz F.slot_set_update S.type F.entry_set_update ?_ (F.args_set_update_2 _ _);unfold Builtin.«set.update» Builtin.Frozenset.manyOthers;simp only[V7,zT,xu,if_false,LS];refine au (aC ?_)
 try dsimp only
 refine au (aC ?_)
 try dsimp only
 simp only[CJ,agm];refine au (au (au ?_));unfold agx;refine au (uj (lX hp r) ?_);rw[bw rfl];refine au (aC ?_);unfold Builtin.Frozenset.merge;refine ar (id Sy) λz1q Sya py=>au (rj Sya.get Sya.data Sya.cf.fits ?_);refine HJ hp S Sy hay hP (by rw[tD];exact nI ‹_›) (by lia) cc (λa8 Q' gI hQ=>?_) λh' dr hs gR=>?_
 .unfold V6;refine au (rj (gI.trans Sya.get) Sya.data Sya.cf.fits ?_);rw[if_neg (by simp)];exact aC hQ
 .refine aC (aC ?_);have fin:=h _ (Step.sameBut (tk:=s.toks) (dr:=dr) hp hP hs (aV _)) gR
  first | exact aC ⟨_,rfl,fin⟩ | exact aC (aC ⟨_,rfl,fin⟩)
end
end
inductive Lk(ad:cP)(h:bK)(nm:aW)(v:aU):Prop
 |loc (m):ad.kindOf nm=aj .local->h.Ns ad.locals m->m nm=aj v->Lk ad h nm v
 |eF (c):(ad.kindOf nm=aj .cell\/(ad.kindOf nm=aj .free/\(nm==("__classdict__":aW))=ap))->ad.cells.lookup nm=aj c->h.IsCell c (aj v)->Lk ad h nm v
def dq(w:dy)(P:PH)(C:bc)(h:bK):Option (bc×bc)->Pz->Prop
 |none,am=>True
 |some (ai,da),aj (t,k)=>(∃o,P.obj ai=aj o/\o.cls=.ref C/\(∀c,o.data≠.cls c)/\o.dict=aj da/\(∀vs n,o.data≠.seq vs n))/\da≠ai/\P.obj da=am/\
   ∃m tv kv,h.Ns1 da m/\m "t"=aj tv/\aA w P tv (.lst t)/\m "k"=aj kv/\aA w P kv (.int k)/\∀n,n≠("t":aW)->n≠("k":aW)->m n=am
 |U1,U2=>False
noncomputable def bO:Option (bc×bc)->List bc
 |none=>[]
 |some (U1,da)=>[da]
def jm(ad:cP)(a):=∀L,ad.frame=aj L->L<=a
def uk(w:dy)(P:PH)(ad:cP)(h:bK)(nm:aW)(pi:Option (bc×bc)):Sl->Prop
 |.un=>True
 |.v x=>∃v,Lk ad h nm v/\aA w P v x
 |.ol l=>∃a,Lk ad h nm (.ref a)/\LstAt w P h a l/\P.obj a=am/\a∉bO pi/\jm ad a/\l.length<=ci
 |.os l=>∃a,Lk ad h nm (.ref a)/\bS w P h a l/\P.obj a=am/\a∉bO pi/\jm ad a
 |.self=>∃ai da,pi=aj (ai,da)/\Lk ad h nm (.ref ai)
structure gY(w:dy)(P:PH)(C:bc)(ad:cP)(aq:List (Option aW))(ρ:bj)(σ:Pz)(pi:Option (bc×bc))(s:bf):Prop where
 kind:ad.scope.kind=.function
 len:aq.length=ρ.length
 loc:∃m,s.heap.Ns ad.locals m
 nH:P.obj ad.locals=am
 kI:ad.locals∉bO pi
 cell:∀nm c,ad.cells.lookup nm=aj c->(∃v,s.heap.IsCell c v)/\P.obj c=am/\c≠ad.locals/\c∉bO pi/\jm ad c
 eF:∀nm,ad.kindOf nm=aj .cell\/ad.kindOf nm=aj .free->∃c,ad.cells.lookup nm=aj c
 oV:jm ad ad.locals
 apart:∀nm bL c,ad.cells.lookup nm=aj c->ad.cells.lookup bL=aj c->nm=bL
 uniq:∀(i j:Nat) nm,aq[i]?=aj (aj nm)->aq[j]?=aj (aj nm)->i=j
 slot:∀(i:Nat) (nm:aW) (sl:Sl),aq[i]?=aj (aj nm)->ρ[i]?=aj sl->uk w P ad s.heap nm pi sl
 par:dq w P C s.heap pi σ
section
theorem Lk.keep(x:Lk ad h nm v)(hl:∀o,h.get? ad.locals=aj o->h'.get? ad.locals=aj o)(hc:∀c o,ad.cells.lookup nm=aj c->h.get? c=aj o->h'.get? c=aj o):Lk ad h' nm v:=by
 cases x with
 |loc m a b c=>exact .loc m a (tS b λo es ep ho r=>⟨o,es,ep,hl _ ho,r⟩) c
 |eF c a b d=>exact .eF c a b (ar d λo ho r=>⟨o,hc c o b ho,r⟩)
theorem gY.step(e:gY w P C ad aq ρ σ pi s)(st:Step mu P s P' s')(gS:∀a∈mu,a∈bO pi\/s.heap.objs.size<=a)(hp:dq w P' C s'.heap pi ay):gY w P' C ad aq ρ ay pi s':=by
 have out:∀a o,a∉bO pi->s.heap.get? a=aj o->s'.heap.get? a=aj o:=λa o ha e'=>st.keep a o (λhm=>(gS a hm).elim ha λhz=>absurd (dE e') (fZ.mpr hz)) e';have bM:ad.locals<s.heap.objs.size:=a9 e.loc λm hm=>hm.lt;have lk:∀{nm v},Lk ad s.heap nm v->Lk ad s'.heap nm v:=λx=>x.keep (λo h=>out _ o e.kI h) λc o hc h=>out c o (e.cell _ c hc).2.2.2.1 h;refine ⟨e.kind,e.len,?_,st.eo e.nH bM,e.kI,λnm c hc=>?_,e.eF,e.oV,e.apart,e.uniq,λi nm sl h1 h2=>?_,hp⟩
 .refine At e.loc λm o es ep ho r=>?_;exact ⟨m,o,es,ep,out _ o e.kI ho,r⟩
 ·(refine fy (e.cell nm c hc) λz1 b c' d=>?_;obtain ⟨v,o,ho,r⟩:=z1);exact ⟨⟨v,o,out c o d.1 ho,r⟩,st.eo b (dE ho),c',d⟩
 .have:=e.slot i nm sl h1 h2
  cases sl with
  |un=>assumption
  |v x=>refine ar this λv a b=>?_;exact ⟨v,lk a,b.mono st.le⟩
  |ol l=>
   refine cm this λa x y z u=>?_;have qQ:a<s.heap.objs.size:=by (refine ar y λvs z2 U=>?_;obtain ⟨n,ho⟩:=z2);exact dE ho
   exact ⟨a,lk x,y.keeps st.le λo h=>out a o u.1 h,st.eo z qQ,u⟩
  |os l=>
   refine cm this λa x y z u=>?_;have qQ:a<s.heap.objs.size:=by (refine ar y λz1 S U=>?_;obtain ⟨o,_,_,_,_⟩:=z1);exact dE S.get
   exact ⟨a,lk x,(y.keeps λo h=>out a o u.1 h).mono st.le,st.eo z qQ,u⟩
  |self=>refine eZ this λai da x y=>?_;exact ⟨ai,da,x,lk y⟩
theorem dq.keep(x:dq w P C h pi σ)(hp:P.le P')(hn:∀a∈bO pi,P'.obj a=am)(hk:∀a∈bO pi,∀o,h.get? a=aj o->h'.get? a=aj o):dq w P' C h' pi σ:=by
 cases pi with
 |none=>cases σ with
  |none=>assumption
  |some=>exact x.elim
 |some p=>cases σ with
  |none=>exact x.elim
  |some q=>exact ⟨x.1.imp λU y=>⟨hp.obj _ _ y.1,y.2⟩,x.2.1,hn _ (.head _),x.2.2.2.imp λU=>vg λU=>vg λU y=>⟨tS y.1 λo es ep ho r=>⟨o,es,ep,hk _ (.head _) o ho,r⟩,y.2.1,y.2.2.1.mono hp,y.2.2.2.1,y.2.2.2.2.1.mono hp,y.2.2.2.2.2⟩⟩
theorem dq.lt(x:dq w P C h pi σ):∀a∈bO pi,a<h.objs.size/\P.obj a=am:=by
 cases pi with
 |none=>exact nofun
 |some p=>cases σ with
  |none=>exact x.elim
  |some q=>exact λa ha=>en.1 ha▸tS x.2.2.2 λU U U c U=>tS c λU U U ho U=>⟨dE ho,x.2.2.1⟩
end
section
theorem Lk.load(hk:ad.scope.kind=.function)(x:Lk ad s.heap nm v)(h:Q v s):aw (aH an w) A (LU ad nm) Q E s:=by
 cases x with
 |loc m a b c=>exact wpAny_loadName_local hk a b c h
 |eF c a b d=>
  rcases a with a | ⟨a,a'⟩
  .exact wpAny_loadName_cell hk a b d h
  .exact wpAny_loadName_free hk a b d h a'
theorem O1(e:gY w P C ad aq ρ σ pi s)(hp:P.on s)(hn:aq[i]?=aj (aj nm))(lL:ad.kindOf nm=aj .local\/(ad.kindOf nm=aj .cell/\∃c,ad.cells.lookup nm=aj c))
  (rv:∀a s',Step [a] P s P s'->(∀b,(∃l,LstAt w P s.heap b l)\/(∃l,bS w P s.heap b l)->b≠a)->Lk ad s'.heap nm v->uk w P ad s'.heap nm pi sv) (h:∀mu s',Step mu P s P s'->(∀a∈mu,(a=ad.locals/\ad.kindOf nm=aj .local)\/(ad.kindOf nm=aj .cell/\ad.cells.lookup nm=aj a))->(∀bL v',bL≠nm->Lk ad s.heap bL v'->Lk ad s'.heap bL v')->Lk ad s'.heap nm v->gY w P C ad aq (ρ.set i sv) σ pi s'->K () s'):aw (aH an w) A (GP ad nm v) K E s:=by
 refine a9 e.loc λm hm=>?_;have cc:=e.len;have hi:i<aq.length:=(p4.mp hn).1
 have mk:∀(a:bc) (s':bf),P.obj a=am->a∉bO pi->Step [a] P s P s'->(∀o,a≠ad.locals->s.heap.get? ad.locals=aj o->s'.heap.get? ad.locals=aj o)->(∃m,s'.heap.Ns ad.locals m)->(∀bL c,ad.cells.lookup bL=aj c->∃v,s'.heap.IsCell c v)->(∀bL v',bL≠nm->Lk ad s.heap bL v'->Lk ad s'.heap bL v')->Lk ad s'.heap nm v->
   (∀b,(∃l,LstAt w P s.heap b l)\/(∃l,bS w P s.heap b l)->b≠a)->gY w P C ad aq (ρ.set i sv) σ pi s':=by
  intro a s' vE had st _ Kv Kd Fq Ft hb;have kp:∀b o,b≠a->s.heap.get? b=aj o->s'.heap.get? b=aj o:=λb o iX e'=>st.keep b o (by simpa using iX) e';refine ⟨e.kind,by simpa using cc,Kv,e.nH,e.kI,λbL c hc=>⟨Kd bL c hc,(e.cell bL c hc).2⟩,e.eF,e.oV,e.apart,e.uniq,λj bL sl h1 h2=>?_,e.par.keep (.refl P) (λb iX=>(e.par.lt b iX).2) λb iX o e'=>kp b o (λlM=>had (lM▸iX)) e'⟩
  by_cases hji:j=i
  .subst hji;rw[hn] at h1;replace h1:=aZ h1;replace h1:=aZ h1;subst h1;rw[LV (by lia)] at h2;replace h2:=aZ h2;subst h2;exact rv a s' st hb Ft
  .rw[Ac (fV hji)] at h2;have bA:bL≠nm:=λhe=>hji (e.uniq j i nm (he▸h1) hn);have:=e.slot j bL sl h1 h2
   cases sl with
   |un=>assumption
   |v y=>refine ar this λu b1 b2=>?_;exact ⟨u,Fq _ _ bA b1,b2⟩
   |ol l=>refine cm this λb b1 b2 b3 b4=>?_;exact ⟨b,Fq _ _ bA b1,b2.keeps (.refl P) λo e'=>kp b o (hb b (.inl ⟨l,b2⟩)) e',b3,b4⟩
   |os l=>refine cm this λb b1 b2 b3 b4=>?_;exact ⟨b,Fq _ _ bA b1,b2.keeps λo e'=>kp b o (hb b (.inr ⟨l,b2⟩)) e',b3,b4⟩
   |self=>refine eZ this λai da b1 b2=>?_;exact ⟨ai,da,b1,Fq _ _ bA b2⟩
 rcases lL with lL | ⟨lL,c,hc⟩
 .refine hU (wpAny_storeName_local lL hm (λh' nr hs hz ht=>?_) (by rw[e.kind];rfl));have st:=Step.sameBut (tk:=s.toks+1) (dr:=s.drawn) hp e.nH hs (dT _)
  have oth:∀bL v',bL≠nm->Lk ad s.heap bL v'->Lk ad h' bL v':=λbL v' bA x=>by
   cases x with
   |loc m' a b c=>
    refine .loc _ a nr ?_
    have:m'=m:=by
     refine xQ b λo1 dn ep1 q1 q2 q3 q4=>?_;refine xQ hm λo2 es2 ep2 r1 r2 r3 r4=>?_;obtain rfl:=aZ (q1.symm.trans r1);rw[q2] at r2;injection r2 with r2 _;subst r2
     funext n;rw[<- q4 n,<- r4 n]
    rw[if_neg bA,<- this];exact c
   |eF c a b d=>exact .eF c a b (d.sameBut hs (e.cell bL c b).2.2.1)
  refine h [ad.locals] _ st (λa ha=>.inl ⟨by simpa using ha,lL⟩) oth (.loc _ lL nr (by simp)) (mk ad.locals _ e.nH e.kI st (λo bA=>absurd rfl bA) ⟨_,nr⟩ (λbL c hc=>?_) oth (.loc _ lL nr (by simp)) λb hb=>?_)
  ·(refine fy (e.cell bL c hc) λz1 U s6 U=>?_;obtain ⟨ia,o,ho,r⟩:=z1);exact ⟨ia,o,hs.extBut _ _ s6 ho,r⟩
  .intro qU;subst qU;refine kJ hm λo2 es2 ep2 r1 r2 U=>?_
   rcases hb with ⟨l,vs,⟨n,ho⟩,_⟩ | ⟨l,⟨o,es,ep,t,l'⟩,S,_⟩
   .obtain rfl:=aZ (r1.symm.trans ho);cases r2
   .have:=S.get;obtain rfl:=aZ (r1.symm.trans this);have h2:=S.data;rw[r2] at h2;cases h2
 ·(refine tT (e.cell nm c hc) λz1 UF s6 oI U=>?_;obtain ⟨ia,TS⟩:=z1);refine wpAny_storeName_cell e.kind lL hc TS λh' nr hs=>?_;have st:=Step.sameBut (tk:=s.toks) (dr:=s.drawn) hp UF hs (aV _)
  have oth:∀bL v',bL≠nm->Lk ad s.heap bL v'->Lk ad h' bL v':=λbL v' bA x=>by
   cases x with
   |loc m' a b c'=>exact .loc _ a (b.sameBut hs (fV s6)) c'
   |eF c' a b d=>exact .eF c' a b (d.sameBut hs λw8=>bA (e.apart bL nm c (w8▸b) hc))
  refine h [c] _ st (λa ha=>.inr ⟨lL,by simp at ha;subst ha;exact hc⟩) oth (.eF c (.inl lL) hc nr) (mk c _ UF oI st (λo U e'=>hs.extBut _ _ (fV s6) e') ⟨m,hm.sameBut hs (fV s6)⟩ (λbL c' hc'=>?_) oth (.eF c (.inl lL) hc nr) λb hb=>?_)
  .by_cases w8:c'=c
   .subst w8;exact ⟨_,nr⟩
   ·(refine bm (e.cell bL c' hc') λz1 U=>?_;obtain ⟨v1,hv1⟩:=z1);exact ⟨v1,hv1.sameBut hs w8⟩
  .intro qU;subst qU;refine ar TS λo2 r1 r2=>?_
   rcases hb with ⟨l,vs,⟨n,ho⟩,_⟩ | ⟨l,⟨o,es,ep,t,l'⟩,S,_⟩
   .obtain rfl:=aZ (r1.symm.trans ho);cases r2
   .have:=S.get;obtain rfl:=aZ (r1.symm.trans this);have h2:=S.data;rw[r2] at h2;cases h2
theorem H3(e:gY w P C ad aq ρ σ pi s)(hp:P.on s)(hn:aq[i]?=aj (aj nm))(lL:ad.kindOf nm=aj .local\/(ad.kindOf nm=aj .cell/\∃c,ad.cells.lookup nm=aj c))
  (rv:aA w P v x) (h:∀mu s',Step mu P s P s'->(∀a∈mu,(a=ad.locals/\ad.kindOf nm=aj .local)\/(ad.kindOf nm=aj .cell/\ad.cells.lookup nm=aj a))->(∀bL v',bL≠nm->Lk ad s.heap bL v'->Lk ad s'.heap bL v')->Lk ad s'.heap nm v->gY w P C ad aq (ρ.set i (.v x)) σ pi s'->K () s'):aw (aH an w) A (GP ad nm v) K E s:=
 O1 (sv:=.v x) e hp hn lL (λa s1 st U hl=>⟨v,hl,rv⟩) h
end
set_option backward.match.sparseCases false
def kP(F:Calls):=∀f vs σ Q Q' X X',(∀v σ,Q v σ->Q' v σ)->(X->X')->F f vs σ Q X->F f vs σ Q' X'
theorem O2{S:Type}{step TX:V->S->(S->Prop)->Prop}(hs:∀x s (K K':S->Prop),(∀s,K s->K' s)->step x s K->TX x s K') :
  ∀l (s:S) (K K':S->Prop),(∀s,K s->K' s)->mM step l s K->mM TX l s K'
 |[]=>λs K K' hK h=>hK s h
 |x::l=>λs K K' hK h=>hs x s _ _ (λs' h'=>O2 hs l s' K K' hK h') h
theorem AV(hK:∀ρ,K ρ->K' ρ)(h:gM t v ρ K):gM t v ρ K':=by
 cases t with
 |one=>exact hK _ h
 |many=>cases v with
  |tup=>exact ⟨h.1,hK _ h.2⟩
  |_=>exact h
theorem rU{c:Prop}[Decidable c]{a b a' b':Prop}(ha:a->a')(hb:b->b')(h:if c then a else b):if c then a' else b':=by
 by_cases e:c
 .rw[bw e] at h ⊢;exact ha h
 .rw[if_neg e] at h ⊢;exact hb h
mutual
theorem du(hF:kP F):∀e ρ σ Q Q' X X',(∀v σ,Q v σ->Q' v σ)->(X->X')->EW F gl e ρ σ Q X->EW F gl e ρ σ Q' X'
 |.aR v=>λU U U U U U hQ U h=>hQ v _ h
 |.var i=>λρ U U U U U hQ U h=>cF (o:=vJ ρ i) (λU=>hQ _ _) h
 |.d4 n=>λU U U U U U hQ U h=>cF (o:=gl n) (λU=>hQ _ _) h
 |.typ n=>λU U U U U U hQ U h=>hQ (.ty n) _ h
 |.tup es=>λρ σ U U U U hQ hX h=>yj hF es ρ σ _ _ _ _ (λU U=>hQ _ _) hX h
 |.lst es=>λρ σ U U U U hQ hX h=>yj hF es ρ σ _ _ _ _ (λU U=>hQ _ _) hX h
 |.rG e=>λρ σ U U U U hQ hX h=>du hF e ρ σ _ _ _ _ (λU U h=>⟨h.1,hQ _ _ h.2⟩) hX h
 |.bin U1 a b=>λρ σ U U U U hQ hX h=>du hF a ρ σ _ _ _ _ (λU U=>du hF b ρ _ _ _ _ _ (λU U=>cF λU h=>⟨h.1,hQ _ _ h.2⟩) hX) hX h
 |.cmp U1 a b=>λρ σ U U U U hQ hX h=>du hF a ρ σ _ _ _ _ (λU U=>du hF b ρ _ _ _ _ _ (λU U=>cF λU=>hQ _ _) hX) hX h
 |.and a b=>λρ σ U U U U hQ hX h=>du hF a ρ σ _ _ _ _ (λU U=>rU (du hF b ρ _ _ _ _ _ hQ hX) (hQ _ _)) hX h
 |.or a b=>λρ σ U U U U hQ hX h=>du hF a ρ σ _ _ _ _ (λU U=>rU (hQ _ _) (du hF b ρ _ _ _ _ _ hQ hX)) hX h
 |.not a=>λρ σ U U U U hQ hX h=>du hF a ρ σ _ _ _ _ (λU U=>hQ _ _) hX h
 |.neg a=>λρ σ U U U U hQ hX h=>du hF a ρ σ _ _ _ _ (λU U=>cF λU h=>⟨h.1,hQ _ _ h.2⟩) hX h
 |.idx a b=>λρ σ U U U U hQ hX h=>du hF a ρ σ _ _ _ _ (λU U=>du hF b ρ _ _ _ _ _ (λU U=>cF λU=>hQ _ _) hX) hX h
 |.gj a lo hi=>λρ σ U U U U hQ hX h=>du hF a ρ σ _ _ _ _ (λU U=>O3 hF lo ρ _ _ _ _ _ (λU U=>O3 hF hi ρ _ _ _ _ _ (λU U=>cF λU=>hQ _ _) hX) hX) hX h
 |.call f es=>λρ σ U U U U hQ hX h=>yj hF es ρ σ _ _ _ _ (λU U=>hF _ _ _ _ _ _ _ (λU U=>hQ _ _) hX) hX h
 |.kG m i=>λρ σ U U U U hQ hX h=>jW (b:=kM ρ i) (jW (hF m [] σ _ _ _ _ hQ hX)) h
 |.rD i=>λρ U U U U U hQ U h=>jW (b:=kM ρ i) (cF λU=>hQ _ _) h
 |.rH i=>λρ U U U U U hQ U h=>jW (b:=kM ρ i) (cF λU=>hQ _ _) h
 |.bi U1 es=>λρ σ U U U U hQ hX h=>yj hF es ρ σ _ _ _ _ (λU U=>cF λU=>hQ _ _) hX h
 |.sm U1 o es=>λρ σ U U U U hQ hX h=>du hF o ρ σ _ _ _ _ (λU U=>cF λU=>yj hF es ρ _ _ _ _ _ (λU U=>cF λU h=>⟨h.1,hQ _ _ h.2⟩) hX) hX h
 |.comp U1 elt U2 gens=>λU U U U U U hQ U h=>O4 hF (λρ σ Q Q' hQ=>du hF elt ρ σ Q Q' False False hQ id) gens _ _ _ (λU=>hQ _ _) id h
theorem yj(hF:kP F):∀es ρ σ Q Q' X X',(∀v σ,Q v σ->Q' v σ)->(X->X')->lU F gl es ρ σ Q X->lU F gl es ρ σ Q' X'
 |[]=>λU U U U U U hQ U h=>hQ [] _ h
 |e::es=>λρ σ U U U U hQ hX h=>du hF e ρ σ _ _ _ _ (λU U=>yj hF es ρ _ _ _ _ _ (λU U=>hQ _ _) hX) hX h
theorem O3(hF:kP F):∀e ρ σ Q Q' X X',(∀v σ,Q v σ->Q' v σ)->(X->X')->xX F gl e ρ σ Q X->xX F gl e ρ σ Q' X'
 |Option.none=>λU U U U U U hQ U h=>hQ am _ h
 |some e=>λρ σ U U U U hQ hX h=>du hF e ρ σ _ _ _ _ (λU U=>cF λU h=>⟨h.1,hQ _ _ h.2⟩) hX h
theorem O5(hF:kP F):∀e ρ σ Q Q' X X',(∀v σ,Q v σ->Q' v σ)->(X->X')->IW F gl e ρ σ Q X->IW F gl e ρ σ Q' X'
 |.e x=>λρ σ U U U U hQ hX h=>du hF x ρ σ _ _ _ _ (λv U h=>by
  cases v<;>first | exact h | exact hQ _ _ h | exact λl' hl=>hQ _ _ (h l' hl)) hX h
 |.enum x=>λρ σ U U U U hQ hX h=>du hF x ρ σ _ _ _ _ (λU U=>cF λU=>hQ _ _) hX h
 |.zip a b=>λρ σ U U U U hQ hX h=>du hF a ρ σ _ _ _ _ (λU U=>du hF b ρ _ _ _ _ _ (λU U=>cF λU=>cF λU=>hQ _ _) hX) hX h
 |.range x=>λρ σ U U U U hQ hX h=>du hF x ρ σ _ _ _ _ (λU U=>cF λU h=>⟨h.1,hQ _ _ h.2⟩) hX h
theorem DM(hF:kP F):∀ts ρ σ Q Q' X X',(∀v σ,Q v σ->Q' v σ)->(X->X')->TW F gl ts ρ σ Q X->TW F gl ts ρ σ Q' X'
 |[]=>λU U U U U U hQ U h=>hQ ak _ h
 |t::ts=>λρ σ U U U U hQ hX h=>du hF t ρ σ _ _ _ _ (λU U=>rU (DM hF ts ρ _ _ _ _ _ hQ hX) (hQ _ _)) hX h
theorem O4(hF:kP F){X X':Prop}(he:∀ρ σ Q Q',(∀v σ,Q v σ->Q' v σ)->elt ρ σ Q X->aeq ρ σ Q' X') :
  ∀gs c K K',(∀c,K c->K' c)->(X->X')->GW F gl ok elt gs c K X->GW F gl ok aeq gs c K' X'
 |[]=>λU U U hK U h=>he _ _ _ _ (λU U h=>⟨h.1,hK _ h.2⟩) h
 |.mk t it ifs::gs=>λU U U hK hX h=>by
  refine O5 hF it _ _ _ _ _ _ (λitems U h=>O2 (λU U U U hK h=>?_) items _ _ _ hK h) hX h;exact AV (λU h=>DM hF ifs _ _ _ _ _ _ (λU U h=>rU (O4 hF he gs _ _ _ hK hX) (hK _) h) hX h) h
end
theorem O6{K K':lm}{J J':bj->Pz->Prop}(hJ:∀ρ σ,J ρ σ->J' ρ σ)(hK:∀f ρ σ,K f ρ σ->K' f ρ σ):∀(f:Fl) (ρ:bj) (σ:Pz),(match f with
   |.next=>J ρ σ
   |.cont=>J ρ σ
   |.brk=>K .next ρ σ
   |.ret v=>K (.ret v) ρ σ)->(match f with
   |.next=>J' ρ σ
   |.cont=>J' ρ σ
   |.brk=>K' .next ρ σ
   |.ret v=>K' (.ret v) ρ σ)
 |.next=>λU U h=>hJ _ _ h
 |.cont=>λU U h=>hJ _ _ h
 |.brk=>λU U h=>hK _ _ _ h
 |.ret U1=>λU U h=>hK _ _ _ h
theorem O7
  (ht:∀ρ σ Q Q',(∀b σ,Q b σ->Q' b σ)->test ρ σ Q->adX ρ σ Q') (hb:∀ρ σ K K',(∀f ρ σ,K f ρ σ->K' f ρ σ)->body ρ σ K->adY ρ σ K') :
  ∀n ρ σ K K',(∀f ρ σ,K f ρ σ->K' f ρ σ)->xY test body n ρ σ K->xY adX adY n ρ σ K'
 |0=>λU U U U U h=>h
 |n+1=>λU U U U hK h=>ht _ _ _ _ (λU U=>rU (hb _ _ _ _ (O6 (λU U=>O7 ht hb n _ _ _ _ hK) hK)) (hK _ _ _)) h
theorem O8(hb:∀x ρ σ K K',(∀f ρ σ,K f ρ σ->K' f ρ σ)->bd x ρ σ K->bd' x ρ σ K') :
  ∀l ρ σ K K',(∀f ρ σ,K f ρ σ->K' f ρ σ)->rM bd l ρ σ K->rM bd' l ρ σ K'
 |[]=>λU U U U hK h=>hK _ _ _ h
 |x::l=>λU U U U hK h=>hb _ _ _ _ _ (O6 (λU U=>O8 hb l _ _ _ _ hK) hK) h
mutual
theorem ď(hF:kP F):∀st ρ σ K K' X X',(∀f ρ σ,K f ρ σ->K' f ρ σ)->(∀ρ,X ρ->X' ρ)->SW F gl st ρ σ K X->SW F gl st ρ σ K' X'
 |.asg U1 e=>λρ σ U U U U hK hX h=>du hF e ρ σ _ _ _ _ (λU U=>hK _ _ _) (hX _) h
 |.nG U1 e=>λρ σ U U U U hK hX h=>du hF e ρ σ _ _ _ _ (λU U=>AV λU=>hK _ _ _) (hX _) h
 |.kH U1=>λρ U U U U U hK U h=>jW (b:=ρ.all tZ) (hK _ _ _) h
 |.tJ U1=>λρ U U U U U hK U h=>jW (b:=ρ.all xZ) (hK _ _ _) h
 |.vC U1 e=>λρ σ U U U U hK hX h=>du hF e ρ σ _ _ _ _ (λU U=>hF _ _ _ _ _ _ _ (λU U=>cF λU=>jW (hK _ _ _)) (hX _)) (hX _) h
 |.jj i=>λρ U U U U U hK U h=>cF (o:=x3 ρ i) (λU=>hK _ _ _) h
 |.app i e=>λρ σ U U U U hK hX h=>cF (o:=AB ρ i) (λU=>du hF e ρ σ _ _ _ _ (λU U h=>⟨h.1,hK _ _ _ h.2⟩) (hX _)) h
 |.vB i e=>λρ σ U U U U hK hX h=>cF (o:=qh ρ i) (λU=>du hF e ρ σ _ _ _ _ (λU U h=>⟨h.1,h.2.1,hK _ _ _ h.2.2⟩) (hX _)) h
 |.vD i e=>λρ σ U U U U hK hX h=>cF (o:=qh ρ i) (λU=>du hF e ρ σ _ _ _ _ (λU U=>cF λU h=>⟨h.1,hK _ _ _ h.2⟩) (hX _)) h
 |.aug U1 e=>λρ σ U U U U hK hX h=>du hF e ρ σ _ _ _ _ (λU U=>cF λU=>cF λU=>cF λU h=>⟨h.1,hK _ _ _ h.2⟩) (hX _) h
 |.oQ U1 e=>λρ σ U U U U hK hX h=>du hF e ρ σ _ _ _ _ (λU U=>jW (cF λU=>cF λU h=>⟨h.1,hK _ _ _ h.2⟩)) (hX _) h
 |.ite t a b=>λρ σ U U U U hK hX h=>du hF t ρ σ _ _ _ _ (λU U=>rU (j5 hF a _ _ _ _ _ _ hK hX) (j5 hF b _ _ _ _ _ _ hK hX)) (hX _) h
 |.jy t b=>λρ σ U U U U hK hX h=>by
  refine a9 h λn h=>?_;refine ⟨n,O7 (λρ σ U U hQ h=>?_) (λU U U U hK h=>?_) n ρ σ _ _ hK h⟩
  .exact du hF t ρ σ _ _ _ _ (λU U=>hQ _ _) (hX _) h
  .exact j5 hF b _ _ _ _ _ _ hK hX h
 |.iI U1 it b=>λρ σ U U U U hK hX h=>O5 hF it ρ σ _ _ _ _ (λitems U h=>O8 (λU U U U U hK h=>AV (λU=>j5 hF b _ _ _ _ _ _ hK hX) h) items _ _ _ _ hK h) (hX _) h
 |.ret e=>λρ σ U U U U hK hX h=>du hF e ρ σ _ _ _ _ (λU U=>hK _ _ _) (hX _) h
 |.raise e=>λρ σ U U U U U hX h=>du hF e ρ σ _ _ _ _ (λU U=>hX _) (hX _) h
 |.brk=>λU U U U U U hK U h=>hK .brk _ _ h
 |.cont=>λU U U U U U hK U h=>hK .cont _ _ h
 |.rC b U1=>λU U U U U U hK U h=>⟨h.1,eZ h.2 λi v h2 h3=>⟨i,v,h2,j5 hF b _ _ _ _ _ _ hK (λU=>hK _ _ _) h3⟩⟩
theorem j5(hF:kP F):∀st ρ σ K K' X X',(∀f ρ σ,K f ρ σ->K' f ρ σ)->(∀ρ,X ρ->X' ρ)->cV F gl st ρ σ K X->cV F gl st ρ σ K' X'
 |[]=>λU U U U U U hK U h=>hK .next _ _ h
 |s::r=>λρ σ U U U U hK hX h=>ď hF s ρ σ _ _ _ _ (λf U U h=>by
  cases f with
  |next=>exact j5 hF r _ _ _ _ _ _ hK hX h
  |_=>exact hK _ _ _ h) hX h
end
theorem O9(hQ:∀v σ,Q v σ->Q' v σ):∀f ρ σ,iN Q f ρ σ->iN Q' f ρ σ
 |.ret U1=>λU U h=>hQ _ _ h
 |.next=>λU U h=>hQ _ _ h
 |.brk=>λU U h=>h
 |.cont=>λU U h=>h
theorem hW:∀n,kP (oZ eS gl n)
 |0=>λU U U U U U U U U h=>h
 |n+1=>λU U U U U U U hQ hX h=>ar h λfn h1 h2=>⟨fn,h1,rU (λh=>⟨h.1,j5 (hW n) _ _ _ _ _ _ _ (O9 hQ) (λU h=>hX h) h.2⟩)
   (λh=>⟨h.1,j5 (hW n) _ _ _ _ _ _ _ (O9 λU U=>hQ _ _) (λU h=>hX h) h.2⟩) h2⟩
set_option backward.match.sparseCases true
structure Cx where
 w:dy
 C:bc
 gd:bc
 bd:bc
 mg:aW->Option aU
 mb:aW->Option aU
 gl:String->Option V
 N:bc
 mN:aW->Option aU
 h0:bc->Option jO
structure Đ where
 nm:aW
 q:aW
 bs:List aU
 sn:List aW
 sub:List aU
 col:Option Bool
 dd:Option bc
 k0:Option aU
 k1:Option aU
 k2:Option aU
 k3:Option aU
 k5:Option aU
noncomputable def đ(X:Cx)(d:Đ):=UO d.nm d.q X.C X.N d.bs [.type "object"] ak d.sn d.sub ap d.col d.dd d.k0 d.k1 d.k2 d.k3 d.k5 "object.__new__"
structure Ē where
 o:jO
 es:Array oL
 ep:Nat
def qo(P:PH)(a:bc)(m:aW->Option aU):=∃d:Ē,P.obj a=aj d.o/\d.o.data=.dict d.es d.ep/\StrKeys d.es/\∀n,Wc d.es n=m n
theorem qo.mono(g:qo P a m)(h:P.le P'):qo P' a m:=vg (λU r=>⟨h.obj _ _ r.1,r.2⟩) g
theorem qo.ns(g:qo P a m)(hp:P.on s):s.heap.Ns a m:=Exists.elim g λd r=>⟨d.o,d.es,d.ep,hp.obj _ _ r.1,r.2⟩
structure ul(X:Cx)(P:PH):Prop where
 obj:∃d,P.obj X.C=aj (đ X d)
 ns:qo P X.N X.mN
 ga:X.mN "__getattribute__"=am
 gh:X.mN "__getattr__"=am
 sa:X.mN "__setattr__"=am
 tt:X.mN "t"=am
 kk:X.mN "k"=am
structure gw(X:Cx)(P:PH):Prop where
 WL:qo P X.gd X.mg
 WQ:qo P X.bd X.mb
 lim:∃mc,mc "sys.recursionlimit"=am/\qo P FZ mc
 cls:ul X P
 WP:∃kd,X.mg (aP "_KIND")=aj (.ref kd)/\∀an s,P.on s->∃f,s.heap.MapOf (strKind an X.w) kd f/\∀x y,AA x=aj y->∃v,f (aJ x)=aj v/\aA X.w P v (.str y)
 val:∀n v,X.gl n=aj v->∃u,X.mg (aP n)=aj u/\aA X.w P u v
 top:∀a o,X.h0 a=aj o->P.obj a=aj o
theorem PH.on.down{P P':PH}(h:P.le P')(hp:P'.on s):P.on s:=
 ⟨λa o e=>hp.obj a o (h.obj a o e),λt x e=>hp.tok t x (h.tok t x e),hp.pos,⟨λt x e=>hp.ok.len t x (h.tok t x e)⟩⟩
theorem ul.mono(g:ul X P)(h:P.le P'):ul X P':=⟨g.obj.imp λU e=>h.obj _ _ e,g.ns.mono h,g.ga,g.gh,g.sa,g.tt,g.kk⟩
theorem gw.mono(g:gw X P)(h:P.le P'):gw X P':=
 ⟨g.WL.mono h,g.WQ.mono h,g.lim.imp λU r=>⟨r.1,r.2.mono h⟩,g.cls.mono h,
  g.WP.imp λU r=>⟨r.1,λan s hp=>(r.2 an s (PH.on.down h hp)).imp λU c=>⟨c.1,λx y e=>(c.2 x y e).imp λU d=>⟨d.1,d.2.mono h⟩⟩⟩,λn v e=>(g.val n v e).imp λU r=>⟨r.1,r.2.mono h⟩,λa o e=>h.obj _ _ (g.top a o e)⟩
theorem gw.globals(g:gw X P)(hp:P.on s):s.heap.Ns X.gd X.mg:=g.WL.ns hp
theorem gw.builtins(g:gw X P)(hp:P.on s):s.heap.Ns X.bd X.mb:=g.WQ.ns hp
theorem gw.noLimit(g:gw X P)(hp:P.on s):s.heap.NoLimit:=vg (λU r=>⟨r.2.ns hp,r.1⟩) g.lim
set_option tactic.hygienic true in
theorem ph{β:Type}{u:β}:∀{l:List (String×β)},l.lookup f=aj u->(f,u)∈l
 |(a,b)::r,h=>by
  rw[mE] at h
  split at h
  .rename_i e;replace h:=aZ h;subst h;rw[cq e];exact .head _
  .exact .tail _ (ph h)
def rV(X:Cx):=∀p∈lW,X.mg (aP p.1)=am/\X.mb (aP p.1)=aj p.2
structure iu(ao:bK)(fr:List cP)(mu:List bc)(s:bf)(x:bc)(s':bf):Prop where
 exc:kN ao fr x s'.heap
 keep:iP mu s.heap s'.heap
 gens:s'.gens=s.gens
 os:s'.os=s.os
 toks:s.toks<=s'.toks
theorem Step.G8(st:Step mu P s P' s'):iP mu s.heap s'.heap:=λb o hb e U=>⟨o.slots,st.keep b o hb e⟩
theorem iu.after(e:iu ao fr mu aF x s')(st:Step mu P s P' aF):iu ao fr mu s x s':=
 ⟨e.exc,st.G8.trans e.keep,e.gens.trans st.gens,e.os.trans st.os,aB st.toks e.toks⟩
theorem vV{ao h h':bK}:∀{fr:List cP},h.FunFrames ao fr->(∀e∈fr,∀L,e.frame=aj L->∀o,h.get? L=aj o->h'.get? L=aj o)->h'.FunFrames ao fr
 |[],U1,U2=>trivial
 |e::fr,x,k=>by
  (refine d5 x λa z2 r=>?_;obtain ⟨L,o,b,c,d,f⟩:=z2);exact ⟨a,⟨L,o,b,c,k e (by simp) L b o d,f⟩,vV r λe' oH=>k e' (cJ _ oH)⟩
structure ct(X:Cx)(n:Nat)(ao:bK)(fr:List cP)(aq:List (Option aW))(sn:List (aW×di))(A:fL)(ad:cP)(pi:Option (bc×bc))(ρ:bj)(σ:Pz)(P:PH)(s:bf):Prop where
 hp:P.on s
 gl:gw X P
 bi:rV X
 er:gY X.w P X.C ad aq ρ σ pi s
 sn:ad.scope.names=sn
 gd:ad.globals=X.gd
 bd:ad.builtins=X.bd
 hh:A.handled=am
 un:A.units+300+60*n<dD
 dp:A.depth+6*n+4<xD
 fs:A.frames=aj fr
 bs:∀a o,ao.get? a=aj o->P.obj a=aj o
 ff:s.heap.FunFrames ao fr
 fd:∀e∈fr,∀L,e.frame=aj L->L∉bO pi
 cd:∃a o vs,ad.code=.ref a/\P.obj a=aj o/\o.data=.fields vs
section
variable {X:Cx}{n:Nat}{ao:bK}{fr:List cP}{aq:List (Option aW)}{sn:List (aW×di)}{A:fL}{ad:cP}{pi:Option (bc×bc)}{ρ:bj}{σ ay:Pz}{P P':PH}{s s':bf}
theorem ct.kind(S:ct X n ao fr aq sn A ad pi ρ σ P s)(nm):ad.kindOf nm=sn.lookup nm:=by
 rw[<- S.sn];rfl
theorem ct.step(S:ct X n ao fr aq sn A ad pi ρ σ P s)(st:Step (bO pi) P s P' s')(hz:dq X.w P' X.C s'.heap pi ay):ct X n ao fr aq sn A ad pi ρ ay P' s':=
 ⟨st.on,S.gl.mono st.le,S.bi,S.er.step st (λa ha=>.inl ha) hz,S.sn,S.gd,S.bd,S.hh,S.un,S.dp,S.fs,λa o e=>st.le.obj a o (S.bs a o e),vV S.ff λe he L hL o ho=>st.keep L o (S.fd e he L hL) ho,S.fd,S.cd.imp λU r=>r.imp λU r=>r.imp λU r=>⟨r.1,st.le.obj _ _ r.2.1,r.2.2⟩⟩
theorem ct.hH(S:ct X n ao fr aq sn A ad pi ρ σ P s)(st:Step [] P s P' s'):dq X.w P' X.C s'.heap pi σ:=
 S.er.par.keep st.le (λa ha=>st.eo (S.er.par.lt a ha).2 (S.er.par.lt a ha).1) λa ha o h=>st.keep a o (by simp) h
theorem ct.xN(S:ct X n ao fr aq sn A ad pi ρ σ P s)(st:Step [] P s P' s'):ct X n ao fr aq sn A ad pi ρ σ P' s':=S.step st.up (S.hH st)
def b9(an:dX)(X:Cx)(F:Calls)(n:Nat)(ao:bK)(aq:List (Option aW))(sn:List (aW×di))(e:PE)(ê:bP):=
 ∀A ad fr pi ρ σ P s Q XX QQ E,
  ct X n ao fr aq sn A ad pi ρ σ P s->EW F X.gl e ρ σ Q XX->
  (∀v x P' s' ay,Step (bO pi) P s P' s'->aA X.w P' v x->dq X.w P' X.C s'.heap pi ay->Q x ay->QQ v s')->
  (XX->∀x s',iu ao fr (bO pi) s x s'->E (.ref x) s')->aw (aH an X.w) A (eval ê ad) QQ E s
def nT(an:dX)(X:Cx)(F:Calls)(n:Nat)(ao:bK)(aq:List (Option aW))(sn:List (aW×di))(e:PE)(ê:bP):=
 ∀A ad fr pi ρ σ P s Q XX QQ E,
  ct X n ao fr aq sn A ad pi ρ σ P s->EW F X.gl e ρ σ Q XX->
  (∀x P' s' ay,Step (bO pi) P s P' s'->dq X.w P' X.C s'.heap pi ay->Q x ay->QQ (ck x) s')->
  (XX->∀x s',iu ao fr (bO pi) s x s'->E (.ref x) s')->aw (aH an X.w) A (isTrue ê ad (eval ê ad)) QQ E s
def nU(an:dX)(X:Cx)(F:Calls)(n:Nat)(ao:bK)(aq:List (Option aW))(sn:List (aW×di))(es:List PE)(ês:List bP):=
 ∀A ad fr pi ρ σ P s Q XX QQ E pos,
  ct X n ao fr aq sn A ad pi ρ σ P s->lU F X.gl es ρ σ Q XX->
  (∀vs xs P' s' ay,Step (bO pi) P s P' s'->bp X.w P' vs xs->xs.length=es.length->dq X.w P' X.C s'.heap pi ay->Q xs ay->QQ vs s')->
  (XX->∀x s',iu ao fr (bO pi) s x s'->E (.ref x) s')->aw (aH an X.w) A (Wd (tF pos (p7 ês ad))) QQ E s
end
section
theorem Pa{k pos}:b9 an X F n ao aq sn (.aR .none) (.Constant .none k pos):=λA ad fr pi ρ σ P s Q XX QQ E S h hq hx=>
 wpAny_Constant_none (hq _ _ P s σ (.refl S.hp) .none S.er.par h)
theorem Pb{b k pos}:b9 an X F n ao aq sn (.aR (.bool b)) (.Constant (.bool b) k pos):=λA ad fr pi ρ σ P s Q XX QQ E S h hq hx=>
 agH (hq _ _ P s σ (.refl S.hp) (.bool b) S.er.par h)
theorem Pc{i k pos}:b9 an X F n ao aq sn (.aR (.int i)) (.Constant (.int i) k pos):=λA ad fr pi ρ σ P s Q XX QQ E S h hq hx=>by
 have st:Step [] P s P {s with toks:=s.toks+1}:=.ll S.hp (dT _);exact LW (hq _ _ P _ σ st.up (.int i _) (S.hH st) h)
theorem ē{k pos}(ha:∀c∈x,c<128)(hl:x.length<=ci):b9 an X F n ao aq sn (.aR (.str x)) (.Constant (.str (aJ x)) k pos):=λA ad fr pi ρ σ P s Q XX QQ E S h hq hx=>by
 have st:Step [] P s (P.Am s.toks x) {s with toks:=s.toks+1}:=.tok S.hp (aV _) (iF _) hl;exact wpAny_Constant_str (hq _ _ _ _ σ st.up (.Mj ha) (S.hH st) h)
theorem Pd{pos}(hn:aq[i]?=aj (aj nm))(hd:(nm==("__debug__":aW))=ap):b9 an X F n ao aq sn (.var i) (.Name nm pos):=λA ad fr pi ρ σ P s Q XX QQ E S h hq hx=>by
 refine ar (fO.1 h) λv hv hQ=>?_;refine ar (S.er.slot i nm _ hn (ML hv)) λu hl hr=>?_;exact kF (hl.load S.er.kind (hq u v P s σ (.refl S.hp) hr S.er.par hQ)) hd
theorem AW
  (S:ct X n ao fr aq sn A ad pi ρ σ P s) (hk:sn.lookup nm=aj .globalImplicit) (hu:X.mg nm=aj u) (h:QQ u s):aw (aH an X.w) A (LU ad nm) QQ E s:=by
 rw[We S.er.kind ((S.kind nm).trans hk)];exact Calls.loadGlobal_global (by rw[S.gd];exact S.gl.globals S.hp) hu h
theorem H4
  (S:ct X n ao fr aq sn A ad pi ρ σ P s) (hk:sn.lookup nm=aj .globalImplicit) (hm:X.mg nm=am) (hu:X.mb nm=aj u) (h:QQ u s):aw (aH an X.w) A (LU ad nm) QQ E s:=by
 rw[We S.er.kind ((S.kind nm).trans hk)];exact agI (by rw[S.gd];exact S.gl.globals S.hp) hm (by rw[S.bd];exact S.gl.builtins S.hp) hu h
theorem Ĕ{pos}(hk:sn.lookup (aP g)=aj .globalImplicit)(hd:(aP g==("__debug__":aW))=ap):b9 an X F n ao aq sn (.d4 g) (.Name (aP g) pos):=λA ad fr pi ρ σ P s Q XX QQ E S h hq hx=>by
 refine ar (fO.1 h) λv hv hQ=>?_;refine ar (S.gl.val g v hv) λu hu hr=>?_;exact kF (AW S hk hu (hq u v P s σ (.refl S.hp) hr S.er.par hQ)) hd
theorem ĕ{pos}(hg:(g,CG g)∈lW)(hN:ue g=ak)(hk:sn.lookup (aP g)=aj .globalImplicit)(hd:(aP g==("__debug__":aW))=ap):b9 an X F n ao aq sn (.typ g) (.Name (aP g) pos):=λA ad fr pi ρ σ P s Q XX QQ E S h hq hx=>by
 refine bm (S.bi _ hg) λh1 h2=>?_;exact kF (H4 S hk h1 h2 (hq _ _ P s σ (.refl S.hp) (.ty g hN) S.er.par h)) hd
theorem qp:nU an X F n ao aq sn [] []:=λA ad fr pi ρ σ P s Q XX QQ E pos S h hq hx=>
 agJ (hq [] [] P s σ (.refl S.hp) .nil rfl S.er.par h)
noncomputable def fb(e:bP):=e.ctorIdx != 22
theorem yk(h:fb e=ak):p7 (e::rest) ad=(ap,eval e ad)::p7 rest ad:=by
 cases e<;>first | rfl | cases h
theorem qq(hs:fb ê=ak)(h1:b9 an X F n ao aq sn e ê)(h2:nU an X F n ao aq sn es ês):nU an X F n ao aq sn (e::es) (ê::ês):=
 λA ad fr pi ρ σ P s Q XX QQ E pos S h hq hx=>by
 refine wpAny_items_cons ?_ (yk hs);refine h1 A ad fr pi ρ σ P s _ XX _ E S h (λv x aX aF aO bq dC cw hQ=>?_) hx;refine h2 A ad fr pi ρ aO aX aF _ XX _ E pos (S.step bq cw) hQ (λvs xs dc a8 cb bn iV l₂ iW ng=>?_) λfS x s' ex=>hx fS x s' (ex.after bq);exact hq _ _ dc a8 cb (bq.trans bn) (.cons (dC.mono bn.le) iV) (by simp[l₂]) iW ng
end
noncomputable def H5:BO->Operator
 |.add=>.Add
 |.sub=>.Sub
 |.mod=>.Mod
 |.bor=>.BitOr
 |.band=>.BitAnd
noncomputable def vW:CO->CmpOp
 |.eq=>.Eq
 |.ne=>.NotEq
 |.lt=>.Lt
 |.le=>.LtE
 |.ge=>.GtE
 |.gt=>.Gt
 |.isIn=>.In
 |.eo=>.NotIn
 |.is=>.Is
 |.vz=>.IsNot
section
theorem Ė(hp:P.on s)(ru:aA w P u x)(rv:aA w P v y)(hu:A.units+250<dD)(hr:jU op x y=aj r)(hf:cz r=ak)(h:Gv w P s r Q):aw (aH an w) A (vk (H5 op) u v) Q E s:=by
 cases op with
 |add=>
  cases x with
  |int a=>(refine ar (xS hr) λb av az=>?_;subst av;subst az);exact Zc hp ru rv h
  |str a=>(refine ar (tW hr) λb av az=>?_;subst av;subst az);exact Zf hp ru rv (eT hf) h
  |tup a=>(refine ar (W2 hr) λb av az=>?_;subst av;subst az);exact Zg hp ru rv (eT hf) h
  |lst a=>(refine ar (W3 hr) λb av az=>?_;subst av;subst az);exact Zh hp ru rv (eT hf) h
  |_=>exact no hr
 |sub=>(refine ar (rL hr) λa av hr=>?_;subst av);(refine ar (xS hr) λb av az=>?_;subst av;subst az);exact Zd hp ru rv h
 |mod=>
  (refine ar (rL hr) λa av hr=>?_;subst av);(refine ar (rL hr) λb av hr=>?_;subst av);have e:=mK hr;(have hz:=aZ e.2;cases hz);exact Ze hp ru rv e.1 h
 |bor=>
  (refine ar (Dd hr) λa av hr=>?_;subst av);(refine ar (Dd hr) λb av hr=>?_;subst av);have e:=mK hr;(have hz:=aZ e.2;cases hz);exact õ hp ru rv (eT e.1) (jB ‹_›) h
 |band=>
  (refine ar (Dd hr) λa av hr=>?_;subst av);(refine ar (Dd hr) λb av hr=>?_;subst av);have e:=mK hr;(have hz:=aZ e.2;cases hz);exact ú hp ru rv (eT e.1) (jB ‹_›) h
theorem DN(h:Ax x l=aj r):dj x=ak/\gW l=ak/\min (i0 l) (dm x)<=100/\(l.any λy=>eX y x)=r:=
 have e:=mK h;have c:=(fM _ _).mp e.1;have d:=(fM _ _).mp c.1
 ⟨d.1,d.2,eT c.2,aZ e.2⟩
theorem Pe(h:Az x y=aj r):dj x=ak/\dj y=ak/\min (dm x) (dm y)<=100/\eX x y=r:=
 have e:=mK h;have c:=(fM _ _).mp e.1;have d:=(fM _ _).mp c.1
 ⟨d.1,d.2,eT c.2,aZ e.2⟩
theorem Pf(hp:P.on s)(ru:aA w P u x)(rv:aA w P v y)(hu:A.units+250<dD)(hr:cy op x y=aj r)(h:Gv w P s (.bool r) Q):aw (aH an w) A (kA (vW op) u v) Q E s:=by
 cases op with
 |eq=>(refine fy (Pe hr) λa b c az=>?_;subst az);exact YI hp ru rv a b c (jB ‹_›) (jH hp h)
 |ne=>(refine ar (g7.1 hr) λd h2 az=>?_;subst az);(refine fy (Pe h2) λa b c az=>?_;subst az);exact YJ hp ru rv a b c (jB ‹_›) (jH hp h)
 |lt=>(refine ar (rL hr) λa av hr=>?_;subst av);(refine ar (xS hr) λb av az=>?_;subst av;subst az);exact Zi hp ru rv h
 |le=>
  cases x with
  |int a=>(refine ar (xS hr) λb av az=>?_;subst av;subst az);exact Zj hp ru rv h
  |set a=>(refine ar (W6 hr) λb av az=>?_;subst av;subst az);exact ü hp ru rv (jB ‹_›) h
  |_=>exact no hr
 |gt=>(refine ar (rL hr) λa av hr=>?_;subst av);(refine ar (xS hr) λb av az=>?_;subst av;subst az);exact Zk hp ru rv h
 |ge=>(refine ar (rL hr) λa av hr=>?_;subst av);(refine ar (xS hr) λb av az=>?_;subst av;subst az);exact Zl hp ru rv h
 |isIn=>exact (by
   cases y with
   |str b=>(refine ar (tW hr) λa av az=>?_;subst av;subst az);exact Zm hp ru rv h
   |tup l=>(refine fy (DN hr) λa b c az=>?_;subst az);exact YM hp ru rv a b c (jB ‹_›) (jH hp h)
   |lst l=>(refine fy (DN hr) λa b c az=>?_;subst az);exact YK hp ru rv a b c (jB ‹_›) (jH hp h)
   |set l=>(refine ar (tW hr) λa av az=>?_;subst av;subst az);exact ā hp ru rv (jB ‹_›) h
   |_=>exact no hr)
 |eo=>(refine ar (g7.1 hr) λb hb az=>?_;subst az);exact (by
   cases y with
   |str b=>(refine ar (tW hb) λa av az=>?_;subst av;subst az);exact Zn hp ru rv h
   |tup l=>(refine fy (DN hb) λa b c az=>?_;subst az);exact YN hp ru rv a b c (jB ‹_›) (jH hp h)
   |lst l=>(refine fy (DN hb) λa b c az=>?_;subst az);exact YL hp ru rv a b c (jB ‹_›) (jH hp h)
   |set l=>(refine ar (tW hb) λa av az=>?_;subst av;subst az);exact Ă hp ru rv (jB ‹_›) h
   |_=>exact no hb)
 |is=>exact Zo hp ru rv hr h
 |vz=>(refine ar (g7.1 hr) λb hb az=>?_;subst az);exact Zp hp ru rv hb h
theorem ė(slice)(o i):∃ops,subscripted slice ap o i=operate ops (zZ o i):=by
 cases slice with
 |Slice U1 U2 st U3=>cases st<;>exact ⟨_,rfl⟩
 |_=>exact ⟨_,rfl⟩
theorem H6{T id:String}(hT:s.TypeIs o T)(hl:lh (.type T) "__getitem__"=bH (aj (.builtin id)))(h:aw (aH an w) A (zZ o i) Q E s) :
  aw (aH an w) A (do let r <- subscripted slice (<- getitemInPython o) o i;agK value o r;bH r) Q E s:=by
 refine au ?_;rw[getitemInPython_of_ne hT.not_modules];refine au (rh hT hl ?_)
 have fin:∀ops,aw (aH an w) A (operate ops (zZ o i)) (λr cg=>aw (aH an w) A (agK value o r>>=λU=>bH r) Q E cg) E s:=λops=>
  wpAny_operating (kD h (λr cg kq=>au (wpAny_letTemporaryGo (aC kq))) λU U x=>x)
 refine aC (au ?_);exact (ė slice o i).elim λops e=>e▸fin ops
theorem Pg(hp:P.on s)(r:aA w P u x)(hx:(∃l,x=.str l)\/(∃l,x=.tup l)\/∃l,x=.lst l):∃T id,s.TypeIs u T/\lh (.type T) "__getitem__"=bH (aj (.builtin id)):=by
 rcases hx with ⟨l,rfl⟩ | ⟨l,rfl⟩ | ⟨l,rfl⟩
 .exact ⟨"str",_,r.Mk,F.slot_str_getitem.lookup⟩
 .exact ⟨"tuple",_,DK hp r,VN.lookup⟩
 .exact ⟨"list",_,H2 hp r,slot_list_getitem.lookup⟩
end
section
variable {an:dX}{X:Cx}{F:Calls}{n:Nat}{ao:bK}{aq:List (Option aW)}{sn:List (aW×di)}
theorem ct.gv{Q:i4}{QQ:ah}
  (S:ct X n ao fr aq sn A ad pi ρ σ P s) (ad6:Step (bO pi) P₀ wM P s) (hq:∀v x P' s' ay,Step (bO pi) P₀ wM P' s'->aA X.w P' v x->dq X.w P' X.C s'.heap pi ay->Q x ay->QQ v s') (hQ:Q r σ):Gv X.w P s r QQ:=
 λv P' s' st rv=>hq v r P' s' σ (ad6.trans st.up) rv (S.hH st) hQ
theorem Ę{es:List PE}{ês:List bP}{k pos}(h1:nU an X F n ao aq sn es ês)(hl:es.length<=1000):b9 an X F n ao aq sn (.tup es) (.Tuple ês k pos):=λA ad fr pi ρ σ P s Q XX QQ E S h hq hx=>by
 refine wpAny_Tuple (h1 A ad fr pi ρ σ P s _ XX _ E pos S h (λvs xs aX aF aO bq dC l₁ cw hQ=>?_) hx);have cc:xs.length<=ci:=by rw[l₁];unfold ci;exact bD ‹_›
 exact ⟨by rw[dC.length];exact j4 cc,HN (S.step bq cw).hp dC cc ((S.step bq cw).gv bq hq hQ)⟩
theorem ę{es:List PE}{ês:List bP}{pos}(h1:nU an X F n ao aq sn es ês)(hl:es.length<=1000):b9 an X F n ao aq sn (.lst es) (.List ês pos):=λA ad fr pi ρ σ P s Q XX QQ E S h hq hx=>by
 refine wpAny_List (h1 A ad fr pi ρ σ P s _ XX _ E pos S h (λvs xs aX aF aO bq dC l₁ cw hQ=>?_) hx);have cc:xs.length<=ci:=by rw[l₁];unfold ci;exact bD ‹_›
 exact ⟨by rw[dC.length];exact j4 cc,DA (S.step bq cw).hp dC cc ((S.step bq cw).gv bq hq hQ)⟩
theorem Ě{a b:PE}{â ĝ:bP}{pos}(h1:b9 an X F n ao aq sn a â)(h2:b9 an X F n ao aq sn b ĝ):b9 an X F n ao aq sn (.bin op a b) (.BinOp â (H5 op) ĝ pos):=λA ad fr pi ρ σ P s Q XX QQ E S h hq hx=>by
 refine wpAny_BinOp (h1 A ad fr pi ρ σ P s _ XX _ E S h (λv x aX aF aO bq dC cw hQ=>?_) hx);have bo:=S.step bq cw;refine h2 A ad fr pi ρ aO aX aF _ XX _ E bo hQ (λzi y dc a8 cb bn iV iW ng=>?_) λfS x s' ex=>hx fS x s' (ex.after bq);refine bx (fO.1 ng) λr hr hf jv=>?_;have bG:=bo.step bn iW;exact Ė bG.hp (dC.mono bn.le) iV (by have:=S.un;exact vH ‹_›) hr hf (bG.gv (bq.trans bn) hq jv)
theorem ě{a b:PE}{â ĝ:bP}{pos}(h1:b9 an X F n ao aq sn a â)(h2:b9 an X F n ao aq sn b ĝ)(hm:Wf (vW op) ĝ=ap):b9 an X F n ao aq sn (.cmp op a b) (.Compare â [vW op] [ĝ] pos):=λA ad fr pi ρ σ P s Q XX QQ E S h hq hx=>by
 refine wpAny_Compare1 (h1 A ad fr pi ρ σ P s _ XX _ E S h (λv x aX aF aO bq dC cw hQ=>?_) hx) hm;have bo:=S.step bq cw;refine h2 A ad fr pi ρ aO aX aF _ XX _ E bo hQ (λzi y dc a8 cb bn iV iW ng=>?_) λfS x s' ex=>hx fS x s' (ex.after bq);refine ar (fO.1 ng) λr hr jv=>?_;have bG:=bo.step bn iW;exact Pf bG.hp (dC.mono bn.le) iV (by have:=S.un;exact vH ‹_›) hr (bG.gv (bq.trans bn) hq jv)
theorem Ĝ{pos}(h1:b9 an X F n ao aq sn a â)(h2:b9 an X F n ao aq sn b ĝ)(hm:Wf (vW op) ĝ=ap):nT an X F n ao aq sn (.cmp op a b) (.Compare â [vW op] [ĝ] pos):=λA ad fr pi ρ σ P s Q XX QQ E S h hq hx=>by
 refine wpAny_isTrue_Compare1 (h1 A ad fr pi ρ σ P s _ XX _ E S h (λv x aX aF aO bq dC cw hQ=>?_) hx) hm;have bo:=S.step bq cw;refine h2 A ad fr pi ρ aO aX aF _ XX _ E bo hQ (λzi y dc a8 cb bn iV iW ng=>?_) λfS x s' ex=>hx fS x s' (ex.after bq);refine ar (fO.1 ng) λr hr jv=>?_;have bG:=bo.step bn iW;refine Pf bG.hp (dC.mono bn.le) iV (by have:=S.un;exact vH ‹_›) hr λv dw cg cL sN=>?_;cases sN;exact Go (hq (.bool r) dw cg cb ((bq.trans bn).trans cL.up) (bG.hH cL) jv)
theorem iv(h1:b9 an X F n ao aq sn e ê)(he:∀ad dG,isTrue ê ad dG=(do let v <- dG;xE ê.pos;xw [v] (Gn v))):nT an X F n ao aq sn e ê:=λA ad fr pi ρ σ P s Q XX QQ E S h hq hx=>by
 refine wpAny_isTrue_value (h1 A ad fr pi ρ σ P s _ XX _ E S h (λv x aX aF aO bq dC cw hQ=>?_) hx) (he ad _);have bo:=S.step bq cw;exact DB bo.hp dC λa8 bn=>hq x aX a8 aO (bq.trans bn.up) (bo.hH bn) hQ
theorem Ğ{e:PE}{ê:bP}{pos}(h1:b9 an X F n ao aq sn e ê):b9 an X F n ao aq sn (.not e) (.UnaryOp .Not ê pos):=λA ad fr pi ρ σ P s Q XX QQ E S h hq hx=>by
 refine agL (h1 A ad fr pi ρ σ P s _ XX _ E S h (λv x aX aF aO bq dC cw hQ=>?_) hx);have bo:=S.step bq cw;exact Zs bo.hp dC (bo.gv bq hq hQ)
theorem ğ{pos}(h1:nT an X F n ao aq sn e ê):nT an X F n ao aq sn (.not e) (.UnaryOp .Not ê pos):=λA ad fr pi ρ σ P s Q XX QQ E S h hq hx=>by
 refine wpAny_isTrue_Not (h1 A ad fr pi ρ σ P s _ XX _ E S h (λx aX aF aO bq cw hQ=>?_) hx);exact hq (.bool (!ck x)) aX aF aO bq cw hQ
theorem Ġ{e:PE}{ê:bP}{pos}(h1:b9 an X F n ao aq sn e ê):b9 an X F n ao aq sn (.neg e) (.UnaryOp .USub ê pos):=λA ad fr pi ρ σ P s Q XX QQ E S h hq hx=>by
 refine agL (h1 A ad fr pi ρ σ P s _ XX _ E S h (λv x aX aF aO bq dC cw hQ=>?_) hx);(refine a9 (AD hQ) λi zr=>?_;obtain ⟨rfl,_,hQ⟩:=zr);have bo:=S.step bq cw;exact Zt bo.hp dC (bo.gv bq hq hQ)
theorem ġ(h:dN x y=aj r):(∃l,x=.str l)\/(∃l,x=.tup l)\/∃l,x=.lst l:=by
 cases x with
 |str l=>exact .inl ⟨l,rfl⟩
 |tup l=>exact .inr (.inl ⟨l,rfl⟩)
 |lst l=>exact .inr (.inr ⟨l,rfl⟩)
 |_=>exact ar (MF h) λU U h=>no h
theorem Ģ{a b:PE}{â ĝ:bP}{pos}(h1:b9 an X F n ao aq sn a â)(h2:b9 an X F n ao aq sn b ĝ):b9 an X F n ao aq sn (.idx a b) (.Subscript â ĝ pos):=λA ad fr pi ρ σ P s Q XX QQ E S h hq hx=>by
 rw[Wg];refine au (h1 A ad fr pi ρ σ P s _ XX _ E S h (λv x aX aF aO bq dC cw hQ=>?_) hx);have bo:=S.step bq cw;refine au (gg (h2 A ad fr pi ρ aO aX aF _ XX _ E bo hQ (λzi y dc a8 cb bn iV iW ng=>?_) λfS x s' ex=>hx fS x s' (ex.after bq)));refine ar (fO.1 ng) λr hr jv=>?_;have bG:=bo.step bn iW;refine eZ (Pg bG.hp (dC.mono bn.le) (ġ hr)) λT id hT hl=>?_;exact au (jx (H6 hT hl (Zv bG.hp (dC.mono bn.le) iV hr (bG.gv (bq.trans bn) hq jv))))
def AX(an:dX)(X:Cx)(F:Calls)(n:Nat)(ao:bK)(aq:List (Option aW))(sn:List (aW×di))(e:Option PE)(ê:Option bP):=
 ∀A ad fr pi ρ σ P s Q XX QQ E,
  ct X n ao fr aq sn A ad pi ρ σ P s->xX F X.gl e ρ σ Q XX->
  (∀v x P' s' ay,Step (bO pi) P s P' s'->nR v x->dq X.w P' X.C s'.heap pi ay->Q x ay->QQ v s')->
  (XX->∀x s',iu ao fr (bO pi) s x s'->E (.ref x) s')->aw (aH an X.w) A (evalPart ê ad) QQ E s
theorem ģ:AX an X F n ao aq sn am am:=λA ad fr pi ρ σ P s Q XX QQ E S h hq hx=>by
 rw[agM];exact aC (hq _ _ P s σ (.refl S.hp) .none S.er.par h)
theorem Ĥ(h1:b9 an X F n ao aq sn e ê):AX an X F n ao aq sn (aj e) (aj ê):=λA ad fr pi ρ σ P s Q XX QQ E S h hq hx=>by
 rw[evalPart_some];refine h1 A ad fr pi ρ σ P s _ XX _ E S h (λv x aX aF aO bq dC cw hQ=>?_) hx;refine bx (fO.1 hQ) λi hi U xa=>?_;obtain rfl:=C9 hi;obtain ⟨d6,rfl⟩:=dC;exact hq _ _ aX aF aO bq (.int _ _) cw xa
theorem ĥ(h:kL x lo hi=aj r):(∃l,x=.str l)\/(∃l,x=.tup l)\/∃l,x=.lst l:=by
 cases x with
 |str l=>exact .inl ⟨l,rfl⟩
 |tup l=>exact .inr (.inl ⟨l,rfl⟩)
 |lst l=>exact .inr (.inr ⟨l,rfl⟩)
 |_=>exact no h
theorem Ħ{â:bP}{lô hî:Option bP}{p pos}(h1:b9 an X F n ao aq sn a â)(h2:AX an X F n ao aq sn lo lô)(h3:AX an X F n ao aq sn hi hî) :
  b9 an X F n ao aq sn (.gj a lo hi) (.Subscript â (.Slice lô hî am p) pos):=λA ad fr pi ρ σ P s Q XX QQ E S h hq hx=>by
 rw[Wg];refine au (h1 A ad fr pi ρ σ P s _ XX _ E S h (λv x aX aF aO bq dC cw hQ=>?_) hx);have bo:=S.step bq cw;refine au (gg (wpAny_Slice ?_));refine h2 A ad fr pi ρ aO aX aF _ XX _ E bo hQ (λzi l dc a8 cb bn iV iW ng=>?_) λfS x s' ex=>hx fS x s' (ex.after bq);have bG:=bo.step bn iW;refine h3 A ad fr pi ρ cb dc a8 _ XX _ E bG ng (λCc u dw cg cC cL sN pO jv=>?_) λfS x s' ex=>hx fS x s' (ex.after (bq.trans bn));have fD:=bG.step cL pO;rw[agM];refine aC ?_;refine ar (fO.1 jv) λr hr aei=>?_;have ju:Step [] dw cg dw {cg with heap:=cg.heap.push {cls:=.type "slice",data:=.fields #[zi,Cc,.none]}}:=Step.oP fD.hp;have Ky:=fD.xN ju;have Ue:=(dC.mono bn.le).mono cL.le;refine eZ (Pg Ky.hp Ue (ĥ hr)) λT id hT hl=>?_;exact au (jx (H6 hT hl (ZB Ky.hp Ue (bK.IsSliceOf.new ..) iV sN hr (Ky.gv (((bq.trans bn).trans cL).trans ju.up) hq aei))))
end
section
variable {an:dX}{X:Cx}{F:Calls}{n:Nat}{ao:bK}{aq:List (Option aW)}{sn:List (aW×di)}
def rW(an)(X)(F)(n)(ao)(aq)(sn)(op)(e)(vals):=
 vals≠[]/\(∀A ad fr pi ρ σ P s Q XX QQ E pos,
  ct X n ao fr aq sn A ad pi ρ σ P s->EW F X.gl e ρ σ Q XX->
  (∀v x P' s' ay,Step (bO pi) P s P' s'->aA X.w P' v x->dq X.w P' X.C s'.heap pi ay->Q x ay->QQ v s')->
  (XX->∀x s',iu ao fr (bO pi) s x s'->E (.ref x) s')->aw (aH an X.w) A (Wh pos op (Wi vals ad)) QQ E s)/\
 (∀A ad fr pi ρ σ P s Q XX QQ E,
  ct X n ao fr aq sn A ad pi ρ σ P s->EW F X.gl e ρ σ Q XX->
  (∀x P' s' ay,Step (bO pi) P s P' s'->dq X.w P' X.C s'.heap pi ay->Q x ay->QQ (ck x) s')->
  (XX->∀x s',iu ao fr (bO pi) s x s'->E (.ref x) s')->aw (aH an X.w) A (allTrue op vals ad) QQ E s)
theorem ħ(h1:b9 an X F n ao aq sn e ê)(h2:nT an X F n ao aq sn e ê):rW an X F n ao aq sn op e [ê]:=by
 refine ⟨by simp,λA ad fr pi ρ σ P s Q XX QQ E pos S h hq hx=>h1 A ad fr pi ρ σ P s Q XX QQ E S h hq hx,λA ad fr pi ρ σ P s Q XX QQ E S h hq hx=>?_⟩
 cases op with
 |And=>
  refine agN (h2 A ad fr pi ρ σ P s Q XX _ E S h (λx aX aF aO bq cw hQ=>?_) hx);have:=hq x aX aF aO bq cw hQ
  cases hb:ck x<;>rw[hb] at this
  .simpa using this
  .simpa using wpAny_allTrue_And_nil this
 |Or=>
  refine agO (h2 A ad fr pi ρ σ P s Q XX _ E S h (λx aX aF aO bq cw hQ=>?_) hx);have:=hq x aX aF aO bq cw hQ
  cases hb:ck x<;>rw[hb] at this
  .simpa using wpAny_allTrue_Or_nil this
  .simpa using this
theorem Ĩ(h1:b9 an X F n ao aq sn a â)(jM:nT an X F n ao aq sn a â)(h2:rW an X F n ao aq sn .And b rest):rW an X F n ao aq sn .And (.and a b) (â::rest):=by
 refine d5 h2 λbA h2e h2t=>⟨by simp,λA ad fr pi ρ σ P s Q XX QQ E pos S h hq hx=>?_,λA ad fr pi ρ σ P s Q XX QQ E S h hq hx=>?_⟩
 .cases rest with
  |nil=>exact absurd rfl bA
  |cons r rs=>
   show aw _ _ (do
    let v <- eval â ad
    xE pos
    let t <- xw [v] (Gn v)
    match Wj.And,t with
    |.And,ap | .Or,ak=>bH v
    |U1,U2=>Wh pos .And (Wi (r::rs) ad)) QQ E s
   refine au (h1 A ad fr pi ρ σ P s _ XX _ E S h (λv x aX aF aO bq dC cw hQ=>?_) hx);have bo:=S.step bq cw;refine au (jx (au (gg (DB bo.hp dC λa8 bn=>?_))))
   cases hb:ck x with
   |true=>
    rw[hb,bw rfl] at hQ;refine h2e A ad fr pi ρ aO aX a8 Q XX QQ E pos (bo.xN bn) hQ (λCc y dw cg cC cL sN pO jv=>hq Cc y dw cg cC ((bq.trans bn.up).trans cL) sN pO jv) λfS x s' ex=>hx fS x s' (ex.after (bq.trans bn.up))
   |false=>
    rw[hb,if_neg (by simp)] at hQ;exact aC (hq v x aX a8 aO (bq.trans bn.up) dC (bo.hH bn) hQ)
 .refine agN (jM A ad fr pi ρ σ P s _ XX _ E S h (λx aX aF aO bq cw hQ=>?_) hx)
  cases hb:ck x with
  |true=>
   rw[hb,bw rfl] at hQ;exact h2t A ad fr pi ρ aO aX aF Q XX QQ E (S.step bq cw) hQ (λy dw cg cC cL pO jv=>hq y dw cg cC (bq.trans cL) pO jv) λfS x s' ex=>hx fS x s' (ex.after bq)
  |false=>
   rw[hb,if_neg (by simp)] at hQ;simp only[xu,if_false];have:=hq x aX aF aO bq cw hQ;rw[hb] at this;exact this
theorem ĩ(h1:b9 an X F n ao aq sn a â)(jM:nT an X F n ao aq sn a â)(h2:rW an X F n ao aq sn .Or b rest):rW an X F n ao aq sn .Or (.or a b) (â::rest):=by
 refine d5 h2 λbA h2e h2t=>⟨by simp,λA ad fr pi ρ σ P s Q XX QQ E pos S h hq hx=>?_,λA ad fr pi ρ σ P s Q XX QQ E S h hq hx=>?_⟩
 .cases rest with
  |nil=>exact absurd rfl bA
  |cons r rs=>
   show aw _ _ (do
    let v <- eval â ad
    xE pos
    let t <- xw [v] (Gn v)
    match Wj.Or,t with
    |.And,ap | .Or,ak=>bH v
    |U1,U2=>Wh pos .Or (Wi (r::rs) ad)) QQ E s
   refine au (h1 A ad fr pi ρ σ P s _ XX _ E S h (λv x aX aF aO bq dC cw hQ=>?_) hx);have bo:=S.step bq cw;refine au (jx (au (gg (DB bo.hp dC λa8 bn=>?_))))
   cases hb:ck x with
   |false=>
    rw[hb,if_neg (by simp)] at hQ;refine h2e A ad fr pi ρ aO aX a8 Q XX QQ E pos (bo.xN bn) hQ (λCc y dw cg cC cL sN pO jv=>hq Cc y dw cg cC ((bq.trans bn.up).trans cL) sN pO jv) λfS x s' ex=>hx fS x s' (ex.after (bq.trans bn.up))
   |true=>
    rw[hb,bw rfl] at hQ;exact aC (hq v x aX a8 aO (bq.trans bn.up) dC (bo.hH bn) hQ)
 .refine agO (jM A ad fr pi ρ σ P s _ XX _ E S h (λx aX aF aO bq cw hQ=>?_) hx)
  cases hb:ck x with
  |false=>
   rw[hb,if_neg (by simp)] at hQ;simp only[xu,if_false];exact h2t A ad fr pi ρ aO aX aF Q XX QQ E (S.step bq cw) hQ (λy dw cg cC cL pO jv=>hq y dw cg cC (bq.trans cL) pO jv) λfS x s' ex=>hx fS x s' (ex.after bq)
  |true=>
   rw[hb,bw rfl] at hQ;have:=hq x aX aF aO bq cw hQ;rw[hb] at this;exact this
theorem Ph{pos}(h:rW an X F n ao aq sn op e vals):b9 an X F n ao aq sn e (.BoolOp op vals pos):=
 λA ad fr pi ρ σ P s Q XX QQ E S he hq hx=>h.2.1 A ad fr pi ρ σ P s Q XX QQ E pos S he hq hx
theorem Pi{pos}(h:rW an X F n ao aq sn op e vals):nT an X F n ao aq sn e (.BoolOp op vals pos):=
 λA ad fr pi ρ σ P s Q XX QQ E S he hq hx=>wpAny_isTrue_BoolOp (h.2.2 A ad fr pi ρ σ P s Q XX QQ E S he hq hx)
theorem ym(h:ês.all fb=ak):(tF pos (p7 ês ad)).any (·.1)=ap:=by
 induction ês with
 |nil=>rfl
 |cons e es ih=>
  rw[xC,fM] at h;rw[yk h.1];show (ap||(tF pos (p7 es ad)).any (·.1))=ap;rw[ih h.2];rfl
theorem um(hs:ês.all fb=ak)(h:aw (aH an X.w) A (Wd (tF pos (p7 ês ad))) (λvs s'=>QQ ⟨vs,[]⟩ s') E s) :
  aw (aH an X.w) A (evalArgs f ak (tF pos (p7 ês ad)) []) QQ E s:=by
 cases ês with
 |nil=>
  show aw _ _ (Wd []>>=_) QQ E s;refine au (kD h (λvs s' h'=>?_) λU U x=>x);refine au (aC ?_);exact gg (au (aC (au (aC (aC h')))))
 |cons e es=>
  rw[xC,fM] at hs;rw[yk hs.1] at h ⊢;exact Calls.evalArgs_plain h
theorem AY{p pos}(hb:(f,u)∈lW)(hk:sn.lookup (aP f)=aj .globalImplicit)(hd:(aP f==("__debug__":aW))=ap)(hs:ês.all fb=ak)
  (h1:nU an X F n ao aq sn es ês) {XX:Prop}
  (hu:(∃i,u=.builtin i)\/∃T,u=.type T) (S:ct X n ao fr aq sn A ad pi ρ σ P s) (h:lU F X.gl es ρ σ Q XX)
  (hq:∀vs xs P' s' ay,Step (bO pi) P s P' s'->bp X.w P' vs xs->xs.length=es.length->ct X n ao fr aq sn A ad pi ρ ay P' s'->Q xs ay->aw (aH an X.w) A (call u vs) QQ E s')
  (hx:XX->∀x s',iu ao fr (bO pi) s x s'->E (.ref x) s'):aw (aH an X.w) A (eval (.Call (.Name (aP f) p) ês [] pos) ad) QQ E s:=by
 refine bm (S.bi _ hb) λm1 m2=>LX (kF (H4 S hk m1 m2 ?_) hd)
 have key:∀g,aw (aH an X.w) A (evalArgs g ak (tF pos (p7 ês ad)) []) (λa aF=>aw (aH an X.w) A (call u ([]++a.pos) a.kw) QQ E aF) E s:=λg=>
  um hs (h1 A ad fr pi ρ σ P s Q XX _ E pos S h (λvs xs P' s' ay st r l p hQ=>hq vs xs P' s' ay st r l (S.step st p) hQ) hx)
 rcases hu with ⟨i,rfl⟩ | ⟨T,rfl⟩
 .exact LY (ym hs) (key _)
 .exact PyProof.Rows.callWith_type (ym hs) (key _)
theorem nV(r:bp w P vs [x]):∃v,vs=[v]/\aA w P v x:=by
 match vs,r with
 |[v],r=>exact ⟨v,rfl,r.1⟩
 |U1::U2::U3,r=>exact nomatch r.2
theorem DO(r:bp w P vs [x,y]):∃u v,vs=[u,v]/\aA w P u x/\aA w P v y:=by
 cases vs with
 |nil=>exact r.elim
 |cons u vs=>(refine ar (nV r.2) λv av h=>?_;subst av);exact ⟨u,v,rfl,r.1,h⟩
theorem Ī(r:bp w P vs [x,y,z]):∃u v t,vs=[u,v,t]/\aA w P u x/\aA w P v y/\aA w P t z:=by
 cases vs with
 |nil=>exact r.elim
 |cons t vs=>(refine bX (DO r.2) λu v av c d=>?_;subst av);exact ⟨_,_,_,rfl,r.1,c,d⟩
def DP(an)(X:Cx)(f)(u):=∀A E P s QQ vs xs r,P.on s->A.handled=am->A.units+250<dD->bp X.w P vs xs->fX f xs=aj r->Gv X.w P s r QQ->aw (aH an X.w) A (call u vs) QQ E s
theorem uo(hg:∀xs,fX f xs=one g xs)(H:∀A E P s QQ v x r,P.on s->A.handled=am->A.units+250<dD->aA X.w P v x->g x=aj r->Gv X.w P s r QQ->aw (aH an X.w) A (call u [v]) QQ E s):DP an X f u:=
 λA E P s QQ vs xs r hp hh hu hr hv h=>by
  (refine ar (xV ((hg xs).symm.trans hv)) λx av hv2=>?_;subst av);(refine ar (nV hr) λv av rv=>?_;subst av);exact H A E P s QQ v x r hp hh hu rv hv2 h
theorem yn(hg:∀xs,fX f xs=am):DP an X f u:=λU U U U U U xs U U U U U hv U=>no ((hg xs).symm.trans hv)
theorem ī(hb:(f,u)∈lW):DP an X f u:=by
 have:∀p∈lW,DP an X p.1 p.2:=by
  refine gF.2 ⟨uo (g:=Hh) (λU=>rfl) λA E P s QQ v x r hp hh hu rv hv h=>Zw hp rv hv h,gF.2 ⟨(λA E P s QQ vs xs r hp hh hu hr hv h=>by
    cases xs with
    |nil=>exact no hv
    |cons x xs=>cases xs with
     |nil=>exact no hv
     |cons y xs=>cases xs with
      |cons=>cases y<;>exact no hv
      |nil=>cases y with
       |ty n=>
        refine bm (mK (show (if n="str" then Hi x else am)=aj r from hv)) λav hv=>?_;subst av;(refine bX (DO hr) λv z av r1 r2=>?_;subst av);cases r2.1;exact ÿ hp r1 hv h
       |_=>exact no hv),gF.2 ⟨uo (g:=allB) (λU=>rfl) λA E P s QQ v x r hp hh hu rv hv h=>?_,gF.2 ⟨uo (g:=anyB) (λU=>rfl) λA E P s QQ v x r hp hh hu rv hv h=>?_,gF.2 ⟨uo (g:=MI) (λU=>rfl) λA E P s QQ v x r hp hh hu rv hv h=>?_,gF.2 ⟨uo (g:=MG) (λU=>rfl) λA E P s QQ v x r hp hh hu rv hv h=>?_,gF.2 ⟨uo (g:=MH) (λU=>rfl) λA E P s QQ v x r hp hh hu rv hv h=>?_,gF.2 ⟨uo (g:=MJ) (λU=>rfl) λA E P s QQ v x r hp hh hu rv hv h=>?_,gF.2 ⟨uo (λU=>rfl) λA E P s QQ v x r hp hh hu rv hv h=>?_,gF.2 ⟨yn λU=>rfl,gF.2 ⟨yn λU=>rfl,gF.2 ⟨yn λU=>rfl,gF.2 ⟨yn λU=>rfl,gF.2 ⟨yn λU=>rfl,gF.2 ⟨yn λU=>rfl,λU h=>nomatch (h)⟩⟩⟩⟩⟩⟩⟩⟩⟩⟩⟩⟩⟩⟩⟩
  .cases x with
   |lst l=>have e:=mK hv;(have hz:=aZ e.2;cases hz);exact ă hp rv hh e.1 h
   |_=>exact no hv
  .cases x with
   |lst l=>have e:=mK hv;(have hz:=aZ e.2;cases hz);exact Ą hp rv hh e.1 h
   |_=>exact no hv
  .cases x with
   |lst l=>have e:=mK hv;(refine ar (g7.mp e.2) λss e1 az=>?_;subst az);exact Č hp rv e1 e.1 hh h
   |set l=>have e:=mK hv;(refine ar (g7.mp e.2) λss e1 az=>?_;subst az);exact č hp rv e1 e.1 hh h
   |_=>exact no hv
  .cases x with
   |tup l=>exact ð hp rv hh (jB ‹_›) hv h
   |lst l=>exact í hp rv hh (jB ‹_›) hv h
   |_=>exact no hv
  .cases x with
   |tup l=>(have hz:=aZ hv;cases hz);exact ý hp rv h
   |_=>exact no hv
  .cases x with
   |set l=>(have hz:=aZ hv;cases hz);exact Ā hp rv h
   |_=>exact no hv
  ·(have hz:=aZ hv;cases hz);exact þ hp rv h
 exact this _ hb
theorem Ĭ{p pos}(hb:(f,u)∈lW)(hu:(∃i,u=.builtin i)\/∃T,u=.type T)(hk:sn.lookup (aP f)=aj .globalImplicit)(hd:(aP f==("__debug__":aW))=ap)(hs:ês.all fb=ak)
  (h1:nU an X F n ao aq sn es ês):b9 an X F n ao aq sn (.bi f es) (.Call (.Name (aP f) p) ês [] pos):=λA ad fr pi ρ σ P s Q XX QQ E S h hq hx=>
 AY hb hk hd hs h1 hu S h (λvs xs P' s' ay st r l S' hQ=>by
  exact ar (fO.1 hQ) λr' oF xa=>ī hb _ _ _ _ _ _ _ _ S'.hp S'.hh (by have:=S'.un;exact vH ‹_›) r oF (S'.gv st hq xa)) hx
end
noncomputable def H7(e:bP):=e.ctorIdx != 16
theorem H8(h:H7 o=ak):attributeBase o name ad dG=dG:=by
 cases o<;>first | rfl | cases h
section
variable {an:dX}{X:Cx}{F:Calls}{n:Nat}{ao:bK}{aq:List (Option aW)}{sn:List (aW×di)}
theorem H9(hs:ês.all fb=ak)(hl:ês.length<30):((tF pos (p7 ês ad)).all (λx=>!x.1)&&(backToKw pos (keywordEach [] ad)).all (λx=>x.1.isSome)
   &&decide (ês.length+([]:List Keyword).length+(if ([]:List Keyword).isEmpty then 0 else 1)<30))=ak:=by
 have h1:(tF pos (p7 ês ad)).all (λx=>!x.1)=ak:=by
  clear hl
  induction ês with
  |nil=>rfl
  |cons e es ih=>
   rw[xC,fM] at hs;rw[yk hs.1];show (!ap&&(tF pos (p7 es ad)).all (λx=>!x.1))=ak;rw[ih hs.2];rfl
 have h2:(backToKw pos (keywordEach [] ad)).all (λx=>x.1.isSome)=ak:=rfl;rw[h1,h2];simp;assumption
noncomputable def DQ:=["startswith","endswith","split","strip","replace","join"]
def Pj(an)(X:Cx)(m):=(Slot "str" (aP m) ("str."++m)/\Lp (.builtin ("str."++m))=bH (.type "method_descriptor"))/\∀A E P s QQ u x vs xs r,P.on s->aA X.w P u (.str x)->bp X.w P vs xs->mL m x xs=aj r->cz r=ak->Gv X.w P s r QQ->aw (aH an X.w) A (call (.builtin ("str."++m)) (u::vs)) QQ E s
theorem ĭ(h:m∈DQ):Pj an X m:=by
 have:∀m∈DQ,Pj an X m:=by
  refine gF.2 ⟨⟨⟨F.slot_str_startswith,F.type_str_startswith⟩,λA E P s QQ u x vs xs r hp ru hr hv hf h=>?_⟩,gF.2 ⟨⟨⟨F.slot_str_endswith,F.type_str_endswith⟩,λA E P s QQ u x vs xs r hp ru hr hv hf h=>?_⟩,gF.2 ⟨⟨⟨F.slot_str_split,F.type_str_split⟩,λA E P s QQ u x vs xs r hp ru hr hv hf h=>?_⟩,gF.2 ⟨⟨⟨F.slot_str_strip,F.type_str_strip⟩,λA E P s QQ u x vs xs r hp ru hr hv hf h=>?_⟩,gF.2 ⟨⟨⟨F.slot_str_replace,F.type_str_replace⟩,λA E P s QQ u x vs xs r hp ru hr hv hf h=>?_⟩,gF.2 ⟨⟨⟨F.slot_str_join,F.type_str_join⟩,λA E P s QQ u x vs xs r hp ru hr hv hf h=>?_⟩,λU h=>nomatch (h)⟩⟩⟩⟩⟩⟩
  .cases xs with
   |nil=>exact no hv
   |cons y xs=>cases xs with
    |nil=>
     (refine ar (tW hv) λp av az=>?_;subst av;subst az);(refine ar (nV hr) λv av rv=>?_;subst av);exact ZL hp ru rv h
    |cons z xs=>cases xs with
     |cons=>exact no hv
     |nil=>
      (refine ar (Dc hv) λp av hv=>?_;subst av);(refine ar (rL hv) λi av hv=>?_;subst av);have e:=mK hv;(have hz:=aZ e.2;cases hz);(refine bX (DO hr) λv z av r1 r2=>?_;subst av);exact ZM hp ru r1 r2 e.1 h
  ·(refine ar (xV hv) λy av hv=>?_;subst av);(refine ar (tW hv) λp av az=>?_;subst av;subst az);(refine ar (nV hr) λv av rv=>?_;subst av);exact ZN hp ru rv h
  ·(refine ar (xV hv) λy av hv=>?_;subst av);(refine ar (Dc hv) λp av hv=>?_;subst av);have e:=MD hv;(have hz:=aZ e.2;cases hz);(refine ar (nV hr) λv av rv=>?_;subst av);exact ZQ hp ru rv (agP _▸e.1) (ed (f:=V.str)▸eT hf) h
  ·(refine ar (xV hv) λy av hv=>?_;subst av);(refine ar (tW hv) λp av az=>?_;subst av;subst az);(refine ar (nV hr) λv av rv=>?_;subst av);exact ZO hp ru rv h
  .cases xs with
   |nil=>exact no hv
   |cons y xs=>cases xs with
    |nil=>exact no hv
    |cons z xs=>cases xs with
     |nil=>exact no hv
     |cons t xs=>cases xs with
      |cons=>exact no hv
      |nil=>
       (refine ar (Dc hv) λa av hv=>?_;subst av);(refine ar (Dc hv) λb av hv=>?_;subst av);(refine ar (rL hv) λk av hv=>?_;subst av);refine bm (mK hv) λav hv=>?_;subst av;have e:=MD hv;(have hz:=aZ e.2;cases hz);have h0:=(xy).1 (agP _▸e.1);(refine xQ (Ī hr) λv z t av r1 r2 r3=>?_;subst av);exact ZT hp ru r1 r2 r3 h0.1 h0.2 (eT hf) h
  ·(refine ar (xV hv) λy av hv=>?_;subst av);(refine ar (W5 hv) λl av hv=>?_;subst av);(refine ar (g7.mp hv) λss e1 az=>?_;subst az);(refine ar (nV hr) λv av rv=>?_;subst av);exact ZS hp ru rv e1 (eT hf) h
 exact this m h
theorem Į{gJ pos}(hm:m∈DQ)(h0:b9 an X F n ao aq sn o ô)(h1:nU an X F n ao aq sn es ês)(ho:H7 ô=ak)(hs:ês.all fb=ak)(hl:ês.length<30)(nf:(gJ.endLine==pos.line)=ak) :
  b9 an X F n ao aq sn (.sm m o es) (.Call (.Attribute ô (aP m) gJ) ês [] pos):=λA ad fr pi ρ σ P s Q XX QQ E S h hq hx=>by
 (refine bm (ĭ (an:=an) (X:=X) hm) λz1 sm=>?_;obtain ⟨slot,KC⟩:=z1);refine Wk (H8 ho) (H9 hs hl) nf PySem.F.plainAttrs_str slot KC ?_;refine h0 A ad fr pi ρ σ P s _ XX _ E S h (λv x aX aF aO bq dC cw hQ=>?_) hx;(refine ar (Xi hQ) λsx av hQ=>?_;subst av);have bo:=S.step bq cw;refine ⟨dC.Mk,λa ha=>?_,?_⟩
 .obtain ⟨t,rfl⟩:=dC.strOf;cases ha
 refine LY (ym hs) (um hs (h1 A ad fr pi ρ aO aX aF _ XX _ E pos bo hQ (λvs xs dc a8 cb bn iV l₂ iW ng=>?_) λfS x s' ex=>hx fS x s' (ex.after bq)));refine bx (fO.1 ng) λr hr hf jv=>?_;have bG:=bo.step bn iW;exact sm _ _ _ _ _ _ _ _ _ _ bG.hp (dC.mono bn.le) iV hr hf (bG.gv (bq.trans bn) hq jv)
theorem į{P:PH}{s:bf}{E:ah}{K:Bool->bf->Prop}(hp:P.on s)(hc:∃a o vs,ad.code=.ref a/\P.obj a=aj o/\o.data=.fields vs)(h:∀b,K b s):aw (aH an X.w) A (inMainModule ad) K E s:=by
 refine kJ hc λa o vs h1 h2 h3=>?_;unfold inMainModule;rw[h1,if_neg (by simp)];refine au (agh (hp.obj _ _ h2) h3 ?_)
 split
 .exact au (zS (aC (h _)))
 .exact aC (h _)
set_option maxHeartbeats 1000000 in
theorem İ{k pos}(h1:b9 an X F n ao aq sn e ê)(hs:fb ê=ak)(hk:displayRoad k [ê]=.oneByOne):b9 an X F n ao aq sn (.rG e) (.Set [ê] k pos):=λA ad fr pi ρ σ P s Q XX QQ E S h hq hx=>by
 rw[arm_eval_Set,hk,yk hs];refine au (jx (au (į S.hp S.cd λb=>?_)));refine au (HI ?_);have cR:Step [] P s P {s with heap:=s.heap.push (hO X.w)}:=yi S.hp;have S0:=S.xN cR;have hz0:({s with heap:=s.heap.push (hO X.w)}:bf).heap.objs.size=s.heap.objs.size+1:=fq ..;refine au (gg ?_);show aw _ _ (CT (evalAll [(do let v <- eval ê ad;xE pos;bH v:ig aU)]) _) _ _ _;refine au (au (au (h1 A ad fr pi ρ σ P _ _ XX _ E S0 h (λv x aX aF aO bq dC cw hQ=>?_) λfS x s' ex=>hx fS x s' (ex.after cR.up))));have bo:=S0.step bq cw;refine au (jx (aC ?_));refine au (gg ?_);refine aC (aC ?_);have wO:aX.obj s.heap.objs.size=am:=bq.eo (S.hp.fresh (aV s.heap.objs.size)) (by rw[hz0];exact iF _)
 have qT:s.heap.objs.size∉bO pi:=λhm=>by
  have:=(S.er.par.lt _ hm).1;exact absurd this (gf _)
 have gR:bS X.w aX aF.heap s.heap.objs.size []:=((rQ P s.heap).keeps λo e'=>bq.keep _ _ qT e').mono bq.le;refine au (gg ?_);refine au (au (au ?_));refine H1 bo.hp wO gR dC hQ.1 (by have:=bo.un;exact vH ‹_›) (λU=>by simp) λb a8 bn JZ=>aC (aC ?_)
 have stt:Step (bO pi) P s aX a8:=(cR.up.trans (bq.mono (mu':=s.heap.objs.size::bO pi) λa ha=>cJ _ ha) |>.trans (bn.mono λa ha=>by simp at ha;subst ha;simp)).old λa ha=>by
  rcases cD.mp ha with rfl | ha
  .exact .inr (aV _)
  .exact .inl ha
 have ad0:dq X.w aX X.C a8.heap pi aO:=cw.keep (.refl aX) (λa ha=>(cw.lt a ha).2) λa ha o e'=>bn.keep a o (by simp;intro he;subst he;exact qT ha) e';refine bx (JZ.G6 wO) λo ho hd rr=>?_
 have fin:QQ (.ref s.heap.objs.size) a8:=by
  refine hq _ _ _ a8 aO (stt.freeze ho (λvs nn e'=>absurd e' (hd vs nn)) (aV _) wO) rr (ad0.keep (PH.nF wO) (λa ha=>?_) λa ha o e'=>e') hQ.2;show (if a=s.heap.objs.size then aj o else aX.obj a)=_;rw[if_neg (λhe:a=s.heap.objs.size=>qT (he▸ha))];exact (cw.lt a ha).2
 refine aC (au ?_);refine vi (a:=agA) ?_ (aC (aC fin));rfl
end
theorem Pk:lh (.type "object") "t"=bH am:=by rw[tn,tq];kernel_rfl
theorem Ia:lh (.type "object") "k"=bH am:=by rw[tn,tq];kernel_rfl
section
variable {an:dX}{X:Cx}{F:Calls}{n:Nat}{ao:bK}{aq:List (Option aW)}{sn:List (aW×di)}
theorem DR(S:ct X n ao fr aq sn A ad pi ρ σ P s)(hn:aq[i]?=aj (aj nm))(h:kM ρ i=ak):∃ai da,pi=aj (ai,da)/\Lk ad s.heap nm (.ref ai):=by
 unfold kM at h
 cases e:ρ[i]? with
 |none=>rw[e] at h;exact aY h
 |some x=>
  rw[e] at h
  cases x with
  |self=>exact S.er.slot i nm _ hn e
  |_=>exact aY h
theorem Ib(hp:P.on s)(h:dq X.w P X.C s.heap (aj (ai,da)) (aj (t,k))):∃mA tv kv,s.heap.Inst ai X.C mA/\mA "t"=aj tv/\aA X.w P tv (.lst t)/\mA "k"=aj kv/\aA X.w P kv (.int k)/\∀n,n≠("t":aW)->n≠("k":aW)->mA n=am:=by
 (refine fy h λz1 b1 b2 zr=>?_;refine lR z1 λo a1 a2 a3 a4 a5=>?_;refine mH zr λm tv kv c1 c2 c3 c4 zr=>?_;refine bm zr λc5 c6=>?_);exact ⟨m,tv,kv,⟨o,hp.obj _ _ a1,a2,a3,.inr ⟨da,a4,b1,c1⟩⟩,c2,c3,c4,c5,c6⟩
theorem ı{ex:Bool}(hp:P.on s)(hc:ul X P)(h:dq X.w P X.C s.heap (aj (ai,da)) (aj (t,k)))(hQ:∀v,aA X.w P v (.lst t)->QQ v {s with toks:=s.toks+1}):aw (aH an X.w) A (getAttr (.ref ai) "t" ex) QQ E s:=by
 (refine mH (Ib hp h) λmA tv kv I c2 c3 c4 zr=>?_;obtain ⟨c5,c6⟩:=zr);refine a9 hc.obj λcd hC=>?_;obtain ⟨hh,g,d,tk,os⟩:=s;exact load_attr (hp.obj _ _ hC) (hc.ns.ns hp) hc.ga hc.tt Pk I c2 (by obtain ⟨a,rfl⟩:=c3.vx;rfl) (hQ tv c3)
theorem Pl{ex:Bool}(hp:P.on s)(hc:ul X P)(h:dq X.w P X.C s.heap (aj (ai,da)) (aj (t,k)))(hQ:∀v,aA X.w P v (.int k)->QQ v {s with toks:=s.toks+1}):aw (aH an X.w) A (getAttr (.ref ai) "k" ex) QQ E s:=by
 (refine mH (Ib hp h) λmA tv kv I c2 c3 c4 zr=>?_;obtain ⟨c5,c6⟩:=zr);refine a9 hc.obj λcd hC=>?_;obtain ⟨hh,g,d,tk,os⟩:=s;exact load_attr (hp.obj _ _ hC) (hc.ns.ns hp) hc.ga hc.kk Ia I c4 (by obtain ⟨_,rfl⟩:=c5;rfl) (hQ kv c5)
theorem Ĳ{nm:aW}{p pos}(hn:aq[i]?=aj (aj nm))(hd:(nm==("__debug__":aW))=ap):b9 an X F n ao aq sn (.rD i) (.Attribute (.Name nm p) "t" pos):=λA ad fr pi ρ σ P s Q XX QQ E S h hq hx=>by
 (refine bm (Hk h) λhs zr=>?_;obtain ⟨t,k,rfl,hQ⟩:=zr);(refine eZ (DR S hn hs) λai da av hl=>?_;subst av);rw[agQ];refine au (kF (hl.load S.er.kind ?_) hd);have st:Step [] P s P {s with toks:=s.toks+1}:=.ll S.hp (dT _);refine au (jx (au (gg (ı S.hp S.gl.cls S.er.par λv rv=>?_))));exact au (aC (aC (hq v _ P _ _ st.up rv (S.hH st) hQ)))
theorem ĳ{nm:aW}{p pos}(hn:aq[i]?=aj (aj nm))(hd:(nm==("__debug__":aW))=ap):b9 an X F n ao aq sn (.rH i) (.Attribute (.Name nm p) "k" pos):=λA ad fr pi ρ σ P s Q XX QQ E S h hq hx=>by
 (refine bm (Hk h) λhs zr=>?_;obtain ⟨t,k,rfl,hQ⟩:=zr);(refine eZ (DR S hn hs) λai da av hl=>?_;subst av);rw[agQ];refine au (kF (hl.load S.er.kind ?_) hd);have st:Step [] P s P {s with toks:=s.toks+1}:=.ll S.hp (dT _);refine au (jx (au (gg (Pl S.hp S.gl.cls S.er.par λv rv=>?_))));exact au (aC (aC (hq v _ P _ _ st.up rv (S.hH st) hQ)))
theorem Ĵ(h:fX "_KIND" es=aj r):∃x y,es=[.str x]/\AA x=aj y/\r=.str y:=by
 (refine ar (xV (g:=MK) h) λx av h=>?_;subst av)
 cases x with
 |str s=>refine ar (g7.mp h) λy e1 e2=>?_;exact ⟨s,y,rfl,e1,e2.symm⟩
 |_=>exact no h
theorem ĵ{p pos}(h1:b9 an X F n ao aq sn e ê)(hk:sn.lookup (aP "_KIND")=aj .globalImplicit):b9 an X F n ao aq sn (.bi "_KIND" [e]) (.Subscript (.Name (aP "_KIND") p) ê pos):=λA ad fr pi ρ σ P s Q XX QQ E S h hq hx=>by
 rw[Wg];refine ar S.gl.WP λkd lL hK=>?_;refine au (kF (AW S hk lL ?_) (by decide));refine au (gg (h1 A ad fr pi ρ σ P s _ XX _ E S h (λv x aX aF aO bq dC cw hQ=>?_) hx));refine ar (fO.1 hQ) λr hr hQ2=>?_;(refine bX (Ĵ hr) λx' y e1 e2 az=>?_;subst az);injection e1 with e1 _
 subst e1;have bo:=S.step bq cw;refine ar (hK an aF (PH.on.down bq.le bo.hp)) λf hm hf=>?_;refine ar (hf x' y e2) λu hu ru=>?_;obtain ⟨t,rfl⟩:=dC.strOf;have st:Step [] aX aF aX {aF with toks:=aF.toks+1}:=.ll bo.hp (dT _);refine au (jx (H6 hm.typeIs slot_dict_getitem.lookup (wpAny_getItem_of (k:=aJ x') (by simp[strKind,aU.isStrOf]) hm hu ?_)));exact hq u _ aX _ aO (bq.trans st.up) (ru.mono bq.le) (bo.hH st) hQ2
end
def vX(f:String):=(match eS f with | some d=>!d.cj | _=>ap)&&(f != "law")
def vY(f:String):Bool:=match eS f with | some d=>d.cj | _=>ap
structure lB(an:dX)(X:Cx)(F:Calls)(n:Nat)(ao:bK):Prop where
 fn:∀f vs Q XX,vX f=ak->F f vs am Q XX->∃a,X.mg (aP f)=aj (.ref a)/\
  ∀P s A fr args QQ E,gw X P->P.on s->rV X->A.handled=am->A.units+260+60*n<dD->A.depth+6*n<xD->A.frames=aj fr->(∀a o,ao.get? a=aj o->P.obj a=aj o)->s.heap.FunFrames ao fr->
   bp X.w P args vs->(∀v x P' s',Step [] P s P' s'->aA X.w P' v x->Q x am->QQ v s')->(XX->∀x s',iu ao fr [] s x s'->E (.ref x) s')->aw (aH an X.w) A (call (.ref a) args) QQ E s
 me:∀m t k Q XX,vY m=ak->F m [] (aj (t,k)) Q XX->∃a,X.mN (aP m)=aj (.ref a)/\
  ∀P s A fr ai da QQ E,gw X P->P.on s->rV X->A.handled=am->A.units+260+60*n<dD->A.depth+6*n<xD->A.frames=aj fr->(∀a o,ao.get? a=aj o->P.obj a=aj o)->s.heap.FunFrames ao fr->(∀e∈fr,∀L,e.frame=aj L->L≠da)->
   dq X.w P X.C s.heap (aj (ai,da)) (aj (t,k))->(∀v x P' s' ay,Step [da] P s P' s'->aA X.w P' v x->dq X.w P' X.C s'.heap (aj (ai,da)) ay->Q x ay->QQ v s')->(XX->∀x s',iu ao fr [da] s x s'->E (.ref x) s')->aw (aH an X.w) A (call (.ref a) [.ref ai]) QQ E s
section
theorem iu.mono(e:iu ao fr mu s x s')(h:∀a∈mu,a∈mu'):iu ao fr mu' s x s':=⟨e.exc,e.keep.mono h,e.gens,e.os,e.toks⟩
theorem Ķ{p pos}(C:lB an X F n ao)(sQ:vX f=ak)(hk:sn.lookup (aP f)=aj .globalImplicit)(hd:(aP f==("__debug__":aW))=ap)(hs:ês.all fb=ak)
  (h1:nU an X F n ao aq sn es ês) (ha:X.mg (aP f)=aj (.ref a)) (ho:∀P,gw X P->P.obj a=aj o) (KT:o.data=.func fd):b9 an X F n ao aq sn (.call f es) (.Call (.Name (aP f) p) ês [] pos):=λA ad fr pi ρ σ P s Q XX QQ E S h hq hx=>by
 refine LX (kF (AW S hk ha ?_) hd);refine Wl (o:=o) (fd:=fd) ?_;refine um hs (h1 A ad fr pi ρ σ P s _ XX _ E pos S h (λvs xs aX aF aO bq dC l₁ cw hF=>?_) hx);have bo:=S.step bq cw;refine ar (C.fn f xs _ XX sQ hF) λa' qW hC=>?_;obtain rfl:=iG (aZ (ha.symm.trans qW));refine ⟨⟨bo.hp.obj _ _ (ho aX bo.gl),KT⟩,?_⟩;exact hC aX aF A fr vs QQ E bo.gl bo.hp bo.bi bo.hh (by have:=bo.un;exact xP ‹_›) (by have:=bo.dp;exact Mw ‹_›) bo.fs bo.bs bo.ff dC (λv x dc a8 bn iV hQ=>hq v x dc a8 aO (bq.trans bn.up) iV (bo.hH bn) hQ) λfS x s' ex=>hx fS x s' ((ex.mono λa ha=>by cases ha).after bq)
theorem ķ{p gJ pos}(C:lB an X F n ao)(sQ:vY m=ak)(hn:aq[i]?=aj (aj nm))(hd:(nm==("__debug__":aW))=ap)(nf:(gJ.endLine==pos.line)=ak)(FO:aP m≠"t")(hmk:aP m≠"k")(hB:lh (.type "object") (aP m)=bH y)
  (ha:X.mN (aP m)=aj (.ref a)) (ho:∀P,gw X P->P.obj a=aj o) (KT:o.data=.func fd) (hoc:o.cls=.type "function"):b9 an X F n ao aq sn (.kG m i) (.Call (.Attribute (.Name nm p) (aP m) gJ) [] [] pos):=λA ad fr pi ρ σ P s Q XX QQ E S h hq hx=>by
 refine bm (jV.1 h) λhs h=>?_;refine bm (jV.1 h) λhσ hF=>?_;(refine eZ (DR S hn hs) λai da av hl=>?_;subst av)
 cases σ with
 |none=>cases hσ
 |some tk=>
  obtain ⟨t,k⟩:=tk;rw[arm_eval_Call];refine au (kF (hl.load S.er.kind ?_) hd);refine au (jx ?_);have wP:agR ak (.Name nm p) ad gJ pos=bH pos:=by unfold agR;simp[nf]
  unfold methodCall;show aw _ _ (CT (xw [lg ai] (calleeOf ak (.Name nm p) ad (.ref ai) (aP m))) _) _ _ _;refine au (gg ?_);unfold calleeOf;rw[bw rfl];(refine mH (Ib S.hp S.er.par) λmA tv kv I c2 c3 c4 zr=>?_;obtain ⟨c5,c6⟩:=zr);have hc:=S.gl.cls;refine a9 hc.obj λcd hC=>?_;have go:∀s:bf,s=s->True:=λU U=>trivial;refine ar (C.me m t k _ XX sQ hF) λa' qW K5=>?_;obtain rfl:=iG (aZ (ha.symm.trans qW))
  have call:aw (aH an X.w) A (callWith pos (.ref a) [.ref ai] (tF pos (p7 [] ad)) []) QQ E s:=by
   refine Wl (o:=o) (fd:=fd) (um (X:=X) rfl (aC ⟨⟨S.hp.obj _ _ (ho P S.gl),KT⟩,?_⟩));exact K5 P s A fr ai da QQ E S.gl S.hp S.bi S.hh (by have:=S.un;exact xP ‹_›) (by have:=S.dp;exact Mw ‹_›) S.fs S.bs S.ff (λe he L hL pS=>S.fd e he L hL (by simp[bO,pS])) S.er.par (λv x dc a8 cb bn iV iW hQ=>hq v x dc a8 cb bn iV iW hQ) λfS x s' ex=>hx fS x s' ex
  obtain ⟨hh,g,d,tk,os⟩:=s;refine method_of (S.hp.obj _ _ hC) (hc.ns.ns S.hp) hc.ga hc.gh ha (S.hp.obj _ _ (ho P S.gl)) hoc hB I (c6 _ FO hmk) ?_;exact au (vi wP call)
end
def nW(an)(X)(F)(n)(ao)(aq)(sn)(own)(it)(ît:bP):=
 ∀A ad fr pi ρ σ P s Q XX QQ E,
  ct X n ao fr aq sn A ad pi ρ σ P s->IW F X.gl it ρ σ Q XX->
  (∀I fp items P' s' ay,Step (bO pi) P s P' s'->uh P' s s' fp->hV an X.w own fp I items P' s'.heap->dq X.w P' X.C s'.heap pi ay->Q items ay->QQ (.ref I) s')->
  (XX->∀x s',iu ao fr (bO pi) s x s'->E (.ref x) s')->aw (aH an X.w) A (eval ît ad) (λx aF=>aw (aH an X.w) A (nD x) QQ E aF) E s
theorem uh.before{P':PH}{s aF s':bf}{fp:List bc}(h:uh P' aF s' fp)(hz:s.heap.objs.size<=aF.heap.objs.size):uh P' s s' fp:=λb hb=>⟨aB hz (h b hb).1,(h b hb).2⟩
section
theorem Ĺ{x:PE}{xe:bP}(h1:b9 an X F n ao aq sn x xe):nW an X F n ao aq sn ap (.e x) xe:=λA ad fr pi ρ σ P s Q XX QQ E S h hq hx=>by
 refine h1 A ad fr pi ρ σ P s _ XX _ E S h (λv x aX aF aO st r p hQ=>?_) hx;have bo:=S.step st p;have fin:∀l,Q l aO->yh an X.w aX aF l QQ:=λl hl I fp P' s' co pV hI it=>hq I fp l P' s' aO (st.trans co.up) (pV.before st.size) (it.Mp hI) (bo.hH co) hl
 cases x with
 |lst l=>exact Ov bo.hp r (fin l hQ)
 |tup l=>exact Ow bo.hp r (fin l hQ)
 |set l=>exact Oy bo.hp r λl' pm=>fin l' (hQ l' pm)
 |_=>exact hQ.elim
theorem ĺ{x:PE}{xe:bP}{p pos}(hk:sn.lookup (aP "enumerate")=aj .globalImplicit)(hs:fb xe=ak)(h1:b9 an X F n ao aq sn x xe):nW an X F n ao aq sn ak (.enum x) (.Call (.Name (aP "enumerate") p) [xe] [] pos):=λA ad fr pi ρ σ P s Q XX QQ E S h hq hx=>by
 refine AY (f:="enumerate") (u:=.type "enumerate") (es:=[x]) (Q:=λvs aO=>match vs with | [v]=>ex (jE v) λl=>Q (xW l) aO | _=>False) (ph (by kernel_rfl)) hk aM (by simp[hs]) (qq hs h1 qp) (.inr ⟨_,rfl⟩) S ?_ (λvs xs aX aF aO st r l bo hQ=>?_) hx
 .exact h
 .obtain ⟨x',rfl⟩:∃x',xs=[x']:=Ad.mp l;(refine ar (Hj hQ) λl av q=>?_;subst av);(refine ar (nV r) λu av ru=>?_;subst av);exact Z8 bo.hp ru λv P' s' co hi=>hi _ _ _ λI fp gC de u0 pV it=>hq I fp _ gC de aO (st.trans u0.up) (pV.before st.size) it (bo.hH u0) q
theorem Ļ{α:Type}{l:List α}(h:l.length=2):∃a b,l=[a,b]:=by
 cases l with
 |nil=>cases h
 |cons a l=>exact a9 (Ad.1 (Wm h)) λb e=>⟨a,b,aE _ e⟩
theorem ļ{x y:PE}{xe ye:bP}{p pos}(hk:sn.lookup (aP "zip")=aj .globalImplicit)(hs:fb xe=ak)(hs2:fb ye=ak)(h1:b9 an X F n ao aq sn x xe)(h2:b9 an X F n ao aq sn y ye) :
  nW an X F n ao aq sn ak (.zip x y) (.Call (.Name (aP "zip") p) [xe,ye] [] pos):=λA ad fr pi ρ σ P s Q XX QQ E S h hq hx=>by
 refine AY (f:="zip") (u:=.type "zip") (es:=[x,y]) (Q:=λvs aO=>match vs with | [v,u]=>ex (rJ v) λl=>ex (jE u) λm=>Q (tX l m) aO | _=>False) (ph (by kernel_rfl)) hk aM (by simp[hs,hs2]) (qq hs h1 (qq hs2 h2 qp)) (.inr ⟨_,rfl⟩) S ?_ (λvs xs aX aF aO st r l bo hQ=>?_) hx
 .exact h
 .refine jk (Ļ l) λx' y' cI=>?_;subst cI;(refine ar (Xj hQ) λl av q=>?_;subst av);(refine ar (Hj q) λm av q=>?_;subst av);(refine bX (DO r) λa b av ra rb=>?_;subst av);exact å bo.hp ra rb λv P' s' co hi=>hi _ _ _ λI fp gC de u0 pV it=>hq I fp _ gC de aO (st.trans u0.up) (pV.before st.size) it (bo.hH u0) q
theorem Ľ{x:PE}{xe:bP}{p pos}(hk:sn.lookup (aP "range")=aj .globalImplicit)(hs:fb xe=ak)(h1:b9 an X F n ao aq sn x xe):nW an X F n ao aq sn ap (.range x) (.Call (.Name (aP "range") p) [xe] [] pos):=λA ad fr pi ρ σ P s Q XX QQ E S h hq hx=>by
 refine AY (f:="range") (u:=.type "range") (es:=[x]) (Q:=λvs aO=>match vs with | [v]=>ex (fu v) λm=>cz v=ak/\Q (tY m) aO | _=>False) (ph (by kernel_rfl)) hk aM (by simp[hs]) (qq hs h1 qp) (.inr ⟨_,rfl⟩) S ?_ (λvs xs aX aF aO st r l bo hQ=>?_) hx
 .exact h
 .obtain ⟨x',rfl⟩:∃x',xs=[x']:=Ad.mp l;(refine bx (AD hQ) λm av ft q=>?_;subst av);(refine ar (nV r) λu av ru=>?_;subst av);exact Z5 bo.hp ru (eT ft) λv s' co hz hi=>hi s' _ _ _ (λU U e=>e) co.on λI fp gC de u0 pV hI it=>hq I fp _ gC de aO (st.trans (co.trans u0).up) (pV.before (aB st.size hz)) (it.Mp hI) (bo.hH (co.trans u0)) q
end
def yo(h:bK)(a):=∃o,h.get? a=aj o/\∀vs,o.data≠.fields vs
theorem Pm{ao h h':bK}:∀{fr:List cP},h.FunFrames ao fr->(∀e∈fr,∀L,e.frame=aj L->∀o,h.get? L=aj o->(∀vs,o.data≠.fields vs)->yo h' L)->h'.FunFrames ao fr
 |[],U1,U2=>trivial
 |e::fr,x,k=>by
  (refine d5 x λa z2 r=>?_;obtain ⟨L,o,b,c,d,f⟩:=z2);refine ar (k e (by simp) L b o d f) λo' d' f'=>?_;exact ⟨a,⟨L,o',b,c,d',f'⟩,Pm r λe' oH=>k e' (cJ _ oH)⟩
section
variable {X:Cx}{n:Nat}{ao:bK}{fr:List cP}{aq:List (Option aW)}{sn:List (aW×di)}{A:fL}{ad:cP}{pi:Option (bc×bc)}{ρ aS:bj}{σ ay:Pz}{P P':PH}{s s':bf}{an:dX}{E:ah}{QQ:Unit->bf->Prop}{loc:Bool}
theorem ct.change(S:ct X n ao fr aq sn A ad pi ρ σ P s)(st:Step mu P s P' s')(hm:∀a∈mu,yo s'.heap a\/s.heap.objs.size<=a)(er:gY X.w P' X.C ad aq aS ay pi s'):ct X n ao fr aq sn A ad pi aS ay P' s':=
 ⟨st.on,S.gl.mono st.le,S.bi,er,S.sn,S.gd,S.bd,S.hh,S.un,S.dp,S.fs,λa o e=>st.le.obj a o (S.bs a o e),Pm S.ff λe he L hL o ho hn=>by
  by_cases gS:L∈mu
  .exact (hm L gS).elim (λx=>x) λhz=>absurd (dE ho) (fZ.mpr hz)
  .exact ⟨o,st.keep L o gS ho,hn⟩,S.fd,kJ S.cd λa o vs h1 h2 h3=>⟨a,o,vs,h1,st.le.obj _ _ h2,h3⟩⟩
def nX(ad:cP)(a):=a=ad.locals\/∃nm,ad.cells.lookup nm=aj a
theorem gY.oW(e:gY w P C ad aq ρ σ pi s)(h:nX ad a):yo s.heap a/\jm ad a/\P.obj a=am/\a<s.heap.objs.size:=by
 rcases h with rfl | ⟨nm,h⟩
 .refine Hd e.loc λm o es ep ho hd r=>?_;exact ⟨⟨o,ho,λvs hv=>by rw[hv] at hd;cases hd⟩,e.oV,e.nH,dE ho⟩
 ·(refine tT (e.cell nm a h) λz1 hP U U hf=>?_;obtain ⟨v,o,ho,hd⟩:=z1);exact ⟨⟨o,ho,λvs hv=>by rw[hv] at hd;cases hd⟩,hf,hP,dE ho⟩
def stK(loc)(sn:List (aW×di))(nm):=sn.lookup nm=aj .local\/(loc=ap/\sn.lookup nm=aj .cell)
def yp(loc)(ad:cP)(a):=a=ad.locals\/(loc=ap/\∃nm,ad.cells.lookup nm=aj a)
theorem yp.own(h:yp loc ad a):nX ad a:=h.imp (λx=>x) λx=>x.2
theorem ct.store(S:ct X n ao fr aq sn A ad pi ρ σ P s)(hn:aq[i]?=aj (aj nm))(hk:stK loc sn nm)(rv:aA X.w P v x)
  (h:∀mu s',Step mu P s P s'->(∀a∈mu,yp loc ad a)->ct X n ao fr aq sn A ad pi (ρ.set i (.v x)) σ P s'->QQ () s'):aw (aH an X.w) A (GP ad nm v) QQ E s:=by
 refine H3 S.er S.hp hn ?_ rv λmu s' st hm U U er=>?_
 .rw[S.kind];exact hk.imp (λx=>x) λx=>⟨x.2,S.er.eF nm (.inl (by rw[S.kind];exact x.2))⟩
 .have gA:∀a∈mu,yp loc ad a:=λa ha=>by
   rcases hm a ha with x | ⟨x,y⟩
   .exact .inl x.1
   .refine .inr ⟨?_,nm,y⟩
    rcases hk with z | z
    .rw[S.kind,z] at x;(replace x:=aZ x;cases x)
    .exact z.1
  exact h mu s' st gA (S.change st (λa ha=>.inl (er.oW (gA a ha).own).1) er)
inductive pj(loc:Bool)(aq:List (Option aW))(sn:List (aW×di)):aa->List bP->Prop
 |nil:pj loc aq sn [] []
 |cons {i nm pos is es}:aq[i]?=aj (aj nm)->stK loc sn nm->pj loc aq sn is es->pj loc aq sn (i::is) (.Name nm pos::es)
inductive lC(loc:Bool)(aq:List (Option aW))(sn:List (aW×di)):jT->bP->Prop
 |one {i nm pos}:aq[i]?=aj (aj nm)->stK loc sn nm->lC loc aq sn (.one i) (.Name nm pos)
 |many {is elts x1 pos}:pj loc aq sn is elts->lC loc aq sn (.many is) (.Tuple elts x1 pos)
theorem pj.length(h:pj loc aq sn is es):(p8 es ad).length=is.length:=by
 induction h with
 |nil=>rfl
 |cons U1 U2 U3 ih=>exact aE (·+1) ih
theorem pj.star(h:pj loc aq sn is es):(p8 es ad).findIdx? (·.1)=am:=by
 induction h with
 |nil=>rfl
 |cons U1 U2 U3 ih=>exact Vm.trans (aE (gT (·+1)) ih)
theorem ľ(h:pj loc aq sn is es):∀{vs:List aU} {l:af} {ρ:bj} {s:bf},ct X n ao fr aq sn A ad pi ρ σ P s->bp X.w P vs l->is.length=l.length->
  (∀mu s',Step mu P s P s'->(∀a∈mu,yp loc ad a)->ct X n ao fr aq sn A ad pi ((is.zip l).foldl (λr p=>r.set p.1 (.v p.2)) ρ) σ P s'->QQ () s')->aw (aH an X.w) A (LZ ((p8 es ad).map (·.2)) vs) QQ E s:=by
 induction h with
 |nil=>
  intro vs l ρ s S r hl hq
  cases l with
  |nil=>cases (show vs=[] from r);exact agS (hq [] s (.refl S.hp) (λa h=>by cases h) S)
  |cons=>simp at hl
 |@cons i nm pos is es h1 h2 h3 ih=>
  intro vs l ρ s S r hl hq
  cases l with
  |nil=>simp at hl
  |cons x l=>
   cases vs with
   |nil=>exact r.elim
   |cons v vs=>
    refine bm r λrv rs=>?_;show aw _ A (LZ (xF (.Name nm pos) ad::(p8 es ad).map (·.2)) (v::vs)) QQ E s;refine agT (GQ (S.store h1 h2 rv λmu aF st hm bo=>?_));refine ih bo rs (by simpa using hl) λmu' a8 co gA bG=>?_;refine hq (mu++mu') a8 ((st.mono λx h=>my _ h).trans (co.mono λx h=>nw _ h)) (λa ha=>(dZ.mp ha).elim (hm a) (gA a)) ?_;simpa using bG
theorem Ŀ(S:ct X n ao fr aq sn A ad pi ρ σ P s)(ht:lC loc aq sn t te)(r:aA X.w P v x)(hb:gM t x ρ K)
  (h:∀mu aS s',Step mu P s P s'->(∀a∈mu,yp loc ad a\/s.heap.objs.size<=a)->ct X n ao fr aq sn A ad pi aS σ P s'->K aS->QQ () s'):aw (aH an X.w) A (xF te ad v) QQ E s:=by
 cases ht with
 |@one i nm pos h1 h2=>exact GQ (S.store h1 h2 r λmu s' st hm S'=>h mu _ s' st (λa ha=>.inl (hm a ha)) S' hb)
 |@many is elts x1 pos hN=>
  cases x with
  |tup l=>
   (refine a9 r λdz zr=>?_;refine fy zr λzq dzS h5 h4=>?_;subst zq);refine bm hb λhl hK=>?_;rw[agU];refine au (jx ?_);unfold unpack;rw[show (p8 elts ad).length=dz.vs.size by rw[hN.length,hl,<- h4.length];simp,hN.star];refine au (gg (hU (agV S.hh ⟨dz.o,S.hp.obj _ _ dzS.obj,dzS.cls,dz.n,dzS.data⟩ λh' he hz ht=>?_)));have st:Step [s.heap.objs.size] P s P {s with heap:=h'}:=Step.extBut S.hp (S.hp.fresh (aV _)) he hz ht;have bo:ct X n ao fr aq sn A ad pi ρ σ P {s with heap:=h'}:=S.xN (st.old λa ha=>.inr (by simp at ha;subst ha;exact aV _));refine kD (ľ (E:=E) (QQ:=QQ) hN bo h4 hl λmu a8 co hm bG=>?_) (λU U q=>q) λU U e=>e;refine h (s.heap.objs.size::mu) _ a8 ((st.mono λa ha=>by simp at ha;simp[ha]).trans (co.mono λa ha=>cJ _ ha)) (λa ha=>?_) bG hK
   rcases cD.mp ha with rfl | ha
   .exact .inr (aV _)
   .exact .inl (hm a ha)
  |_=>exact hb.elim
end
theorem Pn{α β:Type}{f:α->β->ig (ForInStep β)}(g:β->α->β):∀{l:List α} (c:β),(∀x∈l,∀c,f x c=bH (.yield (g c x)))->Ga l c f=bH (l.foldl g c)
 |[],c,U1=>rfl
 |x::l,c,h=>by
  rw[CJ,h x dh,Wn];exact Pn g _ λy hy=>h y (cJ _ hy)
section
noncomputable def pn(ad:cP)(cs:List (aW×bc))(x:aW×di):=if x.2 ==.free then (x.1,(ad.cells.lookup x.1).getD 0)::cs else cs
def lY(ad:cP)(scope:jN):=scope.names.foldl (pn ad) []
theorem Po(h:∀x∈scope.names,x.2=.free->∃c,ad.cells.lookup x.1=aj c):closureFor scope ad=bH (lY ad scope):=by
 simp only[closureFor];rw[Pn (pn ad) [] λx hx c=>?_] at ⊢
 .rfl
 .obtain ⟨nm,k⟩:=x
  by_cases hk:k=.free
  .subst hk;refine a9 (h _ hx rfl) λa ha=>?_;simp only at ha;simp[cellOf,ha,pn]
  .have Cp:(k==agW)=ap:=by simpa using hk
   simp[Cp,pn]
set_option tactic.hygienic true in
theorem DS:∀(aq:List (aW×di)) cs,(∀x∈aq,x.2=.free->∃c,ad.cells.lookup x.1=aj c)->(∀nm c,cs.lookup nm=aj c->ad.cells.lookup nm=aj c)->
  (∀nm c,(aq.foldl (pn ad) cs).lookup nm=aj c->ad.cells.lookup nm=aj c)/\(∀x∈aq,x.2=.free->(aq.foldl (pn ad) cs).lookup x.1≠am)/\(∀nm,cs.lookup nm≠am->(aq.foldl (pn ad) cs).lookup nm≠am)
 |[]=>λcs U h1=>⟨h1,(λx hx=>absurd hx (by simp)),λnm h=>h⟩
 |(nm,k)::aq=>λcs h0 h1=>by
  rw[xn]
  by_cases hk:k=.free
  .subst hk;refine a9 (h0 _ dh rfl) λa ha=>?_;simp only at ha;have e:pn ad cs (nm,.free)=(nm,a)::cs:=by simp[pn,ha]
   rw[e]
   refine d5 (DS aq ((nm,a)::cs) (λx hx=>h0 x (cJ _ hx)) (λbL c hc=>by
    rw[mE] at hc
    split at hc
    .rename_i hh;replace hc:=aZ hc;subst hc;rw[cq hh];exact ha
    .exact h1 _ _ hc)) λq1 q2 q3=>?_
   refine ⟨q1,λx hx hf=>?_,λbL hn=>q3 bL ?_⟩
   .rcases cD.mp hx with rfl | hx
    .exact q3 nm (by simp[mE])
    .exact q2 x hx hf
   .rw[mE];split
    .simp
    .exact hn
  .have Cp:(k==agW)=ap:=by simpa using hk
   have e:pn ad cs (nm,k)=cs:=by simp[pn,Cp]
   rw[e];refine d5 (DS aq cs (λx hx=>h0 x (cJ _ hx)) h1) λq1 q2 q3=>?_;refine ⟨q1,λx hx hf=>?_,q3⟩
   rcases cD.mp hx with rfl | hx
   .exact absurd hf hk
   .exact q2 x hx hf
noncomputable def gP(sn:List (aW×di))(cn:List (aW×di)):List (aW×di):=cn.map λ(n,k)=>if (k ==.free&&ak&&sn.lookup n==aj .cell) then (n,.cell) else (n,k)
noncomputable def iw(aq:List (Option aW))(cn:List (aW×di))(own:List aW):=
 aq.map (λo=>o.bind λnm=>if cn.lookup nm=aj .free then aj nm else am)++own.map aj
set_option tactic.hygienic true in
theorem DT{cn:List (aW×di)}(h:cn.lookup nm=aj k):(nm,k)∈cn:=by
 induction cn with
 |nil=>cases h
 |cons x r ih=>
  obtain ⟨a,b⟩:=x;rw[mE] at h
  split at h
  .rename_i hh;replace h:=aZ h;subst h;rw[cq hh];exact dh
  .exact cJ _ (ih h)
set_option tactic.hygienic true in
theorem Pp:(gP sn cn).lookup nm=(cn.lookup nm).map λk=>if (k ==.free&&ak&&sn.lookup nm==aj .cell) then .cell else k:=by
 induction cn with
 |nil=>rfl
 |cons x r ih=>
  obtain ⟨a,b⟩:=x;show List.lookup nm ((if (b ==.free&&ak&&sn.lookup a==aj .cell)=ak then (a,.cell) else (a,b))::gP sn r)=_
  by_cases hn:nm=a
  .subst hn
   split
   .rename_i hh;simp only[mE,f0,Ae,hh,if_true]
   .rename_i hh;simp only[mE,f0,Ae];rw[if_neg hh]
  .have hb:(nm==a)=ap:=by simpa using hn
   split<;>simp only[mE,hb]<;>exact ih
structure uq(sn:List (aW×di))(scope:jN)(own:List aW):Prop where
 kind:scope.kind=.function
 cell:∀x∈scope.names,x.2≠.cell
 free:∀x∈scope.names,x.2=.free->(sn.lookup x.1=aj .cell\/sn.lookup x.1=aj .free)
 cd:∀x∈scope.names,x.2=.free->(x.1==("__classdict__":aW))=ap
 WI:∀nm∈own,scope.names.lookup nm=aj .local
 gn:own.Nodup
 loc:∀x∈scope.names,x.2=.local->scope.names.lookup x.1=aj .local
end
section
variable {X:Cx}{n:Nat}{ao:bK}{fr:List cP}{aq:List (Option aW)}{sn:List (aW×di)}{A:fL}{ad:cP}{pi:Option (bc×bc)}{ρ:bj}{σ:Pz}{P:PH}{s:bf}{scope:jN}{own:List aW}{C:bc}
theorem uq.cells(H:uq sn scope own)(S:ct X n ao fr aq sn A ad pi ρ σ P s):∀x∈scope.names,x.2=.free->∃c,ad.cells.lookup x.1=aj c:=λx hx hf=>by
 refine S.er.eF x.1 ?_;rw[S.kind];exact H.free x hx hf
set_option tactic.hygienic true in
theorem ct.comp(S:ct X n ao fr aq sn A ad pi ρ σ P s)(H:uq sn scope own)(hC:∃m,s.heap.Ns C m)(zD:P.obj C=am)(xb:C∉bO pi)(hCc:∀nm c,ad.cells.lookup nm=aj c->c≠C)(hCf:jm ad C) :
  ct X n ao fr (iw aq scope.names own) (gP sn scope.names) A (tG scope (lY ad scope) C ad) pi (ρ.map im++cU own.length .un) σ P s:=by
 have Uo:(Wo scope ad).names=gP sn scope.names:=by
  unfold Wo gP;simp only[S.er.kind,S.kind];rfl
 refine d5 (DS (ad:=ad) scope.names [] (H.cells S) (λnm c h=>by cases h)) λq1 q2 q3=>?_;have Uw:∀nm,cP.kindOf (tG scope (lY ad scope) C ad) nm=(gP sn scope.names).lookup nm:=λnm=>by rw[<- Uo];rfl
 have Fu:∀nm,((gP sn scope.names).lookup nm=aj .cell\/(gP sn scope.names).lookup nm=aj .free)->scope.names.lookup nm=aj .free:=λnm h=>by
  rw[Pp] at h
  cases hl:scope.names.lookup nm with
  |none=>rw[hl] at h;simp at h
  |some k=>
   rw[hl] at h;have hm:=DT hl
   cases k<;>simp at h ⊢
   exact H.cell _ hm rfl
 refine ⟨S.hp,S.gl,S.bi,?_,Uo,S.gd,S.bd,S.hh,S.un,S.dp,S.fs,S.bs,S.ff,S.fd,S.cd⟩;have cc:=S.er.len;refine ⟨H.kind,by simp[iw,cc],hC,zD,xb,λnm c hc=>?_,λnm h=>?_,hCf,λnm bL c h1 h2=>S.er.apart nm bL c (q1 _ _ h1) (q1 _ _ h2),?_,?_,S.er.par⟩
 .refine tT (S.er.cell nm c (q1 _ _ hc)) λa b c' d e=>?_;exact ⟨a,b,hCc nm c (q1 _ _ hc),d,e⟩
 .rw[Uw] at h;have:=DT (Fu nm h)
  cases hc:(lY ad scope).lookup nm with
  |none=>exact absurd hc (q2 _ this rfl)
  |some c=>exact ⟨c,hc⟩
 ·
  have split:∀(i:Nat) nm,(iw aq scope.names own)[i]?=aj (aj nm)->(i<aq.length/\aq[i]?=aj (aj nm)/\scope.names.lookup nm=aj .free)\/(aq.length<=i/\own[i-aq.length]?=aj nm):=λi nm h=>by
   unfold iw at h
   by_cases hi:i<aq.length
   .left
    rw[xG (by simpa using hi),lQ] at h
    cases hn:aq[i]? with
    |none=>rw[hn] at h;simp at h
    |some o=>
     rw[hn] at h
     cases o with
     |none=>simp at h
     |some bL=>
      simp only[Ae,agX,L0] at h
      split at h
      .rename_i hf;replace h:=aZ h;subst h;exact ⟨hi,rfl,hf⟩
      .cases h
   .right
    rw[Af (by simpa using GR hi),lQ] at h;refine ⟨GR hi,?_⟩;simp only[ed] at h
    cases hn:own[i-aq.length]? with
    |none=>rw[hn] at h;simp at h
    |some o=>rw[hn] at h;simpa using h
  intro i j nm h1 h2
  rcases split i nm h1 with ⟨a1,a2,a3⟩ | ⟨a1,a2⟩<;>rcases split j nm h2 with ⟨b1,b2,b3⟩ | ⟨b1,b2⟩
  .exact S.er.uniq i j nm a2 b2
  .have:=H.WI nm (k8 b2);rw[a3] at this;(replace this:=aZ this;cases this)
  .have:=H.WI nm (k8 a2);rw[b3] at this;(replace this:=aZ this;cases this)
  .refine a9 (p4.mp a2) λc1 c2=>?_;refine a9 (p4.mp b2) λd1 d2=>?_
   have key:i-aq.length=j-aq.length:=by
    rcases Ld (i-aq.length) (j-aq.length) with h | h | h
    .exact absurd (c2.trans d2.symm) (Le.mp H.gn _ _ c1 d1 h)
    .exact h
    .exact absurd (d2.trans c2.symm) (Le.mp H.gn _ _ d1 c1 h)
   exact (zP a1).symm.trans ((aE (·+aq.length) key).trans (zP b1))
 .intro i nm sl h1 h2;unfold iw at h1
  by_cases hi:i<aq.length
  .rw[xG (by simpa using hi),lQ] at h1;rw[xG (by simp;lia),lQ] at h2
   cases hn:aq[i]? with
   |none=>rw[hn] at h1;simp at h1
   |some o=>
    rw[hn] at h1
    cases o with
    |none=>simp at h1
    |some bL=>
     simp only[Ae,agX,L0] at h1
     split at h1
     .rename_i hf
      replace h1:=aZ h1;subst h1;have hm:=DT hf
      have lk:∀{v},Lk ad s.heap bL v->Lk (tG scope (lY ad scope) C ad) s.heap bL v:=λ{v} x=>by
       have cx:=H.free _ hm rfl
       cases x with
       |loc m a b c=>rw[S.kind] at a;simp only[a] at cx;rcases cx with h | h<;>cases h
       |eF c a b d=>
        refine .eF c ?_ ?_ d
        .rw[Uw,Pp,hf]
         by_cases w8:sn.lookup bL=aj .cell
         .left;simp[w8]
         .right
          refine ⟨?_,H.cd _ hm rfl⟩;have:(sn.lookup bL==aj di.cell)=ap:=by simpa using w8
          simp[this]
        .cases s6:(lY ad scope).lookup bL with
         |none=>exact absurd s6 (q2 _ hm rfl)
         |some c'=>have:=q1 _ _ s6;rw[b] at this;exact this.symm▸s6
      cases hρ:ρ[i]? with
      |none=>rw[hρ] at h2;simp at h2
      |some wZ=>
       rw[hρ] at h2;simp only[Ae,L0] at h2;subst h2;have:=S.er.slot i bL wZ hn hρ
       cases wZ with
       |un=>assumption
       |v x=>refine ar this λv a b=>?_;exact ⟨v,lk a,b⟩
       |ol l=>trivial
       |os l=>trivial
       |self=>refine eZ this λai da a b=>?_;exact ⟨ai,da,a,lk b⟩
     .cases h1
  .rw[Af (by simp;lia)] at h2;simp only[L1] at h2
   split at h2
   .replace h2:=aZ h2;subst h2;trivial
   .cases h2
end
noncomputable def fP:Sl->Bool
 |.ol U1=>ap
 |.os U1=>ap
 |_=>ak
structure lZ(fr:List cP)(ad:cP)(pi:Option (bc×bc))(P:PH)(s:bf)(a:bc):Prop where
 lt:a<s.heap.objs.size
 out:P.obj a=am
 pd:a∉bO pi
 own:¬nX ad a
 fr:∀e∈fr,e.frame≠aj a
section
variable {X:Cx}{n:Nat}{ao:bK}{fr:List cP}{aq:List (Option aW)}{sn:List (aW×di)}{A:fL}{ad:cP}{pi:Option (bc×bc)}{ρ aS:bj}{σ ay:Pz}{P P':PH}{s s':bf}{an:dX}{E:ah}{mu:List bc}
theorem lZ.step(x:lZ fr ad pi P s a)(st:Step mu P s P' s'):lZ fr ad pi P' s' a:=⟨b7 x.lt st.size,st.eo x.out x.lt,x.pd,x.own,x.fr⟩
theorem ŀ(S:ct X n ao fr aq sn A ad pi ρ σ P s):∀e∈fr,∀L,e.frame=aj L->L<s.heap.objs.size:=by
 have:∀{l:List cP},s.heap.FunFrames ao l->∀e∈l,∀L,e.frame=aj L->L<s.heap.objs.size:=by
  intro l
  induction l with
  |nil=>intro _ e he;cases he
  |cons e' l ih=>
   (intro bu e he L hL;(refine d5 bu λU z2 r=>?_;obtain ⟨L',o,h1,h2,h3,_⟩:=z2))
   rcases cD.mp he with rfl | he
   .obtain rfl:=aZ (h1.symm.trans hL);exact dE h3
   .exact ih r e he L hL
 exact this S.ff
theorem ct.jR(S:ct X n ao fr aq sn A ad pi ρ σ P s)(h1:s.heap.objs.size<=a)(h2:a<s'.heap.objs.size)(h3:P'.obj a=am):lZ fr ad pi P' s' a:=
 ⟨h2,h3,λh=>gf _ (b7 (S.er.par.lt a h).1 h1),λh=>gf _ (b7 (S.er.oW h).2.2.2 h1),λe he h=>gf _ (b7 (ŀ S e he a h) h1)⟩
theorem gY.C2(e:gY w P C ad aq ρ σ pi s)(df:ρ.all fP=ak)(st:Step mu P s P' s')(gS:∀a∈mu,a∈bO pi\/¬nX ad a)(hp:dq w P' C s'.heap pi ay):gY w P' C ad aq ρ ay pi s':=by
 have out:∀a o,nX ad a->a∉bO pi->s.heap.get? a=aj o->s'.heap.get? a=aj o:=λa o ho ha e'=>st.keep a o (λhm=>(gS a hm).elim ha λhz=>hz ho) e';have bM:ad.locals<s.heap.objs.size:=a9 e.loc λm hm=>hm.lt;have lk:∀{nm v},Lk ad s.heap nm v->Lk ad s'.heap nm v:=λx=>x.keep (λo h=>out _ o (.inl rfl) e.kI h) λc o hc h=>out c o (.inr ⟨_,hc⟩) (e.cell _ c hc).2.2.2.1 h;refine ⟨e.kind,e.len,?_,st.eo e.nH bM,e.kI,λnm c hc=>?_,e.eF,e.oV,e.apart,e.uniq,λi nm sl h1 h2=>?_,hp⟩
 .exact At e.loc λm o es ep ho r=>⟨m,o,es,ep,out _ o (.inl rfl) e.kI ho,r⟩
 ·(refine fy (e.cell nm c hc) λz1 b c' d=>?_;obtain ⟨v,o,ho,r⟩:=z1);exact ⟨⟨v,o,out c o (.inr ⟨_,hc⟩) d.1 ho,r⟩,st.eo b (dE ho),c',d⟩
 .have:=e.slot i nm sl h1 h2;have Ur:=eE.mp df sl (k8 h2)
  cases sl with
  |un=>trivial
  |v x=>refine ar this λv a b=>?_;exact ⟨v,lk a,b.mono st.le⟩
  |ol l=>exact aY Ur
  |os l=>exact aY Ur
  |self=>refine eZ this λai da x y=>?_;exact ⟨ai,da,x,lk y⟩
theorem ct.C2(S:ct X n ao fr aq sn A ad pi ρ σ P s)(df:ρ.all fP=ak)(st:Step mu P s P' s')(gS:∀a∈mu,a∈bO pi\/lZ fr ad pi P s a)(hz:dq X.w P' X.C s'.heap pi ay):ct X n ao fr aq sn A ad pi ρ ay P' s':=
 ⟨st.on,S.gl.mono st.le,S.bi,S.er.C2 df st (λa ha=>(gS a ha).imp (λx=>x) λx=>x.own) hz,S.sn,S.gd,S.bd,S.hh,S.un,S.dp,S.fs,λa o e=>st.le.obj a o (S.bs a o e),
  vV S.ff λe he L hL o ho=>st.keep L o (λhm=>(gS L hm).elim (S.fd e he L hL) λx=>x.fr e he hL) ho,S.fd,kJ S.cd λa o vs h1 h2 h3=>⟨a,o,vs,h1,st.le.obj _ _ h2,h3⟩⟩
theorem ct.G7(S:ct X n ao fr aq sn A ad pi ρ σ P s)(st:Step mu P s P' s')(gS:∀a∈mu,a∉bO pi):dq X.w P' X.C s'.heap pi σ:=
 S.er.par.keep st.le (λa ha=>st.eo (S.er.par.lt a ha).2 (S.er.par.lt a ha).1) λa ha o h=>st.keep a o (λhm=>gS a hm ha) h
theorem Pq(h:ρ.all fP=ak):(ρ.set i (.v x)).all fP=ak:=by
 rw[eE] at h ⊢;intro sl hs
 rcases agY hs with h1 | h1
 .exact h sl h1
 .subst h1;rfl
theorem Ł(h:ρ.all fP=ak)(hb:gM t v ρ K):gM t v ρ (λaS=>aS.all fP=ak/\K aS):=by
 have fold:∀(l:List (Nat×V)) (ρ:bj),ρ.all fP=ak->(l.foldl (λr p=>r.set p.1 (.v p.2)) ρ).all fP=ak:=by
  intro l
  induction l with
  |nil=>intro ρ h;exact h
  |cons p l ih=>intro ρ h;exact ih _ (Pq h)
 cases t with
 |one i=>exact ⟨Pq h,hb⟩
 |many is=>
  cases v with
  |tup l=>exact ⟨hb.1,fold _ _ h,hb.2⟩
  |_=>exact hb.elim
theorem ł:(ρ.map im++cU k Sl.un).all fP=ak:=by
 rw[xH,fM];constructor
 .rw[L2,eE];intro sl _;cases sl<;>rfl
 .rw[List.all_replicate];split<;>rfl
end
section
inductive nY(an:dX)(X:Cx)(F:Calls)(n:Nat)(ao:bK)(aq:List (Option aW))(sn:List (aW×di)):List PE->List bP->Prop
 |nil:nY an X F n ao aq sn [] []
 |cons {t te ts tes}:nT an X F n ao aq sn t te->nY an X F n ao aq sn ts tes->nY an X F n ao aq sn (t::ts) (te::tes)
theorem Ń(h:nY an X F n ao aq sn ts tes):∀{A:fL} {ad:cP} {fr:List cP} {pi:Option (bc×bc)} {ρ:bj} {σ:Pz} {P:PH} {s:bf} {K:Bool->Pz->Prop} {QQ:Bool->bf->Prop} {E:ah},
  ct X n ao fr aq sn A ad pi ρ σ P s->TW F X.gl ts ρ σ K False->(∀b P' s' ay,Step (bO pi) P s P' s'->dq X.w P' X.C s'.heap pi ay->K b ay->QQ b s')->
  aw (aH an X.w) A (Ga tes ak λc r=>if r=ak then do let ok <- isTrue c ad (eval c ad);bH (L3 ok) else bH (L3 r)) QQ E s:=by
 have rest:∀(tes:List bP) {A:fL} {ad:cP} {s:bf} {QQ:Bool->bf->Prop} {E:ah},QQ ap s->aw (aH an X.w) A (Ga tes ap λc r=>if r=ak then do let ok <- isTrue c ad (eval c ad);bH (L3 ok) else bH (L3 r)) QQ E s:=by
  intro tes
  induction tes with
  |nil=>intro A ad s QQ E h;exact aC h
  |cons t tes ih=>
   intro A ad s QQ E h;rw[CJ];simp only[xu,if_false,Wn];exact ih h
 induction h with
 |nil=>
  intro A ad fr pi ρ σ P s K QQ E S h hq;exact aC (hq ak P s σ (.refl S.hp) S.er.par h)
 |@cons t te ts tes h1 h2 ih=>
  intro A ad fr pi ρ σ P s K QQ E S h hq;rw[CJ];refine au (au ?_);refine h1 A ad fr pi ρ σ P s _ False _ _ S h (λx aX aF aO st p hx=>aC ?_) λf=>f.elim
  cases ht:ck x with
  |true=>
   rw[bw ht] at hx;exact ih (S.step st p) hx λb dc a8 cb bn iW hb=>hq b dc a8 cb (st.trans bn) iW hb
  |false=>
   rw[if_neg (by rw[ht];decide)] at hx;exact rest tes (hq ap aX aF aO st p hx)
end
noncomputable def gG(bk:Bool)(elt:bP)(gens:List L4)(scope:jN)(pos:vj):bP:=if bk=ak then .SetComp elt gens scope pos else .ListComp elt gens scope pos
noncomputable def AZ(bk:Bool)(elt:bP)(acc:aU)(ad:cP):ig Unit:=
 if bk=ak then (do let v <- eval elt ad;xE elt.pos;let _ <- call (.builtin "set.add") [acc,v]) else (do let _ <- call (.builtin "list.append") [acc,<- eval elt ad])
noncomputable def ur(t it:bP)(ifs:List bP)(I:aU)(ad:cP)(body:ig Unit)(fin:ig Fin):ig Fin:=do
 xE it.pos
 match <- mD I with
 |none=>bH (.done .next)
 |some v=>
  VW t I v
  xF t ad v
  let mut ok:=ak
  for c in ifs do
   if ok then ok <- isTrue c ad (eval c ad)
  if ok then body
  fin
noncomputable def DU(ce:bP)(fE:bP)(acc:aU)(ad:cP):ig Unit:=do
 let x <- eval fE ad
 xE fE.pos
 let x <- vp fE ad x
 let _ <- runOwn (.compStart ce 1 (<- xw [x] (nD x)) acc ad) ad
theorem ń(bk)(elt t it)(ifs)(scope)(pos)(I acc)(ad) :
  vq (gG bk elt [⟨t,it,ifs,0⟩] scope pos) 0 I acc ad=ur t it ifs I ad (AZ bk elt acc ad) (again (.compLoop (gG bk elt [⟨t,it,ifs,0⟩] scope pos) 0 I acc ad)):=by cases bk<;>rfl
theorem Ņ(bk)(elt t it)(ifs)(g)(scope)(pos)(I acc)(ad) :
  vq (gG bk elt [g,⟨t,it,ifs,0⟩] scope pos) 1 I acc ad=ur t it ifs I ad (AZ bk elt acc ad) (again (.compLoop (gG bk elt [g,⟨t,it,ifs,0⟩] scope pos) 1 I acc ad)):=by cases bk<;>rfl
theorem ņ(bk)(elt t it t' fE)(ifs qP)(scope)(pos)(I acc)(ad) :
  vq (gG bk elt [⟨t,it,ifs,0⟩,⟨t',fE,qP,0⟩] scope pos) 0 I acc ad=ur t it ifs I ad (DU (gG bk elt [⟨t,it,ifs,0⟩,⟨t',fE,qP,0⟩] scope pos) fE acc ad)
   (again (.compLoop (gG bk elt [⟨t,it,ifs,0⟩,⟨t',fE,qP,0⟩] scope pos) 0 I acc ad)):=by
 unfold ur DU;simp only[LS,Wn];cases bk<;>rfl
def AccAt(bk)(w)(P)(h)(D)(acc):=if bk=ak then bS w P h D (eH acc) else LstAt w P h D acc
theorem AccAt.keeps(x:AccAt bk w P h D acc)(hp:P.le P')(hk:∀o,h.get? D=aj o->h'.get? D=aj o):AccAt bk w P' h' D acc:=by
 cases bk with
 |true=>exact (bS.keeps (h':=h') x hk).mono hp
 |false=>exact LstAt.keeps x hp hk
theorem Ps(l)(v):eH (l++[v])=dI (eH l) v:=by
 unfold eH;rw[VE];rfl
section
structure vZ(X:Cx)(n:Nat)(ao:bK)(fr:List cP)(aq:List (Option aW))(sn:List (aW×di))(A:fL)(ad:cP)(pi:Option (bc×bc))(bk:Bool)(D:bc)(c:CS)(P:PH)(s:bf):Prop where
 aG:ct X n ao fr aq sn A ad pi c.ρ c.σ P s
 pl:c.ρ.all fP=ak
 jR:lZ fr ad pi P s D
 acc:AccAt bk X.w P s.heap D c.acc
 ok:dO bk c.acc=ak
abbrev yq(ad:cP)(pi)(D):=bO pi++[ad.locals,D]
def A0(an)(X)(n)(ao)(fr)(aq)(sn)(A)(ad)(pi)(bk:Bool)(D:bc)(G:CS->(CS->Prop)->Prop)(body:ig Unit):=
 ∀c P s K QQ E,vZ X n ao fr aq sn A ad pi bk D c P s->G c K->
  (∀c' P' s',Step (yq ad pi D) P s P' s'->vZ X n ao fr aq sn A ad pi bk D c' P' s'->K c'->QQ () s')->aw (aH an X.w) A body QQ E s
theorem Pt(h1:b9 an X F n ao aq sn elt gm) :
  A0 an X n ao fr aq sn A ad pi bk D (λc K=>EW F X.gl elt c.ρ c.σ (λv ay=>dO bk (c.acc++[v])=ak/\K ⟨c.ρ,ay,c.acc++[v]⟩) False) (AZ bk gm (.ref D) ad):=λc P s K QQ E C h hq=>by
 have hD:∀{aX aF},Step (bO pi) P s aX aF->AccAt bk X.w aX aF.heap D c.acc:=λst=>C.acc.keeps st.le λo e=>st.keep D o C.jR.pd e
 have fin:∀{aX aF a8 aO v},Step (bO pi) P s aX aF->dq X.w aX X.C aF.heap pi aO->dO bk (c.acc++[v])=ak/\K ⟨c.ρ,aO,c.acc++[v]⟩->Step [D] aX aF aX a8->AccAt bk X.w aX a8.heap D (c.acc++[v])->QQ () a8:=λ{aX aF a8 aO v} st p hK bn ha=>by
  have bo:=C.aG.step st p;have Cj:=C.jR.step st;refine hq ⟨c.ρ,aO,c.acc++[v]⟩ aX a8 ((st.mono λa h=>by simp[h]).trans (bn.mono λa h=>by simp at h;simp[h])) ⟨bo.C2 C.pl bn (λa h=>.inr (by simp at h;subst h;exact Cj)) (bo.G7 bn λa h=>by simp at h;subst h;exact Cj.pd),C.pl,Cj.step bn,ha,hK.1⟩ hK.2
 cases bk with
 |false=>
  refine au (h1 A ad fr pi c.ρ c.σ P s _ False _ E C.aG h (λv x aX aF aO st r p hx=>?_) λf=>f.elim);refine au (OZ st.on (C.jR.step st).out (hD st) r (by simpa[dO] using hx.1) λa8 bn ha=>aC ?_);exact fin st p hx bn ha
 |true=>
  refine au (h1 A ad fr pi c.ρ c.σ P s _ False _ E C.aG h (λv x aX aF aO st r p hx=>?_) λf=>f.elim);have sV:(c.acc++[x]).all dS=ak/\(eH (c.acc++[x])).length<=kK:=by simpa[dO] using hx.1
  have KB:=C.aG.un;refine au (jx (au (O0 st.on (C.jR.step st).out (hD st) r (eE.mp sV.1 x (by simp)) (vH ‹_›) (λhn=>?_) λa8 bn ha=>aC ?_)))
  .have:=sV.2;rw[Ps] at this;unfold dI at this;rw[if_neg (by simpa using hn)] at this;simp[kK] at this;exact cr ‹_›
  .refine fin st p hx bn ?_;show bS X.w aX a8.heap D (eH (c.acc++[x]));rw[Ps];exact ha
end
section
theorem Pu{te ite ce:bP}{ifs:List PE}{gp:List bP}{d:Nat}{G:CS->(CS->Prop)->Prop}{body:ig Unit}{own:Bool}
  (ht:lC ak aq sn t te) (oU:nY an X F n ao aq sn ifs gp) (hb:A0 an X n ao fr aq sn A ad pi bk D G body) (lj:mT te=ak\/(own=ap/\nS te=ak))
  (tK:∀I,vq ce d (.ref I) (.ref D) ad=ur te ite gp (.ref I) ad body (again (.compLoop ce d (.ref I) (.ref D) ad)))
  (Uj:∀I,(aH an X.w).den (.compLoop ce d (.ref I) (.ref D) ad)=(vq ce d (.ref I) (.ref D) ad).onRaise (λx=>do zW x ad;L5 x))
  (KB:∀I,A.under (.compLoop ce d (.ref I) (.ref D) ad)=A) (Up:∀I,(agZ ce d (.ref I) (.ref D) ad).quiet=ak) :
  ∀items fp I c P s K R,vZ X n ao fr aq sn A ad pi bk D c P s->hV an X.w own fp I items P s.heap->(∀b∈fp,lZ fr ad pi P s b/\b≠D)->
   mM (λx dv gK=>gM t x dv.ρ λbt=>TW F X.gl ifs bt dv.σ (λb cC=>if b=ak then G ⟨bt,cC,dv.acc⟩ gK else gK ⟨bt,cC,dv.acc⟩) False) items c K->
   (∀c' P' s',Step (yq ad pi D++fp) P s P' s'->vZ X n ao fr aq sn A ad pi bk D c' P' s'->K c'->R (.ok .next) s')->p6 (aH an X.w) A (.compLoop ce d (.ref I) (.ref D) ad) R s:=by
 intro items
 induction items with
 |nil=>
  intro fp I c P s K R C it dL hf hR;refine Aa ?_;rw[Uj,KB,tK];refine L6 ?_;refine au (jx (au ?_));refine it.2.2 P s A _ _ (.refl P) C.aG.hp .refl (λb h=>(dL b h).1.out) C.aG.hh λs' st=>aC ?_;refine hR c P s' (st.mono λa h=>nw _ h) ⟨C.aG.C2 C.pl st (λa h=>.inr (dL a h).1) (C.aG.G7 st λa h=>(dL a h).1.pd),C.pl,C.jR.step st,C.acc.keeps st.le λo e=>st.keep D o (λh=>(dL D h).2 rfl) e,C.ok⟩ hf
 |cons x items ih=>
  intro fp I c P s K R C it dL hf hR;refine Aa ?_;rw[Uj,KB,tK];refine L6 ?_;refine au (jx (au ?_));refine kD (it.2.2 P s A _ te (λv aF=>∃aX,Step fp P s aX aF/\aA X.w aX v x/\hV an X.w own fp I items aX aF.heap) (.refl P) C.aG.hp .refl (λb h=>(dL b h).1.out) C.aG.hh lj λv aX aF bq r wN=>⟨aX,bq,r,wN⟩) (λr aF h=>?_) λU U e=>e;(refine ar h ?_;clear h;intro v av h;subst av);refine au (kD h (λU aF h=>?_) λU U e=>e);refine bx h λaX bq rv wN=>?_;have FD:=C.jR.step bq;have Cj:AccAt bk X.w aX aF.heap D c.acc:=C.acc.keeps bq.le λo e=>bq.keep D o (λh=>(dL D h).2 rfl) e;have Ki:∀b∈fp,lZ fr ad pi aX aF b/\b≠D:=λb h=>⟨(dL b h).1.step bq,(dL b h).2⟩;refine au (Ŀ (C.aG.C2 C.pl bq (λa h=>.inr (dL a h).1) (C.aG.G7 bq λa h=>(dL a h).1.pd)) ht rv (Ł C.pl hf) λmu bt a8 bn hm bG hρ=>?_);have gA:∀a∈mu,a=ad.locals\/aF.heap.objs.size<=a:=λa ha=>(hm a ha).imp (λx=>x.elim (λy=>y) λy=>by cases y.1) λx=>x;have adZ:Step (yq ad pi D) aX aF aX a8:=bn.old λa ha=>(gA a ha).imp (λx=>by simp[x]) λx=>x;have TR:∀b o,b<aF.heap.objs.size->¬nX ad b->aF.heap.get? b=aj o->a8.heap.get? b=aj o:=λb o hb ho e=>bn.keep b o (λh=>(gA b h).elim (λx=>ho (.inl x)) λx=>gf _ (b7 hb x)) e;have aeS:AccAt bk X.w aX a8.heap D c.acc:=Cj.keeps (.refl _) λo e=>TR D o FD.lt FD.own e;have J3:hV an X.w own fp I items aX a8.heap:=wN.frame (.refl _) λb hb o e=>TR b o (Ki b hb).1.lt (Ki b hb).1.own e;have Uc:∀b∈fp,lZ fr ad pi aX a8 b/\b≠D:=λb h=>⟨(Ki b h).1.step bn,(dL b h).2⟩;refine au (Ń oU bG hρ.2 λb dw cg cC cL pO hk=>?_);have aeR:AccAt bk X.w dw cg.heap D c.acc:=aeS.keeps cL.le λo e=>cL.keep D o FD.pd e;have uX:hV an X.w own fp I items dw cg.heap:=J3.frame cL.le λb hb o e=>cL.keep b o (Uc b hb).1.pd e;have Fv:∀b∈fp,lZ fr ad pi dw cg b/\b≠D:=λb h=>⟨(Uc b h).1.step cL,(dL b h).2⟩;have TQ:Step (yq ad pi D++fp) P s dw cg:=((bq.mono λa h=>nw _ h).trans (adZ.mono λa h=>my _ h)).trans (cL.mono λa h=>by simp[h]);have FE:vZ X n ao fr aq sn A ad pi bk D ⟨bt,cC,c.acc⟩ dw cg:=⟨(bG.step cL pO),hρ.1,((FD.step bn).step cL),aeR,C.ok⟩
  cases b with
  |false=>
   rw[if_neg (by decide)] at hk ⊢;refine aC ⟨Up I,ih fp I _ dw cg K R FE uX Fv hk λc' P' s' co C' hK=>hR c' P' s' (TQ.trans co) C' hK⟩
  |true=>
   rw[bw rfl] at hk ⊢;refine au (hb _ dw cg _ _ _ FE hk λaeQ aeV kU ju aeX aej=>?_);refine aC ⟨Up I,ih fp I aeQ aeV kU K R aeX (uX.frame ju.le λb hb o e=>ju.keep b o (λsP=>?_) e) (λb h=>⟨(Fv b h).1.step ju,(dL b h).2⟩) aej λc' P' s' co C' hK=>hR c' P' s' ((TQ.trans (ju.mono λa h=>my _ h)).trans co) C' hK⟩
   rcases dZ.mp sP with h | h
   .exact (Fv b hb).1.pd h
   .simp at h
    rcases h with h | h
    .exact (Fv b hb).1.own (.inl h)
    .exact (dL b hb).2 h
end
section
structure A5(an:dX)(w:dy)(A:fL)(ad:cP)(ce:bP)(d:Nat)(D:bc):Prop where
 den:∀I,(aH an w).den (.compLoop ce d (.ref I) (.ref D) ad)=(vq ce d (.ref I) (.ref D) ad).onRaise (λx=>do zW x ad;L5 x)
 ahv:∀I,(aH an w).den (.compStart ce d (.ref I) (.ref D) ad)=(compStart ce d (.ref I) (.ref D) ad).onRaise (λx=>do zW x ad;xE theWindowsPlace)
 un:∀I,A.under (.compLoop ce d (.ref I) (.ref D) ad)=A
 un0:∀I,A.under (.compStart ce d (.ref I) (.ref D) ad)=A
 qt:∀I,(agZ ce d (.ref I) (.ref D) ad).quiet=ak
 cl:∃g,(clausesOf ce)[d]?=aj g/\g.is_async=0
theorem Pv(H:A5 an w A ad ce d D)(hs:pe an w fp I s.heap)
  (h:p6 (aH an w) A (.compLoop ce d (.ref I) (.ref D) ad) R s):p6 (aH an w) A (.compStart ce d (.ref I) (.ref D) ad) R s:=by
 refine Aa ?_;rw[H.ahv,H.un0];refine wpAny_notedAt ?_;refine ar H.cl λg hg ha=>?_;unfold compStart;simp only[hg,Option.elim,ha];show aw _ _ (ask>>=_) _ _ s;refine au (zS (nA ?_))
 split
 .exact au (aC (aC ⟨H.qt I,h⟩))
 .refine au (ti ?_);refine au (jx ?_);exact au (hs s A _ _ .refl (aC ⟨H.qt I,h⟩))
theorem Ň:A5 an w A ad (gG bk elt (⟨t,it,ifs,0⟩::rest) scope pos) 0 D:=by
 cases bk<;>exact ⟨λU=>rfl,λU=>rfl,λU=>rfl,λU=>rfl,λU=>rfl,_,rfl,rfl⟩
theorem ň:A5 an w A ad (gG bk elt (g::⟨t,it,ifs,0⟩::rest) scope pos) 1 D:=by
 cases bk<;>exact ⟨λU=>rfl,λU=>rfl,λU=>rfl,λU=>rfl,λU=>rfl,_,rfl,rfl⟩
theorem Ŋ{te ite gm ce:bP}{it:PI}{ifs:List PE}{gp:List bP}{elt:PE}{own:Bool}(ht:lC ak aq sn t te)(oU:nY an X F n ao aq sn ifs gp)(lj:mT te=ak\/(own=ap/\nS te=ak))
  (hi:nW an X F n ao aq sn own it ite) (hE:b9 an X F n ao aq sn elt gm) (vy:∀x,vp ite ad x=bH x) (H:A5 an X.w A ad ce 1 D)
  (tK:∀I,vq ce 1 (.ref I) (.ref D) ad=ur te ite gp (.ref I) ad (AZ bk gm (.ref D) ad) (again (.compLoop ce 1 (.ref I) (.ref D) ad))) :
  A0 an X n ao fr aq sn A ad pi bk D (λc K=>GW F X.gl (dO bk) (EW F X.gl elt) [.mk t it ifs] c K False) (DU ce ite (.ref D) ad):=λc P s K QQ E C h hq=>by
 refine au (kD (hi A ad fr pi c.ρ c.σ P s _ False (λv aF=>∃I fp items aX aO,v=.ref I/\Step (bO pi) P s aX aF/\uh aX s aF fp/\hV an X.w own fp I items aX aF.heap/\dq X.w aX X.C aF.heap pi aO/\mM (λx dv gK=>gM t x dv.ρ λbt=>TW F X.gl ifs bt dv.σ (λb cC=>if b=ak then EW F X.gl elt bt cC (λv ay=>dO bk (dv.acc++[v])=ak/\gK ⟨bt,ay,dv.acc++[v]⟩) False else gK ⟨bt,cC,dv.acc⟩) False) items ⟨c.ρ,aO,c.acc⟩ K) E C.aG h (λI fp items aX aF aO st f it p hx=>⟨I,fp,items,aX,aO,rfl,st,f,it,p,hx⟩) λf=>f.elim) (λx wM h₀=>?_) λU U e=>e);refine au (jx ?_);refine au (vi (vy x) (au (gg (kD h₀ (λv aF hv=>?_) λU U e=>e))))
 ((refine WX hv ?_;clear hv;intro I fp items aX aO zr);(refine fy zr ?_;clear zr;intro zq st f zr);(refine d5 zr ?_;clear zr;intro it p hx);subst zq)
 have aeY:vZ X n ao fr aq sn A ad pi bk D ⟨c.ρ,aO,c.acc⟩ aX aF:=⟨(C.aG.step st p),C.pl,C.jR.step st,C.acc.keeps st.le λo e=>st.keep D o C.jR.pd e,C.ok⟩;refine au (wpAny_runOwn ?_);refine Pv (fp:=fp) H it.self ?_;refine Pu (G:=λc K=>EW F X.gl elt c.ρ c.σ (λv ay=>dO bk (c.acc++[v])=ak/\K ⟨c.ρ,ay,c.acc++[v]⟩) False) ht oU (Pt hE) lj tK H.den H.un H.qt items fp I _ aX aF K _ aeY it (λb hb=>⟨C.aG.jR (f b hb).1 (f b hb).2.1 (f b hb).2.2,λe=>gf _ (b7 (e▸C.jR.lt) (f b hb).1)⟩) ?_ λc' P' s' co C' hK=>?_
 .exact hx
 .refine aC (hq c' P' s' ?_ C' hK);refine ((st.mono λa h=>by simp[h]).trans co).old (mu:=yq ad pi D++fp) λa ha=>?_
  rcases dZ.mp ha with h | h
  .exact .inl h
  .exact .inr (f a h).1
end
noncomputable def A6(bk):=if bk=ak then newSet (.type "set") else V1 []
section
theorem ŋ(hp:P.on s)(h:∀s',Step [] P s P s'->s'.heap.objs.size=s.heap.objs.size+1->P.obj s.heap.objs.size=am->AccAt bk w P s'.heap s.heap.objs.size []->Q (.ref s.heap.objs.size) s'):aw (aH an w) A (A6 bk) Q E s:=by
 cases bk with
 |false=>
  refine agu (h _ (Step.oP hp) (by rw[fq]) (hp.fresh (aV _)) ⟨#[],⟨_,fU _ rfl⟩,.nil⟩)
 |true=>
  refine au (au (zS (aC ?_)));refine au (Vx (aC ?_));exact h {s with heap:=s.heap.push (hO w)} (Step.oP hp) (by rw[fq]) (hp.fresh (aV _)) (rQ P s.heap)
end
section
variable {X:Cx}{n:Nat}{ao:bK}{fr:List cP}{aq:List (Option aW)}{sn:List (aW×di)}{A:fL}{ad:cP}{pi:Option (bc×bc)}{ρ:bj}{σ:Pz}{P:PH}{s:bf}
theorem ct.pad(S:ct X n ao fr aq sn A ad pi ρ σ P s):ct X n ao fr (aq++cU k am) sn A ad pi (ρ.map im++cU k Sl.un) σ P s:=by
 have back:∀i nm,(aq++cU k (am:Option aW))[i]?=aj (aj nm)->i<aq.length/\aq[i]?=aj (aj nm):=λi nm h=>by
  by_cases hi:i<aq.length
  .rw[xG hi] at h;exact ⟨hi,h⟩
  .rw[Af (GR hi),L1] at h
   split at h<;>simp at h
 have er:=S.er;refine ⟨S.hp,S.gl,S.bi,⟨er.kind,by simp[er.len],er.loc,er.nH,er.kI,er.cell,er.eF,er.oV,er.apart,λi j nm h1 h2=>er.uniq i j nm (back i nm h1).2 (back j nm h2).2,λi nm sl h1 h2=>?_,er.par⟩,S.sn,S.gd,S.bd,S.hh,S.un,S.dp,S.fs,S.bs,S.ff,S.fd,S.cd⟩;refine bm (back i nm h1) λhi hn=>?_;rw[xG (by simpa[<- er.len] using hi),lQ] at h2
 cases hρ:ρ[i]? with
 |none=>rw[hρ] at h2;simp at h2
 |some wZ=>
  rw[hρ] at h2;simp only[Ae,L0] at h2;subst h2;have:=er.slot i nm wZ hn hρ
  cases wZ with
  |ol l=>trivial
  |os l=>trivial
  |_=>exact this
theorem AccAt.freeze(x:AccAt bk w P s.heap D acc)(hP:P.obj D=am)(hl:dO bk acc=ak):∃o,s.heap.get? D=aj o/\(∀vs n,o.data=.seq vs n->vs.size<=ci)/\aA w (P.eW D o) (.ref D) (nJ bk acc):=by
 cases bk with
 |true=>
  exact bx (bS.G6 x hP) λo h1 h2 h3=>⟨o,h1,λvs n e=>absurd e (h2 vs n),h3⟩
 |false=>
  (refine ar x λvs z2 r=>?_;obtain ⟨m,ho⟩:=z2);have cc:=r.length;refine ⟨_,ho,λu8 n' e=>?_,?_⟩
  .injection e with e1 e2;subst e1
   have:acc.length<=ci:=by simpa[dO] using hl
   simp at cc;lia
  .exact .lst PH.tI rfl rfl (r.mono (PH.nF hP)) (by
    have:acc.length<=ci:=by simpa[dO] using hl
    simp at cc;lia)
end
section
theorem Pw{te ite gm:bP}{gp:List bP}{rest:List L4}{scope:jN}{pos:vj}{eY:List aW}{body:bc->cP->ig Unit}
  (H:uq sn scope eY) (hi:nW an X F n ao (aq++cU eY.length am) sn own it ite)
  (ht:lC ak (iw aq scope.names eY) (gP sn scope.names) t te) (oU:nY an X F n ao (iw aq scope.names eY) (gP sn scope.names) ifs gp) (lj:mT te=ak\/(own=ap/\nS te=ak))
  (G3:∀A ad fr pi D,A0 an X n ao fr (iw aq scope.names eY) (gP sn scope.names) A ad pi bk D (λc K=>GW F X.gl (dO bk) (EW F X.gl elt) gs c K False) (body D ad))
  (tK:∀I D ad,vq (gG bk gm (⟨te,ite,gp,0⟩::rest) scope pos) 0 (.ref I) (.ref D) ad=ur te ite gp (.ref I) ad (body D ad) (again (.compLoop (gG bk gm (⟨te,ite,gp,0⟩::rest) scope pos) 0 (.ref I) (.ref D) ad)))
  {A:fL} {ad:cP} {fr:List cP} {pi:Option (bc×bc)} {ρ:bj} {σ:Pz} {P:PH} {s:bf} {K:i4} {RR:aU->bc->Result->bf->Prop} {E:ah} (S:ct X n ao fr aq sn A ad pi ρ σ P s)
  (h:GW F X.gl (dO bk) (EW F X.gl elt) (.mk t it ifs::gs) ⟨ρ.map im++cU eY.length Sl.un,σ,[]⟩ (λc=>K (nJ bk c.acc) c.σ) False)
  (hR:∀D C P' s' ay x,Step (bO pi) P s P' s'->aA X.w P' (.ref D) x->dq X.w P' X.C s'.heap pi ay->K x ay->(∃m,s'.heap.Ns C m)->P'.obj C=am->s.heap.objs.size<=C->C∉bO pi->RR (.ref D) C (.ok .next) s') :
  aw (aH an X.w) A (eval ite ad) (λx aF=>aw (aH an X.w) A (nD x) (λit a8=>aw (aH an X.w) A (A6 bk) (λacc cg=>
   aw (aH an X.w) A (newFunctionEnv scope ad.globals (lY ad scope) [] ad.qual am .none (aj ad)) (λcenv kU=>
    p6 (aH an X.w) A (.compStart (gG bk gm (⟨te,ite,gp,0⟩::rest) scope pos) 0 it acc {cenv with scope:=Wo scope ad}) (RR acc cenv.locals) kU) E cg) E a8) E aF) E s:=by
 refine hi A ad fr pi _ σ P s _ False _ E S.pad h (λI fp items aX aF aO st f it p hx=>?_) λf=>f.elim;have bo:=S.step st p;refine ŋ bo.hp λa8 bn hz hDP ha=>?_;refine wpAny_newFunctionEnv H.cell (by intro y hy;simp at hy) (λh' ml zw=>?_) H.kind;show p6 (aH an X.w) A (.compStart (gG bk gm (⟨te,ite,gp,0⟩::rest) scope pos) 0 (.ref I) (.ref aF.heap.objs.size) (tG scope (lY ad scope) a8.heap.objs.size ad)) (RR (.ref aF.heap.objs.size) a8.heap.objs.size) {a8 with heap:=h',toks:=a8.toks+0};generalize hs3:({a8 with heap:=h',toks:=a8.toks+0}:bf)=cg;have hh3:cg.heap=h':=by rw[<- hs3]
 have cL:Step [] aX a8 aX cg:=by
  rw[<- hs3];exact Step.keeps bn.on (λb o e=>zw.extBut b o (ji (dE e)) (fo _ e)) (by rw[zw.1,fq];exact dT _) (aV _)
 have hD1:aF.heap.objs.size<a8.heap.objs.size:=by rw[hz];exact iF _
 have bG:=bo.xN bn;have xb:a8.heap.objs.size∉bO pi:=λh=>gf _ (bG.er.par.lt _ h).1;have sub:=(DS (ad:=ad) scope.names [] (H.cells S) (λnm c h=>by cases h)).1
 have SC:=(bG.xN cL).comp (C:=a8.heap.objs.size) H ⟨_,hh3▸ml⟩ (bG.hp.fresh (aV _)) xb (λnm c hc=>ji (bG.er.oW (.inr ⟨nm,hc⟩)).2.2.2)
  (λL hL=>aB (bG.er.oV L hL) (gc (bG.er.oW (.inl rfl)).2.2.2))
 have oW:∀b,b<a8.heap.objs.size->¬nX ad b->¬nX (tG scope (lY ad scope) a8.heap.objs.size ad) b:=λb hb hn h=>by
  rcases h with h | ⟨nm,h⟩
  .exact gf _ (h▸hb)
  .exact hn (.inr ⟨nm,sub nm b h⟩)
 have aD:lZ fr ad pi aX a8 aF.heap.objs.size:=bo.jR (aV _) hD1 hDP;have aD3:lZ fr (tG scope (lY ad scope) a8.heap.objs.size ad) pi aX cg aF.heap.objs.size:=⟨(aD.step cL).lt,aD.out,aD.pd,oW _ hD1 aD.own,aD.fr⟩
 have FE:vZ X n ao fr (iw aq scope.names eY) (gP sn scope.names) A (tG scope (lY ad scope) a8.heap.objs.size ad) pi bk aF.heap.objs.size ⟨ρ.map im++cU eY.length Sl.un,aO,[]⟩ aX cg:=
  ⟨SC,ł,aD3,ha.keeps (.refl _) λo e=>cL.keep _ o (by simp) e,by cases bk<;>rfl⟩
 have uX:hV an X.w own fp I items aX cg.heap:=it.frame (.refl _) λb hb o e=>cL.keep b o (by simp) (bn.keep b o (by simp) e)
 have dL:∀b∈fp,lZ fr (tG scope (lY ad scope) a8.heap.objs.size ad) pi aX cg b/\b≠aF.heap.objs.size:=λb hb=>by
  have a:=S.jR (f b hb).1 (f b hb).2.1 (f b hb).2.2;have a':=(a.step bn).step cL;exact ⟨⟨a'.lt,a'.out,a'.pd,oW b (td a.lt hD1) a.own,a'.fr⟩,ji a.lt⟩
 have CO:A5 an X.w A (tG scope (lY ad scope) a8.heap.objs.size ad) (gG bk gm (⟨te,ite,gp,0⟩::rest) scope pos) 0 aF.heap.objs.size:=Ň;refine Pv (fp:=fp) CO uX.self ?_;refine Pu ht oU (G3 A _ fr pi _) lj (λI=>tK I _ _) CO.den CO.un CO.qt items fp I _ aX cg _ _ FE uX dL hx λc' P' s' co C' hK=>?_;refine bx (C'.acc.freeze C'.jR.out C'.ok) λo ho hl r=>?_;have FH:s.heap.objs.size<=aF.heap.objs.size:=st.size
 have dG:Step (bO pi) P s P' s':=by
  refine (((st.trans bn.up).trans cL.up).mono (mu':=yq (tG scope (lY ad scope) a8.heap.objs.size ad) pi aF.heap.objs.size++fp) λa h=>by simp[h]).trans co |>.old λa ha=>?_
  rcases dZ.mp ha with h | h
  .rcases dZ.mp h with h | h
   .exact .inl h
   .simp at h
    rcases h with h | h
    .exact .inr (h▸aB FH (gc hD1))
    .exact .inr (h▸FH)
  .exact .inr (f a h).1
 refine hR _ _ (P'.eW aF.heap.objs.size o) s' c'.σ _ (dG.freeze ho hl FH C'.jR.out) r ?_ hK C'.aG.er.loc ?_ (aB FH (gc hD1)) xb
 .refine C'.aG.er.par.keep (PH.nF C'.jR.out) (λa ha=>?_) λa U o e=>e;have bA:a≠aF.heap.objs.size:=λe=>C'.jR.pd (e▸ha);simp only[PH.eW,if_neg bA];exact (C'.aG.er.par.lt a ha).2
 .have bA:a8.heap.objs.size≠aF.heap.objs.size:=mB hD1;simp only[PH.eW,if_neg bA];exact C'.aG.er.nH
end
section
structure A7 where
 own:Bool
 t:jT
 it:PI
 ifs:List PE
 gs:List PG
 te:bP
 ite:bP
 gm:bP
 gp:List bP
 rest:List L4
 scope:jN
 pos:vj
 eY:List aW
 body:bc->cP->ig Unit
noncomputable def A7.gens(d:A7):=.mk d.t d.it d.ifs::d.gs
def A7.ce(d:A7)(bk:Bool):=gG bk d.gm (⟨d.te,d.ite,d.gp,0⟩::d.rest) d.scope d.pos
structure Ō(an:dX)(X:Cx)(F:Calls)(n:Nat)(ao:bK)(aq:List (Option aW))(sn:List (aW×di))(bk:Bool)(elt:PE)(d:A7):Prop where
 H:uq sn d.scope d.eY
 hi:nW an X F n ao (aq++cU d.eY.length am) sn d.own d.it d.ite
 ht:lC ak (iw aq d.scope.names d.eY) (gP sn d.scope.names) d.t d.te
 oU:nY an X F n ao (iw aq d.scope.names d.eY) (gP sn d.scope.names) d.ifs d.gp
 lj:mT d.te=ak\/(d.own=ap/\nS d.te=ak)
 G3:∀A ad fr pi D,A0 an X n ao fr (iw aq d.scope.names d.eY) (gP sn d.scope.names) A ad pi bk D (λc K=>GW F X.gl (dO bk) (EW F X.gl elt) d.gs c K False) (d.body D ad)
 tK:∀I D ad,vq (d.ce bk) 0 (.ref I) (.ref D) ad=ur d.te d.ite d.gp (.ref I) ad (d.body D ad) (again (.compLoop (d.ce bk) 0 (.ref I) (.ref D) ad))
 vy:∀ad x,vp d.ite ad x=bH x
def yr(an:dX)(X:Cx)(F:Calls)(n:Nat)(ao:bK)(aq:List (Option aW))(sn:List (aW×di))(bk:Bool)(elt:PE)(k:Nat)(gens:List PG)(ce:bP):=
 ∃d,Ō an X F n ao aq sn bk elt d/\gens=d.gens/\ce=d.ce bk/\k=d.eY.length
theorem Px(R:yr an X F n ao aq sn bk elt k gens ce):b9 an X F n ao aq sn (.comp bk elt k gens) ce:=by
 (refine cm R ?_;clear R;intro d R av az cI;subst av;subst az;subst cI);intro A ad fr pi ρ σ P s Q XX QQ E S h hq hx
 have key:eval (d.ce bk) ad=Wp (d.ce bk) d.scope ad (Wq (⟨d.te,d.ite,d.gp,0⟩::d.rest) d.pos) (A6 bk) ap (eval d.ite ad) am:=by
  cases bk<;>rfl
 rw[key];refine ag0 (use:=am) (g:=⟨d.te,d.ite,d.gp,0⟩) (gs:=d.rest) (by cases bk<;>rfl) (R.vy ad) (Po (R.H.cells S)) R.H.kind R.H.loc ?_;refine Pw (K:=Q) (RR:=λacc C=>compPost (aH an X.w) A E am QQ acc C) R.H R.hi R.ht R.oU R.lj R.G3 R.tK S h λD C P' s' ay x st r p hK ml zD hC xb=>?_;refine a9 ml λm hm=>?_;refine ⟨m,hm,λh' hs=>?_⟩;have co:Step [C] P' s' P' {s' with heap:=h'}:=Step.sameBut (tk:=s'.toks) (dr:=s'.drawn) st.on zD hs (aV _);refine hq _ x P' _ ay (((st.mono (mu':=C::bO pi) λa h=>cJ _ h).trans (co.mono λa h=>by simp at h;simp[h])).old λa ha=>?_) r ?_ hK
 .rcases cD.mp ha with rfl | ha
  .exact .inr hC
  .exact .inl ha
 .exact p.keep (.refl _) (λa ha=>(p.lt a ha).2) λa ha o e=>co.keep a o (by simp;rintro rfl;exact xb ha) e
theorem ō{te ite gm:bP}{scope:jN}{pos:vj}{eY:List aW}(H:uq sn scope eY)
  (hi:nW an X F n ao (aq++cU eY.length am) sn own it ite) (ht:lC ak (iw aq scope.names eY) (gP sn scope.names) t te)
  (oU:nY an X F n ao (iw aq scope.names eY) (gP sn scope.names) ifs gp) (lj:mT te=ak\/(own=ap/\nS te=ak))
  (hE:b9 an X F n ao (iw aq scope.names eY) (gP sn scope.names) elt gm) (vy:∀ad x,vp ite ad x=bH x) :
  yr an X F n ao aq sn bk elt eY.length [.mk t it ifs] (gG bk gm [⟨te,ite,gp,0⟩] scope pos):=by
 refine ⟨⟨own,t,it,ifs,[],te,ite,gm,gp,[],scope,pos,eY,λD ad=>AZ bk gm (.ref D) ad⟩,⟨H,hi,ht,oU,lj,λA ad fr pi D=>?_,λI D ad=>ń ..,vy⟩,rfl,rfl,rfl⟩;have e:(λc K=>GW F X.gl (dO bk) (EW F X.gl elt) [] c K False)=λc K=>EW F X.gl elt c.ρ c.σ (λv ay=>dO bk (c.acc++[v])=ak/\K ⟨c.ρ,ay,c.acc++[v]⟩) False:=rfl;rw[e];exact Pt hE
theorem Ŏ{te ite zv zk gm:bP}{scope:jN}{pos:vj}{eY:List aW}(H:uq sn scope eY)
  (hi:nW an X F n ao (aq++cU eY.length am) sn own it ite) (ht:lC ak (iw aq scope.names eY) (gP sn scope.names) t te)
  (oU:nY an X F n ao (iw aq scope.names eY) (gP sn scope.names) ifs gp) (lj:mT te=ak\/(own=ap/\nS te=ak))
  (jw:nW an X F n ao (iw aq scope.names eY) (gP sn scope.names) ad7 fE zk) (KD:lC ak (iw aq scope.names eY) (gP sn scope.names) t' zv)
  (aex:nY an X F n ao (iw aq scope.names eY) (gP sn scope.names) qP J2) (aey:mT zv=ak\/(ad7=ap/\nS zv=ak))
  (hE:b9 an X F n ao (iw aq scope.names eY) (gP sn scope.names) elt gm) (vy:∀ad x,vp ite ad x=bH x) (aeI:∀ad x,vp zk ad x=bH x) :
  yr an X F n ao aq sn bk elt eY.length [.mk t it ifs,.mk t' fE qP] (gG bk gm [⟨te,ite,gp,0⟩,⟨zv,zk,J2,0⟩] scope pos):=
 ⟨⟨own,t,it,ifs,[.mk t' fE qP],te,ite,gm,gp,[⟨zv,zk,J2,0⟩],scope,pos,eY,λD ad=>DU (gG bk gm [⟨te,ite,gp,0⟩,⟨zv,zk,J2,0⟩] scope pos) zk (.ref D) ad⟩,⟨H,hi,ht,oU,lj,
  λA ad fr pi D=>Ŋ KD aex aey jw hE (aeI ad) ň (λI=>Ņ ..),λI D ad=>ņ ..,vy⟩,rfl,rfl,rfl⟩
end
def DV(ad:cP)(aq:List (Option aW))(ρ:bj)(h:bK)(G:List bc):=
 ∀(i:Nat) nm sl,aq[i]?=aj (aj nm)->ρ[i]?=aj sl->fP sl=ap->∀a,Lk ad h nm (.ref a)->a∉G
structure yt(ρ:bj):Prop where
 ol:∀(i j:Nat) l m,ρ[i]?=aj (Sl.ol l)->ρ[j]?=aj (Sl.ol m)->i=j
 os:∀(i j:Nat) (l m:af),ρ[i]?=aj (Sl.os l)->ρ[j]?=aj (Sl.os m)->i=j
set_option tactic.hygienic true in
theorem yt.set(o:yt ρ)(i:Nat){sl:Sl}(h1:∀l,sl=.ol l->ρ.all tZ=ak\/∃m,ρ[i]?=aj (Sl.ol m))(h2:∀l,sl=.os l->ρ.all xZ=ak\/∃m,ρ[i]?=aj (Sl.os m)):yt (ρ.set i sl):=by
 have no1:ρ.all tZ=ak->∀j m,ρ[j]?=aj (Sl.ol m)->False:=λh j m e=>aY (eE.mp h _ (k8 e));have no2:ρ.all xZ=ak->∀(j:Nat) (m:af),ρ[j]?=aj (Sl.os m)->False:=λh j m e=>aY (eE.mp h _ (k8 e))
 have get:∀(j:Nat) (x:Sl),(ρ.set i sl)[j]?=aj x->(j=i/\x=sl)\/(j≠i/\ρ[j]?=aj x):=λj x e=>by
  rw[Wr] at e
  split at e
  .rename_i h;split at e
   .replace e:=aZ e;exact .inl ⟨h.symm,e.symm⟩
   .cases e
  .rename_i h;exact .inr ⟨λq=>h q.symm,e⟩
 refine ⟨λj k l m a b=>?_,λj k l m a b=>?_⟩
 .rcases get j _ a with ⟨rfl,e⟩ | ⟨hj,e⟩<;>rcases get k _ b with ⟨hk,e'⟩ | ⟨hk,e'⟩
  .exact hk.symm
  .rcases h1 l e.symm with h | ⟨m',h⟩
   .exact (no1 h _ _ e').elim
   .exact absurd (o.ol _ _ _ _ e' h) hk
  .subst hk
   rcases h1 m e'.symm with h | ⟨m',h⟩
   .exact (no1 h _ _ e).elim
   .exact absurd (o.ol _ _ _ _ e h) hj
  .exact o.ol _ _ _ _ e e'
 .rcases get j _ a with ⟨rfl,e⟩ | ⟨hj,e⟩<;>rcases get k _ b with ⟨hk,e'⟩ | ⟨hk,e'⟩
  .exact hk.symm
  .rcases h2 l e.symm with h | ⟨m',h⟩
   .exact (no2 h _ _ e').elim
   .exact absurd (o.os _ _ _ _ e' h) hk
  .subst hk
   rcases h2 m e'.symm with h | ⟨m',h⟩
   .exact (no2 h _ _ e).elim
   .exact absurd (o.os _ _ _ _ e h) hj
  .exact o.os _ _ _ _ e e'
structure bY(X:Cx)(n:Nat)(ao:bK)(fr:List cP)(aq:List (Option aW))(sn:List (aW×di))(A:fL)(ad:cP)(pi:Option (bc×bc))(G:List bc)(ρ:bj)(σ:Pz)(P:PH)(s:bf):Prop where
 aG:ct X n ao fr aq sn A ad pi ρ σ P s
 own:DV ad aq ρ s.heap G
 jz:∀a∈G,lZ fr ad pi P s a
 top:∃outer L,fr=ad::outer/\ad.frame=aj L
 one:yt ρ
structure nZ(ad:cP)(mu:List bc)(P:PH)(s:bf)(P':PH)(s':bf):Prop where
 le:P.le P'
 on:P'.on s'
 new:∀a o,P'.obj a=aj o->P.obj a=aj o\/jm ad a
 keep:∀a o,a∉mu->s.heap.get? a=aj o->s'.heap.get? a=aj o
 size:s.heap.objs.size<=s'.heap.objs.size
 gens:s'.gens=s.gens
 os:s'.os=s.os
 toks:s.toks<=s'.toks
theorem nZ.of(h:∀{a},s.heap.objs.size<=a->jm ad a)(st:Step mu P s P' s'):nZ ad mu P s P' s':=
 ⟨st.le,st.on,λa o e=>(st.new a o e).imp id h,st.keep,st.size,st.gens,st.os,st.toks⟩
theorem nZ.G8(st:nZ ad mu P s P' s'):iP mu s.heap s'.heap:=λb o hb e U=>⟨o.slots,st.keep b o hb e⟩
theorem nZ.trans(x:nZ ad mu P s aX aF)(y:nZ ad mu aX aF dc a8):nZ ad mu P s dc a8:=
 ⟨x.le.trans y.le,y.on,λa o h=>(y.new a o h).elim (x.new a o) .inr,λa o hm h=>y.keep a o hm (x.keep a o hm h),aB x.size y.size,y.gens.trans x.gens,y.os.trans x.os,aB x.toks y.toks⟩
theorem nZ.mono(x:nZ ad mu P s aX aF)(h:∀a∈mu,a∈mu'):nZ ad mu' P s aX aF:=
 ⟨x.le,x.on,x.new,λa o hm e=>x.keep a o (λhh=>hm (h a hh)) e,x.size,x.gens,x.os,x.toks⟩
theorem bY.qc(S:bY X n ao fr aq sn A ad pi G ρ σ P s)(h:s.heap.objs.size<=a):jm ad a:=by
 refine eZ S.top λouter L cx hL=>?_;have:=S.aG.ff;rw[cx] at this;refine d5 this λav az cI=>?_;obtain ⟨L',o,b,c,d,f⟩:=az;obtain rfl:=aZ (hL.symm.trans b);intro L' mo;obtain rfl:=aZ (hL.symm.trans mo);exact aB (gc (dE d)) h
def fA(ad:cP)(pi:Option (bc×bc))(G:List bc)(P:PH)(s:bf)(P':PH)(s':bf):=∃mu,nZ ad mu P s P' s'/\∀a∈mu,(a∈bO pi\/jm ad a)/\a∉G
structure Ic(ao:bK)(fr:List cP)(mu:List bc)(s:bf)(x:bc)(s':bf):Prop where
 exc:AM ao fr x s'.heap
 keep:iP mu s.heap s'.heap
 gens:s'.gens=s.gens
 os:s'.os=s.os
 toks:s.toks<=s'.toks
theorem iu.WH(e:iu ao fr mu s x s'):Ic ao fr mu s x s':=⟨e.exc.any,e.keep,e.gens,e.os,e.toks⟩
structure j6(ao:bK)(fr:List cP)(ad:cP)(aq:List (Option aW))(ρ:bj)(pi:Option (bc×bc))(G:List bc)(s:bf)(x:bc)(s':bf):Prop where
 exc:∃mu,Ic ao fr mu s x s'/\∀a∈mu,(a∈bO pi\/jm ad a)/\a∉G
 loc:∃m,s'.heap.Ns ad.locals m
 cell:∀nm c,ad.cells.lookup nm=aj c->∃v,s'.heap.IsCell c v
 bl:∀(i:Nat) nm b,aq[i]?=aj (aj nm)->ρ[i]?=aj (.v (.bool b))->Lk ad s'.heap nm (.bool b)
inductive j7(w:dy)(P:PH):Fl->Flow->Prop
 |next:j7 w P .next .next
 |brk:j7 w P .brk .brk
 |cont:j7 w P .cont .cont
 |ret {v x}:aA w P v x->j7 w P (.ret x) (.ret v)
@[elab_as_elim] theorem j7.el{C:Fl->Flow->Prop}(h:j7 w P f fe)(h1:C .next .next)(h2:C .brk .brk)(h3:C .cont .cont)(h4:∀v x,aA w P v x->C (.ret x) (.ret v)):C f fe:=by
 cases h with
 |next=>exact h1
 |brk=>exact h2
 |cont=>exact h3
 |ret r=>exact h4 _ _ r
def i6(an:dX)(X:Cx)(F:Calls)(n:Nat)(ao:bK)(aq:List (Option aW))(sn:List (aW×di))(st:List PS)(se:List dU):=
 ∀A ad fr pi G ρ σ P s K XR QQ E,
  bY X n ao fr aq sn A ad pi G ρ σ P s->cV F X.gl st ρ σ K XR->
  (∀f fe aS ay P' s',fA ad pi G P s P' s'->bY X n ao fr aq sn A ad pi G aS ay P' s'->j7 X.w P' f fe->K f aS ay->QQ fe s')->
  (∀aS,XR aS->∀x s',j6 ao fr ad aq aS pi G s x s'->E (.ref x) s')->aw (aH an X.w) A (GS se ad) QQ E s
def gx(an:dX)(X:Cx)(F:Calls)(n:Nat)(ao:bK)(aq:List (Option aW))(sn:List (aW×di))(st:PS)(se:dU):=
 ∀A ad fr pi G ρ σ P s K XR QQ E,
  bY X n ao fr aq sn A ad pi G ρ σ P s->SW F X.gl st ρ σ K XR->
  (∀f fe aS ay P' s',fA ad pi G P s P' s'->bY X n ao fr aq sn A ad pi G aS ay P' s'->j7 X.w P' f fe->K f aS ay->QQ fe s')->
  (∀aS,XR aS->∀x s',j6 ao fr ad aq aS pi G s x s'->E (.ref x) s')->aw (aH an X.w) A (exec se ad) QQ E s
theorem fA.refl(hp:P.on s):fA ad pi G P s P s:=⟨[],⟨.refl P,hp,λU U h=>.inl h,λU U U h=>h,aV _,rfl,rfl,aV _⟩,λa h=>by cases h⟩
theorem fA.trans(x:fA ad pi G P s aX aF)(y:fA ad pi G aX aF dc a8):fA ad pi G P s dc a8:=by
 refine ar x λm1 a b=>?_;refine ar y λm2 c d=>?_;exact ⟨m1++m2,(a.mono λx h=>my _ h).trans (c.mono λx h=>nw _ h),λx h=>(dZ.mp h).elim (b x) (d x)⟩
theorem j6.after(e:j6 ao fr ad aq ρ pi G aF x s')(st:fA ad pi G P s aX aF):j6 ao fr ad aq ρ pi G s x s':=by
 refine ar st λm1 a b=>?_;refine ar e.exc λm2 c d=>?_;refine ⟨⟨m1++m2,⟨c.exc,(a.G8.mono λx h=>my _ h).trans (c.keep.mono λx h=>nw _ h),c.gens.trans a.gens,c.os.trans a.os,aB a.toks c.toks⟩,λx h=>(dZ.mp h).elim (b x) (d x)⟩,e.loc,e.cell,e.bl⟩
theorem Lk.det(x:Lk ad h nm v)(y:Lk ad h nm v'):v=v':=by
 cases x with
 |loc m a b c=>
  cases y with
  |loc m' a' b' c'=>have:=(by
    refine xQ b λo1 dn ep1 q1 q2 q3 q4=>?_;refine xQ b' λo2 es2 ep2 r1 r2 r3 r4=>?_;obtain rfl:=aZ (q1.symm.trans r1);rw[q2] at r2;injection r2 with r2 _;subst r2
    funext n;rw[<- q4 n,<- r4 n]:m=m');subst this;rw[c] at c';injection c'
  |eF c' a' b' d'=>rw[a] at a';rcases a' with h | h<;>simp at h
 |eF c a b d=>
  cases y with
  |loc m' a' b' c'=>rw[a'] at a;rcases a with h | h<;>simp at h
  |eF c' a' b' d'=>
   obtain rfl:=aZ (b.symm.trans b');refine ar d λo p1 p2=>?_;refine ar d' λo' p1' p2'=>?_;obtain rfl:=aZ (p1.symm.trans p1');rw[p2] at p2';injection (p2') with p2';injection p2'
section
theorem gY.grows(e:gY w P C ad aq ρ σ pi s){i:Nat}{sl:Sl}(h1:aq[i]?=aj (aj nm))(h2:ρ[i]?=aj sl)(hp:fP sl=ap):∃a,Lk ad s.heap nm (.ref a):=by
 have:=e.slot i nm sl h1 h2
 cases sl with
 |ol l=>refine ar this λa x U=>?_;exact ⟨a,x⟩
 |os l=>refine ar this λa x U=>?_;exact ⟨a,x⟩
 |_=>exact xA hp
theorem bY.step(S:bY X n ao fr aq sn A ad pi G ρ σ P s)(st:Step (bO pi) P s P' s')(hz:dq X.w P' X.C s'.heap pi ay):bY X n ao fr aq sn A ad pi G ρ ay P' s':=by
 refine ⟨S.aG.step st hz,λi nm sl h1 h2 hp a ha=>?_,λa ha=>(S.jz a ha).step st,S.top,S.one⟩;refine a9 (S.aG.er.grows h1 h2 hp) λb hb=>?_;have iX:Lk ad s'.heap nm (.ref b):=hb.keep (λo h=>st.keep _ o S.aG.er.kI h) λc o hc h=>st.keep c o (S.aG.er.cell _ c hc).2.2.2.1 h;have:=ha.det iX;replace this:=iG this;subst this;exact S.own i nm sl h1 h2 hp _ hb
theorem bY.iJ(S:bY X n ao fr aq sn A ad pi G ρ σ P s)(st:Step (bO pi) P s P' s'):fA ad pi G P s P' s':=⟨_,.of S.qc st,λa ha=>⟨.inl ha,λhg=>(S.jz a hg).pd ha⟩⟩
theorem bY.exc(S:bY X n ao fr aq sn A ad pi G ρ σ P s)(e:iu ao fr (bO pi) s x s'):j6 ao fr ad aq ρ pi G s x s':=by
 have kl:∀o,s.heap.get? ad.locals=aj o->(∀vs,o.data≠.fields vs)->∃sl,s'.heap.get? ad.locals=aj {o with slots:=sl}:=λo ho hn=>e.keep _ o S.aG.er.kI ho hn
 have ns:∀m,s.heap.Ns ad.locals m->s'.heap.Ns ad.locals m:=λm hm=>by
  refine kJ hm λo es ep h1 h2 h3=>?_;refine a9 (kl o h1 (λvs hv=>by rw[hv] at h2;cases h2)) λsl h=>?_;exact ⟨_,es,ep,h,h2,h3⟩
 have cl:∀nm c v,ad.cells.lookup nm=aj c->s.heap.IsCell c v->s'.heap.IsCell c v:=λnm c v hc hm=>by
  refine ar hm λo h1 h2=>?_;refine a9 (e.keep c o (S.aG.er.cell nm c hc).2.2.2.1 h1 (λvs hv=>by rw[hv] at h2;cases h2)) λsl h=>?_;exact ⟨_,h,h2⟩
 refine ⟨⟨_,e.WH,λa ha=>⟨.inl ha,λhg=>(S.jz a hg).pd ha⟩⟩,a9 S.aG.er.loc λm hm=>⟨m,ns m hm⟩,λnm c hc=>a9 ((S.aG.er.cell nm c hc).1) λv hv=>⟨v,cl nm c v hc hv⟩,λi nm b h1 h2=>?_⟩;refine ar (S.aG.er.slot i nm _ h1 h2) λv hl hr=>?_;cases hr
 cases hl with
 |loc m a b c=>exact .loc m a (ns m b) c
 |eF c a b d=>exact .eF c a b (cl nm c _ b d)
end
section
variable {X:Cx}{n:Nat}{ao:bK}{fr:List cP}{aq:List (Option aW)}{sn:List (aW×di)}{A:fL}{ad:cP}{pi:Option (bc×bc)}{G:List bc}{ρ aS:bj}{σ ay:Pz}{P P':PH}{s s':bf}{an:dX}{E:ah}{F:Calls}
theorem DV.set(e:gY w P C ad aq ρ σ pi s)(o:DV ad aq ρ s.heap G)(hn:aq[i]?=aj (aj nm))(sO:∀bL v',bL≠nm->Lk ad s.heap bL v'->Lk ad s'.heap bL v')
  (Kt:fP sv=ap->∀a,Lk ad s'.heap nm (.ref a)->a∉G):DV ad aq (ρ.set i sv) s'.heap G:=λj bL sl h1 h2 hp a ha=>by
 by_cases hj:j=i
 .subst hj;obtain rfl:=aZ (aZ (hn.symm.trans h1));have bM:j<ρ.length:=by have:=(p4.mp hn).1;rw[e.len] at this;exact this
  rw[LV bM] at h2;replace h2:=aZ h2;subst h2;exact Kt hp a ha
 .rw[Ac (fV hj)] at h2;have bA:bL≠nm:=λhe=>hj (e.uniq j i nm (he▸h1) hn);refine a9 (e.grows h1 h2 hp) λb hb=>?_;have:=ha.det (sO bL _ bA hb);replace this:=iG this;subst this;exact o j bL sl h1 h2 hp _ hb
theorem bY.store(S:bY X n ao fr aq sn A ad pi G ρ σ P s)(hn:aq[i]?=aj (aj nm))(hk:stK ap sn nm)(rv:aA X.w P v x)
  (h:∀s',fA ad pi G P s P s'->bY X n ao fr aq sn A ad pi G (ρ.set i (.v x)) σ P s'->QQ () s'):aw (aH an X.w) A (GP ad nm v) QQ E s:=by
 refine H3 S.aG.er S.aG.hp hn ?_ rv λmu s' st hm sO Ft er=>?_
 .rw[S.aG.kind];exact hk.imp (λx=>x) λx=>⟨x.2,S.aG.er.eF nm (.inl (by rw[S.aG.kind];exact x.2))⟩
 .have gA:∀a∈mu,nX ad a:=λa ha=>(hm a ha).elim (λx=>.inl x.1) λx=>.inr ⟨nm,x.2⟩;exact h s' ⟨mu,.of S.qc st,λa ha=>⟨.inr (er.oW (gA a ha)).2.1,λhg=>(S.jz a hg).own (gA a ha)⟩⟩ ⟨(S.aG.change st (λa ha=>.inl (er.oW (gA a ha)).1) er),S.own.set S.aG.er hn sO (λh=>Mz h),λa ha=>(S.jz a ha).step st,S.top,S.one.set i (λl e=>by cases e) (λl e=>by cases e)⟩
end
section
theorem ŏ{pos}:gx an X F n ao aq sn .brk (.Break pos):=λA ad fr pi G ρ σ P s K XR QQ E S h hq hx=>by
 exact wpAny_Break (hq .brk .brk ρ σ P s (.refl S.aG.hp) S .brk h)
theorem Ő{pos}:gx an X F n ao aq sn .cont (.Continue pos):=λA ad fr pi G ρ σ P s K XR QQ E S h hq hx=>by
 exact wpAny_Continue (hq .cont .cont ρ σ P s (.refl S.aG.hp) S .cont h)
theorem ő{pos}(h1:b9 an X F n ao aq sn e ee):gx an X F n ao aq sn (.ret e) (.Return (aj ee) pos):=λA ad fr pi G ρ σ P s K XR QQ E S h hq hx=>by
 refine wpAny_Return_some (h1 A ad fr pi ρ σ P s _ _ _ E S.aG h (λv x P' s' ay st r p hK=>?_) λhX x s' ex=>hx ρ hX x s' (S.exc ex));exact hq _ _ ρ ay P' s' (S.iJ st) (S.step st p) (.ret r) hK
theorem Œ:i6 an X F n ao aq sn [] []:=λA ad fr pi G ρ σ P s K XR QQ E S h hq hx=>by
 exact CX (hq .next .next ρ σ P s (.refl S.aG.hp) S .next h)
theorem œ(h1:gx an X F n ao aq sn t te)(h2:i6 an X F n ao aq sn ts tes):i6 an X F n ao aq sn (t::ts) (te::tes):=λA ad fr pi G ρ σ P s K XR QQ E S h hq hx=>by
 refine Ag (h1 A ad fr pi G ρ σ P s _ XR _ E S h (λf fe aS ay P' s' st S' hf hK=>?_) hx)
 cases hf with
 |next=>exact h2 A ad fr pi G aS ay P' s' K XR QQ E S' hK (λf fe bt cb dc a8 bn bG hf ko=>hq f fe bt cb dc a8 (st.trans bn) bG hf ko) λbt hX x a8 ex=>hx bt hX x a8 (ex.after st)
 |brk=>exact hq .brk .brk aS ay P' s' st S' .brk hK
 |cont=>exact hq .cont .cont aS ay P' s' st S' .cont hK
 |ret r=>exact hq _ _ aS ay P' s' st S' (.ret r) hK
theorem Ŕ{pos}(h1:nT an X F n ao aq sn t te)(h2:i6 an X F n ao aq sn a ae)(h3:i6 an X F n ao aq sn b be) :
  gx an X F n ao aq sn (.ite t a b) (.If te ae be pos):=λA ad fr pi G ρ σ P s K XR QQ E S h hq hx=>by
 refine wpAny_If (h1 A ad fr pi ρ σ P s _ _ _ E S.aG h (λx P' s' ay st p hK=>?_) λhX x s' ex=>hx ρ hX x s' (S.exc ex));have S':=S.step st p
 cases ht:ck x with
 |true=>
  rw[bw ht] at hK;exact h2 A ad fr pi G ρ ay P' s' K XR QQ E S' hK (λf fe bt cb dc a8 bn bG hf ko=>hq f fe bt cb dc a8 ((S.iJ st).trans bn) bG hf ko) λbt hX x a8 ex=>hx bt hX x a8 (ex.after (S.iJ st))
 |false=>
  rw[if_neg (by rw[ht];decide)] at hK;exact h3 A ad fr pi G ρ ay P' s' K XR QQ E S' hK (λf fe bt cb dc a8 bn bG hf ko=>hq f fe bt cb dc a8 ((S.iJ st).trans bn) bG hf ko) λbt hX x a8 ex=>hx bt hX x a8 (ex.after (S.iJ st))
end
section
theorem ŕ(h:pj ap aq sn is es):∀{vs:List aU} {l:af} {ρ:bj} {s:bf},bY X n ao fr aq sn A ad pi G ρ σ P s->bp X.w P vs l->is.length=l.length->
  (∀s',fA ad pi G P s P s'->bY X n ao fr aq sn A ad pi G ((is.zip l).foldl (λr p=>r.set p.1 (.v p.2)) ρ) σ P s'->QQ () s')->aw (aH an X.w) A (LZ ((p8 es ad).map (·.2)) vs) QQ E s:=by
 induction h with
 |nil=>
  intro vs l ρ s S r hl hq
  cases l with
  |nil=>cases (show vs=[] from r);exact agS (hq s (.refl S.aG.hp) S)
  |cons=>simp at hl
 |@cons i nm pos is es h1 h2 h3 ih=>
  intro vs l ρ s S r hl hq
  cases l with
  |nil=>simp at hl
  |cons x l=>
   cases vs with
   |nil=>exact r.elim
   |cons v vs=>
    refine bm r λrv rs=>?_;show aw _ A (LZ (xF (.Name nm pos) ad::(p8 es ad).map (·.2)) (v::vs)) QQ E s;refine agT (GQ (S.store h1 h2 rv λaF st bo=>?_));exact ih bo rs (by simpa using hl) λa8 co bG=>hq a8 (st.trans co) (by simpa using bG)
theorem Py(S:bY X n ao fr aq sn A ad pi G ρ σ P s)(ht:lC ap aq sn t te)(r:aA X.w P v x)(hb:gM t x ρ K)
  (h:∀aS s',fA ad pi G P s P s'->bY X n ao fr aq sn A ad pi G aS σ P s'->K aS->QQ () s'):aw (aH an X.w) A (xF te ad v) QQ E s:=by
 cases ht with
 |@one i nm pos h1 h2=>exact GQ (S.store h1 h2 r λs' st S'=>h _ s' st S' hb)
 |@many is elts x1 pos hN=>
  cases x with
  |tup l=>
   (refine a9 r λdz zr=>?_;refine fy zr λzq dzS h5 h4=>?_;subst zq);refine bm hb λhl hK=>?_;rw[agU];refine au (jx ?_);unfold unpack;rw[show (p8 elts ad).length=dz.vs.size by rw[hN.length,hl,<- h4.length];simp,hN.star];refine au (gg (hU (agV S.aG.hh ⟨dz.o,S.aG.hp.obj _ _ dzS.obj,dzS.cls,dz.n,dzS.data⟩ λh' he hz ht=>?_)));have st:Step [s.heap.objs.size] P s P {s with heap:=h'}:=Step.extBut S.aG.hp (S.aG.hp.fresh (aV _)) he hz ht;have cR:Step [] P s P {s with heap:=h'}:=st.old λa ha=>.inr (by simp at ha;subst ha;exact aV _);have bo:bY X n ao fr aq sn A ad pi G ρ σ P {s with heap:=h'}:=S.step cR.up (S.aG.hH cR);refine kD (ŕ (E:=E) (QQ:=QQ) hN bo h4 hl λa8 co bG=>?_) (λU U q=>q) λU U e=>e;exact h _ a8 ((S.iJ cR.up).trans co) bG hK
  |_=>exact hb.elim
end
section
theorem Ŗ{pos}(ht:lC ap aq sn (.many is) te)(h1:b9 an X F n ao aq sn e ee)(hs:∀ad,swapsWithSole [te] ee pos.line ad=bH ap)(hw:∀ad,ag1 [te] ee ad=bH am) :
  gx an X F n ao aq sn (.nG is e) (.Assign [te] ee pos):=λA ad fr pi G ρ σ P s K XR QQ E S h hq hx=>by
 refine wpAny_Assign_stores (h1 A ad fr pi ρ σ P s _ _ _ E S.aG h (λv x P' s' ay st r p hK=>?_) λhX x s' ex=>hx ρ hX x s' (S.exc ex)) (hs ad) (hw ad);have e:(p8 [te] ad).map (·.2)=[xF te ad]:=by cases ht;rfl
 rw[e];show aw _ A (xF te ad v) _ E s';exact Py (S.step st p) ht r hK λaS a8 bn bG ko=>hq .next .next _ ay P' a8 ((S.iJ st).trans bn) bG .next ko
end
section
variable {X:Cx}{n:Nat}{ao:bK}{fr:List cP}{aq:List (Option aW)}{sn:List (aW×di)}{A:fL}{ad:cP}{pi:Option (bc×bc)}{G G':List bc}{ρ aS:bj}{σ ay:Pz}{P P':PH}{s s':bf}{an:dX}{E:ah}{mu:List bc}
theorem bY.sub(S:bY X n ao fr aq sn A ad pi G ρ σ P s)(h:∀a∈G',a∈G):bY X n ao fr aq sn A ad pi G' ρ σ P s:=
 ⟨S.aG,λi nm sl h1 h2 hp a ha hg=>S.own i nm sl h1 h2 hp a ha (h a hg),λa ha=>S.jz a (h a ha),S.top,S.one⟩
theorem uk.own{sl:Sl}(x:uk w P ad s.heap nm pi sl)(hp:fP sl=ap):∃a,Lk ad s.heap nm (.ref a)/\a<s.heap.objs.size/\P.obj a=am/\a∉bO pi:=by
 cases sl with
 |ol l=>(refine lR x λa x z3 z u U=>?_;obtain ⟨vs,⟨n,ho⟩,_⟩:=z3);exact ⟨a,x,dE ho,z,u⟩
 |os l=>(refine lR x λa x z3 z u U=>?_;obtain ⟨⟨o,_,_,_,_⟩,S,_⟩:=z3);exact ⟨a,x,dE S.get,z,u⟩
 |_=>exact xA hp
theorem bY.Mh(S:bY X n ao fr aq sn A ad pi G ρ σ P s)(st:Step mu P s P' s')(gS:∀a∈mu,a∈G):bY X n ao fr aq sn A ad pi G ρ σ P' s':=by
 have e:=S.aG.er;have Cf:dq X.w P' X.C s'.heap pi σ:=S.aG.G7 st λa ha=>(S.jz a (gS a ha)).pd;have out:∀a o,nX ad a->s.heap.get? a=aj o->s'.heap.get? a=aj o:=λa o ho e'=>st.keep a o (λhm=>(S.jz a (gS a hm)).own ho) e';have bM:ad.locals<s.heap.objs.size:=a9 e.loc λm hm=>hm.lt;have lk:∀{nm v},Lk ad s.heap nm v->Lk ad s'.heap nm v:=λx=>x.keep (λo h=>out _ o (.inl rfl) h) λc o hc h=>out c o (.inr ⟨_,hc⟩) h
 have er:gY X.w P' X.C ad aq ρ σ pi s':=by
  refine ⟨e.kind,e.len,?_,st.eo e.nH bM,e.kI,λnm c hc=>?_,e.eF,e.oV,e.apart,e.uniq,λi nm sl h1 h2=>?_,Cf⟩
  .exact At e.loc λm o es ep ho r=>⟨m,o,es,ep,out _ o (.inl rfl) ho,r⟩
  ·(refine fy (e.cell nm c hc) λz1 b c' d=>?_;obtain ⟨v,o,ho,r⟩:=z1);exact ⟨⟨v,o,out c o (.inr ⟨_,hc⟩) ho,r⟩,st.eo b (dE ho),c',d⟩
  .have:=e.slot i nm sl h1 h2
   cases sl with
   |un=>trivial
   |v x=>refine ar this λv a b=>?_;exact ⟨v,lk a,b.mono st.le⟩
   |ol l=>
    refine cm this λa x y z u=>?_;have qQ:a<s.heap.objs.size:=by (refine ar y λvs z2 U=>?_;obtain ⟨n,ho⟩:=z2);exact dE ho
    have sW:a∉mu:=λhm=>S.own i nm _ h1 h2 rfl a x (gS a hm);exact ⟨a,lk x,y.keeps st.le λo h=>st.keep a o sW h,st.eo z qQ,u⟩
   |os l=>
    refine cm this λa x y z u=>?_;have qQ:a<s.heap.objs.size:=by (refine ar y λz1 S U=>?_;obtain ⟨o,_,_,_,_⟩:=z1);exact dE S.get
    have sW:a∉mu:=λhm=>S.own i nm _ h1 h2 rfl a x (gS a hm);exact ⟨a,lk x,(y.keeps λo h=>st.keep a o sW h).mono st.le,st.eo z qQ,u⟩
   |self=>refine eZ this λai da x y=>?_;exact ⟨ai,da,x,lk y⟩
 refine ⟨⟨st.on,S.aG.gl.mono st.le,S.aG.bi,er,S.aG.sn,S.aG.gd,S.aG.bd,S.aG.hh,S.aG.un,S.aG.dp,S.aG.fs,λa o e=>st.le.obj a o (S.aG.bs a o e),
  vV S.aG.ff λe he L hL o ho=>st.keep L o (λhm=>(S.jz L (gS L hm)).fr e he hL) ho,S.aG.fd,kJ S.aG.cd λa o vs h1 h2 h3=>⟨a,o,vs,h1,st.le.obj _ _ h2,h3⟩⟩,λi nm sl h1 h2 hp a ha=>?_,λa ha=>(S.jz a ha).step st,S.top,S.one⟩
 refine a9 (e.grows h1 h2 hp) λb hb=>?_;have:=ha.det (lk hb);replace this:=iG this;subst this;exact S.own i nm sl h1 h2 hp _ hb
theorem bY.guard(S:bY X n ao fr aq sn A ad pi G ρ σ P s)(st:Step (bO pi) P s P' s')(hz:dq X.w P' X.C s'.heap pi ay)(f:uh P' s s' fp):bY X n ao fr aq sn A ad pi (fp++G) ρ ay P' s':=by
 have S':=S.step st hz;refine ⟨S'.aG,λi nm sl h1 h2 hp a ha hg=>?_,λa ha=>?_,S.top,S.one⟩
 .rcases dZ.mp hg with hg | hg
  .refine cm ((S.aG.er.slot i nm sl h1 h2).own hp) λb hb bM U qS=>?_;have iX:Lk ad s'.heap nm (.ref b):=hb.keep (λo h=>st.keep _ o S.aG.er.kI h) λc o hc h=>st.keep c o (S.aG.er.cell _ c hc).2.2.2.1 h;have:=ha.det iX;replace this:=iG this;subst this;exact gf _ (b7 bM (f _ hg).1)
  .exact S'.own i nm sl h1 h2 hp a ha hg
 .rcases dZ.mp ha with ha | ha
  .exact S.aG.jR (f a ha).1 (f a ha).2.1 (f a ha).2.2
  .exact S'.jz a ha
theorem j6.more(e:j6 ao fr ad aq ρ pi G s x s')(ht:kN ao fr x h')(hk:iP [] s'.heap h'):j6 ao fr ad aq ρ pi G s x {s' with heap:=h'}:=by
 have ns:∀m,s'.heap.Ns ad.locals m->h'.Ns ad.locals m:=λm hm=>by
  refine kJ hm λo es ep h1 h2 h3=>?_;refine a9 (hk _ o (by simp) h1 (λvs hv=>by rw[hv] at h2;cases h2)) λsl h=>?_;exact ⟨_,es,ep,h,h2,h3⟩
 have cl:∀c v,s'.heap.IsCell c v->h'.IsCell c v:=λc v hm=>by
  refine ar hm λo h1 h2=>?_;refine a9 (hk c o (by simp) h1 (λvs hv=>by rw[hv] at h2;cases h2)) λsl h=>?_;exact ⟨_,h,h2⟩
 refine ar e.exc λmu ex hm=>⟨⟨mu,⟨ht.any,ex.keep.trans (hk.mono λa h=>by cases h),ex.gens,ex.os,ex.toks⟩,hm⟩,a9 e.loc λm hm=>⟨m,ns m hm⟩,λnm c hc=>a9 (e.cell nm c hc) λv hv=>⟨v,cl c v hv⟩,λi nm b h1 h2=>?_⟩
 cases e.bl i nm b h1 h2 with
 |loc m a b c=>exact .loc m a (ns m b) c
 |eF c a b d=>exact .eF c a b (cl c _ d)
end
theorem fA.sub(x:fA ad pi G P s P' s')(h:∀a∈G',a∈G):fA ad pi G' P s P' s':=by
 (refine ar x ?_;clear x;intro mu a b);exact ⟨mu,a,λy hy=>⟨(b y hy).1,λhg=>(b y hy).2 (h y hg)⟩⟩
theorem j6.sub(e:j6 ao fr ad aq ρ pi G s x s')(h:∀a∈G',a∈G):j6 ao fr ad aq ρ pi G' s x s':=by
 refine ar e.exc λmu a b=>?_;exact ⟨⟨mu,a,λy hy=>⟨(b y hy).1,λhg=>(b y hy).2 (h y hg)⟩⟩,e.loc,e.cell,e.bl⟩
section
theorem bY.Mm(S:bY X n ao fr aq sn A ad pi G' ρ σ P wM)(e:j6 ao fr ad aq aS pi G s x s')(h:∀de,j6 ao fr ad aq aS pi G s x de->E (.ref x) de) :
  notedBy (aH an X.w) A ad (λe s'=>VH (aH an X.w) A ad E e s') (.ref x) s':=by
 (refine eZ S.top λouter L av hL=>?_;subst av);refine ar e.exc λmu ex hm=>?_;refine Y8 S.aG.fs hL ex.exc λh1 ht hk=>?_;refine Y7 (s:={s' with heap:=h1}) ht λh2 ht2 hk2=>?_;exact h _ ((e.more ht hk).more (s':={s' with heap:=h1}) ht2 hk2)
end
section
theorem ŗ(ht:lC ap aq sn t te)(lj:mT te=ak\/(own=ap/\nS te=ak))(hb:i6 an X F n ao aq sn b be)
  {QQ:Flow->bf->Prop} {E:ah} {fp:List bc} {I:bc} (dL:∀a∈fp,jm ad a/\a∉G) :
  ∀items ρ σ P s,bY X n ao fr aq sn A ad pi (fp++G) ρ σ P s->hV an X.w own fp I items P s.heap->
   rM (λx ρ σ K=>gM t x ρ λbt=>cV F X.gl b bt σ K XR) items ρ σ K->
   (∀f fe aS ay P' s',fA ad pi G P s P' s'->bY X n ao fr aq sn A ad pi (fp++G) aS ay P' s'->j7 X.w P' f fe->K f aS ay->QQ fe s')->
   (∀aS,XR aS->∀x s',j6 ao fr ad aq aS pi G s x s'->E (.ref x) s')->
   p6 (aH an X.w) A (.forLoop te (.ref I) be [] ad) (λr s'=>match r with | .ok f=>QQ f s' | .error e=>VH (aH an X.w) A ad E e s') s:=by
 intro items
 induction items with
 |nil=>
  intro ρ σ P s S it hf hq hx;refine Aa ?_;show aw _ A ((forTurn te (.ref I) be [] ad).onRaise (λx=>do zW x ad;L5 x)) _ _ s;refine L6 ?_;refine au (jx (au (LL ?_)));refine it.2.2 P s A _ _ (.refl P) S.aG.hp .refl (λb h=>(S.jz b (my _ h)).out) S.aG.hh λs' st=>?_;refine aC ⟨rfl,codeAny_block (CX ?_)⟩;exact hq .next .next ρ σ P s' ⟨fp,.of S.qc st,λa h=>⟨.inr (dL a h).1,(dL a h).2⟩⟩ (S.Mh st λa h=>my _ h) .next hf
 |cons x items ih=>
  intro ρ σ P s S it hf hq hx;refine Aa ?_;show aw _ A ((forTurn te (.ref I) be [] ad).onRaise (λx=>do zW x ad;L5 x)) _ _ s;refine L6 ?_;refine au (jx (au (LL ?_)));refine kD (it.2.2 P s A (λU U=>False) te (λv aF=>∃aX,Step fp P s aX aF/\aA X.w aX v x/\hV an X.w own fp I items aX aF.heap) (.refl P) S.aG.hp .refl (λb h=>(S.jz b (my _ h)).out) S.aG.hh lj λv aX aF bq r wN=>⟨aX,bq,r,wN⟩) (λr aF h=>?_) λU U e=>e.elim;(refine ar h ?_;clear h;intro v av h;subst av);refine au (kD h (λU aF h=>?_) λU U e=>e.elim);(refine bx h ?_;clear h;intro aX bq rv wN);have FC:fA ad pi G P s aX aF:=⟨fp,.of S.qc bq,λa h=>⟨.inr (dL a h).1,(dL a h).2⟩⟩;refine au (Py (S.Mh bq λa h=>my _ h) ht rv hf λbt a8 bn bG hρ=>?_)
  have J3:hV an X.w own fp I items aX a8.heap:=by
   (refine ar bn ?_;clear bn;intro mu a b);exact wN.frame (.refl _) λc hc o e=>a.keep c o (λhm=>(b c hm).2 (my _ hc)) e
  have kW:fA ad pi G P s aX a8:=FC.trans (bn.sub λa h=>nw _ h);refine au (hb A ad fr pi (fp++G) bt σ aX a8 _ XR _ _ bG hρ (λf fe m9 cC dw cg cL fD ie hK=>?_) λm9 hX y cg ex=>?_)
  .have uX:hV an X.w own fp I items dw cg.heap:=by
    (refine ar cL ?_;clear cL;intro mu a b);exact J3.frame a.le λc hc o e=>a.keep c o (λhm=>(b c hm).2 (my _ hc)) e
   have pP:fA ad pi G P s dw cg:=kW.trans (cL.sub λa h=>nw _ h);revert hK;exact j7.el ie (λhK=>aC ⟨rfl,ih m9 cC dw cg fD uX hK (λf fe aS ay P' s' co S' w7 K4=>hq f fe aS ay P' s' (pP.trans co) S' w7 K4) λaS hX y s' ex=>hx aS hX y s' (ex.after pP)⟩) (λhK=>aC (hq .next .next m9 cC dw cg pP fD .next hK)) (λhK=>aC ⟨rfl,ih m9 cC dw cg fD uX hK (λf fe aS ay P' s' co S' w7 K4=>hq f fe aS ay P' s' (pP.trans co) S' w7 K4) λaS hX y s' ex=>hx aS hX y s' (ex.after pP)⟩) λv x r hK=>aC (hq _ _ m9 cC dw cg pP fD (.ret r) hK)
  .exact bG.Mm ((ex.sub λa h=>nw _ h).after kW) λde e=>hx m9 hX y de e
theorem Ř{te ite:bP}{b:List PS}{be:List dU}{own:Bool}{pos}(ht:lC ap aq sn t te)(lj:mT te=ak\/(own=ap/\nS te=ak))(hi:nW an X F n ao aq sn own it ite)(hb:i6 an X F n ao aq sn b be)
  (hs:∀ad x,vp ite ad x=bH x):gx an X F n ao aq sn (.iI t it b) (.For te ite be [] pos):=λA ad fr pi G ρ σ P s K XR QQ E S h hq hx=>by
 refine wpAny_For (hi A ad fr pi ρ σ P s _ _ _ E S.aG h (λI fp items P' s' ay st pV it p hK=>?_) λhX x s' ex=>hx ρ hX x s' (S.exc ex)) (hs ad);refine eZ S.top λouter L cx hL=>?_
 have aeN:L<s.heap.objs.size:=by
  have:=S.aG.ff;rw[cx] at this;(refine d5 this ?_;clear this;intro av az cI);obtain ⟨L',o,b,c,d,f⟩:=az;obtain rfl:=aZ (hL.symm.trans b);exact dE d
 have dL:∀a∈fp,jm ad a/\a∉G:=λa ha=>⟨λL' mo=>by obtain rfl:=aZ (hL.symm.trans mo);exact aB (gc aeN) (pV a ha).1,λhg=>gf _ (b7 (S.jz a hg).lt (pV a ha).1)⟩;have g:=S.iJ st;exact ŗ ht lj hb dL items ρ ay P' s' (S.guard st p pV) it hK (λf fe bt cb dc a8 bn bG hf ko=>hq f fe bt cb dc a8 (g.trans bn) (bG.sub λa h=>nw _ h) hf ko) λbt hX x a8 ex=>hx bt hX x a8 (ex.after g)
theorem ř{pos}(h1:nT an X F n ao aq sn t te)(hb:i6 an X F n ao aq sn b be):gx an X F n ao aq sn (.jy t b) (.While te be [] pos):=λA ad fr pi G ρ σ P s K XR QQ E S h hq hx=>by
 (refine a9 h ?_;clear h;intro m h);refine wpAny_While (codeAny_whileLoop (λk s'=>∃aS ay P',fA ad pi G P s P' s'/\bY X n ao fr aq sn A ad pi G aS ay P' s'/\xY (λρ σ Q=>EW F X.gl t ρ σ (λv ay=>Q (ck v) ay) (XR ρ)) (λρ σ K=>cV F X.gl b ρ σ K XR) k aS ay K) (λk aF hI=>?_) m ⟨ρ,σ,P,.refl S.aG.hp,S,h⟩);(refine kJ hI ?_;clear hI;intro ρ₁ aO aX FC bo cZ)
 cases k with
 |zero=>exact cZ.elim
 |succ k=>
  refine h1 A ad fr pi ρ₁ aO aX aF _ _ _ _ bo.aG cZ (λx dc a8 cb bn iW hK=>?_) λhX x a8 ex=>bo.Mm ((bo.exc ex).after FC) λde e=>hx ρ₁ hX x de e;have bG:=bo.step bn iW;have kW:=FC.trans (bo.iJ bn);dsimp only at hK
  cases htr:ck x with
  |true=>
   rw[bw htr] at hK;refine hb A ad fr pi G ρ₁ cb dc a8 _ XR _ _ bG hK (λf fe m9 cC dw cg cL fD ie sL=>?_) λm9 hX y cg ex=>bG.Mm (ex.after kW) λde e=>hx m9 hX y de e;have pP:=kW.trans cL;revert sL;exact j7.el ie (λsL=>⟨k,iF _,m9,cC,dw,pP,fD,sL⟩) (λsL=>hq .next .next m9 cC dw cg pP fD .next sL) (λsL=>⟨k,iF _,m9,cC,dw,pP,fD,sL⟩) λv x r sL=>hq _ _ m9 cC dw cg pP fD (.ret r) sL
  |false=>
   rw[if_neg (by rw[htr];decide)] at hK;exact CX (hq .next .next ρ₁ cb dc a8 kW bG .next hK)
end
section
theorem PA(e:gY w P C ad aq ρ σ pi s)(L:LstAt w P s.heap a l):a≠ad.locals/\∀nm c,ad.cells.lookup nm=aj c->a≠c:=by
 (refine ar L λvs z2 U=>?_;obtain ⟨k,ho⟩:=z2);refine ⟨λh=>?_,λnm c hc h=>?_⟩
 .subst h;refine Hd e.loc λm o2 es2 ep2 r1 r2 U=>?_;obtain rfl:=aZ (r1.symm.trans ho);cases r2
 .subst h;(refine bm (e.cell nm a hc) λz1 U=>?_;obtain ⟨v,o2,r1,r2⟩:=z1);obtain rfl:=aZ (r1.symm.trans ho);cases r2
theorem PB(e:gY w P C ad aq ρ σ pi s)(L:bS w P s.heap a l):a≠ad.locals/\∀nm c,ad.cells.lookup nm=aj c->a≠c:=by
 (refine ar L λz1 S U=>?_;obtain ⟨o,es,ep,t,l'⟩:=z1);have ho:=S.get;have hd:=S.data;refine ⟨λh=>?_,λnm c hc h=>?_⟩
 .subst h;refine Hd e.loc λm o2 es2 ep2 r1 r2 U=>?_;obtain rfl:=aZ (r1.symm.trans ho);rw[r2] at hd;cases hd
 .subst h;(refine bm (e.cell nm a hc) λz1 U=>?_;obtain ⟨v,o2,r1,r2⟩:=z1);obtain rfl:=aZ (r1.symm.trans ho);rw[r2] at hd;cases hd
theorem DW(L:LstAt w P h a l)(M:bS w P h a m):False:=by
 (refine ar L λvs z2 U=>?_;obtain ⟨k,ho⟩:=z2);(refine ar M λz1 S U=>?_;obtain ⟨o,es,ep,t,l'⟩:=z1);have hd:=S.data;obtain rfl:=aZ (ho.symm.trans S.get);cases hd
theorem Ś(L:LstAt w P h a l):yo h a:=by
 (refine ar L λvs z2 U=>?_;obtain ⟨k,ho⟩:=z2);exact ⟨_,ho,λvs h=>by cases h⟩
theorem ś(M:bS w P h a l):yo h a:=by
 (refine ar M λz1 S U=>?_;obtain ⟨o,es,ep,t,l'⟩:=z1);exact ⟨_,S.get,λvs h=>by have hd:=S.data;rw[h] at hd;cases hd⟩
theorem bY.grow(S:bY X n ao fr aq sn A ad pi G ρ σ P s)(hn:aq[i]?=aj (aj nm))(h2:ρ[i]?=aj slo)(iD:Lk ad s.heap nm (.ref a))(df:fP slo=ap)
  (hP:P.obj a=am) (qS:a∉bO pi) (cx:jm ad a) (st:Step [a] P s P s') (aeB:yo s'.heap a) (s7:a≠ad.locals/\∀nm c,ad.cells.lookup nm=aj c->a≠c)
  (sO:∀j bL sl,j≠i->ρ[j]?=aj sl->uk X.w P ad s.heap bL pi sl->fP sl=ap->∀b,Lk ad s.heap bL (.ref b)->b≠a)
  (Kt:Lk ad s'.heap nm (.ref a)->uk X.w P ad s'.heap nm pi sln) (Ks:yt (ρ.set i sln)) :
  bY X n ao fr aq sn A ad pi G (ρ.set i sln) σ P s'/\fA ad pi G P s P s':=by
 have e:=S.aG.er;have out:∀b o,b≠a->s.heap.get? b=aj o->s'.heap.get? b=aj o:=λb o hb ho=>st.keep b o (by simpa using hb) ho;have lk:∀{nm v},Lk ad s.heap nm v->Lk ad s'.heap nm v:=λx=>x.keep (λo h=>out _ o (fV s7.1) h) λc o hc h=>out c o (fV (s7.2 _ c hc)) h;have Cf:dq X.w P X.C s'.heap pi σ:=e.par.keep (.refl P) (λb hb=>(e.par.lt b hb).2) λb hb o ho=>out b o (λh=>qS (h▸hb)) ho
 have er:gY X.w P X.C ad aq (ρ.set i sln) σ pi s':=by
  refine ⟨e.kind,by simpa using e.len,?_,e.nH,e.kI,λbL c hc=>?_,e.eF,e.oV,e.apart,e.uniq,λj bL sl h1 h3=>?_,Cf⟩
  .refine At e.loc λm o es ep ho r=>?_;exact ⟨m,o,es,ep,out _ o (fV s7.1) ho,r⟩
  ·(refine fy (e.cell bL c hc) λz1 b c' d=>?_;obtain ⟨v,o,ho,r⟩:=z1);exact ⟨⟨v,o,out c o (fV (s7.2 _ c hc)) ho,r⟩,b,c',d⟩
  .by_cases hj:j=i
   .subst hj;obtain rfl:=aZ (aZ (hn.symm.trans h1));have bM:j<ρ.length:=by have:=(p4.mp hn).1;rw[e.len] at this;exact this
    rw[LV bM] at h3;replace h3:=aZ h3;subst h3;exact Kt (lk iD)
   .rw[Ac (fV hj)] at h3;have:=e.slot j bL sl h1 h3;have hb:=sO j bL sl hj h3 this
    cases sl with
    |un=>assumption
    |v x=>refine ar this λv q r=>?_;exact ⟨v,lk q,r⟩
    |ol l=>refine cm this λb x y z u=>?_;exact ⟨b,lk x,y.keeps (.refl P) λo h=>out b o (hb rfl b x) h,z,u⟩
    |os l=>refine cm this λb x y z u=>?_;exact ⟨b,lk x,y.keeps λo h=>out b o (hb rfl b x) h,z,u⟩
    |self=>refine eZ this λai da x y=>?_;exact ⟨ai,da,x,lk y⟩
 have hG:a∉G:=S.own i nm slo hn h2 df a iD;refine ⟨⟨S.aG.change st (λb hb=>by simp at hb;subst hb;exact .inl aeB) er,?_,λg hg=>(S.jz g hg).step st,S.top,Ks⟩,[a],.of S.qc st,λb hb=>by simp at hb;subst hb;exact ⟨.inr cx,hG⟩⟩;refine S.own.set e hn (λbL v' U x=>lk x) λU b hb=>?_;have:=hb.det (lk iD);replace this:=iG this;subst this;exact hG
theorem bY.Mo(S:bY X n ao fr aq sn A ad pi G ρ σ P s)(hn:aq[i]?=aj (aj nm))(hk:stK ap sn nm)(hG:a∉G)(Ks:yt (ρ.set i sv))
  (rv:∀c s',Step [c] P s P s'->(∀b,(∃l,LstAt X.w P s.heap b l)\/(∃l,bS X.w P s.heap b l)->b≠c)->Lk ad s'.heap nm (.ref a)->uk X.w P ad s'.heap nm pi sv)
  (h:∀s',fA ad pi G P s P s'->bY X n ao fr aq sn A ad pi G (ρ.set i sv) σ P s'->QQ () s'):aw (aH an X.w) A (GP ad nm (.ref a)) QQ E s:=by
 refine O1 (sv:=sv) S.aG.er S.aG.hp hn ?_ rv λmu s' st hm sO Ft er=>?_
 .rw[S.aG.kind];exact hk.imp (λx=>x) λx=>⟨x.2,S.aG.er.eF nm (.inl (by rw[S.aG.kind];exact x.2))⟩
 .have gA:∀a∈mu,nX ad a:=λa ha=>(hm a ha).elim (λx=>.inl x.1) λx=>.inr ⟨nm,x.2⟩;refine h s' ⟨mu,.of S.qc st,λa ha=>⟨.inr (er.oW (gA a ha)).2.1,λhg=>(S.jz a hg).own (gA a ha)⟩⟩ ⟨(S.aG.change st (λa ha=>.inl (er.oW (gA a ha)).1) er),S.own.set S.aG.er hn sO (λU b hb=>?_),λa ha=>(S.jz a ha).step st,S.top,Ks⟩;have:=hb.det Ft;replace this:=iG this;subst this;exact hG
theorem bY.Mi(S:bY X n ao fr aq sn A ad pi G ρ σ P s)(h:s.heap.objs.size<=a):a∉G:=λhg=>gf _ (b7 (S.jz a hg).lt h)
theorem bY.newD(S:bY X n ao fr aq sn A ad pi G ρ σ P s)(h:s.heap.objs.size<=a):a∉bO pi:=λhg=>gf _ (b7 (S.aG.er.par.lt a hg).1 h)
theorem bY.inter(S:bY X n ao fr aq sn A ad pi G ρ σ P s):interactive ad=ap:=by unfold interactive;rw[S.aG.er.kind];rfl
end
section
theorem Ŝ{p' p2 pos}(hn:aq[i]?=aj (aj nm))(hk:stK ap sn nm)(hs:∀ad,li (.List [] p2) (aj (.Name nm p')) pos.line ad=bH ap) :
  gx an X F n ao aq sn (.kH i) (.Assign [.Name nm p'] (.List [] p2) pos):=λA ad fr pi G ρ σ P s K XR QQ E S h hq hx=>by
 replace h:=jV.1 h;refine GU (wpAny_List (agJ ?_)) (hs ad);refine ⟨by decide,?_⟩;have st:Step [] P s P {s with heap:=s.heap.push {cls:=.type "list",data:=.seq ([]:List aU).toArray}}:=Step.oP S.aG.hp;have bo:bY X n ao fr aq sn A ad pi G ρ σ P _:=S.step st.up (S.aG.hH st);have hL:LstAt X.w P (s.heap.push {cls:=.type "list",data:=.seq ([]:List aU).toArray}) s.heap.objs.size []:=⟨#[],⟨_,fU _ rfl⟩,.nil⟩;refine bo.Mo (sv:=.ol []) hn hk (S.Mi (aV _)) (S.one.set i (λU U=>.inl h.1) (λl e=>by cases e)) (λc s' co hb hl=>⟨_,hl,hL.keeps (.refl P) λo ho=>co.keep _ o (by simpa using hb _ (.inl ⟨_,hL⟩)) ho,(S.aG.hp.fresh (aV s.heap.objs.size)),S.newD (aV _),S.qc (aV _),by simp[ci]⟩) λa8 bn bG=>?_;exact hq .next .next _ σ P a8 ((S.iJ st.up).trans bn) bG .next h.2
theorem ŝ{p' p pos2 pos}(hn:aq[i]?=aj (aj nm))(hk:stK ap sn nm)(gB:sn.lookup (aP "set")=aj .globalImplicit)(hs:∀ad,li (.Call (.Name (aP "set") p) [] [] pos2) (aj (.Name nm p')) pos.line ad=bH ap) :
  gx an X F n ao aq sn (.tJ i) (.Assign [.Name nm p'] (.Call (.Name (aP "set") p) [] [] pos2) pos):=λA ad fr pi G ρ σ P s K XR QQ E S h hq hx=>by
 replace h:=jV.1 h;refine GU ?_ (hs ad);refine AY (F:=F) (f:="set") (u:=.type "set") (es:=[]) (Q:=λvs aO=>vs=[]/\aO=σ) (XX:=False) (ph (by kernel_rfl)) gB (by decide) rfl qp (.inr ⟨_,rfl⟩) S.aG ⟨rfl,rfl⟩ (λvs xs aX aF aO st r l bo hQ=>?_) (λf=>f.elim);refine bm hQ λav az=>?_;subst av;subst az;cases r;have zt:bY X n ao fr aq sn A ad pi G ρ aO aX aF:=S.step st bo.er.par;refine é bo.hp λa a8 bn ha bM hP hL=>?_;have aeT:bY X n ao fr aq sn A ad pi G ρ aO aX a8:=zt.step bn.up (zt.aG.hH bn);refine aeT.Mo (sv:=.os []) hn hk (zt.Mi ha) (S.one.set i (λl e=>by cases e) (λU U=>.inl h.1)) (λc s' co hb hl=>⟨_,hl,hL.keeps λo ho=>co.keep _ o (by simpa using hb _ (.inr ⟨_,hL⟩)) ho,hP,zt.newD ha,zt.qc ha⟩) λcg cL fD=>?_;exact hq .next .next _ aO aX cg (((S.iJ st).trans (zt.iJ bn.up)).trans cL) fD .next h.2
theorem Ş{p gJ pos pos2}(hn:aq[i]?=aj (aj nm))(hd:(nm==("__debug__":aW))=ap)(bA:fb ee=ak)(nf:(gJ.endLine==pos.line)=ak)(h1:b9 an X F n ao aq sn e ee)
  (hs:∀ad,li (.Call (.Attribute (.Name nm p) (aP "append") gJ) [ee] [] pos) am pos2.line ad=bH ap) :
  gx an X F n ao aq sn (.app i e) (.Expr (.Call (.Attribute (.Name nm p) (aP "append") gJ) [ee] [] pos) pos2):=λA ad fr pi G ρ σ P s K XR QQ E S h hq hx=>by
 refine ar (fO.1 h) λl hl h=>?_;have fG:=Xg hl;(refine xL (S.aG.er.slot i nm _ hn fG) λa iD hL hP qS cx az=>?_;clear az);refine wpAny_Expr ?_ S.inter (hs ad);refine Wk (T:="list") (id:="list.append") (H8 rfl) (H9 (by simp[bA]) (by simp)) nf PySem.F.plainAttrs_list PySem.F.slot_list_append rfl ?_;refine kF (iD.load S.aG.er.kind ?_) hd;refine ⟨?_,λb hb=>?_,?_⟩
 ·(refine ar hL λvs z2 U=>?_;obtain ⟨k,ho⟩:=z2);exact ⟨_,ho,rfl⟩
 .replace hb:=iG hb;subst hb;(refine ar hL λvs z2 U=>?_;obtain ⟨k,ho⟩:=z2);exact ⟨_,ho,rfl⟩
 refine LY (ym (by simp[bA])) (um (X:=X) (by simp[bA]) ((qq bA h1 qp) A ad fr pi ρ σ P s (λvs ay=>match vs with | [v]=>cz (.lst (l++[v]))=ak/\K .next (ρ.set i (.ol (l++[v]))) ay | _=>False) (XR ρ) _ E pos S.aG h (λvs xs aX aF aO st r ln p hQ=>?_) λhX x s' ex=>hx ρ hX x s' (S.exc ex)));obtain ⟨x',rfl⟩:∃x',xs=[x']:=Ad.mp ln;refine bm hQ λhf hK=>?_;(refine ar (nV r) λu av ru=>?_;subst av);have bo:=S.step st p;(refine xL (bo.aG.er.slot i nm _ hn fG) λa' Ch mo nv Ce Ci az=>?_;clear az);have KN:Lk ad aF.heap nm (.ref a):=iD.keep (λo h=>st.keep _ o S.aG.er.kI h) λc o hc h=>st.keep c o (S.aG.er.cell _ c hc).2.2.2.1 h;have:=Ch.det KN;replace this:=iG this;subst this;refine OZ bo.aG.hp nv mo ru (eT hf) λa8 bn Cb=>?_
 obtain ⟨bG,kW⟩:=bo.grow (sln:=.ol (l++[x'])) hn fG Ch rfl nv Ce Ci bn (Ś Cb) (PA bo.aG.er mo) (λj bL sl hj h3 d8 df b hb lM=>by
  subst lM
  cases sl with
  |ol m=>exact hj (S.one.ol j i _ _ h3 fG)
  |os m=>obtain ⟨b',x1,x2,_⟩:=d8;have:=hb.det x1;replace this:=iG this;subst this;exact DW mo x2
  |_=>exact xA df) (λhl2=>⟨a',hl2,Cb,nv,Ce,Ci,eT hf⟩) (bo.one.set i (λU U=>.inr ⟨_,fG⟩) (λl e=>by cases e))
 exact hq .next .next _ aO aX a8 ((S.iJ st).trans kW) bG .next hK
theorem PC{p gJ pos pos2}{cR:PS}{m id:String}(hn:aq[i]?=aj (aj nm))(hd:(nm==("__debug__":aW))=ap)(bA:fb ee=ak)(nf:(gJ.endLine==pos.line)=ak)(h1:b9 an X F n ao aq sn e ee)
  (hs:∀ad,li (.Call (.Attribute (.Name nm p) (aP m) gJ) [ee] [] pos) am pos2.line ad=bH ap)
  (slot:Slot "set" (aP m) id) (KC:Lp (.builtin id)=bH (.type "method_descriptor")) (step:af->V->Option af)
  (hSW:∀ρ σ K XR,SW F X.gl cR ρ σ K XR->∃l,qh ρ i=aj l/\EW F X.gl e ρ σ (λv ay=>∃l',step l v=aj l'/\K .next (ρ.set i (.os l')) ay) (XR ρ))
  (aeg:∀A E P (s:bf) (Q:ah) (a:bc) (l:af) (v:V) (l':af) (x:aU),P.on s->P.obj a=am->bS X.w P s.heap a l->aA X.w P x v->A.units+210<dD->step l v=aj l'->(∀s',Step [a] P s P s'->bS X.w P s'.heap a l'->Q .none s')->aw (aH an X.w) A (call (.builtin id) [.ref a,x]) Q E s) :
  gx an X F n ao aq sn cR (.Expr (.Call (.Attribute (.Name nm p) (aP m) gJ) [ee] [] pos) pos2):=λA ad fr pi G ρ σ P s K XR QQ E S h hq hx=>by
 refine ar (hSW ρ σ K XR h) λl hl h=>?_;have fG:=Xh hl;refine lR (S.aG.er.slot i nm _ hn fG) λa iD hL hP qS cx=>?_;refine wpAny_Expr ?_ S.inter (hs ad);refine Wk (T:="set") (id:=id) (H8 rfl) (H9 (by simp[bA]) (by simp)) nf PySem.F.plainAttrs_set slot KC ?_;refine kF (iD.load S.aG.er.kind ?_) hd;refine ⟨hL.type,λb hb=>?_,?_⟩
 .replace hb:=iG hb;subst hb;refine ar hL λd Z U=>?_;exact ⟨_,Z.get,Z.ex.2.1⟩
 refine LY (ym (by simp[bA])) (um (X:=X) (by simp[bA]) ((qq bA h1 qp) A ad fr pi ρ σ P s (λvs ay=>match vs with | [v]=>∃l',step l v=aj l'/\K .next (ρ.set i (.os l')) ay | _=>False) (XR ρ) _ E pos S.aG h (λvs xs aX aF aO st r ln p hQ=>?_) λhX x s' ex=>hx ρ hX x s' (S.exc ex)));obtain ⟨x',rfl⟩:∃x',xs=[x']:=Ad.mp ln;refine ar hQ λl2 hf hK=>?_;(refine ar (nV r) λu av ru=>?_;subst av);have bo:=S.step st p;refine lR (bo.aG.er.slot i nm _ hn fG) λa' Ch mo nv Ce Ci=>?_;have KN:Lk ad aF.heap nm (.ref a):=iD.keep (λo h=>st.keep _ o S.aG.er.kI h) λc o hc h=>st.keep c o (S.aG.er.cell _ c hc).2.2.2.1 h;have:=Ch.det KN;replace this:=iG this;subst this;refine aeg A E aX aF _ a' l x' l2 u bo.aG.hp nv mo ru (by have:=S.aG.un;exact vH ‹_›) hf λa8 bn Cb=>?_
 obtain ⟨bG,kW⟩:=bo.grow (sln:=.os l2) hn fG Ch rfl nv Ce Ci bn (ś Cb) (PB bo.aG.er mo) (λj bL sl hj h3 d8 df b hb lM=>by
  subst lM
  cases sl with
  |os m=>exact hj (S.one.os j i _ _ h3 fG)
  |ol m=>obtain ⟨b',x1,x2,_⟩:=d8;have:=hb.det x1;replace this:=iG this;subst this;exact DW x2 mo
  |_=>exact xA df) (λhl2=>⟨a',hl2,Cb,nv,Ce,Ci⟩) (bo.one.set i (λl e=>by cases e) (λU U=>.inr ⟨_,fG⟩))
 exact hq .next .next _ aO aX a8 ((S.iJ st).trans kW) bG .next hK
set_option tactic.hygienic true in
theorem ş(hF:kP F){ee:bP}{p gJ pos pos2}(hn:aq[i]?=aj (aj nm))(hd:(nm==("__debug__":aW))=ap)(bA:fb ee=ak)(nf:(gJ.endLine==pos.line)=ak)(h1:b9 an X F n ao aq sn e ee)
  (hs:∀ad,li (.Call (.Attribute (.Name nm p) (aP "add") gJ) [ee] [] pos) am pos2.line ad=bH ap) :
  gx an X F n ao aq sn (.vB i e) (.Expr (.Call (.Attribute (.Name nm p) (aP "add") gJ) [ee] [] pos) pos2):=
 PC (id:="set.add") hn hd bA nf h1 hs PySem.F.slot_set_add rfl (λl v=>if dS v=ak/\l.length<2000 then aj (dI l v) else am) (λρ σ K XR h=>by
  refine ar (fO.1 h) λl hl h=>?_;exact ⟨l,hl,du hF e ρ σ _ _ _ _ (λv ay ⟨h1,h2,h3⟩=>⟨dI l v,bw ⟨h1,h2⟩,h3⟩) id h⟩) λA E P s Q a l v l' x hp hP S r hu fj h=>by
  split at fj
  .rename_i he;replace fj:=aZ fj;subst fj
   exact O0 hp hP S r he.1 hu (λU=>he.2) h
  .cases fj
set_option tactic.hygienic true in
theorem Š(hF:kP F){ee:bP}{p gJ pos pos2}(hn:aq[i]?=aj (aj nm))(hd:(nm==("__debug__":aW))=ap)(bA:fb ee=ak)(nf:(gJ.endLine==pos.line)=ak)(h1:b9 an X F n ao aq sn e ee)
  (hs:∀ad,li (.Call (.Attribute (.Name nm p) (aP "update") gJ) [ee] [] pos) am pos2.line ad=bH ap) :
  gx an X F n ao aq sn (.vD i e) (.Expr (.Call (.Attribute (.Name nm p) (aP "update") gJ) [ee] [] pos) pos2):=
 PC (id:="set.update") hn hd bA nf h1 hs PySem.F.slot_set_update rfl (λl v=>(mJ v).bind λm=>if (bI l m).length<=2000 then aj (bI l m) else am) (λρ σ K XR h=>by
  refine ar (fO.1 h) λl hl h=>?_;exact ⟨l,hl,du hF e ρ σ _ _ _ _ (λv ay h=>by refine bx (Xk h) λm h1 h2 h3=>?_;exact ⟨bI l m,by subst h1;exact bw h2,h3⟩) id h⟩) λA E P s Q a l v l' x hp hP S r hu fj h=>by
  refine ar (vb.1 fj) λm e zm=>?_;clear fj;obtain rfl:=Aw e
  by_cases he:(bI l m).length<=2000
  .rw[bw he] at zm;replace zm:=aZ zm;subst zm;exact Ď hp hP S r hu he h
  .rw[if_neg he] at zm;cases zm
set_option tactic.hygienic true in
theorem š(h:x3 ρ i=aj v):(∃l,ρ[i]?=aj (.ol l)/\v=.lst l)\/(∃l,ρ[i]?=aj (.os l)/\v=.set l):=by
 refine ar (vb.1 h) λx e h=>?_
 cases x with
 |ol l=>exact .inl ⟨l,e,(aZ h).symm⟩
 |os l=>exact .inr ⟨l,e,(aZ h).symm⟩
 |_=>exact no h
set_option tactic.hygienic true in
theorem bY.WN(S:bY X n ao fr aq sn A ad pi G ρ σ P s)(hn:aq[i]?=aj (aj nm))(h2:ρ[i]?=aj slo)(df:fP slo=ap)(iD:Lk ad s.heap nm (.ref a))
  (ho:s.heap.get? a=aj o) (hl:∀vs n,o.data=.seq vs n->vs.size<=ci) (hP:P.obj a=am) (qS:a∉bO pi) (cx:jm ad a) (s7:a≠ad.locals/\∀nm c,ad.cells.lookup nm=aj c->a≠c)
  (sO:∀j bL sl,j≠i->ρ[j]?=aj sl->uk X.w P ad s.heap bL pi sl->fP sl=ap->∀b,Lk ad s.heap bL (.ref b)->b≠a) (hr:aA X.w (P.eW a o) (.ref a) v) :
  fA ad pi G P s (P.eW a o) s/\bY X n ao fr aq sn A ad pi G (ρ.set i (.v v)) σ (P.eW a o) s:=by
 have e:=S.aG.er;have le:=PH.nF (o:=o) hP;have out:∀b,b≠a->P.obj b=am->(P.eW a o).obj b=am:=λb hb h=>by simp only[PH.eW,if_neg hb];exact h
 have hG:a∉G:=S.own i nm slo hn h2 df a iD;have Ul:(P.eW a o).on s:=S.aG.hp.freeze ho hl;have Cf:dq X.w (P.eW a o) X.C s.heap pi σ:=e.par.keep le (λb hb=>out b (λh=>qS (h▸hb)) (e.par.lt b hb).2) λb hb o ho=>ho
 have er:gY X.w (P.eW a o) X.C ad aq (ρ.set i (.v v)) σ pi s:=by
  refine ⟨e.kind,by simpa using e.len,e.loc,out _ (fV s7.1) e.nH,e.kI,λbL c hc=>?_,e.eF,e.oV,e.apart,e.uniq,λj bL sl h1 h3=>?_,Cf⟩
  .refine fy (e.cell bL c hc) λx b c' d=>?_;exact ⟨x,out c (fV (s7.2 _ c hc)) b,c',d⟩
  .by_cases hj:j=i
   .subst hj;obtain rfl:=aZ (aZ (hn.symm.trans h1));have bM:j<ρ.length:=by have:=(p4.mp hn).1;rw[e.len] at this;exact this
    rw[LV bM] at h3;replace h3:=aZ h3;subst h3;exact ⟨_,iD,hr⟩
   .rw[Ac (fV hj)] at h3;have:=e.slot j bL sl h1 h3;have hb:=sO j bL sl hj h3 this
    cases sl with
    |un=>assumption
    |v x=>refine ar this λv q r=>?_;exact ⟨v,q,r.mono le⟩
    |ol l=>refine cm this λb x y z u=>?_;exact ⟨b,x,y.keeps le λo h=>h,out b (hb rfl b x) z,u⟩
    |os l=>refine cm this λb x y z u=>?_;exact ⟨b,x,(y.keeps λo h=>h).mono le,out b (hb rfl b x) z,u⟩
    |self=>refine eZ this λai da x y=>?_;exact ⟨ai,da,x,y⟩
 refine ⟨⟨[],⟨le,Ul,λb o' h=>?_,λU U U h=>h,aV _,rfl,rfl,aV _⟩,λb hb=>by cases hb⟩,⟨⟨Ul,S.aG.gl.mono le,S.aG.bi,er,S.aG.sn,S.aG.gd,S.aG.bd,S.aG.hh,S.aG.un,S.aG.dp,S.aG.fs,λa o e=>le.obj a o (S.aG.bs a o e),S.aG.ff,S.aG.fd,kJ S.aG.cd λa o vs h1 h2 h3=>⟨a,o,vs,h1,le.obj _ _ h2,h3⟩⟩,
  S.own.set e hn (λbL v' U x=>x) (λh=>Mz h),λg hg=>?_,S.top,S.one.set i (λl e=>by cases e) (λl e=>by cases e)⟩⟩
 .simp only[PH.eW] at h
  split at h
  .rename_i e';subst e';exact .inr cx
  .exact .inl h
 .have:=S.jz g hg;exact ⟨this.lt,out g (λh=>hG (h▸hg)) this.out,this.pd,this.own,this.fr⟩
theorem bY.jj(S:bY X n ao fr aq sn A ad pi G ρ σ P s)(hn:aq[i]?=aj (aj nm))(hv:x3 ρ i=aj v) :
  ∃P',fA ad pi G P s P' s/\bY X n ao fr aq sn A ad pi G (ρ.set i (.v v)) σ P' s:=by
 rcases š hv with ⟨l,h2,rfl⟩ | ⟨l,h2,rfl⟩
 .refine xL (S.aG.er.slot i nm _ hn h2) λa iD hL hP qS cx cc=>?_;refine bx (AccAt.freeze (bk:=ap) (acc:=l) (P:=P) (s:=s) hL hP (by simpa[dO] using cc)) λo ho hl hr=>?_
  exact ⟨_,S.WN hn h2 rfl iD ho hl hP qS cx (PA S.aG.er hL) (λj bL sl hj h3 d8 df b hb lM=>by
   subst lM
   cases sl with
   |ol m=>exact hj (S.one.ol j i _ _ h3 h2)
   |os m=>refine bx d8 λb' x1 x2 U=>?_;have:=hb.det x1;replace this:=iG this;subst this;exact DW hL x2
   |_=>exact xA df) hr⟩
 .refine lR (S.aG.er.slot i nm _ hn h2) λa iD hL hP qS cx=>?_;refine bx (bS.G6 hL hP) λo ho hl hr=>?_
  exact ⟨_,S.WN hn h2 rfl iD ho (λvs n e=>absurd e (hl vs n)) hP qS cx (PB S.aG.er hL) (λj bL sl hj h3 d8 df b hb lM=>by
   subst lM
   cases sl with
   |os m=>exact hj (S.one.os j i _ _ h3 h2)
   |ol m=>refine bx d8 λb' x1 x2 U=>?_;have:=hb.det x1;replace this:=iG this;subst this;exact DW x2 hL
   |_=>exact xA df) hr⟩
theorem Ţ(hn:aq[i]?=aj (aj nm))(h2:i6 an X F n ao aq sn ts tes):i6 an X F n ao aq sn (.jj i::ts) tes:=λA ad fr pi G ρ σ P s K XR QQ E S h hq hx=>by
 refine ar (fO.1 h) λv hv h=>?_;refine ar (S.jj hn hv) λP' g S'=>?_;exact h2 A ad fr pi G _ σ P' s K XR QQ E S' h (λf fe bt cb dc a8 bn bG hf ko=>hq f fe bt cb dc a8 (g.trans bn) bG hf ko) λbt hX x a8 ex=>hx bt hX x a8 (ex.after g)
end
section
theorem bY.raised(S:bY X n ao fr aq sn A ad pi G ρ σ P s)(m:bK.MadeExc s.heap h' x "ValueError" args):j6 ao fr ad aq ρ pi G s x {s with heap:=h'}:=by
 have k:∀b o,s.heap.get? b=aj o->h'.get? b=aj o:=m.keeps
 have hb:ao.get? x=am:=by
  cases e:ao.get? x with
  |none=>rfl
  |some o=>have:=S.aG.hp.obj _ _ (S.aG.bs x o e);rw[m.new] at this;cases this
 refine bx m.there λt ht U U=>⟨⟨[],⟨⟨λb o e=>k b o (S.aG.hp.obj _ _ (S.aG.bs b o e)),hb,vV S.aG.ff λe he L hL o ho=>k L o ho,_,_,ht,rfl,rfl,.inl rfl⟩,λb o U e U=>⟨o.slots,k b o e⟩,rfl,rfl,aV _⟩,λa ha=>by cases ha⟩,?_,λnm c hc=>?_,λi nm b h1 h2=>?_⟩
 .exact At S.aG.er.loc λmm o es ep ho r=>⟨mm,o,es,ep,k _ o ho,r⟩
 ·(refine bm (S.aG.er.cell nm c hc) λz1 U=>?_;obtain ⟨v,o,ho,r⟩:=z1);exact ⟨v,o,k _ o ho,r⟩
 .refine ar (S.aG.er.slot i nm _ h1 h2) λv hl hr=>?_;cases hr;exact hl.keep (λo h=>k _ o h) λc o U h=>k c o h
end
section
theorem ţ{np cpos pos}(hk:sn.lookup (aP "ValueError")=aj .globalImplicit)(bA:fb ee=ak)(h1:b9 an X F n ao aq sn e ee) :
  gx an X F n ao aq sn (.raise e) (.Raise (aj (.Call (.Name (aP "ValueError") np) [ee] [] cpos)) am pos):=λA ad fr pi G ρ σ P s K XR QQ E S h hq hx=>by
 refine wpAny_Raise_call PySem.F.excCall_ValueError PySem.F.excRaise_ValueError S.aG.hh (ym (by simp[bA])) (bm (S.aG.bi ("ValueError",.type "ValueError") (ph (by kernel_rfl))) λm1 m2=>?_);refine kF (H4 S.aG hk m1 m2 ⟨rfl,?_⟩) aM;refine um (X:=X) (by simp[bA]) ((qq bA h1 qp) A ad fr pi ρ σ P s (λvs ay=>XR ρ) (XR ρ) _ E cpos S.aG h (λvs xs aX aF aO st r ln p hQ=>?_) λhX x s' ex=>hx ρ hX x s' (S.exc ex));refine ⟨rfl,?_,λh' x hm=>?_⟩
 .have:=r.length;rw[ln] at this;simp at this;rw[this];decide
 .exact hx ρ hQ x _ (((S.step st p).raised hm).after (S.iJ st))
set_option tactic.hygienic true in
theorem Ť{p' k cp pos}(hn:aq[i]?=aj (aj nm))(hk:stK ap sn nm) :
  gx an X F n ao aq sn (.aug i (.aR (.int b))) (.AugAssign (.Name nm p') .Add (.Constant (.int b) k cp) pos):=λA ad fr pi G ρ σ P s K XR QQ E S h hq hx=>by
 refine ar (fO.1 h) λx hv h=>?_;(refine ar (AD h) λa av h=>?_;subst av);refine bx (AD h) λb' e hf hK=>?_;injection (e) with e;subst e
 refine ar (S.aG.er.slot i nm _ hn (ML hv)) λu hl hr=>?_;obtain ⟨tu,rfl⟩:=hr;refine wpAny_AugAssign_Name (hl.load S.aG.er.kind ?_);have st1:Step [] P s P {s with toks:=s.toks+1}:=.ll S.aG.hp (dT _);have S1:=S.step st1.up (S.aG.hH st1);refine LW (ag2 ?_);have st2:Step [] P {s with toks:=s.toks+1} P {s with toks:=s.toks+1+1}:=.ll S1.aG.hp (dT _);exact (S1.step st2.up (S1.aG.hH st2)).store hn hk (.int _ _) λcg cL fD=>hq .next .next _ σ P cg (((S.iJ st1.up).trans (S1.iJ st2.up)).trans cL) fD .next hK
theorem ť(hp:P.on s)(hc:ul X P)(h:dq X.w P X.C s.heap (aj (ai,da)) (aj (t,k)))(hv:aA X.w P v (.int k'))
  (hq:∀s',Step [da] P s P s'->dq X.w P X.C s'.heap (aj (ai,da)) (aj (t,k'))->QQ () s'):aw (aH an X.w) A (setAttr (.ref ai) "k" v) QQ E s:=by
 ((refine fy h ?_;clear h;intro z1 b1 b2 zr);(refine lR z1 ?_;clear z1;intro o a1 a2 a3 a4 a5);(refine mH zr ?_;clear zr;intro m tv kv c1 c2 c3 c4 zr);(refine bm zr ?_;clear zr;intro c5 c6))
 refine a9 hc.obj λcd hC=>?_
 have bA:ai≠X.C:=λe=>by
  subst e;rw[a1] at hC;replace hC:=aZ hC;rw[hC] at a3;exact a3 _ rfl
 obtain ⟨hh,g,d,tk,os⟩:=s;refine hU (store_attr (B:="object") (ns:=["t","k"]) ag3 (hp.obj _ _ hC) (hc.ns.ns hp) hc.sa hc.kk Ia bA ⟨o,hp.obj _ _ a1,a2,a3,.inr ⟨da,a4,b1,c1⟩⟩ (λh' zu I' KM J7=>?_) (λy hy=>?_) aM)
 .refine λhz ht=>lR (J7 o (hp.obj _ _ a1)) λzj e1 e2 e3 e4 e5=>?_
  have ho:zj=o:=by
   have:=e5 da a4;obtain ⟨q1,q2,q3,q4⟩:=zj;obtain ⟨w1,w2,w3,w4⟩:=o;simp only at e2 e3 e4 this a4;subst e2;subst e3;subst e4;rw[this,a4]
  subst ho
  have keep:∀b o',b≠da->hh.get? b=aj o'->h'.get? b=aj o':=λb o' hb hg=>by
   by_cases lM:b=ai
   .subst lM;rw[hp.obj _ _ a1] at hg;replace hg:=aZ hg;subst hg;exact e1
   .refine KM b o' lM (λKl dx q1 q2=>?_) hg;have sT:hh.get? ai=aj Kl:=q1;rw[hp.obj _ _ a1] at sT;replace sT:=aZ sT;subst sT;obtain rfl:=aZ (a4.symm.trans q2);exact hb
  have st:Step [da] P ⟨hh,g,d,tk,os⟩ P ⟨h',g,d,zu,os⟩:=
   ⟨.refl P,⟨λa o' e=>keep a o' (λhe=>by subst he;rw[b2] at e;cases e) (hp.obj a o' e),λt x e=>⟨(hp.tok t x e).1,b7 (hp.tok t x e).2 ht⟩,b7 hp.pos ht,hp.ok⟩,λU U h=>.inl h,λa o' hm e=>keep a o' (by simpa using hm) e,hz,rfl,rfl,ht⟩
  refine hq _ st (cm I' λwR f1 f2 f3 f4=>?_);obtain rfl:=aZ (e1.symm.trans f1)
  rcases f4 with ⟨f4,_⟩ | ⟨d',f4,f5,f6⟩
  .rw[a4] at f4;cases f4
  .obtain rfl:=aZ (a4.symm.trans f4);refine ⟨⟨zj,a1,a2,a3,a4,a5⟩,b1,b2,_,tv,v,f6,?_,c3,?_,hv,λy h1 h2=>?_⟩
   .rw[if_neg aM];exact c2
   .rw[bw rfl]
   .rw[if_neg h2];exact c6 y h1 h2
 .by_cases h1:y=("t":aW)
  .subst h1;simp
  .by_cases h2:y=("k":aW)
   .subst h2;simp
   .exact absurd (c6 y h1 h2) hy
theorem Ŧ{p tpos k cp pos}(hn:aq[i]?=aj (aj nm))(hd:(nm==("__debug__":aW))=ap) :
  gx an X F n ao aq sn (.oQ i (.aR (.int b))) (.AugAssign (.Attribute (.Name nm p) "k" tpos) .Add (.Constant (.int b) k cp) pos):=λA ad fr pi G ρ σ P s K XR QQ E S h hq hx=>by
 (refine bm (Hk h) λhs zr=>?_;obtain ⟨t,k',e1,h⟩:=zr);refine bx (AD h) λb' e hf hK=>?_;subst e1;injection (e) with e;subst e
 (refine eZ (DR S.aG hn hs) λai da av hl=>?_;subst av);refine wpAny_AugAssign_AttributeAny (kF (hl.load S.aG.er.kind ?_) hd);refine Pl S.aG.hp S.aG.gl.cls S.aG.er.par λv rv=>?_;have st1:Step [] P s P {s with toks:=s.toks+1}:=.ll S.aG.hp (dT _);have S1:=S.step st1.up (S.aG.hH st1);obtain ⟨tu,rfl⟩:=rv;have st2:Step [] P {s with toks:=s.toks+1} P {s with toks:=s.toks+1+1}:=.ll S1.aG.hp (dT _);have S2:=S1.step st2.up (S1.aG.hH st2);refine LW (ag2 ?_);have st3:Step [] P {s with toks:=s.toks+1+1} P {s with toks:=s.toks+1+1+1}:=.ll S2.aG.hp (dT _);have S3:=S2.step st3.up (S2.aG.hH st3);refine ť S3.aG.hp S3.aG.gl.cls S3.aG.er.par (.int (k'+b) _) λkU ju aeu=>?_;have st:Step [da] P s P kU:=((st1.trans st2).trans st3).up.trans ju;exact hq .next .next _ _ P kU (S.iJ st) (S.step st aeu) .next hK
end
section
theorem ŧ{p' pos}(hn:aq[i]?=aj (aj nm))(hk:stK ap sn nm)(h1:b9 an X F n ao aq sn e ee)(hs:∀ad,ad.scope.kind=.function->ad.scope.names=sn->li ee (aj (.Name nm p')) pos.line ad=bH ap) :
  gx an X F n ao aq sn (.asg i e) (.Assign [.Name nm p'] ee pos):=λA ad fr pi G ρ σ P s K XR QQ E S h hq hx=>by
 refine GU (h1 A ad fr pi ρ σ P s _ _ _ E S.aG h (λv x P' s' ay st r p hK=>?_) λhX x s' ex=>hx ρ hX x s' (S.exc ex)) (hs ad S.aG.er.kind S.aG.sn);exact (S.step st p).store hn hk r λa8 bn bG=>hq .next .next _ ay P' a8 ((S.iJ st).trans bn) bG .next hK
theorem Ũ(hs:li ce (aj (.Name nm p')) pos.line ad=bH ak)
  (h:aw M A (evalThenUse ce ad λv=>Ws v ((p8 [.Name nm p'] ad).map (·.2))) (λU s'=>Q .next s') E s):aw M A (exec (.Assign [.Name nm p'] ce pos) ad) Q E s:=by
 rw[arm_exec_Assign];refine au (jx (au (vi (a:=ak) hs ?_)));exact au (kD h (λU s' h'=>aC h') λU U e=>e)
theorem ũ(bk)(gm)(g)(rest)(scope)(cpos)(ad)(u)(hg:g.is_async=0):evalThenUse (gG bk gm (g::rest) scope cpos) ad u=(do
   let _ <- Wp (gG bk gm (g::rest) scope cpos) scope ad (Wq (g::rest) cpos) (A6 bk) ap (eval g.iter ad) (aj u)):=by
 obtain ⟨t,i,f,a⟩:=g;simp only at hg;subst hg;cases bk
 .exact arm_evalThenUse_ListComp ..
 .exact arm_evalThenUse_SetComp ..
theorem Ū(va:ce=gG bk gm (g::rest) scope cpos)(hg:g.is_async=0)
  (hs:li ce (aj (.Name nm p')) pos.line ad=bH ak)
  (h:∀u,(∀v,u v=xF (.Name nm p') ad v)->aw M A (Wp (gG bk gm (g::rest) scope cpos) scope ad (Wq (g::rest) cpos) (A6 bk) ap (eval g.iter ad) (aj u)) (λU s'=>Q .next s') E s):aw M A (exec (.Assign [.Name nm p'] ce pos) ad) Q E s:=by
 refine Ũ hs ?_;have:=ũ bk gm g rest scope cpos ad (λv=>Ws v ((p8 [.Name nm p'] ad).map (·.2))) hg;rw[<- va] at this;generalize evalThenUse ce ad (λv=>Ws v ((p8 [.Name nm p'] ad).map (·.2)))=y at this ⊢;subst this;rw[va];exact au (kD (h _ λv=>rfl) (λU s' h'=>aC h') λU U e=>e)
theorem ū{p' pos}(hn:aq[i]?=aj (aj nm))(hk:stK ap sn nm)(R:yr an X F n ao aq sn bk elt k gens ce)
  (hs:∀ad,ad.scope.kind=.function->ad.scope.names=sn->li ce (aj (.Name nm p')) pos.line ad=bH ak) :
  gx an X F n ao aq sn (.asg i (.comp bk elt k gens)) (.Assign [.Name nm p'] ce pos):=by
 (refine cm R ?_;clear R;intro d R av az cI;subst av;subst az;subst cI);refine λA ad fr pi G ρ σ P s K XR QQ E S h hq hx=>Ū (bk:=bk) (g:=⟨d.te,d.ite,d.gp,0⟩) (rest:=d.rest) (scope:=d.scope) (cpos:=d.pos) rfl rfl (hs ad S.aG.er.kind S.aG.sn) λu hu=>?_;refine ag0 (use:=aj u) (g:=⟨d.te,d.ite,d.gp,0⟩) (gs:=d.rest) (by cases bk<;>rfl) (R.vy ad) (Po (R.H.cells S.aG)) R.H.kind R.H.loc ?_;refine Pw (K:=λv ay=>K .next (ρ.set i (.v v)) ay) (RR:=λacc C=>compPost (aH an X.w) A E (aj u) _ acc C) R.H R.hi R.ht R.oU R.lj R.G3 R.tK S.aG h λD C P' s' ay x st r p hK ml zD hC xb=>a9 ml λm hm=>?_;have hCl:C<s'.heap.objs.size:=hm.lt;have S':bY X n ao fr aq sn A ad pi ([C]++G) ρ ay P' s':=S.guard st p λb hb=>by simp at hb;subst hb;exact ⟨hC,hCl,zD⟩
 show aw _ A (u (.ref D)) _ E s';rw[hu];refine GQ (S'.store hn hk r λa8 bn bG=>?_);refine ar bn λmu a b=>?_;have K5:C∉mu:=λsP=>(b C sP).2 (by simp);refine ⟨m,?_,λh' zw=>?_⟩
 .exact tS hm λo es ep ho rr=>⟨o,es,ep,a.keep C o K5 ho,rr⟩
 .have aeO:P'.obj C=am:=zD;have co:Step [C] P' a8 P' {a8 with heap:=h'}:=Step.sameBut (tk:=a8.toks) (dr:=a8.drawn) bG.aG.hp aeO zw (aV _);have fD:=(bG.Mh co λy hy=>by simp at hy;subst hy;simp).sub (G':=G) λy hy=>nw _ hy;have hCG:C∉G:=S.Mi hC;refine (hq .next .next _ ay P' _ (((S.iJ st).trans (fA.sub ⟨mu,a,b⟩ λy hy=>nw _ hy)).trans ⟨[C],.of bG.qc co,λy hy=>by simp at hy;subst hy;exact ⟨.inr (S.qc hC),hCG⟩⟩) fD .next hK)
end
structure Ŭ where
 o:jO
 fd:K7
 c:bc
 oc:jO
 vs:Array aU
 t:Tok
structure ŭ(X:Cx)(P:PH)(a:bc)(ca:List aW)(sn:List (aW×di))(body:List dU)(w:Ŭ):Prop where
 h1:P.obj a=aj w.o
 h2:w.o.data=.func w.fd
 h3:w.fd.body=.stmts body
 h4:w.fd.closure=[]
 h5:w.fd.globals=X.gd
 h6:w.fd.builtins=X.bd
 h7:w.fd.scope.names=sn
 h8:w.fd.scope.kind=.function
 h9:w.fd.scope.isCoroutine=ap
 Mq:w.fd.scope.isGenerator=ap
 e1:w.fd.code=.ref w.c
 e2:P.obj w.c=aj w.oc
 e3:w.oc.data=.fields w.vs
 e4:w.vs[1]?=aj (.str w.fd.qualname w.t)
 C1:∀vals,vals.length=ca.length->Wt w.fd ⟨vals,[]⟩=bH (ca.zip vals)
def v0(X:Cx)(P:PH)(a:bc)(ca:List aW)(sn:List (aW×di))(body:List dU):=∃w,ŭ X P a ca sn body w
theorem PD:∀b m,nm∉b.map (·.1)->GV kd b m nm=m nm
 |[]=>λm U=>rfl
 |(k,v)::r=>λm h=>by
  simp only[th,cD,not_or] at h;rw[GV,PD r _ h.2]
  split
  .simp only[if_neg h.1]
  .rfl
theorem PF:∀b m,nm∉b.map (·.1)->GX kd b m nm=m nm
 |[]=>λm U=>rfl
 |(k,v)::r=>λm h=>by
  simp only[th,cD,not_or] at h;rw[GX,PF r _ h.2]
  split
  .rfl
  .simp only[if_neg h.1]
theorem PJ(hl:kd nm=aj .local):∀b m,(b.map (·.1)).Nodup->(nm,v)∈b->GV kd b m nm=aj v
 |(k,u)::r,m,hn,h=>by
  rw[th,pX] at hn
  rcases cD.mp h with e | h
  .injection e with e1 e2;subst e1;subst e2
   rw[GV,PD r _ hn.1,bw hl];simp
  .rw[GV];exact PJ hl r _ hn.2 h
theorem PK(hl:kd nm≠aj .local):∀b m,(b.map (·.1)).Nodup->(nm,v)∈b->GX kd b m nm=aj v
 |(k,u)::r,m,hn,h=>by
  rw[th,pX] at hn
  rcases cD.mp h with e | h
  .injection e with e1 e2;subst e1;subst e2
   rw[GX,PF r _ hn.1,if_neg hl];simp
  .rw[GX];exact PK hl r _ hn.2 h
theorem A8:∀aq n acc,aq.lookup x=aj .cell\/(acc.lookup x).isSome=ak->((Wu n aq acc).lookup x).isSome=ak
 |[]=>λU U h=>h.elim (λe=>by cases e) id
 |(y,k)::r=>λn acc h=>by
  unfold Wu
  by_cases hk:(k ==.cell)=ak
  .rw[bw hk];refine A8 r (n+1) ((y,n)::acc) ?_
   by_cases hy:(x==y)=ak
   .exact .inr (by rw[mE,hy];rfl)
   .refine h.imp (λe=>?_) λe=>?_
    .rw[mE] at e;simpa only [hy] using e
    .rw[mE];simpa only [hy] using e
  .rw[if_neg hk];refine A8 r n acc ?_
   by_cases hy:(x==y)=ak
   .refine .inr (h.elim (λe=>?_) id);rw[mE,hy] at e;exact absurd (by rw[aZ e];rfl) hk
   .refine h.imp (λe=>?_) id;rw[mE] at e;simpa only [hy] using e
structure v5(ca locs:List aW)(sn:List (aW×di)):Prop where
 par:∀nm∈ca,sn.lookup nm=aj .local\/sn.lookup nm=aj .cell
 gn:(ca++locs).Nodup
 free:∀nm,sn.lookup nm≠aj .free
theorem PL{α β:Type}:∀(l:List α) (m:List β),l.length=m.length->(l.zip m).map (·.1)=l
 |[],[],U1=>rfl
 |a::l,b::m,h=>by simp[PL l m (by simpa using h)]
theorem PM{α β:Type}:∀(l:List α) (m:List β) (i:Nat) (a:α) (b:β),l[i]?=aj a->m[i]?=aj b->(a,b)∈l.zip m
 |a::l,b::m,0=>λx y h1 h2=>by simp at h1 h2;subst h1;subst h2;simp
 |a::l,b::m,i+1=>λx y h1 h2=>by simp at h1 h2;simp;exact .inr (PM l m i x y h1 h2)
 |[],U1,U2=>λU U h1 U=>by simp at h1
 |U1::U2,[],U3=>λU U U h2=>by simp at h2
def ut(m:Bool)(an:dX)(X:Cx)(F:Calls)(n:Nat)(ao:bK)(aq:List (Option aW))(sn:List (aW×di))(st:List PS)(se:List dU):=
 ∀A ad fr pi ρ σ P s K XR QQ E,
  (m=ap->pi=am)->bY X n ao fr aq sn A ad pi [] ρ σ P s->cV F X.gl st ρ σ K XR->
  (∀f fe aS ay P' s',fA ad pi [] P s P' s'->j7 X.w P' f fe->(pi.isSome=ak->dq X.w P' X.C s'.heap pi ay)->K f aS ay->QQ fe s')->
  (∀aS,XR aS->∀x s',(∃mu,Ic ao fr mu s x s'/\∀a∈mu,(a∈bO pi\/jm ad a)/\a∉([]:List bc))->E (.ref x) s')->aw (aH an X.w) A (GS se ad) QQ E s
theorem i6.body(h:i6 an X F n ao aq sn st se):ut m an X F n ao aq sn st se:=
 λA ad fr pi ρ σ P s K XR QQ E U S hw hq hx=>h A ad fr pi [] ρ σ P s K XR QQ E S hw (λf fe aS ay P' s' g S' ie hK=>hq f fe aS ay P' s' g ie (λU=>S'.aG.er.par) hK) λaS hX x s' ex=>hx aS hX x s' ex.exc
section
theorem PN(hN:v5 ca locs sn)
  {sl:List Sl} {R:Result->bf->Prop}
  (f:v0 X P a ca sn body) (gl:gw X P) (hp:P.on s) (bi:rV X) (hh:A.handled=am) (hu:A.units+260+60*(n+1)<dD) (hd:A.depth+6*(n+1)<xD) (hf:A.frames=aj fr) (bs:∀a o,ao.get? a=aj o->P.obj a=aj o) (ff:s.heap.FunFrames ao fr)
  (fpd:∀e∈fr,∀L,e.frame=aj L->L∉bO pi) (par:dq X.w P X.C s.heap pi σ) (cc:args.length=ca.length) (d8:sl.length=ca.length)
  (u6:∀(i:Nat) v (x:Sl),args[i]?=aj v->sl[i]?=aj x->(∃y,x=.v y/\aA X.w P v y)\/(x=.self/\∃ai da,pi=aj (ai,da)/\v=.ref ai)\/x=.un)
  (hk:∀ad aF,bY X n ao (ad::fr) ((ca++locs).map aj) sn (A.deeper ad) ad pi [] (sl++cU locs.length .un) σ P aF->Step [] P s P aF->ad.frame=aj s.heap.objs.size->(∀(i:Nat) (y:aW) (v:aU),ca[i]?=aj y->args[i]?=aj v->Lk ad aF.heap y v)->
   aw (aH an X.w) (A.deeper ad) (GS body ad) (λfl s'=>R (.ok (.ret (match fl with | .ret v=>v | _=>.none))) s') (λe s'=>aw (aH an X.w) (A.deeper ad) (Lu ad e) (λU de=>R (.error e) de) (λe' de=>R (.error e') de) s') aF):p6 (aH an X.w) A (.call (.ref a) ⟨args,[]⟩) R s:=by
 refine a9 f λw r=>?_;have aeE:ca.Nodup:=(zQ.mp hN.gn).1;refine codeAny_call_function (kx (dH _ _) hd) (hp.obj _ _ r.h1) r.h2 r.h9 r.Mq r.h3 ⟨w.c,w.oc,w.vs,w.t,r.e1,hp.obj _ _ r.e2,r.e3,r.e4⟩ ?_;rw[r.C1 args cc,r.h4];refine aC (hU (wpAny_newFunctionEnv_cells r.h8 (λx hx=>?_) λad he aF ic hz ht=>?_))
 .have hm:x.1∈ca:=(ag4 (show (x.1,x.2)∈ca.zip args from hx)).1;rw[r.h7]
  rcases hN.par x.1 hm with q | q
  .exact .inl q
  .exact .inr ⟨q,A8 _ _ _ (.inl q)⟩
 refine ⟨(gl.noLimit hp).keeps ic.toInCall.keep,codeAny_func ?_⟩;have hL:ad.locals=s.heap.objs.size:=by rw[he];rfl
 have cx:ad.frame=aj s.heap.objs.size:=by rw[he];rfl
 have eO:ad.scope=w.fd.scope:=by rw[he];rfl
 have TT:ad.cells=Wu (s.heap.objs.size+1) w.fd.scope.names []:=by rw[he];rfl
 have B8:∀nm,ad.kindOf nm=sn.lookup nm:=λnm=>by rw[<- r.h7,<- eO];rfl
 refine jk ic.toInCall.same λhp1 DX hs1=>?_;have hg1:aF.gens=s.gens:=by rw[hs1]
 have ho1:aF.os=s.os:=by rw[hs1]
 have st1:Step [] P s P aF:=⟨.refl P,⟨λb o e=>ic.toInCall.keep b o (hp.obj b o e),λt x e=>⟨(hp.tok t x e).1,b7 (hp.tok t x e).2 ht⟩,b7 hp.pos ht,hp.ok⟩,λU U h=>.inl h,λb o U e=>ic.toInCall.keep b o e,hz,hg1,ho1,ht⟩;have J0:∀b,s.heap.objs.size<=b->P.obj b=am:=λb hb=>hp.fresh hb;have Kb:∀b∈bO pi,b<s.heap.objs.size:=λb hb=>(par.lt b hb).1;have Kd:∀nm c,ad.cells.lookup nm=aj c->s.heap.objs.size<c:=λnm c hc=>by have:=ic.above nm c (mem_of_lookup hc);rw[hL] at this;exact this
 have Ke:ao.get? s.heap.objs.size=am:=by
  cases e:ao.get? s.heap.objs.size with
  |none=>rfl
  |some o=>have:=bs _ o e;rw[J0 _ (aV _)] at this;cases this
 have Kw:∀(i:Nat) (y:aW) (v:aU),ca[i]?=aj y->args[i]?=aj v->Lk ad aF.heap y v:=λi y v r1 hv=>by
  have sP:=PM ca args i y v r1 hv;have hym:y∈ca:=k8 r1;have Um:((ca.zip args).map (·.1)).Nodup:=by rw[PL ca args cc.symm];exact aeE
  rcases hN.par y hym with q | q
  .exact .loc _ (by rw[B8];exact q) ic.toInCall.ns (PJ (by rw[B8];exact q) _ _ Um sP)
  .refine a9 (Wv.mp (A8 (x:=y) w.fd.scope.names (s.heap.objs.size+1) [] (.inl (by rw[r.h7];exact q)))) λc hc=>?_;rw[<- TT] at hc;refine .eF c (.inl (by rw[B8];exact q)) hc ?_;have:=ic.cell y c hc
   rwa [PK (by rw[B8,q];decide) _ _ Um sP] at this
 have er:gY X.w P X.C ad ((ca++locs).map aj) (sl++cU locs.length .un) σ pi aF:=by
  refine ⟨by rw[eO];exact r.h8,by simp[d8],⟨_,ic.toInCall.ns⟩,by rw[hL];exact J0 _ (aV _),λhm=>by rw[hL] at hm;exact gf _ (Kb _ hm),λnm c hc=>?_,λnm hk=>?_,λL oK=>by rw[cx] at oK;replace oK:=aZ oK;rw[hL,oK];exact aV _,λnm bL c q1 q2=>name_of_addr ic.apart (mem_of_lookup q1) (mem_of_lookup q2),λi j nm q1 q2=>?_,λi nm x q1 q2=>?_,par.keep (.refl P) (λb hb=>(par.lt b hb).2) λb U o e=>ic.toInCall.keep b o e⟩
  .have bM:=Kd nm c hc;exact ⟨⟨_,ic.cell nm c hc⟩,J0 c (gc bM),by rw[hL];exact mB bM,λhm=>gf _ (td (Kb c hm) bM),λL oK=>by rw[cx] at oK;replace oK:=aZ oK;rw[<- oK];exact gc bM⟩
  .rw[B8] at hk
   rcases hk with hk | hk
   .rw[TT];exact Wv.mp (A8 _ _ _ (.inl (by rw[r.h7];exact hk)))
   .exact absurd hk (hN.free nm)
  .rw[lQ] at q1 q2;refine ar (g7.mp q1) λx r1 r2=>?_;refine ar (g7.mp q2) λy r3 r4=>?_;replace r2:=aZ r2;replace r4:=aZ r4;subst r2;subst r4;exact (List.getElem?_inj (p4.mp r1).1 hN.gn).mp (r1.trans r3.symm)
  .rw[lQ] at q1;refine ar (g7.mp q1) λy r1 r2=>?_;replace r2:=aZ r2;subst r2
   by_cases hi:i<ca.length
   .rw[xG hi] at r1;rw[xG (by rw[d8];exact hi)] at q2;obtain ⟨v,hv⟩:∃v,args[i]?=aj v:=⟨_,oM (by rw[cc];exact hi)⟩;have iD:=Kw i y v r1 hv
    rcases u6 i v x hv q2 with ⟨z,rfl,hr⟩ | ⟨rfl,ai,da,e1,e2⟩ | rfl
    .exact ⟨v,iD,hr⟩
    .subst e2;exact ⟨ai,da,e1,iD⟩
    .trivial
   .rw[Af (by rw[d8];exact GR hi),L1] at q2
    split at q2
    .replace q2:=aZ q2;subst q2;trivial
    .cases q2
 have plain:∀(i:Nat) (x:Sl),(sl++cU locs.length Sl.un)[i]?=aj x->fP x=ak:=λi x q2=>by
  by_cases hi:i<ca.length
  .rw[xG (by rw[d8];exact hi)] at q2;obtain ⟨v,hv⟩:∃v,args[i]?=aj v:=⟨_,oM (by rw[cc];exact hi)⟩
   rcases u6 i v x hv q2 with ⟨z,rfl,_⟩ | ⟨rfl,_⟩ | rfl<;>rfl
  .rw[Af (by rw[d8];exact GR hi),L1] at q2
   split at q2
   .replace q2:=aZ q2;subst q2;rfl
   .cases q2
 have S:bY X n ao (ad::fr) ((ca++locs).map aj) sn (A.deeper ad) ad pi [] (sl++cU locs.length .un) σ P aF:=by
  refine ⟨⟨st1.on,gl,bi,er,by rw[eO];exact r.h7,by rw[he];exact r.h5,by rw[he];exact r.h6,hh,?_,?_,ag5 hf,bs,?_,λe KV L oK=>?_,⟨w.c,w.oc,w.vs,by rw[he];exact r.e1,r.e2,r.e3⟩⟩,λi nm x q1 q2 df=>absurd df (by rw[plain i x q2];decide),λg hg=>absurd hg (gU),⟨fr,_,rfl,cx⟩,⟨λi j l m q1 q2=>by have:=plain i _ q1;simp[fP] at this,λi j l m q1 q2=>by have:=plain i _ q1;simp[fP] at this⟩⟩
  .exact WU (b:=303) hu
  .exact WV (p:=1) (q:=4) hd
  .refine bK.FunFrames.cons (by rw[eO,r.h8];decide) cx (by have:=ic.toInCall.ns;rw[hL] at this;exact this) Ke (vV ff λe U L U o ho=>ic.toInCall.keep L o ho)
  .rcases cD.mp KV with rfl | KV
   .obtain rfl:=aZ (cx.symm.trans oK);exact λhm=>gf _ (Kb _ hm)
   .exact fpd e KV L oK
 exact hk ad aF S st1 cx Kw
theorem PO(hN:v5 ca locs sn)
  {σ:Pz} {sl:List Sl} {QQ:ah} {E:ah}
  (f:v0 X P a ca sn body) (gl:gw X P) (hp:P.on s) (bi:rV X) (hh:A.handled=am) (hu:A.units+260+60*(n+1)<dD) (hd:A.depth+6*(n+1)<xD) (hf:A.frames=aj fr) (bs:∀a o,ao.get? a=aj o->P.obj a=aj o) (ff:s.heap.FunFrames ao fr)
  (fpd:∀e∈fr,∀L,e.frame=aj L->L∉bO pi) (par:dq X.w P X.C s.heap pi σ) (cc:args.length=ca.length) (d8:sl.length=ca.length)
  (u6:∀(i:Nat) v x,args[i]?=aj v->sl[i]?=aj x->(∃y,x=.v y/\aA X.w P v y)\/(x=.self/\∃ai da,pi=aj (ai,da)/\v=.ref ai)\/x=.un)
  (hk:∀ad aF,bY X n ao (ad::fr) ((ca++locs).map aj) sn (A.deeper ad) ad pi [] (sl++cU locs.length .un) σ P aF->Step [] P s P aF->ad.frame=aj s.heap.objs.size->(∀(i:Nat) (y:aW) (v:aU),ca[i]?=aj y->args[i]?=aj v->Lk ad aF.heap y v)->
   aw (aH an X.w) (A.deeper ad) (GS body ad) (λfl s'=>QQ (match fl with | .ret v=>v | _=>.none) s') (λe s'=>aw (aH an X.w) (A.deeper ad) (Lu ad e) (λU de=>E e de) (λe' de=>E e' de) s') aF):aw (aH an X.w) A (call (.ref a) args) QQ E s:=
 V4 (PN hN f gl hp bi hh hu hd hf bs ff fpd par cc d8 u6 hk)
theorem PP(hN:v5 ca locs sn)(hb:ut m an X F n ao ((ca++locs).map aj) sn st body)
  {σ:Pz} {sl:List Sl} {K:lm} {XX:Prop} {QQ:ah} {E:ah}
  (hm:m=ap->pi=am) (f:v0 X P a ca sn body) (gl:gw X P) (hp:P.on s) (bi:rV X) (hh:A.handled=am) (hu:A.units+260+60*(n+1)<dD) (hd:A.depth+6*(n+1)<xD) (hf:A.frames=aj fr) (bs:∀a o,ao.get? a=aj o->P.obj a=aj o) (ff:s.heap.FunFrames ao fr)
  (fpd:∀e∈fr,∀L,e.frame=aj L->L∉bO pi) (par:dq X.w P X.C s.heap pi σ) (cc:args.length=ca.length) (d8:sl.length=ca.length)
  (u6:∀(i:Nat) v (x:Sl),args[i]?=aj v->sl[i]?=aj x->(∃y,x=.v y/\aA X.w P v y)\/(x=.self/\∃ai da,pi=aj (ai,da)/\v=.ref ai))
  (h:cV F X.gl st (sl++cU locs.length .un) σ K (λU=>XX))
  (hq:∀f fe aS ay P' s',Step (bO pi) P s P' s'->j7 X.w P' f fe->(pi.isSome=ak->dq X.w P' X.C s'.heap pi ay)->K f aS ay->QQ (match fe with | .ret v=>v | _=>.none) s')
  (hx:XX->∀x s',iu ao fr (bO pi) s x s'->E (.ref x) s'):aw (aH an X.w) A (call (.ref a) args) QQ E s:=by
 refine PO hN f gl hp bi hh hu hd hf bs ff fpd par cc d8 (λi v x a b=>(u6 i v x a b).imp id .inl) λad aF S st1 cx Kw=>?_
 have nomu:∀{mu:List bc},(∀a∈mu,(a∈bO pi\/jm ad a)/\a∉([]:List bc))->∀b,b∉bO pi->b<s.heap.objs.size->b∉mu:=λ{mu} gS b hb bM hm=>by
  rcases (gS b hm).1 with q | q
  .exact hb q
  .exact gf _ (b7 bM (q _ cx))
 refine hb (A.deeper ad) ad (ad::fr) pi _ σ P aF K (λU=>XX) _ _ hm S h (λfl fe aS ay P' s' g ie KG hK=>?_) λaS hX x s' ex=>?_
 .refine ar g λmu sf gS=>?_;have dG:Step (bO pi) P s P' s':=⟨sf.le,sf.on,λb o e=>(sf.new b o e).imp id λq=>q _ cx,λb o hb e=>sf.keep b o (nomu gS b hb (dE e)) (st1.keep b o (by simp) e),aB st1.size sf.size,sf.gens.trans st1.gens,sf.os.trans st1.os,aB st1.toks sf.toks⟩;exact hq fl fe aS ay P' s' dG ie KG hK
 .refine ar ex λmu ea gS=>?_;refine N2 (ag5 hf) cx ea.exc λh' hT hk=>?_;refine hx hX x _ ⟨hT,λb o hb e hn=>?_,ea.gens.trans st1.gens,ea.os.trans st1.os,aB st1.toks ea.toks⟩;refine a9 (ea.keep b o (nomu gS b hb (dE e)) (st1.keep b o (by simp) e) hn) λsl1 q1=>?_;refine a9 (hk b _ (by simp) q1 hn) λsl2 q2=>?_;exact ⟨sl2,q2⟩
end
structure FI where
 ca:List aW
 locs:List aW
 sn:List (aW×di)
 body:List dU
structure PQ(an:dX)(X:Cx)(inf:String->FI):Prop where
 fn:∀f d,eS f=aj d->d.cj=ap->∃a,X.mg (aP f)=aj (.ref a)/\∀P,gw X P->v0 X P a (inf f).ca (inf f).sn (inf f).body
 me:∀f d,eS f=aj d->d.cj=ak->∃a,X.mN (aP f)=aj (.ref a)/\∀P,gw X P->v0 X P a (inf f).ca (inf f).sn (inf f).body
 np:∀f d,eS f=aj d->d.cj=ap->(inf f).ca.length=d.np/\(inf f).locs.length=d.nl-d.np
 nm:∀f d,eS f=aj d->d.cj=ak->(inf f).ca.length=1/\(inf f).locs.length=d.nl-1
 ok:∀f d,eS f=aj d->v5 (inf f).ca (inf f).locs (inf f).sn
 bd:∀f d,eS f=aj d->f≠"law"->∀n ao,lB an X (oZ eS X.gl n) n ao->ut d.cj an X (oZ eS X.gl n) n ao (((inf f).ca++(inf f).locs).map aj) (inf f).sn d.body (inf f).body
theorem Ů(r:bp w P vs xs)(i:Nat)(v)(x)(h1:vs[i]?=aj v)(h2:xs[i]?=aj x):aA w P v x:=
 ((r.at i).2 v h1).elim λy h=>aZ (h.1.symm.trans h2)▸h.2
theorem PR(r:j7 w P f fe)(h:iN Q f ρ σ):∃x,aA w P (match fe with | .ret v=>v | _=>.none) x/\Q x σ:=by
 cases r with
 |next=>exact ⟨.none,aA.none,h⟩
 |brk=>exact h.elim
 |cont=>exact h.elim
 |ret r=>exact ⟨_,r,h⟩
theorem PT(H:PQ an X inf)(ao):∀n,lB an X (oZ eS X.gl n) n ao
 |0=>⟨λf vs Q XX U h=>h.elim,λm t k Q XX U h=>h.elim⟩
 |n+1=>by
  have C:=PT H ao n;refine ⟨λf vs Q XX hf h=>?_,λm t k Q XX hm h=>?_⟩
  .refine ar h λd hd h=>?_
   have hM:d.cj=ap:=by
    unfold vX at hf;rw[hd] at hf;simpa using (dM.mp hf).1
   have hl:f≠"law":=by simpa using (dM.mp hf).2
   rw[if_neg (by rw[hM];decide)] at h;refine bm h λcc h=>ar (H.fn f d hd hM) λa ha hF=>?_;refine bm (H.np f d hd hM) λnp nl=>⟨a,ha,λP s A fr args QQ E gl hp bi hh hu Cs cx bs ff r hq hx=>?_⟩;refine PP (pi:=am) (σ:=am) (sl:=vs.map .v) (H.ok f d hd) (H.bd f d hd hl n ao C) (λU=>rfl) (hF P gl) gl hp bi hh hu Cs cx bs ff (λe U L U=>by simp[bO]) trivial (by rw[np,<- cc];exact r.length) (by rw[np,<- cc,ed]) (λi v x h1 h2=>.inl ?_) (by rw[nl];exact h) (λfl fe aS ay P' s' st r' U hK=>?_) (λhX x s' ex=>hx hX x s' ex)
   .rw[lQ] at h2;exact ar (g7.mp h2) λy e1 e2=>⟨y,e2.symm,Ů r i v y h1 e1⟩
   .exact ar (PR r' hK) λx r1 r2=>hq _ x P' s' st r1 r2
  ·(refine ar h ?_;clear h;intro d hd h)
   have hM:d.cj=ak:=by
    unfold vY at hm;rw[hd] at hm;exact hm
   have hl:m≠"law":=λe=>by subst e;(replace hd:=aZ hd;cases hd);cases hM
   rw[bw hM] at h;obtain ⟨-,h⟩:=h;refine ar (H.me m d hd hM) λa ha hF=>bm (H.nm m d hd hM) λnp nl=>?_;refine ⟨a,ha,λP s A fr ai da QQ E gl hp bi hh hu Cs cx bs ff fpd pz hq hx=>?_⟩;refine PP (pi:=aj (ai,da)) (σ:=aj (t,k)) (sl:=[.self]) (H.ok m d hd) (H.bd m d hd hl n ao C) (λe=>by rw[hM] at e;cases e) (hF P gl) gl hp bi hh hu Cs cx bs ff (λe he L hL=>by simp only[bO,en];exact fpd e he L hL) pz (by rw[np];rfl) (by rw[np];rfl) (λi v x h1 h2=>.inr ?_) (by rw[nl];exact h) (λfl fe aS ay P' s' st r' KG hK=>?_) (λhX x s' ex=>hx hX x s' ex)
   .cases i with
    |zero=>simp at h1 h2;subst h1;subst h2;exact ⟨rfl,ai,da,rfl,rfl⟩
    |succ i=>simp at h1
   .exact ar (PR r' hK) λx r1 r2=>hq _ x P' s' ay st r1 (KG rfl) r2
set_option backward.match.sparseCases false
noncomputable def pp(l:List String):=l.map λs=>aj (aP s)
noncomputable def ownOf:PI->Bool
 |.enum U1=>ak
 |.zip U1 U2=>ak
 |_=>ap
noncomputable def DY(sn:List (aW×di))(scope:jN)(own:List aW):=
 (scope.kind ==.function)&&scope.names.all (λx=>!(x.2 ==.cell))&&scope.names.all (λx=>!(x.2 ==.free)||((sn.lookup x.1==aj .cell||sn.lookup x.1==aj .free)&& !(x.1==("__classdict__":aW)))) &&
 own.all (λn=>scope.names.lookup n==aj .local)&&decide own.Nodup&&scope.names.all (λx=>!(x.2 ==.local)||scope.names.lookup x.1==aj .local)
section
theorem PU(h:DY sn scope own=ak):uq sn scope own:=by
 simp only[DY,fM,eE,nz] at h;(refine bm h λz1 h6=>?_;obtain ⟨⟨⟨⟨h1,h2⟩,h3⟩,h4⟩,h5⟩:=z1);refine ⟨cq h1,λx hx e=>?_,λx hx e=>?_,λx hx e=>?_,λx hx=>cq (h4 x hx),h5,λx hx e=>?_⟩
 .have:=h2 x hx;rw[e] at this;exact absurd this (by decide)
 .have:=h3 x hx;rw[e] at this;simp only[f0,zT,GY,fM,Gm,beq_iff_eq] at this;exact this.1
 .have:=h3 x hx;rw[e] at this;simp only[f0,zT,GY,fM,k9] at this;exact this.2
 .have:=h6 x hx;rw[e] at this;simp only[f0,zT,GY,beq_iff_eq] at this;exact this
structure rX(X:Cx):Prop where
 fn:∀f,vX f=ak->∃a o fd,X.mg (aP f)=aj (.ref a)/\X.h0 a=aj o/\o.data=.func fd
 me:∀m,vY m=ak->∃a o fd y,X.mN (aP m)=aj (.ref a)/\X.h0 a=aj o/\o.data=.func fd/\o.cls=.type "function"/\aP m≠"t"/\aP m≠"k"/\lh (.type "object") (aP m)=bH y
theorem ů{p pos}(C:lB an X F n ao)(G:rX X)(sQ:vX f=ak)(hk:sn.lookup (aP f)=aj .globalImplicit)(hd:(aP f==("__debug__":aW))=ap)(hs:ês.all fb=ak)
  (h1:nU an X F n ao aq sn es ês):b9 an X F n ao aq sn (.call f es) (.Call (.Name (aP f) p) ês [] pos):=by
 exact kJ (G.fn f sQ) λa o fd e1 e2 e3=>Ķ C sQ hk hd hs h1 e1 (λP g=>g.top a o e2) e3
theorem Ű{p gJ pos}(C:lB an X F n ao)(G:rX X)(sQ:vY m=ak)(hn:aq[i]?=aj (aj nm))(hd:(nm==("__debug__":aW))=ap)(nf:(gJ.endLine==pos.line)=ak) :
  b9 an X F n ao aq sn (.kG m i) (.Call (.Attribute (.Name nm p) (aP m) gJ) [] [] pos):=by
 (refine vI (G.me m sQ) λa o fd y e1 e2 e3 zr=>?_;obtain ⟨e4,e5,e6,e7⟩:=zr);exact ķ C sQ hn hd nf e5 e6 e7 e1 (λP g=>g.top a o e2) e3 e4
noncomputable def Id:aU->Bool
 |.builtin U1=>ak
 |.type U1=>ak
 |_=>ap
theorem ű{p pos}(hb:(lW.lookup f).any Id=ak)(hk:sn.lookup (aP f)=aj .globalImplicit)(hd:(aP f==("__debug__":aW))=ap)(hs:ês.all fb=ak)
  (h1:nU an X F n ao aq sn es ês):b9 an X F n ao aq sn (.bi f es) (.Call (.Name (aP f) p) ês [] pos):=by
 obtain ⟨u,hu,hv⟩:∃u,lW.lookup f=aj u/\Id u=ak:=by
  cases e:lW.lookup f with
  |none=>rw[e] at hb;cases hb
  |some u=>rw[e] at hb;exact ⟨u,rfl,hb⟩
 refine Ĭ (ph hu) ?_ hk hd hs h1
 cases u<;>first | exact .inl ⟨_,rfl⟩ | exact .inr ⟨_,rfl⟩ | cases hv
def Ie(g):=(match lW.lookup g with | some (.type h)=>h==g | _=>ap)&&ue g
theorem Ų{pos}(hg:Ie g=ak)(hk:sn.lookup (aP g)=aj .globalImplicit)(hd:(aP g==("__debug__":aW))=ap):b9 an X F n ao aq sn (.typ g) (.Name (aP g) pos):=by
 unfold Ie at hg;refine bm (dM.mp hg) λh1 h2=>?_
 cases e:lW.lookup g with
 |none=>rw[e] at h1;exact aY h1
 |some u=>
  rw[e] at h1
  cases u with
  |type h=>rw[cq h1] at e;exact ĕ (ph e) h2 hk hd
  |_=>exact aY h1
def yu(it)(te):=mT te||(!ownOf it&&nS te)
theorem DZ(h:yu it te=ak):mT te=ak\/(ownOf it=ap/\nS te=ak):=by
 unfold yu at h
 rcases Ah.mp h with h | h
 .exact .inl h
 .exact bm (dM.mp h) λa b=>.inr ⟨by simpa using a,b⟩
noncomputable def yv(loc)(sn:List (aW×di))(nm):=sn.lookup nm==aj .local||(!loc&&sn.lookup nm==aj .cell)
theorem rY(h:yv loc sn nm=ak):stK loc sn nm:=by
 unfold yv at h
 rcases Ah.mp h with h | h
 .exact .inl (cq h)
 .refine bm (dM.mp h) λa b=>?_;exact .inr ⟨by simpa using a,cq b⟩
noncomputable def pq(sn:List (aW×di))(value:bP)(t:aW)(p:vj):Bool:=match value with
 |.ListComp U1 U2 s U3=>sn.lookup t==aj .local&&p.line==value.pos.line&& !(s.names.any λ(n,k)=>n==t&&(k ==.local||k ==.cell))
 |.SetComp U1 U2 s U3=>sn.lookup t==aj .local&&p.line==value.pos.line&& !(s.names.any λ(n,k)=>n==t&&(k ==.local||k ==.cell))
 |.DictComp ..=>ak
 |_=>ap
noncomputable def noDict(e:bP):=e.ctorIdx != 10
theorem PV{a b c d}(hk:ad.scope.kind=.function)(hn:ad.scope.names=sn):li (.ListComp a b c d) (aj (.Name nm p)) l ad=bH (pq sn (.ListComp a b c d) nm p):=by
 have e1:ad.blockKind=.function:=by unfold ag6;simp[hk]
 have e2:ad.kindOf nm=sn.lookup nm:=by rw[<- hn];rfl
 unfold li pq;simp only[e1,e2,f0,LJ]
theorem PW{a b c d}(hk:ad.scope.kind=.function)(hn:ad.scope.names=sn):li (.SetComp a b c d) (aj (.Name nm p)) l ad=bH (pq sn (.SetComp a b c d) nm p):=by
 have e1:ad.blockKind=.function:=by unfold ag6;simp[hk]
 have e2:ad.kindOf nm=sn.lookup nm:=by rw[<- hn];rfl
 unfold li pq;simp only[e1,e2,f0,LJ]
theorem ų(h:pq sn ee nm p=ap)(ad)(hk:ad.scope.kind=.function)(hn:ad.scope.names=sn):li ee (aj (.Name nm p)) l ad=bH ap:=by
 cases ee<;>first | rfl | (rw[PV hk hn,h]) | (rw[PW hk hn,h]) | cases h
theorem Ŵ(h:pq sn ee nm p=ak)(hd:noDict ee=ak)(ad)(hk:ad.scope.kind=.function)(hn:ad.scope.names=sn):li ee (aj (.Name nm p)) l ad=bH ak:=by
 cases ee<;>first | (rw[PV hk hn,h]) | (rw[PW hk hn,h]) | (cases h;done) | (cases hd;done)
theorem ŵ{p' pos}(hs:pq sn ee nm p'=ap)(hn:aq[i]?=aj (aj nm))(hk:yv ap sn nm=ak)(h1:b9 an X F n ao aq sn e ee):gx an X F n ao aq sn (.asg i e) (.Assign [.Name nm p'] ee pos):=
 ŧ hn (rY hk) h1 (ų hs)
theorem Ŷ{p' pos}(hs:pq sn ce nm p'=ak)(hd:noDict ce=ak)(hn:aq[i]?=aj (aj nm))(hk:yv ap sn nm=ak)(R:yr an X F n ao aq sn bk elt k gens ce) :
  gx an X F n ao aq sn (.asg i (.comp bk elt k gens)) (.Assign [.Name nm p'] ce pos):=ū hn (rY hk) R (Ŵ hs hd)
end
set_option backward.match.sparseCases true
section
theorem PX(hp:P.on s)(hc:ul X P)(a1:P.obj ai=aj o)(a2:o.cls=.ref X.C)(a3:∀c,o.data≠.cls c)(a4:o.dict=aj da)(b1:da≠ai)(b2:P.obj da=am)
  (c1:s.heap.Ns1 da m) (hw:∀y,m y≠am->y∈(["t","k"]:List aW)) (sW:X.mN name=am) (hB:lh (.type "object") name=bH am)
  (hq:∀s',Step [da] P s P s'->s'.heap.Ns1 da (λy=>if y=name then aj v else m y)->QQ () s'):aw (aH an X.w) A (setAttr (.ref ai) name v) QQ E s:=by
 refine a9 hc.obj λcd hC=>?_
 have bA:ai≠X.C:=λe=>by
  subst e;rw[a1] at hC;replace hC:=aZ hC;rw[hC] at a3;exact a3 _ rfl
 obtain ⟨hh,g,d,tk,os⟩:=s;refine hU (store_attr (B:="object") (ns:=["t","k"]) ag3 (hp.obj _ _ hC) (hc.ns.ns hp) hc.sa sW hB bA ⟨o,hp.obj _ _ a1,a2,a3,.inr ⟨da,a4,b1,c1⟩⟩ (λh' zu I' KM J7=>?_) (λy hy=>hw y hy) aM);refine λhz ht=>lR (J7 o (hp.obj _ _ a1)) λzj e1 e2 e3 e4 e5=>?_
 have ho:zj=o:=by
  have:=e5 da a4;obtain ⟨q1,q2,q3,q4⟩:=zj;obtain ⟨w1,w2,w3,w4⟩:=o;simp only at e2 e3 e4 this a4;subst e2;subst e3;subst e4;rw[this,a4]
 subst ho
 have keep:∀b o',b≠da->hh.get? b=aj o'->h'.get? b=aj o':=λb o' hb hg=>by
  by_cases lM:b=ai
  .subst lM;rw[hp.obj _ _ a1] at hg;replace hg:=aZ hg;subst hg;exact e1
  .refine KM b o' lM (λKl dx q1 q2=>?_) hg;have sT:hh.get? ai=aj Kl:=q1;rw[hp.obj _ _ a1] at sT;replace sT:=aZ sT;subst sT;obtain rfl:=aZ (a4.symm.trans q2);exact hb
 have st:Step [da] P ⟨hh,g,d,tk,os⟩ P ⟨h',g,d,zu,os⟩:=
  ⟨.refl P,⟨λa o' e=>keep a o' (λhe=>by subst he;rw[b2] at e;cases e) (hp.obj a o' e),λt x e=>⟨(hp.tok t x e).1,b7 (hp.tok t x e).2 ht⟩,b7 hp.pos ht,hp.ok⟩,λU U h=>.inl h,λa o' hm e=>keep a o' (by simpa using hm) e,hz,rfl,rfl,ht⟩
 refine hq _ st (cm I' λwR f1 f2 f3 f4=>?_);obtain rfl:=aZ (e1.symm.trans f1)
 rcases f4 with ⟨f4,_⟩ | ⟨d',f4,f5,f6⟩
 .rw[a4] at f4;cases f4
 .obtain rfl:=aZ (a4.symm.trans f4);exact f6
structure Ig(an:dX)(X:Cx)(fI:bc)(snI:List (aW×di))(bodyI:List dU):Prop where
 Mn:∀h,(∀a o,X.h0 a=aj o->h.get? a=aj o)->ag7 (aH an X.w) h X.C/\L7 (aH an X.w) h (lh (.ref X.C) "__init__") (aj (.ref fI))/\∀self,L7 (aH an X.w) h (bindSpecial (.ref fI) self) (.ref fI,[self])
 fn:∀P,gw X P->v0 X P fI [("self":aW),("text":aW)] snI bodyI
 nm:v5 [("self":aW),("text":aW)] [] snI
theorem ŷ(C:lB an X F (n+1) ao)(M:Ig an X fI snI
   [.Assign [.Attribute (.Name (aP "self") q1) (aP "t") q2] (.Call (.Name (aP "_tokens") q3) [.Name (aP "text") q4] [] q5) q6,.Assign [.Attribute (.Name (aP "self") q7) (aP "k") q8] (.Constant (.int 0) kc q9) q0])
  (hk:snI.lookup (aP "_tokens")=aj .globalImplicit) (FR:X.mg (aP "_tokens")=aj (.ref aT)) (KI:X.h0 aT=aj oT) (KU:oT.data=.func fT)
  {XX:Prop}
  (gl:gw X P) (hp:P.on s) (bi:rV X) (hh:A.handled=am) (hu:A.units+300+60*(n+1)<dD) (hd:A.depth+6*(n+1)+4<xD) (hf:A.frames=aj fr) (bs:∀a o,ao.get? a=aj o->P.obj a=aj o) (ff:s.heap.FunFrames ao fr) (r:aA X.w P tv x)
  (hF:F "_tokens" [x] am (λt U=>ex (jE t) RL) XX)
  (hq:∀P' s' ai da l,Step [] P s P' s'->RL l->dq X.w P' X.C s'.heap (aj (ai,da)) (aj (l,0))->s.heap.objs.size<=da->QQ (.ref ai) s')
  (hx:XX->∀x s',iu ao fr [] s x s'->E (.ref x) s'):aw (aH an X.w) A (call (.ref X.C) [tv]) QQ E s:=by
 refine d5 (M.Mn s.heap λa o e=>hp.obj _ _ (gl.top a o e)) λGE GT G5=>?_;obtain ⟨hh0,g,d,tk,os⟩:=s;refine V4 (PySem.W.make_core GE GT G5 (.inl rfl) ?_);have cR:Step [] P ⟨hh0,g,d,tk,os⟩ P ⟨hh0.push xI,g,d,tk,os⟩:=Step.oP hp
 have st1:Step [] P ⟨hh0.push xI,g,d,tk,os⟩ (P.eW (hh0.objs.size+1) (tH X.C hh0.objs.size)) ⟨(hh0.push xI).push (tH X.C hh0.objs.size),g,d,tk,os⟩:=by
  have:=Step.push (s:=⟨hh0.push xI,g,d,tk,os⟩) (o:=tH X.C hh0.objs.size) cR.on rfl (λvs n e=>by cases e)
  rwa [fq] at this
 have stA:=cR.trans st1
 have T9:((hh0.push xI).push (tH X.C hh0.objs.size)).Ns1 hh0.objs.size (λU=>am):=
  bK.Ns1.of_empty ⟨xI,#[],0,fo _ (fU _ rfl),rfl,λe he=>by simp at he,λnm=>rfl⟩
 have hP1:(P.eW (hh0.objs.size+1) (tH X.C hh0.objs.size)).obj (hh0.objs.size+1)=aj (tH X.C hh0.objs.size):=by simp[PH.eW]
 have hP2:(P.eW (hh0.objs.size+1) (tH X.C hh0.objs.size)).obj hh0.objs.size=am:=by
  have:P.obj hh0.objs.size=am:=hp.fresh (aV _);simp[PH.eW,this]
 have gl1:=gl.mono stA.le;have bA:hh0.objs.size≠hh0.objs.size+1:=ji (iF _);have cX:hh0.objs.size+1<((hh0.push xI).push (tH X.C hh0.objs.size)).objs.size:=by rw[fq,fq];exact aV _
 clear cR st1 GE GT G5;generalize P.eW (hh0.objs.size+1) (tH X.C hh0.objs.size)=P1 at *;generalize (hh0.push xI).push (tH X.C hh0.objs.size)=H at *;replace cX:hh0.objs.size<H.objs.size:=Nat.lt_of_succ_lt cX;generalize hh0.objs.size+1=ai at *;generalize pS:hh0.objs.size=da at bA cX hP1 hP2 T9 ⊢;have fF:=ec pS;refine PN (n:=n) (pi:=am) (σ:=am) (sl:=[.un,.v x]) M.nm (M.fn _ gl1) gl1 stA.on bi hh ?_ ?_ ?_ (λa o e=>stA.le.obj a o (bs a o e)) (vV ff λe U L U o ho=>stA.keep L o (by simp) ho) (λe U L U=>by simp[bO]) trivial rfl rfl (λi v y h1 h2=>?_) λad aF S st cx iD=>?_
 .exact xP (c:=261) hu
 .exact Mu (c:=1) hd
 .exact hf
 .match i with
  |0=>simp at h2;exact .inr (.inr h2.symm)
  |1=>simp at h1 h2;subst h1;exact .inl ⟨x,h2.symm,r.mono stA.le⟩
  |i+2=>simp at h1
 have st2:=stA.trans st;refine Ag (ag8 ?_);have FQ:∀q,q=aP "self"\/q=aP "text"\/q=aP "_tokens"->(q==("__debug__":aW))=ap:=λq h=>by rcases h with rfl | rfl | rfl<;>decide +kernel
 have hd1:aF.heap.Ns1 da (λU=>am):=T9.at λo e=>st.keep _ o (by simp) e;refine LX (kF (AW S.aG hk FR ?_) (FQ _ (.inr (.inr rfl))));refine Wl (o:=oT) (fd:=fT) ?_
 have hE:XX->∀y s',iu ao (ad::fr) [] aF y s'->aw (aH an X.w) ((A.under (.builtin "type.__call__" ⟨[.ref X.C,tv],[]⟩)).deeper ad) (Lu ad (.ref y)) (λU de=>E (.ref y) de) (λe' de=>E e' de) s':=λhX y s' ex=>by
  refine N2 S.aG.fs cx ex.WH.exc λh' hT Cp=>hx hX y _ ⟨hT,λb o hb e hn=>?_,ex.gens.trans st2.gens,ex.os.trans st2.os,aB st2.toks ex.toks⟩;refine a9 (ex.keep b o (by simp) (st2.keep b o (by simp) e) hn) λsl1 e1=>a9 (Cp b _ (by simp) e1 hn) λsl2 e2=>?_;exact ⟨sl2,e2⟩
 refine um (X:=X) rfl ((qq (aq:=[aj (aP "self"),aj (aP "text")]) (F:=F) (e:=.var 1) (es:=[]) rfl (Pd rfl (FQ _ (.inr (.inl rfl)))) qp) _ ad _ am _ am _ aF (λvs U=>F "_tokens" vs am (λt U=>ex (jE t) RL) XX) XX _ _ _ S.aG ?_ (λvs xs dc a8 cb bn iV l₂ iW aek=>?_) hE)
 .exact AC rfl hF
 refine ar (C.fn "_tokens" xs _ XX (by decide +kernel) aek) λa' qW hC=>?_;obtain rfl:=iG (aZ (FR.symm.trans qW));have bG:=S.aG.step bn iW;refine ⟨⟨bG.hp.obj _ _ (bG.gl.top _ _ KI),KU⟩,?_⟩;refine hC dc a8 _ (ad::fr) vs _ _ bG.gl bG.hp bi bG.hh ?_ ?_ bG.fs bG.bs bG.ff iV (λv t dw cg cL sN hQ=>?_) λhX y s' ex=>hE hX y s' (ex.after bn)
 .exact xP (c:=264) hu
 .exact Mu (c:=2) hd
 (refine ar (Hj hQ) λl av hl=>?_;subst av);have j8:Step [] _ aF dw cg:=(show Step [] _ aF dc a8 from bn).trans cL;have lk3:Lk ad cg.heap _ _:=(iD 0 _ _ rfl rfl).keep (h':=cg.heap) (λo e=>j8.keep _ o (by simp) e) λc o U e=>j8.keep _ o (by simp) e;refine kF (lk3.load S.aG.er.kind ?_) (FQ _ (.inl rfl));have hd3:cg.heap.Ns1 da (λU=>am):=hd1.at λo e=>j8.keep _ o (by simp) e;have hP3:dw.obj da=am:=(cL.eo (bn.eo hP2 hd1.ns.lt) (b7 hd1.ns.lt bn.size));have gl3:=gl1.mono j8.le;refine PX cL.on gl3.cls (j8.le.obj _ _ hP1) rfl (λc e=>by cases e) rfl bA hP3 hd3 (λy hy=>absurd rfl hy) gl3.cls.tt Pk λkU ju hd4=>Ag (ag8 (LW ?_));have st5:Step [] dw kU dw {kU with toks:=kU.toks+1}:=.ll ju.on (dT _);have Kv:ad.locals≠da:=λe=>gf _ (b7 cX (e▸S.aG.er.oV _ cx));have aeM:∀c,ad.cells.lookup (aP "self")=aj c->c≠da:=λc hc e=>gf _ (b7 cX (e▸(S.aG.er.cell _ c hc).2.2.2.2 _ cx));have lk4:Lk ad kU.heap _ _:=lk3.keep (h':=kU.heap) (λo e=>ju.keep _ o (by simpa using Kv) e) λc o hc e=>ju.keep _ o (by simpa using aeM c hc) e;refine kF (lk4.load S.aG.er.kind ?_) (FQ _ (.inl rfl));refine PX st5.on gl3.cls (j8.le.obj _ _ hP1) rfl (λc e=>by cases e) rfl bA hP3 hd4 (λy hy=>?_) gl3.cls.kk Ia λUd ad5 hd6=>?_
 .by_cases h1:y=("t":aW)
  .subst h1;simp
  .simp only[if_neg h1] at hy;exact absurd rfl hy
 refine CX ⟨rfl,?_⟩;have dG:Step [da] P ⟨hh0,g,d,tk,os⟩ dw Ud:=(((st2.trans j8).up.trans ju).trans st5.up).trans ad5;refine hq dw Ud _ _ l (dG.old λa ha=>?_) hl ⟨⟨_,j8.le.obj _ _ hP1,rfl,(λc e=>by cases e),rfl,(λvs n e=>by cases e)⟩,bA,hP3,_,v,.int 0 kU.toks,hd6,?_,sN,?_,.int 0 _,λy h1 h2=>?_⟩ fF
 .exact .inr (en.1 ha▸fF)
 .rw[if_neg aM,bw rfl]
 .rw[bw rfl]
 .rw[if_neg h2,if_neg h1]
end
section
theorem bY.parser(S:bY X n ao fr aq sn A ad am [] ρ am P s)(st:Step [] P s P' s')(hz:dq X.w P' X.C s'.heap (aj (ai,da)) ay)(pS:s.heap.objs.size<=da) :
  bY X n ao fr aq sn A ad (aj (ai,da)) [] ρ ay P' s':=by
 have S':bY X n ao fr aq sn A ad am [] ρ am P' s':=S.step st trivial;have e:=S.aG.er;have e':=S'.aG.er
 have ne:∀b,b<s.heap.objs.size->b∉bO (aj (ai,da)):=λb hb hm=>by
  simp only[bO,en] at hm;subst hm;exact gf _ (b7 hb pS)
 have lk:∀{nm v},Lk ad s.heap nm v->Lk ad s'.heap nm v:=λx=>x.keep (λo h=>st.keep _ o (by simp) h) λc o U h=>st.keep c o (by simp) h;refine ⟨⟨S'.aG.hp,S'.aG.gl,S'.aG.bi,⟨e'.kind,e'.len,e'.loc,e'.nH,ne _ (a9 e.loc λm hm=>hm.lt),λnm c hc=>?_,e'.eF,e'.oV,e'.apart,e'.uniq,λi nm sl h1 h2=>?_,hz⟩,S'.aG.sn,S'.aG.gd,S'.aG.bd,S'.aG.hh,S'.aG.un,S'.aG.dp,S'.aG.fs,S'.aG.bs,S'.aG.ff,λev hev L hL=>?_,S'.aG.cd⟩,S'.own,λa ha=>by simp at ha,S'.top,S'.one⟩
 .refine tT (e'.cell nm c hc) λa1 a2 a3 a4 a5=>?_;(refine bm (e.cell nm c hc) λz1 U=>?_;obtain ⟨v,o,ho,_⟩:=z1);exact ⟨a1,a2,a3,ne c (dE ho),a5⟩
 .have q:=e.slot i nm sl h1 h2;have q':=e'.slot i nm sl h1 h2
  cases sl with
  |un=>trivial
  |v x=>exact q'
  |self=>refine eZ q λa b c U=>?_;cases c
  |ol l=>
   refine xL q λa b1 b2 b3 b4 b5 b6=>xL q' λa' c1 c2 c3 c4 c5 c6=>?_;have:=c1.det (lk b1);replace this:=iG this;subst this;exact ⟨a',c1,c2,c3,ne _ ((by (refine ar b2 λvs z2 U=>?_;obtain ⟨n,e⟩:=z2);exact dE e)),c5,c6⟩
  |os l=>
   refine lR q λa b1 b2 b3 b4 b5=>lR q' λa' c1 c2 c3 c4 c5=>?_;have:=c1.det (lk b1);replace this:=iG this;subst this;exact ⟨a',c1,c2,c3,ne _ ((by exact b2.lt)),c5⟩
 .obtain ⟨ho,_⟩:∃o,s.heap.get? L=aj o:=by
   have:=S.aG.ff;(refine bm (this.mem (Vd.mpr ⟨ev,hev,hL⟩)) λU zr=>?_;obtain ⟨o,ho,_⟩:=zr);exact ⟨o,ho⟩
  exact ne L (dE (by assumption))
theorem fA.out(st:fA ad (aj (ai,da)) [] P s P' s')(h:jm ad da):fA ad am [] P s P' s':=by
 refine ar st λmu a b=>?_;exact ⟨mu,a,λx hx=>⟨.inr ((b x hx).1.elim (λq=>by simp only[bO,en] at q;subst q;exact h) id),by simp⟩⟩
theorem Ÿ(hC:lB an X F (n+1) ao)(M:Ig an X fI snI
   [.Assign [.Attribute (.Name (aP "self") q1) (aP "t") q2] (.Call (.Name (aP "_tokens") q3) [.Name (aP "text") q4] [] q5) q6,.Assign [.Attribute (.Name (aP "self") q7) (aP "k") q8] (.Constant (.int 0) kc q9) q0])
  (hk:snI.lookup (aP "_tokens")=aj .globalImplicit) (FR:X.mg (aP "_tokens")=aj (.ref aT)) (KI:X.h0 aT=aj oT) (KU:oT.data=.func fT)
  (hn:aq[i]?=aj (aj nm)) (gB:stK ap sn nm) (hP:sn.lookup (aP "_P")=aj .globalImplicit) (vE:X.mg (aP "_P")=aj (.ref X.C))
  (bA:fb ee=ak) (h1:b9 an X F (n+1) ao aq sn e ee) (h2:i6 an X F (n+1) ao aq sn ts tes) :
  ut ap an X F (n+1) ao aq sn (.vC i e::ts) (.Assign [.Name nm p'] (.Call (.Name (aP "_P") p) [ee] [] pos2) pos::tes):=λA ad fr pi ρ σ P s K XR QQ E hm S h hq hx=>by
 obtain rfl:=hm rfl
 have hσ:σ=am:=by
  have:=S.aG.er.par
  cases σ with
  |none=>rfl
  |some x=>cases this
 subst hσ;refine Ag (GU ?_ rfl);refine LX (kF (AW S.aG hP vE ?_) (by decide +kernel));refine PyProof.Rows.callWith_cls (h₀:=s.heap) (N:=X.N) (mN:=X.mN) ⟨?_,?_⟩ ?_ (yk bA) rfl
 .exact a9 S.aG.gl.cls.obj λd hh=>⟨_,_,_,_,_,_,_,_,_,_,_,_,S.aG.hp.obj _ _ hh⟩
 .exact S.aG.gl.cls.ns.ns S.aG.hp
 refine (qq bA h1 qp) A ad fr am ρ am P s (λvs ay=>F "_tokens" vs am (λt U=>ex (jE t) λl=>gd ay.isNone (cV F X.gl ts (ρ.set i .self) (aj (l,0)) K XR)) (XR ρ)) (XR ρ) _ E pos2 S.aG ?_ (λvs xs aX aF aO bq dC l₁ cw hF=>?_) (λhX x s' ex=>hx ρ hX x s' (S.exc ex).exc)
 .exact h
 have ad1:aO=am:=by
  cases aO with
  |none=>rfl
  |some x=>cases cw
 subst ad1;refine ⟨λb o hb=>bq.keep b o (by simp[bO]) hb,?_⟩;obtain ⟨x,rfl⟩:=Ad.1 l₁;obtain ⟨tv,rfl,rT⟩:∃tv,vs=[tv]/\aA X.w aX tv x:=nV dC;have bo:bY X (n+1) ao fr aq sn A ad am [] ρ am aX aF:=S.step bq cw;refine ŷ (RL:=λl=>cV F X.gl ts (ρ.set i .self) (aj (l,0)) K XR) (XX:=XR ρ) hC M hk FR KI KU bo.aG.gl bo.aG.hp bo.aG.bi bo.aG.hh bo.aG.un bo.aG.dp bo.aG.fs bo.aG.bs bo.aG.ff rT ?_ (λdc a8 ai da l bn hRL hz pS=>?_) (λhX y s' ex=>hx ρ hX y s' (S.exc (ex.after bq)).exc)
 .exact hF
 have bG:=bo.parser bn hz pS;have Kx:jm ad da:=bo.qc pS;refine bG.Mo (sv:=.self) hn gB (by simp) (bG.one.set i (λU e=>by cases e) (λU e=>by cases e)) (λc s' U U hl=>⟨ai,da,rfl,hl⟩) λcg cL fD=>?_;have tot:fA ad am [] P s dc cg:=((S.iJ bq).trans (bo.iJ (show Step (bO am) _ _ _ _ from bn))).trans (cL.out Kx);refine h2 A ad fr (aj (ai,da)) [] _ _ dc cg K XR QQ E fD hRL (λf fe aS ay P' s' g S' ie hK=>hq f fe aS ay P' s' (tot.trans (g.out Kx)) ie (λe=>by cases e) hK) λaS hX y s' ex=>hx aS hX y s' (ar tot λm1 a b=>?_);refine ar ex.exc λm2 c d=>?_;refine ⟨m1++m2,⟨c.exc,(a.G8.mono λx h=>my _ h).trans (c.keep.mono λx h=>nw _ h),c.gens.trans a.gens,c.os.trans a.os,aB a.toks c.toks⟩,λx h=>(dZ.mp h).elim (b x) λh=>⟨.inr ((d x h).1.elim (λq=>by simp only[bO,en] at q;subst q;exact Kx) id),by simp⟩⟩
end
section
variable {an:dX}{X:Cx}{F:Calls}{n:Nat}{ao:bK}{aq:List (Option aW)}{sn:List (aW×di)}{P0:PH}
def qr(an)(X)(F)(n)(ao)(P0:PH)(aq:List (Option aW))(sn:List (aW×di))(st:List PS)(se:List dU):=
 ∀A ad fr ρ P s K QQ E,
  P0.le P->(∃a o vs,ad.code=.ref a/\P0.obj a=aj o/\o.data=.fields vs)->bY X n ao fr aq sn A ad am [] ρ am P s->cV F X.gl st ρ am K (λU=>False)->
  (∀f fe aS P' s',P0.le P'->bY X n ao fr aq sn A ad am [] aS am P' s'->s'.gens=s.gens->s'.os=s.os->s.toks<=s'.toks->j7 X.w P' f fe->K f aS am->QQ fe s')->aw (aH an X.w) A (GS se ad) QQ E s
theorem Ih(x:dq X.w P X.C h am σ):σ=am:=by
 cases σ with
 |none=>rfl
 |some y=>cases x
theorem Ź(h:i6 an X F n ao aq sn st se):qr an X F n ao P0 aq sn st se:=λA ad fr ρ P s K QQ E fF oI S hw hq=>
 h A ad fr am [] ρ am P s K (λU=>False) QQ E S hw (λf fe aS ay P' s' g S' ie hK=>by
  obtain rfl:=Ih S'.aG.er.par;refine ar g λmu sf U=>?_;exact hq f fe aS P' s' (fF.trans sf.le) S' sf.gens sf.os sf.toks ie hK) λaS hX=>hX.elim
theorem ź(h1:gx an X F n ao aq sn t te)(h2:qr an X F n ao P0 aq sn ts tes):qr an X F n ao P0 aq sn (t::ts) (te::tes):=λA ad fr ρ P s K QQ E fF oI S hw hq=>by
 refine Ag (h1 A ad fr am [] ρ am P s _ (λU=>False) _ E S hw (λf fe aS ay P' s' g S' ie hK=>?_) λaS hX=>hX.elim);obtain rfl:=Ih S'.aG.er.par;refine ar g λmu sf U=>?_;revert hK;exact j7.el ie (λhK=>h2 A ad fr aS P' s' K QQ E (fF.trans sf.le) oI S' hK λf fe bt dc a8 B3 bG kW wR fR ie ko=>hq f fe bt dc a8 B3 bG (kW.trans sf.gens) (wR.trans sf.os) (aB sf.toks fR) ie ko) (λhK=>hq .brk .brk aS P' s' (fF.trans sf.le) S' sf.gens sf.os sf.toks .brk hK) (λhK=>hq .cont .cont aS P' s' (fF.trans sf.le) S' sf.gens sf.os sf.toks .cont hK) λv x r hK=>hq _ _ aS P' s' (fF.trans sf.le) S' sf.gens sf.os sf.toks (.ret r) hK
theorem Ż:Ab (.type "ValueError") (.type "BaseException")=bH ak:=by rw[z8];kernel_rfl
theorem ż:Ab (.type ((Manifest.find? "ValueError").elim "type" λx=>x.metatype)) (.type "tuple")=bH ap:=by rw[z8];kernel_rfl
theorem Ž:Ab (.type "ValueError") (.type "ValueError")=bH ak:=by rw[z8];kernel_rfl
theorem ž(x):fP (t0 x)=ak:=by
 cases x with
 |v y=>cases y<;>rfl
 |_=>rfl
theorem PY{ρ:bj}{sl:Sl}(h:sl∈ρ.map t0):fP sl=ak:=ar (eV.1 h) λy U e=>e▸ž y
set_option tactic.hygienic true in
theorem PZ(S:bY X n ao fr aq sn A ad am [] ρ am P s)(hP0:∀a,P0.obj a=ao.get? a)(G0:gw X P0)(fF:P0.le P)(oI:∃a o vs,ad.code=.ref a/\P0.obj a=aj o/\o.data=.fields vs)
  (ex:j6 ao fr ad aq ρ am [] s x aF) (hT:kN ao fr x eD) (k:iP [] aF.heap eD):bY X n ao fr aq sn A ad am [] (ρ.map t0) am P0 {aF with heap:=eD}:=by
 refine ar ex.exc λmu ea gS=>?_;have e:=S.aG.er
 have ns:∀m,aF.heap.Ns ad.locals m->eD.Ns ad.locals m:=λm hm=>by
  refine kJ hm λo es ep h1 h2 h3=>?_;refine a9 (k _ o (by simp) h1 (λvs hv=>by rw[hv] at h2;cases h2)) λsl h=>?_;exact ⟨_,es,ep,h,h2,h3⟩
 have cl:∀c v,aF.heap.IsCell c v->eD.IsCell c v:=λc v hm=>by
  refine ar hm λo h1 h2=>?_;refine a9 (k c o (by simp) h1 (λvs hv=>by rw[hv] at h2;cases h2)) λsl h=>?_;exact ⟨_,h,h2⟩
 have none0:∀a,P.obj a=am->P0.obj a=am:=λa ha=>by
  cases q:P0.obj a with
  |none=>rfl
  |some o=>have:=fF.obj a o q;rw[ha] at this;cases this
 have hp:P0.on {aF with heap:=eD}:=⟨λa o q=>hT.1 a o (by rw[<- hP0];exact q),λt y q=>⟨(S.aG.hp.tok t y (fF.tok t y q)).1,b7 (S.aG.hp.tok t y (fF.tok t y q)).2 ea.toks⟩,b7 S.aG.hp.pos ea.toks,⟨λt y q=>S.aG.hp.ok.len t y (fF.tok t y q)⟩⟩;have pl:∀i sl,(ρ.map t0)[i]?=aj sl->fP sl=ak:=λi sl q=>PY (k8 q);refine ⟨⟨hp,G0,S.aG.bi,⟨e.kind,by simpa using e.len,a9 ex.loc λm hm=>⟨m,ns m hm⟩,none0 _ e.nH,by simp[bO],λnm c hc=>?_,e.eF,e.oV,e.apart,e.uniq,λi nm sl h1 h2=>?_,trivial⟩,S.aG.sn,S.aG.gd,S.aG.bd,S.aG.hh,S.aG.un,S.aG.dp,S.aG.fs,λa o q=>by rw[hP0];exact q,hT.2.2.1,λev U L U=>by simp[bO],oI⟩,λi nm sl h1 h2 h3=>absurd h3 (by rw[pl i sl h2];decide),λa ha=>absurd ha gU,S.top,⟨λi j l m q1 q2=>by have:=pl i _ q1;simp[fP] at this,λi j l m q1 q2=>by have:=pl i _ q1;simp[fP] at this⟩⟩
 .refine tT (e.cell nm c hc) λa1 a2 a3 a4 a5=>a9 (ex.cell nm c hc) λv hv=>?_;exact ⟨⟨v,cl c v hv⟩,none0 _ a2,a3,a4,a5⟩
 .rw[lQ] at h2;refine ar (g7.mp h2) λy q1 q2=>?_;subst q2
  cases y with
  |v y=>cases y with
   |bool b=>
    refine ⟨.bool b,?_,.bool b⟩
    cases ex.bl i nm b h1 q1 with
    |loc m a b c=>exact .loc m a (ns m b) c
    |eF c a b d=>exact .eF c a b (cl c _ d)
   |_=>trivial
  |_=>trivial
theorem δ
  (S:ct X n ao fr aq sn A ad pi ρ σ P s) (hk:sn.lookup nm=aj .globalImplicit) (hm:X.mg nm=am) (hu:X.mb nm=aj u) (h:QQ u s):aw (aH an X.w) A' (LU ad nm) QQ E s:=by
 rw[We S.er.kind ((S.kind nm).trans hk)];exact agI (by rw[S.gd];exact S.gl.globals S.hp) hm (by rw[S.bd];exact S.gl.builtins S.hp) hu h
theorem ε(h:cV F X.gl [.asg j e] ρ am K XR):cV F X.gl [.asg j e] ρ am K (λaS=>aS=ρ/\XR aS):=by
 show EW F X.gl e ρ am _ (ρ=ρ/\XR ρ);rw[show (ρ=ρ/\XR ρ)=XR ρ from propext ⟨Ww,λh=>⟨rfl,h⟩⟩];exact h
theorem ζ(hP0:∀a,P0.obj a=ao.get? a)(G0:gw X P0)(hb:i6 an X F n ao aq sn [.asg j e] bE)(hn:aq[i]?=aj (aj nm))(gB:stK ap sn nm)
  (hve:sn.lookup (aP "ValueError")=aj .globalImplicit) (h2:qr an X F n ao P0 aq sn ts tes) :
  qr an X F n ao P0 aq sn (.rC [.asg j e] [.asg i (.aR (.bool ak))]::ts) (.Try bE [.ExceptHandler (aj (.Name (aP "ValueError") tp)) am [.Assign [.Name nm np] (.Constant (.bool ak) kc cp) gJ] wP] [] [] pos::tes):=λA ad fr ρ P s K QQ E fF oI S hw hq=>by
 refine eZ hw.2 ?_;intro i' v' he hw;injection he with he _
 injection he with he1 he2
 injection (he2) with he2
 subst he1;subst he2;refine Ag (wpAny_Try_except ?_);refine hb A ad fr am [] ρ am P s _ _ _ _ S (ε hw) (λf fe aS ay P' s' g S' ie hK=>?_) λaS hX x aF ex=>?_
 .obtain rfl:=Ih S'.aG.er.par;refine ar g λmu sf U=>?_;revert hK;exact j7.el ie (λhK=>CX (h2 A ad fr aS P' s' K QQ E (fF.trans sf.le) oI S' hK λf fe bt dc a8 B3 bG kW wR fR ie ko=>hq f fe bt dc a8 B3 bG (kW.trans sf.gens) (wR.trans sf.os) (aB sf.toks fR) ie ko)) (λhK=>hq .brk .brk aS P' s' (fF.trans sf.le) S' sf.gens sf.os sf.toks .brk hK) (λhK=>hq .cont .cont aS P' s' (fF.trans sf.le) S' sf.gens sf.os sf.toks .cont hK) λv x r hK=>hq _ _ aS P' s' (fF.trans sf.le) S' sf.gens sf.os sf.toks (.ret r) hK
 .refine bm hX ?_;clear hX;intro zq hX;subst zq;refine ar ex.exc λmu ea gS=>?_;refine eZ S.top λouter L cx hL=>?_;subst cx;refine HL S.aG.fs hL ea.exc λcZ aeh Fx=>?_;refine AN (s:={aF with heap:=cZ}) aeh λeD Ca Fw=>?_;have bG:=PZ S hP0 G0 fF oI ex Ca (Fx.trans Fw);refine wpAny_handleBy_builtin (X:="ValueError") (T:="ValueError") (b:=ak) Ż ż Ž (kF (δ bG.aG hve (bG.aG.bi ("ValueError",.type "ValueError") (ph (by kernel_rfl))).1 (bG.aG.bi ("ValueError",.type "ValueError") (ph (by kernel_rfl))).2 ?_) (by decide +kernel));have K1:({aF with heap:=eD}:bf).TypeIs (.ref x) "ValueError":=jk Ca.2.2.2 λoe U q=>⟨oe,q.1,q.2.1⟩;refine ⟨rfl,K1,?_⟩;show aw _ _ (setFlight (.ref x) am) _ _ _;refine AN (s:={aF with heap:=eD}) Ca λkq Kf aev=>?_;have fD:=PZ S hP0 G0 fF oI ex Kf ((Fx.trans Fw).trans aev);refine Ag (GU (agH ?_) rfl);refine H3 fD.aG.er fD.aG.hp hn ?_ (.bool ak) λmu' kU ju hm U U er=>?_
  .rw[fD.aG.kind];exact gB.imp (λx=>x) λx=>⟨x.2,fD.aG.er.eF nm (.inl (by rw[fD.aG.kind];exact x.2))⟩
  refine CX ?_;have gA:∀a∈mu',nX ad a:=λa ha=>(hm a ha).elim (λx=>.inl x.1) λx=>.inr ⟨nm,x.2⟩;have pl:∀k sl,((aS.map t0).set i (.v (.bool ak)))[k]?=aj sl->fP sl=ak:=λk sl q=>(agY (k8 q)).elim PY λe=>e▸rfl
  have aeU:bY X n ao (ad::outer) aq sn A ad am [] ((aS.map t0).set i (.v (.bool ak))) am P0 kU:=
   ⟨(fD.aG.change ju (λa ha=>.inl (er.oW (gA a ha)).1) er),λi nm sl h1 h2 h3=>absurd h3 (by rw[pl i sl h2];decide),λa ha=>absurd ha gU,⟨outer,L,rfl,hL⟩,⟨λi j l m q1 q2=>by have:=pl i _ q1;simp[fP] at this,λi j l m q1 q2=>by have:=pl i _ q1;simp[fP] at this⟩⟩
  exact h2 A ad (ad::outer) _ P0 kU K QQ E (.refl P0) oI aeU hX λf fe bt dc a8 B3 aer kW wR fR ie ko=>hq f fe bt dc a8 B3 aer (kW.trans (ju.gens.trans ea.gens)) (wR.trans (ju.os.trans ea.os)) (aB ea.toks (aB ju.toks fR)) ie ko
end
set_option backward.match.sparseCases false
section
set_option maxRecDepth 100000
abbrev NL:=List (Option aW)
abbrev SL:=List (aW×di)
structure NI where
 ks:List bP:=[]
 k:Nat:=0
 sc:jN:={kind:=.module,names:=[],isGenerator:=ap,isCoroutine:=ap}
 gs:List L4:=[]
 nm:List aW:=[]
noncomputable def ni:bP->NI
 |.BoolOp U1 vs U2=>{ks:=vs}
 |.BinOp a U1 b U2=>{ks:=[a,b]}
 |.UnaryOp U1 a U2=>{ks:=[a]}
 |.Compare a U1 bs U2=>{ks:=a::bs}
 |.Call f as U1 U2=>{ks:=f::as}
 |.Constant U1 k U2=>{k:=k}
 |.Name n U1=>{nm:=[n]}
 |.Attribute a U1 U2=>{ks:=[a]}
 |.Subscript a b U1=>{ks:=[a,b]}
 |.List es U1=>{ks:=es}
 |.Tuple es k U1=>{ks:=es,k:=k}
 |.Set es k U1=>{ks:=es,k:=k}
 |.Slice lo hi U1 U2=>{ks:=[lo.getD (.Tuple [] 0 lN),hi.getD (.Tuple [] 0 lN)]}
 |.ListComp e gs sc U1=>{ks:=[e],gs:=gs,sc:=sc}
 |.SetComp e gs sc U1=>{ks:=[e],gs:=gs,sc:=sc}
 |_=>{}
def P2(e):=(ni e).nm++(ni e).ks.flatMap λx=>(ni x).nm
def cu(e)(i):=(ni e).ks.getD i e
def gk(e)(i):=(ni e).gs.getD i ⟨e,e,[],0⟩
noncomputable def i7(N:NL)(i:Nat):=N[i]?.join.getD (aP "")
noncomputable def D0(N:NL)(i:Nat):=N[i]?.join.isSome
theorem j9(h:D0 N i=ak):N[i]?=aj (aj (i7 N i)):=by
 exact a9 (Wv.1 h) λn e=>(Option.join_eq_some_iff.1 e).trans (aE (λo=>aj (aj (o.getD (aP "")))) e.symm)
noncomputable def Ii(n):=!(n==("__debug__":aW))
theorem rZ(h:Ii n=ak):(n==("__debug__":aW))=ap:=(k9 _).mp h
def yw(N)(i):=D0 N i&&Ii (i7 N i)
def n5(S:SL)(g):=S.lookup (aP g)==aj .globalImplicit&&Ii (aP g)
def stN(loc:Bool)(N:NL)(S:SL)(i:Nat):=D0 N i&&yv loc S (i7 N i)
noncomputable def yx(N:NL):aa->List bP->List bP
 |[],U1=>[]
 |i::is,es=>.Name (i7 N i) (es.headD (.Tuple [] 0 lN)).pos::yx N is es.tail
def qu(N:NL)(t:jT)(e:bP):bP:=match t with
 |.one i=>.Name (i7 N i) e.pos
 |.many is=>.Tuple (yx N is (ni e).ks) (ni e).k e.pos
def yy(loc:Bool)(N:NL)(S:SL):jT->Bool
 |.one i=>stN loc N S i
 |.many is=>is.all (stN loc N S)
theorem Ij:∀(is:aa) es,is.all (stN loc N S)=ak->pj loc N S is (yx N is es)
 |[]=>λU U=>.nil
 |U1::is=>λes h=>.cons (j9 (aI (aI h))) (rY (ax (aI h))) (Ij is es.tail (ax h))
theorem D1:∀t,yy loc N S t=ak->lC loc N S t (qu N t e)
 |.one U1=>λh=>.one (j9 (aI h)) (rY (ax h))
 |.many is=>λh=>.many (Ij is _ h)
noncomputable def m1{α γ:Type}(r:α×Bool)(f:α->γ)(c:α->Bool):=(f r.1,r.2&&c r.1)
noncomputable def m2{α β γ:Type}(r:α×Bool)(q:β×Bool)(f:α->β->γ)(c:α->β->Bool):=(f r.1 q.1,r.2&&(q.2&&c r.1 q.1))
noncomputable def P3{α:Type}(c)(a b:α):=match c with
 |true=>a
 |false=>b
theorem η{α:Type}{P:α->Prop}{a b:α}:∀{c:Bool},(c=ak->P a)->P b->P (P3 c a b)
 |true,h,U1=>h rfl
 |false,U1,h=>h
noncomputable def P4(op:Wj)(p:PE):=cond (p.ctorIdx==9) (op ==.And) (p.ctorIdx==10&&op ==.Or)
noncomputable def P5(p:PE):=p.ctorIdx==6
noncomputable def P6(p:PE):=p.ctorIdx==4
noncomputable def P7(p:PE):=p.ctorIdx==21
noncomputable def A9:PI->Bool
 |.e x=>!P5 x
 |_=>ak
def bT(op)(e):=if (ni e).ks.length<=2 then cu e 1 else .BoolOp op ((ni e).ks.drop 1) e.pos
def bV(e y):=if (ni e).ks.length<=2 then [y] else (ni y).ks
def bC(op)(e)(b):=decide ((ni e).ks.length<=2)||P4 op b
def cE(v:V)(e:bP):bP×Bool:=match v with
 |.none=>(.Constant .none (ni e).k e.pos,ak)
 |.bool b=>(.Constant (.bool b) (ni e).k e.pos,ak)
 |.int i=>(.Constant (.int i) (ni e).k e.pos,ak)
 |.str x=>(.Constant (.str (aJ x)) (ni e).k e.pos,x.all (λc=>decide (c<128))&&decide (x.length<=ci))
 |_=>(e,ap)
noncomputable def ln(a b:bP):=a.pos.endLine==b.pos.line
def cN(N:NL)(e:bP)(own:List aW):NL:=iw N (ni e).sc.names own
def cS(S:SL)(e:bP):SL:=gP S (ni e).sc.names
def cO(e)(two:Bool):=P2 (gk e 0).target++(if two then P2 (gk e 1).target else [])
mutual
noncomputable def rE:PE->NL->SL->bP->bP×Bool
 |.aR v,U1,U2,e=>cE v e
 |.var i,N,U1,e=>(.Name (i7 N i) e.pos,yw N i)
 |.d4 g,U1,S,e=>(.Name (aP g) e.pos,n5 S g)
 |.typ g,U1,S,e=>(.Name (aP g) e.pos,Ie g&&n5 S g)
 |.tup es,N,S,e=>m1 (n6 es N S (ni e).ks) (λx=>.Tuple x (ni e).k e.pos) λU=>decide (es.length<=1000)
 |.lst es,N,S,e=>m1 (n6 es N S (ni e).ks) (λx=>.List x e.pos) λU=>decide (es.length<=1000)
 |.rG a,N,S,e=>m1 (rE a N S (cu e 0)) (λx=>.Set [x] (ni e).k e.pos) λx=>fb x&&displayRoad (ni e).k [x] ==.oneByOne
 |.bin op a b,N,S,e=>m2 (rE a N S (cu e 0)) (rE b N S (cu e 1)) (λx y=>.BinOp x (H5 op) y e.pos) λU U=>ak
 |.cmp op a b,N,S,e=>m2 (rE a N S (cu e 0)) (rE b N S (cu e 1)) (λx y=>.Compare x [vW op] [y] e.pos) λU y=>!Wf (vW op) y
 |.and a b,N,S,e=>m2 (rE a N S (cu e 0)) (rE b N S (bT .And e)) (λx y=>.BoolOp .And (x::bV e y) e.pos) λU U=>bC .And e b
 |.or a b,N,S,e=>m2 (rE a N S (cu e 0)) (rE b N S (bT .Or e)) (λx y=>.BoolOp .Or (x::bV e y) e.pos) λU U=>bC .Or e b
 |.not a,N,S,e=>m1 (rE a N S (cu e 0)) (λx=>.UnaryOp .Not x e.pos) λU=>ak
 |.neg a,N,S,e=>m1 (rE a N S (cu e 0)) (λx=>.UnaryOp .USub x e.pos) λU=>ak
 |.idx a b,N,S,e=>m2 (rE a N S (cu e 0)) (rE b N S (cu e 1)) (λx y=>.Subscript x y e.pos) λU U=>ak
 |.gj a lo hi,N,S,e=>m2 (rE a N S (cu e 0)) (m2 (rO lo N S (cu (cu e 1) 0)) (rO hi N S (cu (cu e 1) 1)) CY λU U=>ak) (λx y=>.Subscript x (.Slice y.1 y.2 am (cu e 1).pos) e.pos) λU U=>ak
 |.call f es,N,S,e=>m1 (n6 es N S (ni e).ks.tail) (λx=>.Call (.Name (aP f) (cu e 0).pos) x [] e.pos) λx=>vX f&&(n5 S f&&x.all fb)
 |.kG m i,N,U1,e=>(.Call (.Attribute (.Name (i7 N i) (cu (cu e 0) 0).pos) (aP m) (cu e 0).pos) [] [] e.pos,vY m&&(yw N i&&ln (cu e 0) e))
 |.rD i,N,U1,e=>(.Attribute (.Name (i7 N i) (cu e 0).pos) "t" e.pos,yw N i)
 |.rH i,N,U1,e=>(.Attribute (.Name (i7 N i) (cu e 0).pos) "k" e.pos,yw N i)
 |.bi f es,N,S,e=>P3 (f == "_KIND") (rK es N S e) (m1 (n6 es N S (ni e).ks.tail) (λx=>.Call (.Name (aP f) (cu e 0).pos) x [] e.pos) λx=>(lW.lookup f).any Id&&(n5 S f&&x.all fb))
 |.sm m o es,N,S,e=>m2 (rE o N S (cu (cu e 0) 0)) (n6 es N S (ni e).ks.tail) (λx y=>.Call (.Attribute x (aP m) (cu e 0).pos) y [] e.pos) λx y=>DQ.contains m&&(H7 x&&(y.all fb&&(decide (y.length<30)&&ln (cu e 0) e)))
 |.comp b elt k gens,N,S,e=>match gens with
  |[.mk t it ifs]=>m2 (rI it (N++cU k am) S (gk e 0).iter) (m2 (n6 ifs (cN N e (cO e ap)) (cS S e) (gk e 0).ifs) (rE elt (cN N e (cO e ap)) (cS S e) (cu e 0)) CY λU U=>ak)
    (λi x=>gG b x.2 [⟨qu (cN N e (cO e ap)) t (gk e 0).target,i,x.1,0⟩] (ni e).sc e.pos)
    λU U=>k==(cO e ap).length&&(DY S (ni e).sc (cO e ap)&&(yy ak (cN N e (cO e ap)) (cS S e) t&&(yu it (qu (cN N e (cO e ap)) t (gk e 0).target)&&A9 it)))
  |[.mk t it ifs,.mk t' fE qP]=>m2 (rI it (N++cU k am) S (gk e 0).iter) (m2 (rI fE (cN N e (cO e ak)) (cS S e) (gk e 1).iter) (m2 (n6 ifs (cN N e (cO e ak)) (cS S e) (gk e 0).ifs) (m2 (n6 qP (cN N e (cO e ak)) (cS S e) (gk e 1).ifs) (rE elt (cN N e (cO e ak)) (cS S e) (cu e 0)) CY λU U=>ak) CY λU U=>ak) CY λU U=>ak)
    (λi x=>gG b x.2.2.2 [⟨qu (cN N e (cO e ak)) t (gk e 0).target,i,x.2.1,0⟩,⟨qu (cN N e (cO e ak)) t' (gk e 1).target,x.1,x.2.2.1,0⟩] (ni e).sc e.pos)
    λU U=>k==(cO e ak).length&&(DY S (ni e).sc (cO e ak)&&((yy ak (cN N e (cO e ak)) (cS S e) t&&(yu it (qu (cN N e (cO e ak)) t (gk e 0).target)&&A9 it))&&(yy ak (cN N e (cO e ak)) (cS S e) t'&&(yu fE (qu (cN N e (cO e ak)) t' (gk e 1).target)&&A9 fE))))
  |_=>(e,ap)
noncomputable def n6:List PE->NL->SL->List bP->List bP×Bool
 |[],U1,U2,U3=>([],ak)
 |p::ps,N,S,es=>m2 (rE p N S (es.headD (.Tuple [] 0 lN))) (n6 ps N S es.tail) FY λx U=>fb x
noncomputable def rK:List PE->NL->SL->bP->bP×Bool
 |[a],N,S,e=>m1 (rE a N S (cu e 1)) (λx=>.Subscript (.Name (aP "_KIND") (cu e 0).pos) x e.pos) λU=>n5 S "_KIND"
 |U1,U2,U3,e=>(e,ap)
noncomputable def rO:Option PE->NL->SL->bP->Option bP×Bool
 |none,U1,U2,U3=>(am,ak)
 |some p,N,S,e=>m1 (rE p N S e) aj λU=>ak
noncomputable def rI:PI->NL->SL->bP->bP×Bool
 |.e x,N,S,e=>rE x N S e
 |.enum x,N,S,e=>m1 (rE x N S (cu e 1)) (λy=>.Call (.Name (aP "enumerate") (cu e 0).pos) [y] [] e.pos) λy=>n5 S "enumerate"&&fb y
 |.zip a b,N,S,e=>m2 (rE a N S (cu e 1)) (rE b N S (cu e 2)) (λx y=>.Call (.Name (aP "zip") (cu e 0).pos) [x,y] [] e.pos) λx y=>n5 S "zip"&&(fb x&&fb y)
 |.range x,N,S,e=>m1 (rE x N S (cu e 1)) (λy=>.Call (.Name (aP "range") (cu e 0).pos) [y] [] e.pos) λy=>n5 S "range"&&fb y
end
section
structure RE(an:dX)(X:Cx)(F:Calls)(n:Nat)(ao:bK)(N:NL)(S:SL)(p:PE)(q:bP):Prop where
 e:b9 an X F n ao N S p q
 t:nT an X F n ao N S p q
 b:∀op,P4 op p=ak->rW an X F n ao N S op p (ni q).ks
 f:P5 p=ap->∀ad x,vp q ad x=bH x
 s:∀ts k pos l ad,li q (aj (.Tuple ts k pos)) l ad=bH ap
 w:P6 p=ap->∀ts k pos ad,ag1 [.Tuple ts k pos] q ad=bH am
 c:P7 p=ak->∀i nm p' pos,pq S q nm p'=ak->noDict q=ak->N[i]?=aj (aj nm)->yv ap S nm=ak->gx an X F n ao N S (.asg i p) (.Assign [.Name nm p'] q pos)
theorem mU(h:n5 S g=ak):S.lookup (aP g)=aj .globalImplicit/\(aP g==("__debug__":aW))=ap:=⟨cq (aI h),rZ (ax h)⟩
theorem P8(h:RE an X F n ao N S b y)(hc:bC op e b=ak):rW an X F n ao N S op b (bV e y):=by
 unfold bV
 by_cases hl:(ni e).ks.length<=2
 .rw[bw hl];exact ħ h.e h.t
 .rw[if_neg hl];exact h.b op ((Ah.1 hc).resolve_left λh=>hl (eT h))
theorem θ:∀v e,(cE v e).2=ak->RE an X F n ao N S (.aR v) (cE v e).1
 |.none=>λU U=>⟨Pa,iv Pa λU U=>rfl,λU h=>aY h,λU U U=>rfl,λU U U U U=>rfl,λU U U U U=>rfl,λh=>aY h⟩
 |.bool U1=>λU U=>⟨Pb,iv Pb λU U=>rfl,λU h=>aY h,λU U U=>rfl,λU U U U U=>rfl,λU U U U U=>rfl,λh=>aY h⟩
 |.int U1=>λU U=>⟨Pc,iv Pc λU U=>rfl,λU h=>aY h,λU U U=>rfl,λU U U U U=>rfl,λU U U U U=>rfl,λh=>aY h⟩
 |.str x=>λU h=>have q:=ē (λc hc=>eT (eE.1 (aI h) c hc)) (eT (ax h));⟨q,iv q λU U=>rfl,λU h=>aY h,λU U U=>rfl,λU U U U U=>rfl,λU U U U U=>rfl,λh=>aY h⟩
 |.ty U1=>λU h=>aY h
 |.tup U1=>λU h=>aY h
 |.lst U1=>λU h=>aY h
 |.set U1=>λU h=>aY h
structure RI(an:dX)(X:Cx)(F:Calls)(n:Nat)(ao:bK)(N:NL)(S:SL)(p:PI)(q:bP):Prop where
 e:nW an X F n ao N S (ownOf p) p q
 f:A9 p=ak->∀ad x,vp q ad x=bH x
theorem P9(h:yr an X F n ao N S b elt k gens (gG b x gs sc pos)):RE an X F n ao N S (.comp b elt k gens) (gG b x gs sc pos):=
 ⟨Px h,iv (Px h) (by
   intro ad dG
   cases b<;>rfl),λU h=>aY h,λU=>(by
   intro ad v;cases b<;>rfl),(by
   intro ts k pos' l ad;cases b<;>rfl),λU=>(by
   intro ts k pos' ad
   cases b<;>rfl),λU U U U U h1 h2 h3 h4=>Ŷ h1 h2 h3 h4 h⟩
variable (C:lB an X F n ao)(G:rX X)
include C G
mutual
theorem eL:∀p N S e,(rE p N S e).2=ak->RE an X F n ao N S p (rE p N S e).1
 |.aR v=>λU U e h=>θ v e h
 |.var i=>λU U U h=>have q:=Pd (j9 (aI h)) (rZ (ax h));⟨q,iv q λU U=>rfl,λU h=>aY h,λU U U=>rfl,λU U U U U=>rfl,λU U U U U=>rfl,λh=>aY h⟩
 |.d4 g=>λU U U h=>have q:=Ĕ (mU h).1 (mU h).2;⟨q,iv q λU U=>rfl,λU h=>aY h,λU U U=>rfl,λU U U U U=>rfl,λU U U U U=>rfl,λh=>aY h⟩
 |.typ g=>λU U U h=>have q:=Ų (aI h) (mU (ax h)).1 (mU (ax h)).2;⟨q,iv q λU U=>rfl,λU h=>aY h,λU U U=>rfl,λU U U U U=>rfl,λU U U U U=>rfl,λh=>aY h⟩
 |.tup es=>λU U U h=>have q:=Ę (r6 es _ _ _ (aI h)).1 (eT (ax h));⟨q,iv q λU U=>rfl,λU h=>aY h,λU U U=>rfl,λU U U U U=>rfl,λh=>aY (show (!ak)=ak from aE (!·) h),λh=>aY h⟩
 |.lst es=>λU U U h=>have q:=ę (r6 es _ _ _ (aI h)).1 (eT (ax h));⟨q,iv q λU U=>rfl,λU h=>aY h,λU U U=>rfl,λU U U U U=>rfl,λU U U U U=>rfl,λh=>aY h⟩
 |.rG a=>λU U U h=>have q:=İ (eL a _ _ _ (aI h)).e (aI (ax h)) (cq (ax (ax h)));⟨q,iv q λU U=>rfl,λU h=>aY h,λh=>aY (show (!ak)=ak from aE (!·) h),λU U U U U=>rfl,λU U U U U=>rfl,λh=>aY h⟩
 |.bin op a b=>λU U U h=>have q:=Ě (eL a _ _ _ (aI h)).e (eL b _ _ _ (aI (ax h))).e;⟨q,iv q λU U=>rfl,λU h=>aY h,λU U U=>rfl,λU U U U U=>rfl,λU U U U U=>rfl,λh=>aY h⟩
 |.cmp op a b=>λU U U h=>have ha:=(eL a _ _ _ (aI h)).e;have hb:=(eL b _ _ _ (aI (ax h))).e;have hm:=(k9 _).mp (ax (ax h));⟨ě ha hb hm,Ĝ ha hb hm,λU h=>aY h,λU U U=>rfl,λU U U U U=>rfl,λU U U U U=>rfl,λh=>aY h⟩
 |.and a b=>λU U U h=>have ha:=eL a _ _ _ (aI h);have q:=Ĩ ha.e ha.t (P8 (eL b _ _ _ (aI (ax h))) (ax (ax h)));⟨Ph q,Pi q,λU h=>cq h▸q,λU U U=>rfl,λU U U U U=>rfl,λU U U U U=>rfl,λh=>aY h⟩
 |.or a b=>λU U U h=>have ha:=eL a _ _ _ (aI h);have q:=ĩ ha.e ha.t (P8 (eL b _ _ _ (aI (ax h))) (ax (ax h)));⟨Ph q,Pi q,λU h=>cq h▸q,λU U U=>rfl,λU U U U U=>rfl,λU U U U U=>rfl,λh=>aY h⟩
 |.not a=>λU U U h=>have q:=eL a _ _ _ (aI h);⟨Ğ q.e,ğ q.t,λU h=>aY h,λU U U=>rfl,λU U U U U=>rfl,λU U U U U=>rfl,λh=>aY h⟩
 |.neg a=>λU U U h=>have q:=Ġ (eL a _ _ _ (aI h)).e;⟨q,iv q λU U=>rfl,λU h=>aY h,λU U U=>rfl,λU U U U U=>rfl,λU U U U U=>rfl,λh=>aY h⟩
 |.idx a b=>λU U U h=>have q:=Ģ (eL a _ _ _ (aI h)).e (eL b _ _ _ (aI (ax h))).e;⟨q,iv q λU U=>rfl,λU h=>aY h,λU U U=>rfl,λU U U U U=>rfl,λU U U U U=>rfl,λh=>aY h⟩
 |.gj a lo hi=>λU U U h=>have q:=Ħ (eL a _ _ _ (aI h)).e (Qa lo _ _ _ (aI (aI (ax h)))) (Qa hi _ _ _ (aI (ax (aI (ax h)))));⟨q,iv q λU U=>rfl,λU h=>aY h,λU U U=>rfl,λU U U U U=>rfl,λU U U U U=>rfl,λh=>aY h⟩
 |.call f es=>λU U U h=>have g:=mU (aI (ax (ax h)));have q:=ů C G (aI (ax h)) g.1 g.2 (ax (ax (ax h))) (r6 es _ _ _ (aI h)).1;⟨q,iv q λU U=>rfl,λU h=>aY h,λU U U=>rfl,λU U U U U=>rfl,λU U U U U=>rfl,λh=>aY h⟩
 |.kG m i=>λU U U h=>have q:=Ű C G (aI h) (j9 (aI (aI (ax h)))) (rZ (ax (aI (ax h)))) (ax (ax h));⟨q,iv q λU U=>rfl,λU h=>aY h,λU U U=>rfl,λU U U U U=>rfl,λU U U U U=>rfl,λh=>aY h⟩
 |.rD i=>λU U U h=>have q:=Ĳ (j9 (aI h)) (rZ (ax h));⟨q,iv q λU U=>rfl,λU h=>aY h,λU U U=>rfl,λU U U U U=>rfl,λU U U U U=>rfl,λh=>aY h⟩
 |.rH i=>λU U U h=>have q:=ĳ (j9 (aI h)) (rZ (ax h));⟨q,iv q λU U=>rfl,λU h=>aY h,λU U U=>rfl,λU U U U U=>rfl,λU U U U U=>rfl,λh=>aY h⟩
 |.bi f es=>λN S e h=>η (P:=λr:bP×Bool=>r.2=ak->RE an X F n ao N S (.bi f es) r.1) (λhf h=>cq hf▸κ es _ _ _ h)
   (λh=>have g:=mU (aI (ax (ax h)));have q:=ű (p:=(cu e 0).pos) (pos:=e.pos) (aI (ax h)) g.1 g.2 (ax (ax (ax h))) (r6 es _ _ _ (aI h)).1;⟨q,iv q λU U=>rfl,λU h=>aY h,λU U U=>rfl,λU U U U U=>rfl,λU U U U U=>rfl,λh=>aY h⟩) h
 |.sm m o es=>λU U U h=>have c:=ax (ax h);have q:=Į (gV.1 (aI c)) (eL o _ _ _ (aI h)).e (r6 es _ _ _ (aI (ax h))).1 (aI (ax c)) (aI (ax (ax c))) (eT (aI (ax (ax (ax c))))) (ax (ax (ax (ax c))));⟨q,iv q λU U=>rfl,λU h=>aY h,λU U U=>rfl,λU U U U U=>rfl,λU U U U U=>rfl,λh=>aY h⟩
 |.comp b elt k [.mk t it ifs]=>λU U U h=>by
  have c:=ax (ax h);have hi:=D2 it _ _ _ (aI h);obtain rfl:=cq (aI c);exact P9 (ō (PU (aI (ax c))) hi.e (D1 t (aI (ax (ax c)))) (r6 ifs _ _ _ (aI (aI (ax h)))).2 (DZ (aI (ax (ax (ax c))))) (eL elt _ _ _ (aI (ax (aI (ax h))))).e (hi.f (ax (ax (ax (ax c))))))
 |.comp b elt k [.mk t it ifs,.mk t' fE qP]=>λU U U h=>by
  have c:=ax (ax h);have d:=aI (ax h);have hi:=D2 it _ _ _ (aI h);have jw:=D2 fE _ _ _ (aI d);obtain rfl:=cq (aI c);have c1:=aI (ax (ax c));have c2:=ax (ax (ax c));exact P9 (Ŏ (PU (aI (ax c))) hi.e (D1 t (aI c1)) (r6 ifs _ _ _ (aI (aI (ax d)))).2 (DZ (aI (ax c1))) jw.e (D1 t' (aI c2)) (r6 qP _ _ _ (aI (aI (ax (aI (ax d)))))).2 (DZ (aI (ax c2))) (eL elt _ _ _ (aI (ax (aI (ax (aI (ax d))))))).e (hi.f (ax (ax c1))) (jw.f (ax (ax c2))))
 |.comp U1 U2 U3 []=>λU U U h=>aY h
 |.comp U1 U2 U3 (.mk U4 U5 U6:: .mk U7 U8 U9::U10::U11)=>λU U U h=>aY h
theorem r6:∀ps N S es,(n6 ps N S es).2=ak->nU an X F n ao N S ps (n6 ps N S es).1/\nY an X F n ao N S ps (n6 ps N S es).1
 |[]=>λU U U U=>⟨qp,.nil⟩
 |p::ps=>λU U U h=>have q:=eL p _ _ _ (aI h);have r:=r6 ps _ _ _ (aI (ax h));⟨qq (ax (ax h)) q.e r.1,.cons q.t r.2⟩
theorem κ:∀ps N S e,(rK ps N S e).2=ak->RE an X F n ao N S (.bi "_KIND" ps) (rK ps N S e).1
 |[a]=>λU U U h=>have q:=ĵ (eL a _ _ _ (aI h)).e (mU (ax h)).1;⟨q,iv q λU U=>rfl,λU h=>aY h,λU U U=>rfl,λU U U U U=>rfl,λU U U U U=>rfl,λh=>aY h⟩
 |[]=>λU U U h=>aY h
 |U1::U2::U3=>λU U U h=>aY h
theorem Qa:∀p N S e,(rO p N S e).2=ak->AX an X F n ao N S p (rO p N S e).1
 |none=>λU U U U=>ģ
 |some p=>λU U U h=>Ĥ (eL p _ _ _ (aI h)).e
theorem D2:∀p N S e,(rI p N S e).2=ak->RI an X F n ao N S p (rI p N S e).1
 |.e x=>λU U U h=>have q:=eL x _ _ _ h;⟨Ĺ q.e,λh=>q.f ((k9 _).mp h)⟩
 |.enum x=>λU U U h=>⟨ĺ (mU (aI (ax h))).1 (ax (ax h)) (eL x _ _ _ (aI h)).e,λU U U=>rfl⟩
 |.zip a b=>λU U U h=>have c:=ax (ax h);⟨ļ (mU (aI c)).1 (aI (ax c)) (ax (ax c)) (eL a _ _ _ (aI h)).e (eL b _ _ _ (aI (ax h))).e,λU U U=>rfl⟩
 |.range x=>λU U U h=>⟨Ľ (mU (aI (ax h))).1 (ax (ax h)) (eL x _ _ _ (aI h)).e,λU U U=>rfl⟩
end
end
end
section
set_option maxRecDepth 100000
def sk(st:dU)(i:Nat):=(si st).1.getD i (.Tuple [] 0 lN)
def cA(N:NL)(i:Nat)(m:String)(st:dU)(x:bP):dU:=.Expr (.Call (.Attribute (.Name (i7 N i) (cu (cu (sk st 0) 0) 0).pos) (aP m) (cu (sk st 0) 0).pos) [x] [] (sk st 0).pos) st.pos
def cB(N:NL)(i:Nat)(st:dU)(x:bP):=yw N i&&(fb x&&ln (cu (sk st 0) 0) (sk st 0))
noncomputable def Ik(e:PE):=match e with
 |.aR v=>match v with
  |.int b=>aj b
  |_=>am
 |_=>am
theorem Qb(h:Ik e=aj b):e=.aR (.int b):=by
 cases e with
 |aR v=>cases v with
  |int=>exact aE (λb=>PE.aR (.int b)) (aZ h)
  |_=>exact (by injection h)
 |_=>exact (by injection h)
def Qc(S:SL)(e:PE)(x:bP)(nm:aW)(p:vj):=!pq S x nm p||(P7 e&&noDict x)
noncomputable def fz(t:PS):=match t with
 |.jj i=>aj i
 |_=>am
theorem μ(h:fz t=aj i):t=.jj i:=by
 cases t with
 |jj=>exact aE PS.jj (aZ h)
 |_=>exact (by injection h)
noncomputable def D3{α β:Type}(c:Option α)(a:α->β)(b:β):=match c with
 |some x=>a x
 |none=>b
theorem D4{α β:Type}{P:β->Prop}{a:α->β}{b:β}:∀{c:Option α},(∀x,c=aj x->P (a x))->P b->P (D3 c a b)
 |some x,h,U1=>h x rfl
 |none,U1,h=>h
mutual
noncomputable def rS:PS->NL->SL->dU->dU×Bool
 |.asg i e,N,S,st=>m1 (rE e N S (sk st 0)) (λx=>.Assign [.Name (i7 N i) (sk st 1).pos] x st.pos) λx=>stN ap N S i&&Qc S e x (i7 N i) (sk st 1).pos
 |.nG is e,N,S,st=>m1 (rE e N S (sk st 0)) (λx=>.Assign [qu N (.many is) (sk st 1)] x st.pos) λU=>yy ap N S (.many is)&& !P6 e
 |.kH i,N,S,st=>(.Assign [.Name (i7 N i) (sk st 1).pos] (.List [] (sk st 0).pos) st.pos,stN ap N S i)
 |.tJ i,N,S,st=>(.Assign [.Name (i7 N i) (sk st 1).pos] (.Call (.Name (aP "set") (cu (sk st 0) 0).pos) [] [] (sk st 0).pos) st.pos,stN ap N S i&&n5 S "set")
 |.app i e,N,S,st=>m1 (rE e N S (cu (sk st 0) 1)) (cA N i "append" st) (cB N i st)
 |.vB i e,N,S,st=>m1 (rE e N S (cu (sk st 0) 1)) (cA N i "add" st) (cB N i st)
 |.vD i e,N,S,st=>m1 (rE e N S (cu (sk st 0) 1)) (cA N i "update" st) (cB N i st)
 |.aug i e,N,S,st=>D3 (Ik e) (λb=>(.AugAssign (.Name (i7 N i) (sk st 1).pos) .Add (.Constant (.int b) (ni (sk st 0)).k (sk st 0).pos) st.pos,stN ap N S i)) (st,ap)
 |.oQ i e,N,S,st=>D3 (Ik e) (λb=>(.AugAssign (.Attribute (.Name (i7 N i) (cu (sk st 1) 0).pos) "k" (sk st 1).pos) .Add (.Constant (.int b) (ni (sk st 0)).k (sk st 0).pos) st.pos,yw N i)) (st,ap)
 |.ite c a b,N,S,st=>m2 (rE c N S (sk st 0)) (m2 (jI a N S (si st).2.1) (jI b N S (si st).2.2.1) CY λU U=>ak) (λx y=>.If x y.1 y.2 st.pos) λU U=>ak
 |.jy c b,N,S,st=>m2 (rE c N S (sk st 0)) (jI b N S (si st).2.1) (λx y=>.While x y [] st.pos) λU U=>ak
 |.iI t it b,N,S,st=>m2 (rI it N S (sk st 0)) (jI b N S (si st).2.1) (λx y=>.For (qu N t (sk st 1)) x y [] st.pos) λU U=>yy ap N S t&&(yu it (qu N t (sk st 1))&&A9 it)
 |.ret e,N,S,st=>m1 (rE e N S (sk st 0)) (λx=>.Return (aj x) st.pos) λU=>ak
 |.raise e,N,S,st=>m1 (rE e N S (cu (sk st 0) 1)) (λx=>.Raise (aj (.Call (.Name (aP "ValueError") (cu (sk st 0) 0).pos) [x] [] (sk st 0).pos)) am st.pos) λx=>n5 S "ValueError"&&fb x
 |.brk,U1,U2,st=>(.Break st.pos,ak)
 |.cont,U1,U2,st=>(.Continue st.pos,ak)
 |.vC U1 U2,U3,U4,st=>(st,ap)
 |.jj U1,U2,U3,st=>(st,ap)
 |.rC U1 U2,U3,U4,st=>(st,ap)
noncomputable def jI:List PS->NL->SL->List dU->List dU×Bool
 |[],U1,U2,U3=>([],ak)
 |t::ts,N,S,ss=>D3 (fz t) (λi=>m1 (jI ts N S ss) id λU=>D0 N i) (m2 (rS t N S (ss.headD (.Pass lN))) (jI ts N S ss.tail) FY λU U=>ak)
end
section
variable {an:dX}{X:Cx}{F:Calls}{n:Nat}{ao:bK}(C:lB an X F n ao)(G:rX X)(hF:kP F)
include C G hF
omit C G hF in
theorem ν(hn:stN ap N S i=ak)(hs:Qc S e x (i7 N i) p=ak)(q:RE an X F n ao N S e x) :
  gx an X F n ao N S (.asg i e) (.Assign [.Name (i7 N i) p] x pos):=by
 cases h:pq S x (i7 N i) p with
 |false=>exact ŵ h (j9 (aI hn)) (ax hn) q.e
 |true=>
  have h2:=(Ah.1 hs).resolve_left λc=>by rw[h] at c;cases c
  exact q.c (aI h2) _ _ _ _ h (ax h2) (j9 (aI hn)) (ax hn)
mutual
theorem Qd:∀t N S st,(rS t N S st).2=ak->gx an X F n ao N S t (rS t N S st).1
 |.asg i e=>λU U U h=>ν (aI (ax h)) (ax (ax h)) (eL C G e _ _ _ (aI h))
 |.nG is e=>λN S st h=>have q:=eL C G e _ _ _ (aI h);Ŗ (te:=.Tuple (yx N is (ni (sk st 1)).ks) (ni (sk st 1)).k (sk st 1).pos) (pos:=st.pos) (.many (Ij is _ (aI (ax h)))) q.e (λad=>q.s (yx N is (ni (sk st 1)).ks) (ni (sk st 1)).k (sk st 1).pos st.pos.line ad)
   λad=>q.w ((k9 _).mp (ax (ax h))) (yx N is (ni (sk st 1)).ks) (ni (sk st 1)).k (sk st 1).pos ad
 |.kH i=>λU U U h=>Ŝ (j9 (aI h)) (rY (ax h)) λU=>rfl
 |.tJ i=>λU U U h=>ŝ (j9 (aI (aI h))) (rY (ax (aI h))) (mU (ax h)).1 λU=>rfl
 |.app i e=>λU U U h=>have c:=ax h;Ş (j9 (aI (aI c))) (rZ (ax (aI c))) (aI (ax c)) (ax (ax c)) (eL C G e _ _ _ (aI h)).e λU=>rfl
 |.vB i e=>λU U U h=>have c:=ax h;ş hF (j9 (aI (aI c))) (rZ (ax (aI c))) (aI (ax c)) (ax (ax c)) (eL C G e _ _ _ (aI h)).e λU=>rfl
 |.vD i e=>λU U U h=>have c:=ax h;Š hF (j9 (aI (aI c))) (rZ (ax (aI c))) (aI (ax c)) (ax (ax c)) (eL C G e _ _ _ (aI h)).e λU=>rfl
 |.aug i e=>λN S st h=>D4 (P:=λr:dU×Bool=>r.2=ak->gx an X F n ao N S (.aug i e) r.1) (λb hb h=>Qb hb▸Ť (j9 (aI h)) (rY (ax h))) (λh=>aY h) h
 |.oQ i e=>λN S st h=>D4 (P:=λr:dU×Bool=>r.2=ak->gx an X F n ao N S (.oQ i e) r.1) (λb hb h=>Qb hb▸Ŧ (j9 (aI h)) (rZ (ax h))) (λh=>aY h) h
 |.ite c a b=>λU U U h=>Ŕ (eL C G c _ _ _ (aI h)).t (r7 a _ _ _ (aI (aI (ax h)))) (r7 b _ _ _ (aI (ax (aI (ax h)))))
 |.jy c b=>λU U U h=>ř (eL C G c _ _ _ (aI h)).t (r7 b _ _ _ (aI (ax h)))
 |.iI t it b=>λU U U h=>have c:=ax (ax h);have q:=D2 C G it _ _ _ (aI h);Ř (D1 t (aI c)) (DZ (aI (ax c))) q.e (r7 b _ _ _ (aI (ax h))) (q.f (ax (ax c)))
 |.ret e=>λU U U h=>ő (eL C G e _ _ _ (aI h)).e
 |.raise e=>λU U U h=>ţ (mU (aI (ax h))).1 (ax (ax h)) (eL C G e _ _ _ (aI h)).e
 |.brk=>λU U U U=>ŏ
 |.cont=>λU U U U=>Ő
 |.vC U1 U2=>λU U U h=>aY h
 |.jj U1=>λU U U h=>aY h
 |.rC U1 U2=>λU U U h=>aY h
theorem r7:∀ts N S ss,(jI ts N S ss).2=ak->i6 an X F n ao N S ts (jI ts N S ss).1
 |[]=>λU U U U=>Œ
 |t::ts=>λN S ss h=>D4 (P:=λr:List dU×Bool=>r.2=ak->i6 an X F n ao N S (t::ts) r.1) (λi hi h=>μ hi▸Ţ (j9 (ax h)) (r7 ts _ _ _ (aI h))) (λh=>œ (Qd t _ _ _ (aI h)) (r7 ts _ _ _ (aI (ax h)))) h
end
theorem Qe(hl:qr an X F n ao P0 N S ts tes):∀us {ss:List dU},us.all (λt=>(fz t).isNone)=ak->(jI us N S ss).2=ak->qr an X F n ao P0 N S (us++ts) ((jI us N S ss).1++tes)
 |[],U1,U2,U3=>hl
 |u::us,ss,hz,h=>D4 (P:=λr:List dU×Bool=>r.2=ak->qr an X F n ao P0 N S (u::(us++ts)) (r.1++tes)) (λi hi U=>by have:(fz u).isNone=ak:=aI hz;rw[hi] at this;cases this) (λh=>ź (Qd C G hF u _ _ _ (aI h)) (Qe hl us (ax hz) (aI (ax h)))) h
end
end
section
set_option maxRecDepth 100000
def l5(st):=(mQ st).names
noncomputable def D5(r:nL):=r.nm != "law"&&r.nm != "read_pattern"
theorem ξ:(io.filter D5).map (λr=>jI r.fn.body (pp r.fN) (l5 (jY r.k)) (gu (jY r.k)))=(io.filter D5).map (λr=>(gu (jY r.k),ak)):=by kernel_rfl
end
section
set_option maxRecDepth 100000
section
theorem ο(C:lB an X F n ao)(G:rX X)(hF:kP F)(h:r∈io)(hr:D5 r=ak):i6 an X F n ao (pp r.fN) (l5 (jY r.k)) r.fn.body (gu (jY r.k)):=by
 have e:=K6.1 ξ r (iH.2 ⟨h,hr⟩);have q:=r7 C G hF r.fn.body _ _ _ (aE (·.2) e)
 rwa [show (jI r.fn.body (pp r.fN) (l5 (jY r.k)) (gu (jY r.k))).1=gu (jY r.k) from aE (·.1) e] at q
theorem Qf:jI (t8.body.drop 1) (pp t9) (l5 (gN 11)) ((gu (gN 11)).drop 1)=((gu (gN 11)).drop 1,ak):=by kernel_rfl
theorem Qg:rE (.var 0) (pp t9) (l5 (gN 11)) (cu (sk ((gu (gN 11)).headD (.Pass lN)) 0) 1)=(cu (sk ((gu (gN 11)).headD (.Pass lN)) 0) 1,ak):=by kernel_rfl
theorem π(C:lB an X F (n+1) ao)(G:rX X)(hF:kP F)(M:Ig an X fI (l5 (ub 0)) (gu (ub 0)))(vE:X.mg (aP "_P")=aj (.ref X.C)) :
  ut ap an X F (n+1) ao (pp t9) (l5 (gN 11)) t8.body (gu (gN 11)):=by
 refine kJ (G.fn "_tokens" (by decide +kernel)) λaT oT fT e1 e2 e3=>?_;have h1:=eL C G (.var 0) _ _ _ (aE (·.2) Qg);have h2:=r7 C G hF (t8.body.drop 1) _ _ _ (aE (·.2) Qf);rw[Qg] at h1;rw[Qf] at h2;refine Ÿ C M ?_ e1 e2 e3 ?_ (rY ?_) ?_ vE ?_ h1.e h2
 all_goals kernel_rfl
noncomputable def tP(st:dU):=match st with
 |.Try b hs U1 U2 U3=>match hs with
  |.ExceptHandler t U1 hb p::U2=>(b,hb,t,p)
  |_=>(b,[],am,lN)
 |_=>([],[],am,lN)
def j8:=(gu (gN 47)).getD 13 (.Pass lN)
def D6:=(tP j8).2.1.headD (.Pass lN)
abbrev yz:NL:=pp AE
abbrev yA:SL:=l5 (gN 47)
theorem ς:(gu (gN 47)).drop 13=.Try (tP j8).1 [.ExceptHandler (aj (.Name (aP "ValueError") ((tP j8).2.2.1.getD (sk j8 0)).pos)) am [.Assign [.Name (i7 yz 12) (sk D6 1).pos] (.Constant (.bool ak) (ni (sk D6 0)).k (sk D6 0).pos) D6.pos] (tP j8).2.2.2] [] [] j8.pos::(gu (gN 47)).drop 14:=by kernel_rfl
theorem Qh:jI (jX.body.take 13) yz yA ((gu (gN 47)).take 13)=((gu (gN 47)).take 13,ak):=by kernel_rfl
theorem υ:jI [.asg 11 (.call "read_schema" [.var 8])] yz yA (tP j8).1=((tP j8).1,ak):=by kernel_rfl
theorem D7:((jX.body.take 13).all (λt=>(fz t).isNone)&&(stN ap yz yA 12&&n5 yA "ValueError"))=ak:=by kernel_rfl
theorem Qi(C:lB an X F n ao)(G:rX X)(hF:kP F)(e:jI ts N S ss=(ss,ak)):i6 an X F n ao N S ts ss:=by
 have q:=r7 C G hF ts _ _ _ (aE (·.2) e)
 rwa [show (jI ts N S ss).1=ss from aE (·.1) e] at q
theorem χ(hP0:∀a,P0.obj a=ao.get? a)(G0:gw X P0)(C:lB an X F n ao)(G:rX X)(hF:kP F):qr an X F n ao P0 (pp AE) (l5 (gN 47)) jX.body (gu (gN 47)):=by
 have h:qr an X F n ao P0 yz yA (jX.body.drop 13) ((gu (gN 47)).drop 13):=by
  rw[ς];exact ζ hP0 G0 (ts:=jX.body.drop 14) (Qi C G hF υ) (j9 (aI (aI (ax D7)))) (rY (ax (aI (ax D7)))) (mU (ax (ax D7))).1 (Ź (Qi C G hF (by kernel_rfl)))
 have q:=Qe C G hF h (jX.body.take 13) (aI D7) (aE (·.2) Qh)
 rwa [show (jI (jX.body.take 13) yz yA ((gu (gN 47)).take 13)).1=_ from aE (·.1) Qh,tg,tg] at q
end
def fi(fN:List String)(np:Nat)(st:dU):FI:=⟨(fN.take np).map aP,(fN.drop np).map aP,l5 st,gu st⟩
theorem Il(fN)(np)(st):((fi fN np st).ca++(fi fN np st).locs).map aj=pp fN:=by
 show ((fN.take np).map aP++(fN.drop np).map aP).map aj=_;rw[<- L8,tg,ij];rfl
def nL.inf(r:nL):=fi r.fN (if r.fn.cj then 1 else r.fn.np) (jY r.k)
def inf(f:String):FI:=match vK f with
 |some r=>r.inf
 |none=>⟨[],[],[],[]⟩
theorem Ba(h:vK f=aj r):inf f=r.inf:=by unfold inf;rw[h]
end
section
set_option maxRecDepth 100000
def v6(f:String):dU:=match vK f with
 |some r=>jY r.k
 |none=>.Pass lN
theorem Im(h:vK f=aj r):v6 f=jY r.k:=by unfold v6;rw[h]
def Bb(X:Cx)(m:Option aU)(st):=∃a o fd,m=aj (.ref a)/\X.h0 a=aj o/\o.cls=.type "function"/\o.data=.func fd/\fd.body=.stmts (gu st)/\fd.closure=[]/\fd.globals=X.gd/\fd.builtins=X.bd/\fd.scope=mQ st/\fd.params=x5 st/\fd.defaults=.none/\fd.kwdefaults=.none/\
 ∃c oc vs t,fd.code=.ref c/\X.h0 c=aj oc/\oc.data=.fields vs/\vs[1]?=aj (.str fd.qualname t)
structure Io(st:dU)(ca:List aW):Prop where
 kd:((mQ st).kind,(mQ st).isCoroutine,(mQ st).isGenerator)=(.function,ap,ap)
 bi:∀fd,fd.params=x5 st->fd.defaults=.none->fd.kwdefaults=.none->∀vals,vals.length=ca.length->Wt fd ⟨vals,[]⟩=bH (ca.zip vals)
theorem Ip(h:Bb X m st)(hb:Io st ca):∃a,m=aj (.ref a)/\∀P,gw X P->v0 X P a ca (l5 st) (gu st):=by
 (refine mH h λa o fd h1 h2 h3 h4 zr=>?_;refine tT zr λh5 h6 h7 h8 zr=>?_;refine tT zr λh9 Mq h11 C1 zr=>?_;refine vI zr λc oc vs t e1 e2 e3 e4=>?_);exact ⟨a,h1,λP g=>⟨⟨o,fd,c,oc,vs,t⟩,g.top _ _ h2,h4,h5,h6,h7,h8,h9▸rfl,h9▸aE (·.1) hb.kd,h9▸aE (·.2.1) hb.kd,h9▸aE (·.2.2) hb.kd,e1,g.top _ _ e2,e3,e4,hb.bi fd Mq h11 C1⟩⟩
noncomputable def tab{α:Type}:Nat->(Nat->α)->List α
 |0,U1=>[]
 |n+1,g=>g 0::tab n λk=>g (k+1)
theorem Qj:∀(l:List aU),∃g,l=tab l.length g
 |[]=>⟨λU=>.none,rfl⟩
 |a::l=>(Qj l).elim λg e=>⟨λk=>match k with | 0=>a | k+1=>g k,aE (a::·) e⟩
def Qk(st)(n)(fd:K7)(g):=Wt {fd with params:=x5 st,defaults:=.none,kwdefaults:=.none} ⟨tab n g,[]⟩
def Ql(ca:List aW)(fd:K7)(g:Nat->aU):ig (List (aW×aU)):=bH (ca.zip (tab ca.length g))
theorem Iq(h:((mQ st).kind,(mQ st).isCoroutine,(mQ st).isGenerator)=(.function,ap,ap))(hb:Qk st ca.length=Ql ca):Io st ca:=
 ⟨h,λfd h1 h2 h3 vals hl=>by
  refine a9 (Qj vals) λg e=>?_;rw[hl] at e
  have e':{fd with params:=x5 st,defaults:=.none,kwdefaults:=.none}=fd:=by
   cases fd;cases h1;cases h2;cases h3;rfl
  rw[e];exact e'▸congrFun (congrFun hb fd) g⟩
theorem Bc{α β:Type}{f g:α->β}{l:List α}(h:l.map f=l.map g){a:α}(ha:a∈l):f a=g a:=K6.1 h a ha
theorem Qm:io.map (λr=>((mQ (jY r.k)).kind,(mQ (jY r.k)).isCoroutine,(mQ (jY r.k)).isGenerator))=io.map (λU=>(.function,ap,ap)):=by kernel_rfl
theorem Qn:io.map (λr=>Qk (jY r.k) r.inf.ca.length)=io.map (λr=>Ql r.inf.ca):=by kernel_rfl
theorem aaa:Io (ub 0) [aP "self",aP "text"]:=Iq (by kernel_rfl) (by kernel_rfl)
noncomputable def Ir(ca locs:List aW)(sn:List (aW×di)):=ca.all (λnm=>sn.lookup nm==aj .local||sn.lookup nm==aj .cell)&&decide (ca++locs).Nodup&&sn.all (λp=>!(p.2 ==.free))
theorem Qo(h:Ir ca locs sn=ak):v5 ca locs sn:=by
 simp only[Ir,fM,eE,nz,Gm,beq_iff_eq] at h;refine ⟨h.1.1,h.1.2,λnm e=>?_⟩;have:=h.2 _ (DT e);simp at this
theorem aab:v5 [aP "self",aP "text"] [] (l5 (ub 0)):=Qo (by kernel_rfl)
theorem aac:io.all (λr=>Ir r.inf.ca r.inf.locs r.inf.sn)=ak:=by kernel_rfl
theorem aad:io.map (λr=>(r.inf.ca.length,r.inf.locs.length))=io.map (λr=>(if r.fn.cj then 1 else r.fn.np,r.fn.nl-if r.fn.cj then 1 else r.fn.np)):=by kernel_rfl
end
section
set_option maxRecDepth 100000
structure v7(an:dX)(X:Cx):Prop where
 fn:∀f d,eS f=aj d->d.cj=ap->Bb X (X.mg (aP f)) (v6 f)
 me:∀f d,eS f=aj d->d.cj=ak->Bb X (X.mN (aP f)) (v6 f)
 G4:Bb X (X.mN (aP "__init__")) (ub 0)
 Mn:∀fI,X.mN (aP "__init__")=aj (.ref fI)->∀h:bK,(∀a o,X.h0 a=aj o->h.get? a=aj o)->ag7 (aH an X.w) h X.C/\L7 (aH an X.w) h (lh (.ref X.C) "__init__") (aj (.ref fI))/\∀self,L7 (aH an X.w) h (bindSpecial (.ref fI) self) (.ref fI,[self])
 vE:X.mg (aP "_P")=aj (.ref X.C)
section
theorem aae:lh (.type "object") (aP "peek")=bH am:=by rw[tn,tq];kernel_rfl
theorem aaf:lh (.type "object") (aP "level")=bH am:=by rw[tn,tq];kernel_rfl
theorem aag:lh (.type "object") (aP "part")=bH am:=by rw[tn,tq];kernel_rfl
theorem aah:io.filter (λr=>r.fn.cj)=[⟨"peek",MW,MX,101⟩,⟨"level",Ho,MY,102⟩,⟨"part",Hp,MZ,103⟩]:=by kernel_rfl
theorem aai(f:String)(d:Fn)(h:eS f=aj d)(hm:d.cj=ak):aP f≠"t"/\aP f≠"k"/\lh (.type "object") (aP f)=bH am:=by
 (refine cm (ua h) λr h1 av az cI=>?_;clear av;subst az;subst cI);have:=iH (p:=λr:nL=>r.fn.cj).2 ⟨h1,hm⟩;rw[aah] at this
 rcases cD.1 this with rfl | this
 .exact ⟨by decide,by decide,aae⟩
 rcases cD.1 this with rfl | this
 .exact ⟨by decide,by decide,aaf⟩
 .cases en.1 this
  exact ⟨by decide,by decide,aag⟩
theorem v7.fns(T:v7 an X):rX X:=by
 refine ⟨λf h=>?_,λm h=>?_⟩
 .unfold vX at h
  cases e:eS f with
  |none=>rw[e] at h;cases h
  |some d=>
   rw[e] at h;refine mH (T.fn f d e (by simpa using (dM.mp h).1)) λa o fd h1 h2 h3 h4 U=>?_;exact ⟨a,o,fd,h1,h2,h4⟩
 .unfold vY at h
  cases e:eS m with
  |none=>rw[e] at h;cases h
  |some d=>
   rw[e] at h;refine mH (T.me m d e h) λa o fd h1 h2 h3 h4 U=>?_;refine d5 (aai m d e h) λk1 k2 k3=>?_;exact ⟨a,o,fd,am,h1,h2,h4,h3,k1,k2,k3⟩
theorem aaj(h:i6 an X F n ao (pp fN) (l5 st) body (gu st)):ut m an X F n ao (((fi fN np st).ca++(fi fN np st).locs).map aj) (fi fN np st).sn body (fi fN np st).body:=by
 rw[Il];exact h.body
def Qp(an:dX)(X:Cx)(r:nL):Prop:=r.nm≠"law"->∀(n:Nat) (ao:bK),lB an X (oZ eS X.gl n) n ao->ut r.fn.cj an X (oZ eS X.gl n) n ao ((r.inf.ca++r.inf.locs).map aj) r.inf.sn r.fn.body r.inf.body
theorem aak(T:v7 an X):Qp an X ⟨"read_pattern",t8,t9,11⟩:=λU n ao C=>by
 show ut ap an X (oZ eS X.gl n) n ao (((fi t9 1 (gN 11)).ca++(fi t9 1 (gN 11)).locs).map aj) (l5 (gN 11)) t8.body (gu (gN 11));rw[Il]
 cases n with
 |zero=>
  intro A ad fr pi ρ σ P s K XR QQ E hm S h hq hx;rw[t8] at h;refine ar (fO.1 h) λv U h=>?_;exact h.elim
 |succ n=>
  refine ar (Ip T.G4 aaa) λfI hI hfn=>?_;exact π C T.fns (hW _) (fI:=fI) ⟨T.Mn fI hI,hfn,aab⟩ T.vE
theorem aal:io.filter (λr=>r.nm == "read_pattern")=[⟨"read_pattern",t8,t9,11⟩]:=by kernel_rfl
theorem aam(T:v7 an X)(h:r∈io):Qp an X r:=λhl=>by
 cases hp:D5 r with
 |true=>exact λn ao C=>aaj (ο C T.fns (hW n) h hp)
 |false=>
  have hn:(r.nm == "read_pattern")=ak:=by
   rcases Wx.1 hp with e | e
   .exact absurd (by simpa using e) hl
   .simpa using e
  have:=iH (p:=λr:nL=>r.nm == "read_pattern").2 ⟨h,hn⟩;rw[aal] at this
  cases en.1 this
  exact aak T hl
theorem aan(T:v7 an X):PQ an X inf:=by
 have ln:∀{f:String} {d:Fn} {r:nL},vK f=aj r->r∈io->r.fn=d->(inf f).ca.length=(if d.cj then 1 else d.np)/\(inf f).locs.length=d.nl-if d.cj then 1 else d.np:=λh1 h2 h3=>by
  subst h3;rw[Ba h1];have:=Bc aad h2;exact ⟨aE (·.1) this,aE (·.2) this⟩
 refine ⟨λf d h hm=>?_,λf d h hm=>?_,λf d h hm=>?_,λf d h hm=>?_,λf d h=>?_,?_⟩
 ·(refine cm (ua h) λr h1 h2 av az=>?_;clear av;clear az);have:=T.fn f d h hm;rw[Im h2] at this;rw[Ba h2];exact Ip this (Iq (Bc Qm h1) (Bc Qn h1))
 ·(refine cm (ua h) λr h1 h2 av az=>?_;clear av;clear az);have:=T.me f d h hm;rw[Im h2] at this;rw[Ba h2];exact Ip this (Iq (Bc Qm h1) (Bc Qn h1))
 ·(refine cm (ua h) λr h1 h2 av h3=>?_;clear av);have:=ln h2 h1 h3;rw[hm] at this;exact this
 ·(refine cm (ua h) λr h1 h2 av h3=>?_;clear av);have:=ln h2 h1 h3;rw[hm] at this;exact this
 ·(refine cm (ua h) λr h1 h2 av az=>?_;clear av;clear az);rw[Ba h2];exact Qo (eE.1 aac r h1)
 .intro f d h hl;(refine cm (ua h) λr h1 h2 av az=>?_;subst av;subst az);rw[Ba h2];exact aam T h1 hl
end
end
abbrev aK:=aa
abbrev CW:=oZ eS bB
theorem aao(fn){X:Prop}(h:eS f=aj fn)(hm:fn.cj=ap)(hl:vs.length=fn.np)
  (hb:cV (CW n) bB fn.body (vs.map .v++cU (fn.nl-fn.np) .un) am (iN λv U=>Q v σ) (λU=>X)):CW (n+1) f vs σ Q X:=by
 refine ag9 fn (aha h ?_);rw[hm];exact ⟨hl,hb⟩
theorem aap(fn){X:Prop}(h:eS f=aj fn)(hm:fn.cj=ak)
  (hb:cV (CW n) bB fn.body (.self::cU (fn.nl-1) .un) σ (iN Q) (λU=>X)):CW (n+1) f [] σ Q X:=by
 refine ag9 fn (aha h ?_);rw[hm];exact ⟨rfl,hb⟩
def D8(n:Nat)(r:List PS)(K:lm)(X:bj->Prop):lm:=λf aS ay=>match f with
 |.next=>cV (CW n) bB r aS ay K X
 |.brk=>K .brk aS ay
 |.cont=>K .cont aS ay
 |.ret v=>K (.ret v) aS ay
def aaq(n)(t)(b)(ρ)(K)(X)(items)(ay):=
 rM (λx ρ σ K=>gM t x ρ λbt=>cV (CW n) bB b bt σ K X) items ρ ay K
def Iu(n)(bk)(elt)(k)(gens:List PG)(ρ:bj)(σ:Pz)(Q:i4):=
 GW (CW n) bB (dO bk) (EW (CW n) bB elt) gens ⟨ρ.map im++cU k .un,σ,[]⟩ (λc=>Q (nJ bk c.acc) c.σ) False
def Be(J:bj->Pz->Prop)(K:lm):lm:=λf ρ σ=>match f with
 |.next=>J ρ σ
 |.cont=>J ρ σ
 |.brk=>K .next ρ σ
 |.ret v=>K (.ret v) ρ σ
section
theorem s0:cV (CW n) bB [] ρ σ K X=K .next ρ σ:=rfl
theorem q1:D8 n r K X .next ρ σ=cV (CW n) bB r ρ σ K X:=rfl
theorem q2:D8 n r K X .brk ρ σ=K .brk ρ σ:=rfl
theorem q3:D8 n r K X .cont ρ σ=K .cont ρ σ:=rfl
theorem q4:D8 n r K X (.ret v) ρ σ=K (.ret v) ρ σ:=rfl
theorem l1:Be J K .next ρ σ=J ρ σ:=rfl
theorem l2:Be J K .brk ρ σ=K .next ρ σ:=rfl
theorem l3:Be J K .cont ρ σ=J ρ σ:=rfl
theorem l4:Be J K (.ret v) ρ σ=K (.ret v) ρ σ:=rfl
theorem r1:iN Q (.ret v) ρ σ=Q v σ:=rfl
theorem r2:iN Q .next ρ σ=Q .none σ:=rfl
theorem dn:lU (CW n) bB (e::es) ρ σ Q Y=EW (CW n) bB e ρ σ (λv aO=>lU (CW n) bB es ρ aO (λvs cb=>Q (v::vs) cb) Y) Y:=rfl
def yB(Q:af->Pz->Prop)(v:V)(aO:Pz):Prop:=match v with
   |.lst l=>Q l aO
   |.tup l=>Q l aO
   |.set l=>∀l',l'.Perm l->Q l' aO
   |_=>False
theorem k1:yB Q (.lst l) σ=Q l σ:=rfl
theorem k2:yB Q (.tup l) σ=Q l σ:=rfl
theorem k3:yB Q (.set l) σ=∀l',l'.Perm l->Q l' σ:=rfl
theorem i1:dN (.tup (a::b::l)) (.int 1)=aj b:=rfl
theorem i2:dN (.tup (a::b::c::l)) (.int 2)=aj c:=rfl
theorem j0:dN (.lst (a::l)) (.int 0)=aj a:=rfl
theorem j1:dN (.lst (a::b::l)) (.int 1)=aj b:=rfl
theorem oT:rJ (.tup i)=aj i:=rfl
end
theorem Iv(I:af->bj->Pz->Prop)(h0:∀ρ σ,I [] ρ σ->K .next ρ σ)
  (h:∀x xs ρ σ,I (x::xs) ρ σ->gM t x ρ λbt=>cV (CW n) bB b bt σ (Be (I xs) K) X) :
  ∀l ρ σ,I l ρ σ->aaq n t b ρ K X l σ
 |[]=>λρ σ hi=>h0 ρ σ hi
 |x::xs=>λρ σ hi=>by
  refine AV (λbt h'=>j5 (hW n) _ _ _ _ _ _ _ (λf ρ σ hf=>?_) (λU h=>h) h') (h x xs ρ σ hi)
  cases f with
  |next=>exact Iv I h0 h xs ρ σ hf
  |cont=>exact Iv I h0 h xs ρ σ hf
  |brk=>exact hf
  |ret v=>exact hf
theorem Bf(ha:dj a=ak)(hb:dj b=ak)(hd:min (dm a) (dm b)<=100):Az a b=aj (eX a b):=by
 unfold Az;rw[ha,hb,eP hd];rfl
theorem D9(hx:dj x=ak)(hl:gW l=ak)(hd:min (i0 l) (dm x)<=100):Ax x l=aj (l.any λy=>eX y x):=by
 unfold Ax;rw[hx,hl,eP hd];rfl
set_option tactic.hygienic true in
theorem aar:x∈dI l v<->x∈l\/x=v:=by
 unfold dI;split
 .rename_i h;constructor
  .exact .inl
  .rintro (h' | rfl)
   .exact h'
   .exact gV.1 h
 .simp
set_option tactic.hygienic true in
theorem aas(h:l.Nodup):(dI l v).Nodup:=by
 unfold dI;split
 .exact h
 .rename_i h'
  rw[zQ];refine ⟨h,by simp,?_⟩;intro a ha b hb;simp at hb;subst hb;intro e;subst e;exact h' (gV.2 ha)
theorem Iw:∀(l acc:af),acc.Nodup->(l.foldl dI acc).Nodup/\∀x,x∈l.foldl dI acc<->x∈acc\/x∈l
 |[]=>λacc h=>⟨h,by simp⟩
 |y::l=>λacc h=>by
  refine bm (Iw l (dI acc y) (aas h)) λh1 h2=>⟨h1,λx=>?_⟩;rw[xn,h2,aar,cD,or_assoc]
theorem qv(l):(eH l).Nodup:=(Iw l [] p9).1
theorem kQ:x∈eH l<->x∈l:=by
 have:=(Iw l [] p9).2 x;show x∈l.foldl dI []<->_;rw[this];simp
theorem yC:∀{l m:af},l.Nodup->(∀x∈l,x∈m)->l.length<=m.length
 |[],m,U1,U2=>by simp
 |x::l,m,h,hs=>by
  rw[pX] at h;have hx:x∈m:=hs x dh;have:=yC (l:=l) (m:=m.erase x) h.2 λy hy=>(afa (λ(e:y=x)=>h.1 (e▸hy))).2 (hs y (cJ _ hy));rw[afb hx] at this;have:0<m.length:=afc hx;exact afd this ‹l.length<=m.length-1›
theorem Ea(l):(eH l).length<=l.length:=yC (qv l) λx hx=>kQ.1 hx
theorem aat(h:dO b (l++m)=ak):dO b l=ak:=by
 cases b with
 |false=>exact eP (aB (bJ▸dH _ _) (eT h))
 |true=>
  have h:=dM.1 h;exact dM.2 ⟨(dM.1 (xH▸h.1)).1,eP (aB (yC (qv l) λx hx=>kQ.2 (my m (kQ.1 hx))) (eT h.2))⟩
section
structure An where
 g:Nat
 v:V
 b:Bool
 σ:Pz
 s:aa
 l:af
 r:Option (Fl×bj×Pz)
 q:Option (Fl×bj)
noncomputable def ka(g:Nat):An:=⟨g,.none,ap,am,[],[],am,am⟩
inductive Tr:Type 1 where
 |z
 |n (a:An) (t:Tr)
 |s (t u:Tr)
 |A (q:Bool) {ι:Type} (S:ι->Prop) (φ:ι->V) (tr:ι->Tr)
 |w (tr:af->Tr)
 |k {α:Type} (φ:α->V) (g:α->Option V) (xs:List α) (out:af) (tr:α->Tr) (t:Tr)
 |f {α β:Type} (φ:α->V) (st:β->bj) (F:β->α->β) (I:List α->β->Prop) (xs:List α) (b:β) (tr:α->β->Tr) (t:Tr)
namespace Tr
noncomputable def c(t:Tr):Tr:=.n (ka 0) t
noncomputable def o(v:V)(t:Tr):Tr:=.n {ka 1 with v:=v} t
noncomputable def p(t:Tr):Tr:=.n (ka 2) t
noncomputable def b(v:Bool)(t:Tr):Tr:=.n {ka 3 with b:=v} t
noncomputable def u(s:aa)(t:Tr):Tr:=.n {ka 4 with s:=s} t
noncomputable def x:Tr:=.n (ka 5) .z
noncomputable def sg(σ:Pz)(t:Tr):Tr:=.n {ka 6 with σ:=σ} t
noncomputable def m(v:V)(σ:Pz)(t:Tr):Tr:=.n {ka 7 with v:=v,σ:=σ} t
noncomputable def y(t:Tr):Tr:=.n (ka 8) t
noncomputable def nn(t:Tr):Tr:=.n (ka 9) t
noncomputable def j(t:Tr):Tr:=.n (ka 10) t
noncomputable def i(l:af)(t:Tr):Tr:=.n {ka 11 with l:=l} t
noncomputable def q(v:V)(t:Tr):Tr:=.n {ka 12 with v:=v} t
noncomputable def l(o:Option (Fl×bj×Pz))(t:Tr):Tr:=.n {ka 13 with r:=o} t
noncomputable def e(o:Option (Fl×bj))(t:Tr):Tr:=.n {ka 14 with q:=o} t
noncomputable def stop(t:Tr):Tr:=.n (ka 15) t
noncomputable def d(t:Tr):Tr:=.n (ka 16) t
noncomputable def a{ι:Type}(S:ι->Prop)(φ:ι->V)(tr:ι->Tr):Tr:=.A ap S φ tr
noncomputable def qa{ι:Type}(S:ι->Prop)(φ:ι->V)(tr:ι->Tr):Tr:=.A ak S φ tr
variable (t:Tr)
noncomputable def hd(i:Nat):=@Tr.casesOn (λU=>Option (An×Tr)) t am (λa t=>cond (Nat.beq a.g i) (aj (a,t)) am) (λU U=>am) (@λU U U U U=>am) (λU=>am) (@λU U U U U U U=>am) (@λU U U U U U U U U U=>am)
def sk(i:Nat):=(t.hd i).elim t Ln
variable (p:Prop)
noncomputable def hs(k:Tr->Tr->Prop):=@Tr.casesOn (λU=>Prop) t p (λU U=>p) k (@λU U U U U=>p) (λU=>p) (@λU U U U U U U=>p) (@λU U U U U U U U U U=>p)
noncomputable def hA(c:Bool)(k:∀ι,(ι->Prop)->(ι->V)->(ι->Tr)->Prop):=@Tr.casesOn (λU=>Prop) t p (λU U=>p) (λU U=>p) (@λq U S φ tr=>cond (c==q) (k _ S φ tr) p) (λU=>p) (@λU U U U U U U=>p) (@λU U U U U U U U U U=>p)
noncomputable def hw(k:(af->Tr)->Prop):=@Tr.casesOn (λU=>Prop) t p (λU U=>p) (λU U=>p) (@λU U U U U=>p) k (@λU U U U U U U=>p) (@λU U U U U U U U U U=>p)
noncomputable def hk(k:∀α,(α->V)->(α->Option V)->List α->af->(α->Tr)->Tr->Prop):=@Tr.casesOn (λU=>Prop) t False (λU U=>False) (λU U=>False) (@λU U U U U=>False) (λU=>False) (@k) (@λU U U U U U U U U U=>False)
noncomputable def hf(k:∀α β,(α->V)->(β->bj)->(β->α->β)->(List α->β->Prop)->List α->β->(α->β->Tr)->Tr->Prop):=@Tr.casesOn (λU=>Prop) t False (λU U=>False) (λU U=>False) (@λU U U U U=>False) (λU=>False) (@λU U U U U U U=>False) (@k)
end Tr
theorem i8{α:Type _}{x:Option α}{p r:Prop}{q:α->Prop}(e:x.elim p q)(h:∀a,q a->r)(h':p->r):r:=Option.casesOn (motive:=λx=>x.elim p q->r) x h' h e
theorem Qq{t:Tr}{p r:Prop}{k:Tr->Tr->Prop}(e:t.hs p k)(h:∀t u,k t u->r)(h':p->r):r:=by cases t<;>first | exact h' e | exact h _ _ e
theorem Qr{t:Tr}{p r:Prop}{c:Bool}{k:∀ι,(ι->Prop)->(ι->V)->(ι->Tr)->Prop}(e:t.hA p c k)(h:∀ι S φ tr,k ι S φ tr->r)(h':p->r):r:=by cases t<;>first | exact h' e | (revert e;exact Bool.casesOn (motive:=λb=>cond b _ _->r) _ h' (h _ _ _ _))
theorem aau{t:Tr}{p r:Prop}{k:(af->Tr)->Prop}(e:t.hw p k)(h:∀t,k t->r)(h':p->r):r:=by cases t<;>first | exact h' e | exact h _ e
theorem aav{t:Tr}{r:Prop}{k:∀α,(α->V)->(α->Option V)->List α->af->(α->Tr)->Tr->Prop}(e:t.hk k)(h:∀α φ g xs out tr t,k α φ g xs out tr t->r):r:=by cases t<;>first | exact e.elim | exact h _ _ _ _ _ _ _ e
theorem aaw{t:Tr}{r:Prop}{k:∀α β,(α->V)->(β->bj)->(β->α->β)->(List α->β->Prop)->List α->β->(α->β->Tr)->Tr->Prop}(e:t.hf k)(h:∀α β φ st F I xs b tr t,k α β φ st F I xs b tr t->r):r:=by cases t<;>first | exact e.elim | exact h _ _ _ _ _ _ _ _ _ _ e
def eg(n:Nat)(f:String)(vs:af)(v:V):=∀Q X,Q v am->CW n f vs am Q X
def Bg(n:Nat)(f:String)(σ:Pz)(v:V)(ay:Pz):=∀Q X,Q v ay->CW n f [] σ Q X
def n7{ι:Type}(n:Nat)(f:String)(vs:af)(S:ι->Prop)(φ:ι->V):=∀Q X,(∀i,S i->Q (φ i) am)->CW n f vs am Q X
def Eb(n:Nat)(f:String)(vs:af):=∀Q X,X->CW n f vs am Q X
def Ec(n:Nat)(f:String)(σ:Pz):=∀Q X,X->CW n f [] σ Q X
def Bh(n:Nat)(e:PE)(ρ:bj)(v:V):=∀Q,Q v am->EW (CW n) bB e ρ am Q False
def yD{ι:Type}(n:Nat)(e:PE)(ρ:bj)(S:ι->Prop)(φ:ι->V):=∀Q,(∀i,S i->Q (φ i) am)->EW (CW n) bB e ρ am Q False
def ix(n:Nat)(s:PS)(ρ:bj)(σ:Pz)(o:Option (Fl×bj×Pz)):=∀K X,(o.elim (∀ρ,X ρ) λx=>K x.1 x.2.1 x.2.2)->SW (CW n) bB s ρ σ K X
def po(o:Option V)(t:Tr)(k:V->Tr->Prop):=(t.hd 1).elim (ex o λv=>k v (t.sk 0)) λx=>o=aj x.1.v/\k x.1.v x.2
def pf(o:Option V)(t:Tr)(k:V->Tr->Prop):=(t.hd 1).elim (ex o λv=>gd (cz v) (k v (t.sk 0))) λx=>o=aj x.1.v/\cz x.1.v=ak/\k x.1.v x.2
def pg(b:Bool)(t:Tr)(k:Tr->Prop):=(t.hd 2).elim (gd b (k (t.sk 0))) λx=>b=ak/\k x.2
def pb(o:Option Bool)(t:Tr)(k:V->Tr->Prop):=(t.hd 3).elim (ex o λb=>k (.bool b) (t.sk 0)) λx=>o=aj x.1.b/\k (.bool x.1.b) x.2
def jo(o:Option aa)(t:Tr)(k:aa->Tr->Prop):=(t.hd 4).elim (ex o λs=>k s t) λx=>o=aj x.1.s/\k x.1.s x.2
def pc(n:Nat)(f:String)(vs:af)(t:Tr)(k:V->Tr->Prop)(Y:Prop):=(t.hd 1).elim (t.hA ((t.hd 5).elim False λU=>Eb n f vs/\Y) ap λU S φ tr=>n7 n f vs S φ/\∀i,S i->k (φ i) (tr i)) λx=>eg n f vs x.1.v/\k x.1.v x.2
def pz(σ:Pz)(t:Tr)(k:Pz->Tr->Prop):=(t.hd 6).elim (k σ t) λx=>σ=x.1.σ/\k x.1.σ x.2
def pm(n:Nat)(f:String)(σ:Pz)(t:Tr)(k:V->Pz->Tr->Prop)(Y:Prop):=(t.hd 7).elim ((t.hd 5).elim False λU=>Ec n f σ/\Y) λx=>Bg n f σ x.1.v x.1.σ/\k x.1.v x.1.σ x.2
def br(b:Bool)(t:Tr)(p q:Tr->Prop):=t.hs ((t.hd 8).elim ((t.hd 9).elim (cond b (p (t.sk 10)) (q (t.sk 10))) λx=>b=ap/\q x.2) λx=>b=ak/\p x.2) λt u=>(b=ak->p t)/\(b=ap->q u)
noncomputable def yE:V->Option af
 |.lst l=>aj l
 |.tup l=>aj l
 |_=>am
def pi(v:V)(t:Tr)(k:af->Tr->Prop):=t.hw ((t.hd 11).elim (ex (yE v) λl=>k l t) λx=>yE v=aj x.1.l/\k x.1.l x.2) λtr=>ex (mJ v) λl=>∀l',l'.Perm l->k l' (tr l')
noncomputable def jA:jT->V->bj->Option bj
 |.one i,v,ρ=>aj (ρ.set i (.v v))
 |.many is,.tup l,ρ=>cond (is.length==l.length) (aj ((is.zip l).foldl (λr p=>r.set p.1 (.v p.2)) ρ)) am
 |.many U1,U2,U3=>am
theorem Qs{α:Type}{b:Bool}{x y:α}(h:cond b (aj x) am=aj y):b=ak/\x=y:=by
 cases b with
 |false=>exact (by injection h)
 |true=>exact ⟨rfl,aZ h⟩
variable (n:Nat)
def wQ(b:Bool)(elt:PE)(k:Nat)(gens:List PG)(ρ:bj)(σ:Pz)(t:Tr)(Q:V->Pz->Tr->Prop)(p:Prop):=(t.hd 12).elim (t.hA p ak λU S φ tr=>gd σ.isNone (yD n (.comp b elt k gens) ρ S φ/\∀i,S i->Q (φ i) am (tr i))) λx=>gd σ.isNone (Bh n (.comp b elt k gens) ρ x.1.v/\Q x.1.v am x.2)
mutual
noncomputable def wE:PE->bj->Pz->Tr->(V->Pz->Tr->Prop)->Prop->Prop
 |.aR v,U1,σ,t,Q,U2=>Q v σ t
 |.var i,ρ,σ,t,Q,U1=>ex (vJ ρ i) λv=>Q v σ t
 |.d4 g,U1,σ,t,Q,U2=>ex (bB g) λv=>Q v σ t
 |.typ g,U1,σ,t,Q,U2=>Q (.ty g) σ t
 |.tup es,ρ,σ,t,Q,X=>v8 es ρ σ t (λvs ay t'=>Q (.tup vs) ay t') X
 |.lst es,ρ,σ,t,Q,X=>v8 es ρ σ t (λvs ay t'=>Q (.lst vs) ay t') X
 |.rG e,ρ,σ,t,Q,X=>wE e ρ σ t (λv ay t'=>gd (dS v) (Q (.set [v]) ay t')) X
 |.bin op a b,ρ,σ,t,Q,X=>wE a ρ σ t (λx aO d6=>wE b ρ aO d6 (λy cb fR=>pf (jU op x y) fR λr sM=>Q r cb sM) X) X
 |.cmp op a b,ρ,σ,t,Q,X=>wE a ρ σ t (λx aO d6=>wE b ρ aO d6 (λy cb fR=>pb (cy op x y) fR λr sM=>Q r cb sM) X) X
 |.and a b,ρ,σ,t,Q,X=>wE a ρ σ t (λx aO d6=>br (ck x) d6 (λt=>wE b ρ aO t Q X) (λt=>Q x aO t)) X
 |.or a b,ρ,σ,t,Q,X=>wE a ρ σ t (λx aO d6=>br (ck x) d6 (λt=>Q x aO t) (λt=>wE b ρ aO t Q X)) X
 |.not a,ρ,σ,t,Q,X=>wE a ρ σ t (λx aO d6=>Q (.bool (!ck x)) aO d6) X
 |.neg a,ρ,σ,t,Q,X=>wE a ρ σ t (λx aO d6=>ex (fu x) λi=>gd (cz x) (Q (.int (-i)) aO d6)) X
 |.idx a b,ρ,σ,t,Q,X=>wE a ρ σ t (λx aO d6=>wE b ρ aO d6 (λy cb fR=>po (dN x y) fR λr sM=>Q r cb sM) X) X
 |.gj a lo hi,ρ,σ,t,Q,X=>wE a ρ σ t (λx aO d6=>Ix lo ρ aO d6 (λl cb fR=>Ix hi ρ cb fR (λh cC sM=>po (kL x l h) sM λr aet=>Q r cC aet) X) X) X
 |.call f es,ρ,σ,t,Q,X=>v8 es ρ σ t (λvs ay t'=>pc n f vs t' (λv kt=>Q v ay kt) X) X
 |.kG f i,ρ,σ,t,Q,X=>gd (kM ρ i) (gd σ.isSome (pm n f σ t Q X))
 |.rD i,ρ,σ,t,Q,U1=>gd (kM ρ i) (ex σ λp=>Q (.lst p.1) σ t)
 |.rH i,ρ,σ,t,Q,U1=>gd (kM ρ i) (ex σ λp=>Q (.int p.2) σ t)
 |.bi f es,ρ,σ,t,Q,X=>v8 es ρ σ t (λvs ay t'=>po (fX f vs) t' λr kt=>Q r ay kt) X
 |.sm f o es,ρ,σ,t,Q,X=>wE o ρ σ t (λx aO d6=>jo (jD x) d6 λs d6=>v8 es ρ aO d6 (λvs ay t'=>pf (mL f s vs) t' λr kt=>Q r ay kt) X) X
 |.comp b elt k gens,ρ,σ,t,Q,U1=>wQ n b elt k gens ρ σ t Q (match gens with
   |[.mk tgt it ifs]=>gd σ.isNone (wI it (ρ.map im++cU k .un) am t (λitems ay d6=>d6.hk λU φ g xs out tr fR=>
     items=xs.map φ/\dO b out=ak/\xs.filterMap g=out/\(∀a∈xs,ex (jA tgt (φ a) (ρ.map im++cU k .un)) λbt=>wT ifs bt am (tr a) λb' cb sM=>br b' sM (λt=>wE elt bt cb t (λv cC U=>gd cC.isNone (aj v=g a)) False) (λU=>gd cb.isNone (am=g a)))/\
      gd ay.isNone (Q (nJ b out) am fR)) False)
   |_=>False)
noncomputable def v8:List PE->bj->Pz->Tr->(af->Pz->Tr->Prop)->Prop->Prop
 |[],U1,σ,t,Q,U2=>Q [] σ t
 |e::es,ρ,σ,t,Q,X=>wE e ρ σ t (λv aO d6=>v8 es ρ aO d6 (λvs cb fR=>Q (v::vs) cb fR) X) X
noncomputable def Ix:Option PE->bj->Pz->Tr->(Option Int->Pz->Tr->Prop)->Prop->Prop
 |none,U1,σ,t,Q,U2=>Q am σ t
 |some e,ρ,σ,t,Q,X=>wE e ρ σ t (λv aO d6=>ex (fu v) λi=>pg (cz (.int i)) d6 λfR=>Q (aj i) aO fR) X
noncomputable def wI:PI->bj->Pz->Tr->(af->Pz->Tr->Prop)->Prop->Prop
 |.e x,ρ,σ,t,Q,X=>wE x ρ σ t (λv aO d6=>pi v d6 λl fR=>Q l aO fR) X
 |.enum x,ρ,σ,t,Q,X=>wE x ρ σ t (λv aO d6=>ex (jE v) λl=>Q (xW l) aO d6) X
 |.zip a b,ρ,σ,t,Q,X=>wE a ρ σ t (λx aO d6=>wE b ρ aO d6 (λy cb fR=>ex (rJ x) λl=>ex (jE y) λm=>Q (tX l m) cb fR) X) X
 |.range x,ρ,σ,t,Q,X=>wE x ρ σ t (λv aO d6=>ex (fu v) λk=>pg (cz v) d6 λfR=>Q (tY k) aO fR) X
noncomputable def wT:List PE->bj->Pz->Tr->(Bool->Pz->Tr->Prop)->Prop
 |[],U1,σ,t,k=>k ak σ t
 |e::es,ρ,σ,t,k=>wE e ρ σ t (λv ay t'=>br (ck v) t' (λt=>wT es ρ ay t k) (λt=>k ap ay t)) False
end
def FW(n:Nat)(tgt:jT)(bd:List PS)(items:af)(ρ:bj)(o:Option (Fl×bj)):=∀K X,(o.elim (∀ρ,X ρ) λx=>K x.1 x.2 am)->rM (λx ρ σ K=>gM tgt x ρ λbt=>cV (CW n) bB bd bt σ K X) items ρ am K
abbrev yF:=Fl->bj->Pz->Tr->Prop
def Iy(K:yF)(X:bj->Prop)(o:Option (Fl×bj×Pz))(t:Tr):=o.elim (∀ρ,X ρ) λx=>K x.1 x.2.1 x.2.2 t
def Qt(K:yF)(X:bj->Prop)(o:Option (Fl×bj))(t:Tr):=o.elim (∀ρ,X ρ) λx=>K x.1 x.2 am t
def Qu(f:Fl)(ρ:bj)(σ:Pz)(aS:bj):=match f with
 |.next=>gd σ.isNone (ρ=aS)
 |.cont=>gd σ.isNone (ρ=aS)
 |_=>False
mutual
noncomputable def wS:PS->bj->Pz->Tr->yF->(bj->Prop)->Prop
 |.asg i e,ρ,σ,t,K,X=>wE n e ρ σ t (λv ay t'=>K .next (ρ.set i (.v v)) ay t') (X ρ)
 |.nG is e,ρ,σ,t,K,X=>wE n e ρ σ t (λv ay t'=>ex (jA (.many is) v ρ) λaS=>K .next aS ay t') (X ρ)
 |.kH i,ρ,σ,t,K,U1=>pg (ρ.all tZ) t λt=>K .next (ρ.set i (.ol [])) σ t
 |.tJ i,ρ,σ,t,K,U1=>pg (ρ.all xZ) t λt=>K .next (ρ.set i (.os [])) σ t
 |.vC i e,ρ,σ,t,K,X=>wE n e ρ σ t (λv ay t'=>pc n "_tokens" [v] t' (λv kt=>ex (jE v) λl=>gd ay.isNone (K .next (ρ.set i .self) (aj (l,0)) kt)) (X ρ)) (X ρ)
 |.jj i,ρ,σ,t,K,U1=>ex (x3 ρ i) λv=>K .next (ρ.set i (.v v)) σ t
 |.app i e,ρ,σ,t,K,X=>ex (AB ρ i) λl=>wE n e ρ σ t (λv ay t'=>pg (cz (.lst (l++[v]))) t' λkt=>K .next (ρ.set i (.ol (l++[v]))) ay kt) (X ρ)
 |.vB i e,ρ,σ,t,K,X=>ex (qh ρ i) λl=>wE n e ρ σ t (λv ay t'=>gd (dS v) (pg (decide (l.length<kK)) t' λkt=>K .next (ρ.set i (.os (dI l v))) ay kt)) (X ρ)
 |.vD i e,ρ,σ,t,K,X=>ex (qh ρ i) λl=>wE n e ρ σ t (λv ay t'=>ex (mJ v) λm=>pg (decide ((bI l m).length<=kK)) t' λkt=>K .next (ρ.set i (.os (bI l m))) ay kt) (X ρ)
 |.aug i e,ρ,σ,t,K,X=>wE n e ρ σ t (λv ay t'=>ex (vJ ρ i) λx=>ex (fu x) λa=>ex (fu v) λb=>pg (cz (.int (a+b))) t' λkt=>K .next (ρ.set i (.v (.int (a+b)))) ay kt) (X ρ)
 |.oQ i e,ρ,σ,t,K,X=>wE n e ρ σ t (λv ay t'=>gd (kM ρ i) (ex ay λp=>ex (fu v) λb=>pg (cz (.int (p.2+b))) t' λkt=>pz (aj (p.1,p.2+b)) kt λσ t=>K .next ρ σ t)) (X ρ)
 |.ite c a b,ρ,σ,t,K,X=>wE n c ρ σ t (λv ay t'=>br (ck v) t' (λt=>kb a ρ ay t K X) (λt=>kb b ρ ay t K X)) (X ρ)
 |.ret e,ρ,σ,t,K,X=>wE n e ρ σ t (λv ay t'=>K (.ret v) ρ ay t') (X ρ)
 |.raise e,ρ,σ,t,U1,X=>wE n e ρ σ t (λU U U=>X ρ) (X ρ)
 |.brk,ρ,σ,t,K,U1=>K .brk ρ σ t
 |.cont,ρ,σ,t,K,U1=>K .cont ρ σ t
 |.jy c b,ρ,σ,t,K,X=>(t.hd 13).elim False λx=>ix n (.jy c b) ρ σ x.1.r/\Iy K X x.1.r x.2
 |.rC b h,ρ,σ,t,K,U1=>match h with
  |[.asg i (.aR v)]=>gd σ.isNone (kb b ρ am t K λaS=>K .next ((aS.map t0).set i (.v v)) am .z)
  |_=>False
 |.iI tgt it bd,ρ,σ,t,K,X=>(t.hd 13).elim (wI n it ρ σ t (λitems ay d6=>(d6.hd 14).elim (d6.hf λU U φ st F I xs b tr fR=>
    items=xs.map φ/\ρ=st b/\I xs b/\(∀a as b,I (a::as) b->I as (F b a))/\(∀a as b,I (a::as) b->ex (jA tgt (φ a) (st b)) λbt=>kb bd bt am (tr a b) (λf aS pN U=>Qu f aS pN (st (F b a))) λU=>False)/\
     gd ay.isNone (K .next (st (xs.foldl F b)) am fR)) λx=>FW n tgt bd items ρ x.1.q/\gd ay.isNone (Qt K X x.1.q x.2)) (X ρ)) λx=>ix n (.iI tgt it bd) ρ σ x.1.r/\Iy K X x.1.r x.2
noncomputable def kb:List PS->bj->Pz->Tr->yF->(bj->Prop)->Prop
 |[],ρ,σ,t,K,U1=>K .next ρ σ t
 |s::r,ρ,σ,t,K,X=>(t.hd 15).elim (wS s ρ σ (t.sk 16) (λf aS ay t'=>match f with
   |.next=>kb r aS ay t' K X
   |.brk=>K .brk aS ay t'
   |.cont=>K .cont aS ay t'
   |.ret v=>K (.ret v) aS ay t') X) λx=>cV (CW n) bB (s::r) ρ σ (λf ρ σ=>K f ρ σ x.2) X
end
section
variable {n:Nat}{o:Option V}{k:V->Tr->Prop}{k':V->Prop}
theorem Bi{b:Bool}{p q:Prop}(h:p->q)(e:gd b p):b=ak/\q:=(jV.1 e).imp id h
theorem Iz(h:∀v t,k v t->k' v)(t)(e:po o t k):ex o k':=i8 e (λU e=>AC e.1 (h _ _ e.2)) (cF λv=>h v _)
theorem Qv(h:∀v t,k v t->k' v)(t)(e:pf o t k):ex o λr=>cz r=ak/\k' r:=i8 e (λU e=>AC e.1 ⟨e.2.1,h _ _ e.2.2⟩) (cF λv=>Bi (h v _))
theorem aax{o:Option aa}{k:aa->Tr->Prop}{k':aa->Prop}(h:∀v t,k v t->k' v)(t)(e:jo o t k):ex o k':=i8 e (λU e=>AC e.1 (h _ _ e.2)) (cF λv=>h v _)
theorem r8{b:Bool}{k:Tr->Prop}{p:Prop}(h:∀t,k t->p)(t)(e:pg b t k):b=ak/\p:=i8 e (λU e=>e.imp id (h _)) (Bi (h _))
theorem aay{o:Option Bool}(h:∀v t,k v t->k' v)(t)(e:pb o t k):ex o λr=>k' (.bool r):=i8 e (λU e=>AC e.1 (h _ _ e.2)) (cF λv=>h _ _)
theorem Qw{f:String}{vs:af}{Y:Prop}(h:∀v t,k v t->k' v)(t)(e:pc n f vs t k Y):CW n f vs am (λv U=>k' v) Y:=
 i8 e (λU e=>e.1 _ _ (h _ _ e.2)) λe=>Qr e (λU U U U e=>e.1 _ _ λi hi=>h _ _ (e.2 i hi)) λe=>i8 e (λU e=>e.1 _ _ e.2) gE
theorem aaz{σ:Pz}{k:Pz->Tr->Prop}{p:Pz->Prop}(h:∀σ t,k σ t->p σ)(t)(e:pz σ t k):p σ:=i8 e (λU e=>e.1.symm▸h _ _ e.2) (h _ _)
theorem aaA{f:String}{σ:Pz}{Y:Prop}{k:V->Pz->Tr->Prop}{k':i4}(h:∀v σ t,k v σ t->k' v σ)(t)(e:pm n f σ t k Y):CW n f [] σ k' Y:=
 i8 e (λU e=>e.1 _ _ (h _ _ _ e.2)) λe=>i8 e (λU e=>e.1 _ _ e.2) gE
theorem yG{p q:Tr->Prop}{p' q':Prop}(hp:∀t,p t->p')(hq:∀t,q t->q'){b:Bool}(t)(e:br b t p q):if b=ak then p' else q':=by
 cases b with
 |true=>exact Qq e (λU U e=>hp _ (e.1 rfl)) λe=>i8 e (λU e=>hp _ e.2) λe=>i8 e (λU e=>nomatch e.1) (hp _)
 |false=>exact Qq e (λU U e=>hq _ (e.2 rfl)) λe=>i8 e (λU e=>nomatch e.1) λe=>i8 e (λU e=>hq _ e.2) (hq _)
theorem Qx{v:V}{l:af}{Q:af->Pz->Prop}{σ:Pz}(h:yE v=aj l)(hq:Q l σ):yB Q v σ:=by
 cases v with
 |lst l'=>(replace h:=aZ h;cases h);exact hq
 |tup l'=>(replace h:=aZ h;cases h);exact hq
 |_=>cases h
theorem aaB{v:V}{k:af->Tr->Prop}{Q:af->Pz->Prop}{σ:Pz}(h:∀l t,k l t->Q l σ)(t)(e:pi v t k):yB Q v σ:=
 aau e (λtr e=>ar (fO.1 e) λl h1 h2=>by rw[Aw h1];exact λl' hl=>h _ _ (h2 l' hl)) λe=>i8 e (λU e=>Qx e.1 (h _ _ e.2)) λe=>ar (fO.1 e) λl h1 h2=>Qx h1 (h _ _ h2)
theorem Qy{t:jT}{v:V}{ρ aS:bj}{K:bj->Prop}(h:jA t v ρ=aj aS)(hk:K aS):gM t v ρ K:=by
 cases t with
 |one i=>(replace h:=aZ h;cases h);exact hk
 |many is=>cases v with
  |tup l=>
   have e:=Qs h;exact ⟨beq_iff_eq.1 e.1,e.2▸hk⟩
  |_=>cases h
theorem Ed{t:jT}{v:V}{ρ:bj}{K K':bj->Prop}(hk:∀ρ,K ρ->K' ρ)(h:ex (jA t v ρ) K):gM t v ρ K':=ar (fO.1 h) λU h1 h2=>Qy h1 (hk _ h2)
noncomputable def Ee(jo:List (Nat×V))(ρ:bj):=jo.foldl (λr p=>r.set p.1 (.v p.2)) ρ
theorem aaC(jo):∀ρ,(Ee jo ρ).length=ρ.length:=by
 induction jo with
 |nil=>exact λU=>rfl
 |cons p jo ih=>exact λρ=>(ih _).trans Wy
theorem Qz:∀jo ρ aS j,ρ.length=aS.length->(j∈jo.map (·.1)\/ρ[j]?=aS[j]?)->(Ee jo ρ)[j]?=(Ee jo aS)[j]?
 |[]=>λU U U U h=>h.elim (λh=>nomatch (h)) id
 |p::jo=>λρ aS j hl h=>Qz jo _ _ j (by rw[Wy,Wy,hl]) (by
  by_cases e:p.1=j
  .subst e;rw[Wr,Wr,hl];rw[bw rfl,bw rfl];exact .inr rfl
  .rw[Ac e,Ac e];exact h.imp (λh=>(cD.1 h).elim (λh=>absurd h.symm e) id) id)
theorem QA:∀jo ρ j,j∉jo.map (·.1)->(Ee jo ρ)[j]?=ρ[j]?
 |[]=>λU U U=>rfl
 |p::jo=>λρ j h=>(QA jo _ j λg=>h (cJ _ g)).trans (Ac λe=>h (cD.2 (.inl e.symm)))
theorem QB{is:aa}{l:af}(h:is.length=l.length):(is.zip l).map (·.1)=is:=List.map_fst_zip (ec h)
theorem QC{t:jT}{u v:V}{ρ aS:bj}(h:jA t u ρ=aj aS):jA t v aS=jA t v ρ:=by
 cases t with
 |one i=>rw[<- aZ h];exact aE aj (GZ ..)
 |many is=>cases u with
  |tup l=>
   have e:=Qs h;rw[<- e.2]
   cases v with
   |tup m=>
    refine (?_:cond (is.length==m.length) _ _=cond (is.length==m.length) _ _)
    cases e':is.length==m.length with
    |false=>rfl
    |true=>exact aE aj ((by
      refine List.ext_getElem? λj=>Qz (is.zip m) _ _ j (aaC _ _) ?_
      by_cases eq:j∈(is.zip m).map (·.1)
      .exact .inl eq
      .exact .inr (QA (is.zip l) ρ j (((QB (beq_iff_eq.1 e.1)).trans (QB (beq_iff_eq.1 e')).symm)▸eq))))
   |_=>rfl
  |_=>cases h
def QD(n:Nat)(tgt:jT)(ifs:List PE)(elt:PE)(ρ:bj)(x:V)(r:Option V):=
 ∃bt,jA tgt x ρ=aj bt/\TW (CW n) bB ifs bt am (λb ay=>if b=ak then EW (CW n) bB elt bt ay (λv ay=>ay=am/\aj v=r) False else ay=am/\am=r) False
theorem aaD{b:Bool}{elt:PE}{tgt:jT}{ifs:List PE}{ρ:bj}{Q:i4}{α:Type}{φ:α->V}{g:α->Option V}{xs:List α}{items:af}
  (e1:items=xs.map φ) (e2:dO b (xs.filterMap g)=ak) (e3:∀a∈xs,QD n tgt ifs elt ρ (φ a) (g a)) (e4:Q (nJ b (xs.filterMap g)) am) :
  mM (λx dv gK=>gM tgt x dv.ρ λbt=>TW (CW n) bB ifs bt dv.σ (λb' cC=>if b'=ak then GW (CW n) bB (dO b) (EW (CW n) bB elt) [] ⟨bt,cC,dv.acc⟩ gK False else gK ⟨bt,cC,dv.acc⟩) False) items ⟨ρ,am,[]⟩ (λc=>Q (nJ b c.acc) c.σ):=by
 subst e1
 have:∀(xs:List α) aS acc,(∀v,jA tgt v aS=jA tgt v ρ)->(∀a∈xs,QD n tgt ifs elt ρ (φ a) (g a))->dO b (acc++xs.filterMap g)=ak->Q (nJ b (acc++xs.filterMap g)) am->
   mM (λx dv gK=>gM tgt x dv.ρ λbt=>TW (CW n) bB ifs bt dv.σ (λb' cC=>if b'=ak then GW (CW n) bB (dO b) (EW (CW n) bB elt) [] ⟨bt,cC,dv.acc⟩ gK False else gK ⟨bt,cC,dv.acc⟩) False) (xs.map φ) ⟨aS,am,acc⟩ (λc=>Q (nJ b c.acc) c.σ):=by
  intro xs
  induction xs with
  |nil=>exact λaS acc U U U h=>(eh acc▸h:Q (nJ b acc) am)
  |cons y ys ih=>
   intro aS acc hb h2 h3 h4;refine ar (h2 y dh) λbt g1 g2=>?_;refine Qy ((hb _).trans g1) (DM (hW n) _ _ _ _ _ _ _ (λb cC hb=>rU (du (hW n) _ _ _ _ _ _ _ (λv ad2 hv=>?_) id) (λhv=>?_) hb) id g2)
   .rw[CZ,<- hv.2,List.append_cons] at h3 h4;exact ⟨aat h3,hv.1▸ih _ _ (λv=>QC g1) (λa ha=>h2 a (cJ _ ha)) h3 h4⟩
   .rw[CZ,<- hv.2] at h3 h4;exact hv.1▸ih _ _ (λv=>QC g1) (λa ha=>h2 a (cJ _ ha)) h3 h4
 exact this xs ρ [] (λU=>rfl) e3 e2 e4
end
section
variable {n:Nat}
theorem none_of{σ:Pz}(h:σ.isNone=ak):σ=am:=vr.1 h
theorem ke{σ:Pz}{p:Prop}(e:gd σ.isNone p):σ=am/\p:=(jV.1 e).imp none_of id
theorem IA{b:Bool}{elt:PE}{k:Nat}{gens:List PG}{ρ:bj}{σ:Pz}{t:Tr}{K:V->Pz->Tr->Prop}{p:Prop}{Q:i4}(hn:p->Iu n b elt k gens ρ σ Q)(h:∀v σ t,K v σ t->Q v σ)(e:wQ n b elt k gens ρ σ t K p):Iu n b elt k gens ρ σ Q:=
 i8 e (λU e=>by obtain ⟨rfl,e⟩:=ke e;exact e.1 Q (h _ _ _ e.2)) λe=>Qr e (λU U U U e=>by obtain ⟨rfl,e⟩:=ke e;exact e.1 Q λi hi=>h _ _ _ (e.2 i hi)) hn
theorem aaE{b:Bool}{elt:PE}{k:Nat}{tgt:jT}{it:PI}{ifs:List PE}{ρ:bj}{σ:Pz}{t:Tr}{K:V->Pz->Tr->Prop}{Y:Prop}{Q:i4}
  (hI:∀ρ σ t K Y Q,(∀v σ t,K v σ t->Q v σ)->wI n it ρ σ t K Y->IW (CW n) bB it ρ σ Q Y)
  (hT:∀ρ σ t k k',(∀b σ t,k b σ t->k' b σ)->wT n ifs ρ σ t k->TW (CW n) bB ifs ρ σ k' False)
  (hE:∀ρ σ t K Y Q,(∀v σ t,K v σ t->Q v σ)->wE n elt ρ σ t K Y->EW (CW n) bB elt ρ σ Q Y)
  (h:∀v σ t,K v σ t->Q v σ) (e:wE n (.comp b elt k [.mk tgt it ifs]) ρ σ t K Y):Iu n b elt k [.mk tgt it ifs] ρ σ Q:=by
 refine IA (λe=>?_) h e;refine bm (ke e) λav e=>?_;subst av;refine hI _ _ _ _ _ _ (λitems ay d6 e=>aav e λU φ g xs out tr fR e=>?_) e;refine tT e λe1 e2 cI e3 e4=>?_;subst cI;refine bm (ke e4) λav e4=>?_;subst av;exact aaD e1 e2 (λa ha=>ar (fO.1 (e3 a ha)) λbt g1 g2=>⟨bt,g1,hT _ _ _ _ _ (λU cb U=>yG (λt=>hE bt cb t _ _ (λv ay=>ay=am/\aj v=g a) λU U U=>ke) (λU=>ke) _) g2⟩) (h _ _ _ e4)
mutual
theorem dP:∀e ρ σ t K Y Q,(∀v σ t,K v σ t->Q v σ)->wE n e ρ σ t K Y->EW (CW n) bB e ρ σ Q Y
 |.aR v=>λU U U U U U h e=>h _ _ _ e
 |.var i=>λρ U U U U U h e=>cF (o:=vJ ρ i) (λU=>h _ _ _) e
 |.d4 g=>λU U U U U U h e=>cF (o:=bB g) (λU=>h _ _ _) e
 |.typ g=>λU U U U U U h e=>h _ _ _ e
 |.tup es=>λρ σ t U U U h e=>yH es ρ σ t _ _ _ (λU U U=>h _ _ _) e
 |.lst es=>λρ σ t U U U h e=>yH es ρ σ t _ _ _ (λU U U=>h _ _ _) e
 |.rG a=>λρ σ t U U U h e=>dP a ρ σ t _ _ _ (λU U U=>Bi (h _ _ _)) e
 |.bin U1 a b=>λρ σ t U U Q h e=>dP a ρ σ t _ _ _ (λU U U=>dP b ρ _ _ _ _ _ (λU σ U=>Qv (k':=λv=>Q v σ) (λU U=>h _ _ _) _)) e
 |.cmp U1 a b=>λρ σ t U U Q h e=>dP a ρ σ t _ _ _ (λU U U=>dP b ρ _ _ _ _ _ (λU σ U=>aay (k':=λv=>Q v σ) (λU U=>h _ _ _) _)) e
 |.and a b=>λρ σ t U U U h e=>dP a ρ σ t _ _ _ (λU U U=>yG (λt=>dP b ρ _ t _ _ _ h) (λt=>h _ _ t) _) e
 |.or a b=>λρ σ t U U U h e=>dP a ρ σ t _ _ _ (λU U U=>yG (λt=>h _ _ t) (λt=>dP b ρ _ t _ _ _ h) _) e
 |.not a=>λρ σ t U U U h e=>dP a ρ σ t _ _ _ (λU U U=>h _ _ _) e
 |.neg a=>λρ σ t U U U h e=>dP a ρ σ t _ _ _ (λU U U=>cF λU=>Bi (h _ _ _)) e
 |.idx a b=>λρ σ t U U Q h e=>dP a ρ σ t _ _ _ (λU U U=>dP b ρ _ _ _ _ _ (λU σ U=>Iz (k':=λv=>Q v σ) (λU U=>h _ _ _) _)) e
 |.gj a lo hi=>λρ σ t U U Q h e=>dP a ρ σ t _ _ _ (λU U U=>QE lo ρ _ _ _ _ _ (λU U U=>QE hi ρ _ _ _ _ _ (λU σ U=>Iz (k':=λv=>Q v σ) (λU U=>h _ _ _) _))) e
 |.call f es=>λρ σ t U U Q h e=>yH es ρ σ t _ _ _ (λU σ U=>Qw (k':=λv=>Q v σ) (λU U=>h _ _ _) _) e
 |.kG m i=>λρ σ U U U U h e=>jW (b:=kM ρ i) (jW (aaA h _)) e
 |.rD i=>λρ U U U U U h e=>jW (b:=kM ρ i) (cF λU=>h _ _ _) e
 |.rH i=>λρ U U U U U h e=>jW (b:=kM ρ i) (cF λU=>h _ _ _) e
 |.bi U1 es=>λρ σ t U U Q h e=>yH es ρ σ t _ _ _ (λU σ U=>Iz (k':=λv=>Q v σ) (λU U=>h _ _ _) _) e
 |.sm f o es=>λρ σ t U Y Q h e=>dP o ρ σ t _ _ _ (λU aO U=>aax (k':=λs=>lU (CW n) bB es ρ aO (λvs ay=>ex (mL f s vs) λr=>cz r=ak/\Q r ay) Y) (λU t=>yH es ρ aO t _ _ _ (λU σ U=>Qv (k':=λv=>Q v σ) (λU U=>h _ _ _) _)) _) e
 |.comp U1 elt k [.mk tgt it ifs]=>λρ σ t U U Q h e=>aaE (IB it) (IC ifs) (dP elt) h e
 |.comp U1 elt k []=>λρ σ t U U Q h e=>IA gE h e
 |.comp U1 elt k (.mk U2 U3 U4::U5::U6)=>λρ σ t U U Q h e=>IA gE h e
theorem yH:∀es ρ σ t K Y Q,(∀v σ t,K v σ t->Q v σ)->v8 n es ρ σ t K Y->lU (CW n) bB es ρ σ Q Y
 |[]=>λU U U U U U h e=>h _ _ _ e
 |a::es=>λρ σ t U U U h e=>dP a ρ σ t _ _ _ (λU U U=>yH es ρ _ _ _ _ _ (λU U U=>h _ _ _)) e
theorem QE:∀es ρ σ t K Y Q,(∀v σ t,K v σ t->Q v σ)->Ix n es ρ σ t K Y->xX (CW n) bB es ρ σ Q Y
 |none=>λU U U U U U h e=>h _ _ _ e
 |some a=>λρ σ t U U U h e=>dP a ρ σ t _ _ _ (λU U U=>cF λU=>r8 (λU=>h _ _ _) _) e
theorem IB:∀i ρ σ t K Y Q,(∀v σ t,K v σ t->Q v σ)->wI n i ρ σ t K Y->IW (CW n) bB i ρ σ Q Y
 |.e a=>λρ σ t U U Q h e=>dP a ρ σ t _ _ (yB Q) (λU σ U=>aaB (Q:=Q) (λl t=>h l σ t) _) e
 |.enum a=>λρ σ t U U U h e=>dP a ρ σ t _ _ _ (λU U U=>cF λU=>h _ _ _) e
 |.zip a b=>λρ σ t U U U h e=>dP a ρ σ t _ _ _ (λU U U=>dP b ρ _ _ _ _ _ (λU U U=>cF λU=>cF λU=>h _ _ _)) e
 |.range a=>λρ σ t U U U h e=>dP a ρ σ t _ _ _ (λU U U=>cF λU=>r8 (λU=>h _ _ _) _) e
theorem IC:∀es ρ σ t k k',(∀b σ t,k b σ t->k' b σ)->wT n es ρ σ t k->TW (CW n) bB es ρ σ k' False
 |[]=>λU U U U U h e=>h _ _ _ e
 |a::es=>λρ σ t U U h e=>dP a ρ σ t _ _ _ (λU U U=>yG (λt=>IC es ρ _ t _ _ h) (λt=>h _ _ t) _) e
end
end
end
section
variable {n:Nat}
theorem QF{tgt:jT}{bd:List PS}{X:bj->Prop}{α β:Type}{φ:α->V}{st:β->bj}{F:β->α->β}{I:List α->β->Prop}
  (hs:∀a as b,I (a::as) b->I as (F b a)/\gM tgt (φ a) (st b) λbt=>cV (CW n) bB bd bt am (λf aS ay=>(f=.next\/f=.cont)/\aS=st (F b a)/\ay=am) λU=>False) (K) :
  ∀(xs:List α) (b:β),I xs b->K .next (st (xs.foldl F b)) am->rM (λx ρ σ K=>gM tgt x ρ λbt=>cV (CW n) bB bd bt σ K X) (xs.map φ) (st b) am K
 |[]=>λU U h=>h
 |a::xs=>λb hi h=>bm (hs a xs b hi) λh1 h2=>AV (λU=>j5 (hW n) _ _ _ _ _ _ _ (λf _ _ ⟨e,e1,e2⟩=>by
   subst e1;subst e2
   rcases e with rfl | rfl<;>exact QF hs K xs _ h1 h) λU=>gE) h2
theorem aaF(e:Qu f ρ σ aS):(f=.next\/f=.cont)/\ρ=aS/\σ=am:=by
 cases f with
 |next=>exact ⟨.inl rfl,(ke e).2,(ke e).1⟩
 |cont=>exact ⟨.inr rfl,(ke e).2,(ke e).1⟩
 |_=>exact e.elim
theorem QG{K:yF}{X:bj->Prop}{L:lm}(h:∀f ρ σ t,K f ρ σ t->L f ρ σ){o:Option (Fl×bj×Pz)}{t:Tr}(e:Iy K X o t):o.elim (∀ρ,X ρ) λx=>L x.1 x.2.1 x.2.2:=by
 cases o with
 |none=>exact e
 |some p=>exact h _ _ _ _ e
theorem aaG{K:yF}{X:bj->Prop}{L:lm}(h:∀f ρ σ t,K f ρ σ t->L f ρ σ){o:Option (Fl×bj)}{t:Tr}(e:Qt K X o t):o.elim (∀ρ,X ρ) λx=>L x.1 x.2 am:=by
 cases o with
 |none=>exact e
 |some p=>exact h _ _ _ _ e
theorem aaH(hb:∀ρ σ t K X L,(∀f ρ σ t,K f ρ σ t->L f ρ σ)->kb n bd ρ σ t K X->cV (CW n) bB bd ρ σ L X)
  (h:∀f ρ σ t,K f ρ σ t->L f ρ σ) (e:wS n (.iI tgt it bd) ρ σ t K X):SW (CW n) bB (.iI tgt it bd) ρ σ L X:=by
 refine i8 e (λU e=>e.1 L X (QG h e.2)) (IB it ρ σ _ _ _ _ λitems ay d6 e=>i8 e (λx e=>?_) λe=>aaw e λU U φ st F I xs b tr fR e=>?_)
 .refine bm e λe1 e=>?_;obtain ⟨rfl,e⟩:=ke e;exact e1 L X (aaG h e)
 .obtain ⟨rfl,rfl,hi,hI,hs,e⟩:=e;obtain ⟨rfl,e⟩:=ke e;exact QF (I:=I) (λa as b hi=>⟨hI a as b hi,Ed (λU=>hb _ _ _ _ _ _ λU U U U=>aaF) (hs a as b hi)⟩) L xs b hi (h _ _ _ _ e)
theorem aaI(hb:∀ρ σ t K X L,(∀f ρ σ t,K f ρ σ t->L f ρ σ)->kb n b ρ σ t K X->cV (CW n) bB b ρ σ L X)
  (h:∀f ρ σ t,K f ρ σ t->L f ρ σ) (e:wS n (.rC b hs) ρ σ t K X):SW (CW n) bB (.rC b hs) ρ σ L X:=by
 cases hs with
 |nil=>exact e.elim
 |cons s r=>cases s with
  |asg i a=>cases a with
   |aR v=>cases r with
    |nil=>
     obtain ⟨rfl,e⟩:=ke e;exact ⟨rfl,i,v,rfl,j5 (hW n) b _ _ _ _ _ _ (λU U U h=>h) (λU e=>h _ _ _ _ e) (hb _ _ t _ _ L h e)⟩
    |cons=>exact e.elim
   |_=>exact e.elim
  |_=>exact e.elim
mutual
theorem aaJ:∀s ρ σ t K X L,(∀f ρ σ t,K f ρ σ t->L f ρ σ)->wS n s ρ σ t K X->SW (CW n) bB s ρ σ L X
 |.asg U1 a=>λρ σ t U U U h e=>dP a ρ σ t _ _ _ (λU U U=>h _ _ _ _) e
 |.nG U1 a=>λρ σ t U U U h e=>dP a ρ σ t _ _ _ (λU U U=>Ed (λU=>h _ _ _ _)) e
 |.kH U1=>λρ U t U U U h e=>jV.2 (r8 (λt=>h _ _ _ t) t e)
 |.tJ U1=>λρ U t U U U h e=>jV.2 (r8 (λt=>h _ _ _ t) t e)
 |.vC i a=>λρ σ t U U L h e=>dP a ρ σ t _ _ _ (λU σ U=>Qw (k':=λv=>ex (jE v) λl=>gd σ.isNone (L .next (ρ.set i .self) (aj (l,0)))) (λU U=>cF λU=>jW (h _ _ _ _)) _) e
 |.jj i=>λρ U U U U U h e=>cF (o:=x3 ρ i) (λU=>h _ _ _ _) e
 |.app i a=>λρ σ t U U U h e=>cF (o:=AB ρ i) (λU=>dP a ρ σ t _ _ _ (λU U U=>r8 (λU=>h _ _ _ _) _)) e
 |.vB i a=>λρ σ t U U U h e=>cF (o:=qh ρ i) (λU=>dP a ρ σ t _ _ _ (λU U U=>Bi λe=>(r8 (λU=>h _ _ _ _) _ e).imp eT id)) e
 |.vD i a=>λρ σ t U U U h e=>cF (o:=qh ρ i) (λU=>dP a ρ σ t _ _ _ (λU U U=>cF λU e=>(r8 (λU=>h _ _ _ _) _ e).imp eT id)) e
 |.aug U1 a=>λρ σ t U U U h e=>dP a ρ σ t _ _ _ (λU U U=>cF λU=>cF λU=>cF λU=>r8 (λU=>h _ _ _ _) _) e
 |.oQ U1 a=>λρ σ t U U L h e=>dP a ρ σ t _ _ _ (λU U U=>jW (cF λU=>cF λU=>r8 (λU=>aaz (p:=λσ=>L .next ρ σ) (λU U=>h _ _ _ _) _) _)) e
 |.ite c a b=>λρ σ t U U U h e=>dP c ρ σ t _ _ _ (λU U U=>yG (λt=>mV a _ _ t _ _ _ h) (λt=>mV b _ _ t _ _ _ h) _) e
 |.ret a=>λρ σ t U U U h e=>dP a ρ σ t _ _ _ (λU U U=>h _ _ _ _) e
 |.raise a=>λρ σ t U U U U e=>dP a ρ σ t _ _ _ (λU U U e=>e) e
 |.brk=>λU U U U U U h e=>h .brk _ _ _ e
 |.cont=>λU U U U U U h e=>h .cont _ _ _ e
 |.jy c b=>λρ σ t U U U h e=>i8 e (λU e=>e.1 _ _ (QG h e.2)) gE
 |.rC b U1=>λU U U U U U h e=>aaI (mV b) h e
 |.iI U1 it b=>λU U U U U U h e=>aaH (mV b) h e
theorem mV:∀s ρ σ t K X L,(∀f ρ σ t,K f ρ σ t->L f ρ σ)->kb n s ρ σ t K X->cV (CW n) bB s ρ σ L X
 |[]=>λU U U U U U h e=>h _ _ _ _ e
 |s::r=>λρ σ t K X L h e=>by
  have main:=λt=>aaJ s ρ σ t (λf aS ay t'=>match f with
   |.next=>kb n r aS ay t' K X
   |.brk=>K .brk aS ay t'
   |.cont=>K .cont aS ay t'
   |.ret v=>K (.ret v) aS ay t') X (λf aS ay=>match f with
   |.next=>cV (CW n) bB r aS ay L X
   |.brk=>L .brk aS ay
   |.cont=>L .cont aS ay
   |.ret v=>L (.ret v) aS ay) (λf U U U e=>match f,e with
   |.next,e=>mV r _ _ _ _ _ _ h e
   |.brk,e=>h _ _ _ _ e
   |.cont,e=>h _ _ _ _ e
   |.ret U1,e=>h _ _ _ _ e)
  exact i8 e (λU e=>j5 (hW n) (s::r) ρ σ _ _ _ _ (λU U U=>h _ _ _ _) (λU x=>x) e) (main _)
end
end
def Ok(_:Nat)(_:Prop)(_:Tr)(q:Prop):=q
namespace Ok
theorem c(r:Ok n e t q):Ok n e (.c t) q:=r
theorem o{o:Option V}{v:V}(h:o=aj v)(r:Ok n e t q):Ok n e (.o v t) (o=aj v/\q):=⟨h,r⟩
theorem g{o:Option V}{v:V}(h:o=aj v)(g:cz v=ak)(r:Ok n e t q):Ok n e (.o v t) (o=aj v/\cz v=ak/\q):=⟨h,g,r⟩
theorem b{o:Option Bool}{v:Bool}(h:o=aj v)(r:Ok n e t q):Ok n e (.b v t) (o=aj v/\q):=⟨h,r⟩
theorem p(h:v=ak)(r:Ok n e t q):Ok n e (.p t) (v=ak/\q):=⟨h,r⟩
theorem r(h:eg n f vs v)(r:Ok n e t q):Ok n e (.o v t) (eg n f vs v/\q):=⟨h,r⟩
theorem m(h:Bg n f σ v ay)(r:Ok n e t q):Ok n e (.m v ay t) (Bg n f σ v ay/\q):=⟨h,r⟩
theorem rc(h:Bh n a ρ v)(r:Ok n e t q):Ok n e (.q v t) (Bh n a ρ v/\q):=⟨h,r⟩
theorem l(h:ix n s ρ σ (aj (f,aS,ay)))(r:Ok n e t q):Ok n e (.l (aj (f,aS,ay)) t) (ix n s ρ σ (aj (f,aS,ay))/\q):=⟨h,r⟩
theorem lx(h:ix n s ρ σ am)(g:q):Ok n e (.l am .z) (ix n s ρ σ am/\(bj->q)):=⟨h,λU=>g⟩
theorem x(h:Eb n f vs)(g:q):Ok n e .x (Eb n f vs/\q):=⟨h,g⟩
theorem xm(h:Ec n f σ)(g:q):Ok n e .x (Ec n f σ/\q):=⟨h,g⟩
theorem z(h:e):Ok n e .z e:=h
theorem ft{x:Option V}{v:V}(h:aj v=x):Ok n (x=x) .z (aj v=x):=h
theorem fn{x:Option V}(h:am=x):Ok n (x=x) .z (am=x):=h
theorem fe{β:Type}{st:β->bj}{x y:β}(h:x=y):Ok n (st y=st y) .z (st x=st y):=aE st h
theorem fin(h:q):Ok n e .z q:=h
theorem lf(h:FW n tgt bd items ρ (aj (f,aS)))(r:Ok n e t q):Ok n e (.e (aj (f,aS)) t) (FW n tgt bd items ρ (aj (f,aS))/\q):=⟨h,r⟩
theorem WJ(h:FW n tgt bd items ρ am)(g:q):Ok n e (.e am .z) (FW n tgt bd items ρ am/\(bj->q)):=⟨h,λU=>g⟩
theorem sg(h:σ=ay)(r:Ok n e t q):Ok n e (.sg ay t) (σ=ay/\q):=⟨h,r⟩
theorem d(r:Ok n e t q):Ok n e (.d t) q:=r
theorem stop(h:q):Ok n e (.stop .z) q:=h
theorem bs{o:Option Bool}{v:Bool}{u:Tr}{p:Prop}(h:o=aj v)(a:v=ak->Ok n e t p)(b:v=ap->Ok n e u q):Ok n e (.b v (.s t u)) (o=aj v/\(v=ak->p)/\(v=ap->q)):=⟨h,a,b⟩
theorem u{o:Option aa}{v:aa}(h:o=aj v)(r:Ok n e t q):Ok n e (.u v t) (o=aj v/\q):=⟨h,r⟩
theorem j(r:Ok n e t q):Ok n e (.j t) q:=r
theorem y{b:Bool}(h:b=ak)(r:Ok n e t q):Ok n e (.y t) (b=ak/\q):=⟨h,r⟩
theorem nn{b:Bool}(h:b=ap)(r:Ok n e t q):Ok n e (.nn t) (b=ap/\q):=⟨h,r⟩
theorem i{v:V}{l:af}(h:yE v=aj l)(r:Ok n e t q):Ok n e (.i l t) (yE v=aj l/\q):=⟨h,r⟩
theorem a{ι:Type}{f:String}{vs:af}{S:ι->Prop}{φ:ι->V}{tr:ι->Tr}{p:ι->Prop}(h:n7 n f vs S φ)(r:∀i,S i->Ok n e (tr i) (p i)):Ok n e (.a S φ tr) (n7 n f vs S φ/\∀i,S i->p i):=⟨h,r⟩
theorem ac{ι:Type}{a:PE}{ρ:bj}{S:ι->Prop}{φ:ι->V}{tr:ι->Tr}{p:ι->Prop}(h:yD n a ρ S φ)(r:∀i,S i->Ok n e (tr i) (p i)):Ok n e (.qa S φ tr) (yD n a ρ S φ/\∀i,S i->p i):=⟨h,r⟩
theorem w{l:af}{tr:af->Tr}{p:af->Prop}(r:∀l',l'.Perm l->Ok n e (tr l') (p l')):Ok n e (.w tr) (∀l',l'.Perm l->p l'):=r
theorem s{b:Bool}{u:Tr}{p:Prop}(h:b=ak->Ok n e t p)(g:b=ap->Ok n e u q):Ok n e (.s t u) ((b=ak->p)/\(b=ap->q)):=⟨h,g⟩
theorem k{α:Type}(φ:α->V)(g:α->Option V)(xs:List α){items out:af}{tr:α->Tr}{p:α->Prop}(h:items=xs.map φ)(hl:xs.length<=100000)(ho:xs.filterMap g=out)(hs:∀a∈xs,Ok n (g a=g a) (tr a) (p a))(r:Ok n e t q) :
  Ok n e (.k φ g xs out tr t) (items=xs.map φ/\dO ap out=ak/\xs.filterMap g=out/\(∀a∈xs,p a)/\q):=⟨h,eP (ho▸aB (ahb _ _) hl),ho,hs,r⟩
theorem ks{α:Type}(φ:α->V)(g:α->Option V)(xs:List α){items out:af}{tr:α->Tr}{p:α->Prop}(h:items=xs.map φ)(hl:dO ak out=ak)(ho:xs.filterMap g=out)(hs:∀a∈xs,Ok n (g a=g a) (tr a) (p a))(r:Ok n e t q) :
  Ok n e (.k φ g xs out tr t) (items=xs.map φ/\dO ak out=ak/\xs.filterMap g=out/\(∀a∈xs,p a)/\q):=⟨h,hl,ho,hs,r⟩
theorem f{α β:Type}(φ:α->V)(st:β->bj)(F:β->α->β)(I:List α->β->Prop){xs:List α}{b:β}{items:af}{ρ:bj}{tr:α->β->Tr}{p:α->β->Prop}(h:items=xs.map φ)(h':ρ=st b)(hi:I xs b)
  (hI:∀a as b,I (a::as) b->I as (F b a)) (hs:∀a as b,I (a::as) b->Ok n (st (F b a)=st (F b a)) (tr a b) (p a b)) (r:Ok n e t q) :
  Ok n e (.f φ st F I xs b tr t) (items=xs.map φ/\ρ=st b/\I xs b/\(∀a as b,I (a::as) b->I as (F b a))/\(∀a as b,I (a::as) b->p a b)/\q):=⟨h,h',hi,hI,hs,r⟩
end Ok
section
theorem run(a:Ok n True t q)(h:q=kb n s ρ σ t (λf ρ σ U=>K f ρ σ) X:=by kernel_rfl):cV (CW n) bB s ρ σ K X:=
 mV s ρ σ t _ _ _ (λU U U U h=>h) (h.mp a)
theorem aaK{Y:Prop}(a:Ok n True t q)(h:q=wE n e ρ σ t (λv σ U=>Q v σ) Y):EW (CW n) bB e ρ σ Q Y:=
 dP e ρ σ t _ _ _ (λU U U h=>h) (h.mp a)
theorem yI{Y:Prop}(a:Ok n True t q)(h:q=wI n i ρ σ t (λv σ U=>Q v σ) Y):IW (CW n) bB i ρ σ Q Y:=
 IB i ρ σ t _ _ _ (λU U U h=>h) (h.mp a)
theorem QH(a:Ok n (g=g) t q)(h:q=wT n ifs ρ am t λb σ t=>br b t (λt=>wE n elt ρ σ t (λv ay U=>gd ay.isNone (aj v=g)) False) λU=>gd σ.isNone (am=g)) :
  TW (CW n) bB ifs ρ am (λb σ=>if b=ak then EW (CW n) bB elt ρ σ (λv ay=>ay=am/\aj v=g) False else σ=am/\am=g) False:=
 IC ifs ρ _ t _ _ (λU σ U=>yG (λt=>dP elt ρ σ t _ _ (λv ay=>ay=am/\aj v=g) λU U U=>ke) (λU=>ke) _) (h.mp a)
theorem ID:∀{b:Bool},(!b)=ak->b=ap
 |false,U1=>rfl
def aaL(n)(f:String)(vs:af)(t:Tr)(Q:V->Prop)(Y:Prop):=
 ex (eS f) λfn=>gd (!fn.cj) (gd (vs.length==fn.np) (kb n fn.body (vs.map .v++cU (fn.nl-fn.np) .un) am t (λf ρ σ U=>iN (λv U=>Q v) f ρ σ) (λU=>Y)))
def aaM(n)(f)(σ)(t)(Q)(Y):=
 ex (eS f) λfn=>gd fn.cj (kb n fn.body (.self::cU (fn.nl-1) .un) σ t (λf ρ σ U=>iN Q f ρ σ) (λU=>Y))
theorem bz{X:Prop}(a:Ok n True t q)(h:q=aaL n f vs t (λv=>Q v σ) X:=by kernel_rfl):CW (n+1) f vs σ Q X:=
 ar (fO.1 (h.mp a)) λfn h1 h2=>bm (jV.1 h2) λh3 h4=>bm (jV.1 h4) λh5 h6=>
 aao fn h1 (ID h3) (beq_iff_eq.1 h5) (mV _ _ _ t _ _ _ (λU U U U h=>h) h6)
theorem lD{X:Prop}(a:Ok n True t q)(h:q=aaM n f σ t Q X:=by kernel_rfl):CW (n+1) f [] σ Q X:=
 ar (fO.1 (h.mp a)) λfn h1 h2=>bm (jV.1 h2) λh3 h4=>
 aap fn h1 h3 (mV _ _ _ t _ _ _ (λU U U U h=>h) h4)
end
noncomputable def fT:PS->jT
 |.iI t U1 U2=>t
 |_=>.one 0
noncomputable def fB:PS->List PS
 |.iI U1 U2 b=>b
 |.jy U1 b=>b
 |.ite U1 a U2=>a
 |_=>[]
theorem FW.nil:FW n tgt bd [] ρ (aj (.next,ρ)):=λU U h=>h
theorem FW.turn{q:Prop}(a:Ok n (f₁=f₁/\ρ₁=ρ₁) t q)(h:q=ex (jA tgt x ρ) λbt=>kb n bd bt am t (λf aS ay U=>gd ay.isNone (f=f₁/\aS=ρ₁)) λU=>False)
  (hc:match f₁ with | .next=>FW n tgt bd l ρ₁ o | .cont=>FW n tgt bd l ρ₁ o | .brk=>o=aj (.next,ρ₁) | .ret v=>o=aj (.ret v,ρ₁)):FW n tgt bd (x::l) ρ o:=λK X hK=>
 Ed (λU e=>j5 (hW n) _ _ _ _ _ _ _ (λf' bt ay e=>by
  obtain ⟨rfl,rfl,rfl⟩:=ke e
  cases f' with
  |next=>exact hc K X hK
  |cont=>exact hc K X hK
  |brk=>rw[show o=_ from hc] at hK;exact hK
  |ret v=>rw[show o=_ from hc] at hK;exact hK) (λU=>gE) (mV _ _ _ _ _ _ (λf ρ σ=>gd σ.isNone (f=f₁/\ρ=ρ₁)) (λU U U U h=>h) e)) (h.mp a)
theorem FW.exc{q:Prop}(a:Ok n True t q)(h:q=ex (jA tgt x ρ) λbt=>kb n bd bt am t (λU U U U=>False) λU=>True):FW n tgt bd (x::l) ρ am:=λK X hK=>
 Ed (λU e=>j5 (hW n) _ _ _ _ _ _ _ (λU U U=>gE) (λU U=>hK _) (mV _ _ _ _ _ _ (λU U U=>False) (λU U U U h=>h) e)) (h.mp a)
def QI(f:Fl)(p q:bj×Pz):=match f with
 |.next=>p=q
 |.cont=>p=q
 |_=>False
def QJ(f:Fl)(ρ:bj)(σ:Pz)(aS:bj):=match f with
 |.brk=>gd σ.isNone (ρ=aS)
 |_=>False
section
theorem r9(a:Ok n (σ=σ) t q)(h:q=wE n c ρ σ t (λv ay U=>gd (!ck v) (ay=σ)) False:=by kernel_rfl):ix n (.jy c b) ρ σ (aj (.next,ρ,σ)):=λK X hK=>
 ⟨1,du (hW n) _ _ _ _ _ _ _ (λv ay e=>by
  obtain ⟨e1,rfl⟩:=jV.1 e;show if ck v=ak then _ else _
  rw[ID e1];exact hK) gE (dP c ρ σ t _ _ (λv ay=>gd (!ck v) (ay=σ)) (λU U U h=>h) (h.mp a))⟩
theorem uu(a:Ok n ((ρ₁,aO)=(ρ₁,aO)) t q)(h:q=wE n c ρ σ t (λv ay t'=>gd (ck v) (kb n b ρ ay t' (λf aS pN U=>QI f (aS,pN) (ρ₁,aO)) λU=>False)) False)(r:ix n (.jy c b) ρ₁ aO o):ix n (.jy c b) ρ σ o:=λK X hK=>
 a9 (r K X hK) λm hm=>
 ⟨m+1,du (hW n) _ _ _ _ _ _ _ (λv ay e=>by
  refine bm (jV.1 e) λe1 e=>?_;show if ck v=ak then _ else _
  rw[bw e1];refine j5 (hW n) _ _ _ _ _ _ _ (λf aS pN e=>?_) (λU=>gE) e
  cases f with
  |next=>(injection e with e h2;cases e;cases h2);exact hm
  |cont=>(injection e with e h2;cases e;cases h2);exact hm
  |_=>exact e.elim) gE (dP c ρ σ t _ _ (λv ay=>gd (ck v) (cV (CW n) bB b ρ ay (λf aS pN=>QI f (aS,pN) (ρ₁,aO)) λU=>False)) (λU U U=>jW (mV b _ _ _ _ _ _ λU U U U h=>h)) (h.mp a))⟩
theorem Ef(a:Ok n (ρ₁=ρ₁) t q)(h:q=wE n c ρ σ t (λv ay t'=>gd (ck v) (kb n b ρ ay t' (λf aS pN U=>QJ f aS pN ρ₁) λU=>False)) False):ix n (.jy c b) ρ σ (aj (.next,ρ₁,am)):=λK X hK=>
 ⟨1,du (hW n) _ _ _ _ _ _ _ (λv ay e=>by
  refine bm (jV.1 e) λe1 e=>?_;show if ck v=ak then _ else _
  rw[bw e1];refine j5 (hW n) _ _ _ _ _ _ _ (λf aS pN e=>?_) (λU=>gE) e
  cases f with
  |brk=>obtain ⟨rfl,rfl⟩:=ke e;exact hK
  |_=>exact e.elim) gE (dP c ρ σ t _ _ (λv ay=>gd (ck v) (cV (CW n) bB b ρ ay (λf aS pN=>QJ f aS pN ρ₁) λU=>False)) (λU U U=>jW (mV b _ _ _ _ _ _ λU U U U h=>h)) (h.mp a))⟩
theorem IE(a:Ok n True t q)(h:q=wE n c ρ σ t (λv ay t'=>gd (ck v) (kb n b ρ ay t' (λU U U U=>False) λU=>True)) False):ix n (.jy c b) ρ σ am:=λK X hK=>
 ⟨1,du (hW n) _ _ _ _ _ _ _ (λv ay e=>by
  refine bm (jV.1 e) λe1 e=>?_;show if ck v=ak then _ else _
  rw[bw e1];exact j5 (hW n) _ _ _ _ _ _ _ (λU U U=>gE) (λU U=>hK _) e) gE (dP c ρ σ t _ _ (λv ay=>gd (ck v) (cV (CW n) bB b ρ ay (λU U U=>False) λU=>True)) (λU U U=>jW (mV b _ _ _ _ _ _ λU U U U h=>h)) (h.mp a))⟩
end
noncomputable def gy(b)(v:V):=match b with
 |true=>aj v
 |false=>am
theorem n8(h:b=ak):aj v=gy b v:=h▸rfl
theorem n9(h:b=ap):am=gy b v:=h▸rfl
theorem fm{α:Type}(f:α->V)(xs:List α):xs.filterMap (λa=>aj (f a))=xs.map f:=congrFun List.filterMap_eq_map xs
theorem uv{α:Type}(p:α->Bool)(f:α->V)(xs:List α):xs.filterMap (λa=>gy (p a) (f a))=(xs.filter p).map f:=by
 induction xs with
 |nil=>rfl
 |cons a xs ih=>
  rw[CZ,xv,ih]
  cases p a<;>rfl
theorem ob{α:Type}(f:α->V)(l:List α):fX "len" [.lst (l.map f)]=aj (.int l.length):=aE (λk:Nat=>aj (V.int k)) (ed f)
theorem l6(l)(h:l.length<=100000):cz (.lst l)=ak:=eP h
noncomputable def lE{α:Type}(f:α->V):Option α->Sl
 |none=>.un
 |some a=>.v (f a)
theorem aaN{n:Nat}{elt:PE}{k i j:Nat}{it fE:PI}{ρ:bj}{α β:Type}(φ:α->V)(ψ:β->V)(ys:α->List β)(g:α->β->V)(xs:List α)
  (h1:∀Q,Q (xs.map φ) am->IW (CW n) bB it (ρ.map im++cU k .un) am Q False)
  (h2:∀a∈xs,∀z Q,Q ((ys a).map ψ) am->IW (CW n) bB fE (((ρ.map im++cU k Sl.un).set j z).set i (.v (φ a))) am Q False)
  (h3:∀a∈xs,∀b∈ys a,∀Q,Q (g a b) am->EW (CW n) bB elt (((ρ.map im++cU k Sl.un).set i (.v (φ a))).set j (.v (ψ b))) am Q False)
  (zA:i≠j) (hr:ρ.map im++cU k Sl.un=((ρ.map im++cU k Sl.un).set j .un).set i .un) (hl:(xs.flatMap λa=>(ys a).map (g a)).length<=100000):Bh n (.comp ap elt k [.mk (.one i) it [],.mk (.one j) fE []]) ρ (.lst (xs.flatMap λa=>(ys a).map (g a))):=λQ hq=>by
 show GW (CW n) bB _ _ _ _ _ _;generalize ρ.map im++cU k .un=r at *;refine h1 _ ?_
 have inner:∀(a:α) K (bs:List β) z acc,(∀b∈bs,∀Q,Q (g a b) am->EW (CW n) bB elt ((r.set i (.v (φ a))).set j (.v (ψ b))) am Q False)->
   acc.length+bs.length<=100000->(∀z,K ⟨(r.set j z).set i (.v (φ a)),am,acc++bs.map (g a)⟩)->
   mM (λx dv gK=>gM (.one j) x dv.ρ λbt=>TW (CW n) bB [] bt dv.σ (λb cC=>if b=ak then GW (CW n) bB (dO ap) (EW (CW n) bB elt) [] ⟨bt,cC,dv.acc⟩ gK False else gK ⟨bt,cC,dv.acc⟩) False) (bs.map ψ) ⟨(r.set j z).set i (.v (φ a)),am,acc⟩ K:=by
  intro a K bs
  induction bs with
  |nil=>exact λz acc U U h=>eh acc▸h z
  |cons b bs ih=>
   intro z acc he hl h;have e:((r.set j z).set i (.v (φ a))).set j (.v (ψ b))=(r.set j (.v (ψ b))).set i (.v (φ a)):=by rw[Wz _ _ zA,GZ]
   refine du (hW n) elt _ _ _ _ _ _ (λv ay hv=>?_) id ((e.trans (Wz _ _ zA.symm)).symm▸he b dh (λv σ=>v=g a b/\σ=am) ⟨rfl,rfl⟩);rw[hv.1,hv.2];refine ⟨eP (by rw[bJ];exact aB (iE (cr (bW _)) _) hl),?_⟩;show mM _ _ (CS.mk (((r.set j z).set i (.v (φ a))).set j (.v (ψ b))) _ _) _;rw[e];refine ih _ _ (λb hb=>he b (cJ _ hb)) (by rw[bJ,jg,kZ [_].length];exact hl) λz=>?_;rw[b8];exact h z
 have outer:∀(xs:List α) y z acc,(∀a∈xs,∀z Q,Q ((ys a).map ψ) am->IW (CW n) bB fE ((r.set j z).set i (.v (φ a))) am Q False)->
   (∀a∈xs,∀b∈ys a,∀Q,Q (g a b) am->EW (CW n) bB elt ((r.set i (.v (φ a))).set j (.v (ψ b))) am Q False)->acc.length+(xs.flatMap λa=>(ys a).map (g a)).length<=100000->
   Q (.lst (acc++xs.flatMap λa=>(ys a).map (g a))) am->mM (λx dv gK=>gM (.one i) x dv.ρ λbt=>TW (CW n) bB [] bt dv.σ (λb cC=>if b=ak then GW (CW n) bB (dO ap) (EW (CW n) bB elt) [.mk (.one j) fE []] ⟨bt,cC,dv.acc⟩ gK False else gK ⟨bt,cC,dv.acc⟩) False) (xs.map φ) ⟨(r.set j z).set i y,am,acc⟩ (λc=>Q (nJ ap c.acc) c.σ):=by
  intro xs
  induction xs with
  |nil=>exact λy z acc U U U h=>(eh acc▸h:Q (.lst acc) am)
  |cons a xs ih=>
   intro y z acc h2 h3 hl h;show IW (CW n) bB fE (((r.set j z).set i y).set i (.v (φ a))) _ _ _;rw[GZ];rw[ahc,bJ,ed,<- jg] at hl;refine h2 a dh z _ (inner a _ (ys a) z acc (h3 a dh) (aB (dH _ _) hl) λz=>ih _ z _ (λa ha=>h2 a (cJ _ ha)) (λa ha=>h3 a (cJ _ ha)) (by rw[bJ,ed];exact hl) ?_);rw[ahc,<- b8] at h;exact h
 have:=outer xs .un .un [] h2 h3 ((jP _).symm▸hl) hq;rw[<- hr] at this;exact this
set_option genSizeOf false in
set_option genInjectivity true in
inductive aN where
 |nn | em | tx
 |rf (s:aK)
 |sm (p:aN)
 |gr (a b:aN)
 |ch (a b:aN)
 |il (a b:aN)
noncomputable def aaO:aK:=[110,111,110,101]
noncomputable def Bj:aK:=[101,109,112,116,121]
noncomputable def cH:aK:=[116,101,120,116]
noncomputable def aaP:aK:=[114,101,102]
noncomputable def aaQ:aK:=[115,111,109,101]
noncomputable def QK:aK:=[103,114,111,117,112]
noncomputable def sb:aK:=[99,104,111,105,99,101]
noncomputable def QL:aK:=[105,110,116,101,114,108,101,97,118,101]
noncomputable def aN.toV:aN->V
 |.nn=>.tup [.str aaO]
 |.em=>.tup [.str Bj]
 |.tx=>.tup [.str cH]
 |.rf s=>.tup [.str aaP,.str s]
 |.sm p=>.tup [.str aaQ,p.toV]
 |.gr a b=>.tup [.str QK,a.toV,b.toV]
 |.ch a b=>.tup [.str sb,a.toV,b.toV]
 |.il a b=>.tup [.str QL,a.toV,b.toV]
noncomputable def aN.ht:aN->Nat
 |.nn=>1
 |.em=>1
 |.tx=>1
 |.rf U1=>1
 |.sm p=>p.ht+1
 |.gr a b=>max a.ht b.ht+1
 |.ch a b=>max a.ht b.ht+1
 |.il a b=>max a.ht b.ht+1
noncomputable def aN.null:aN->Bool
 |.nn=>ap
 |.em=>ak
 |.tx=>ak
 |.rf U1=>ap
 |.sm p=>p.null
 |.gr a b=>a.null&&b.null
 |.ch a b=>a.null||b.null
 |.il a b=>a.null&&b.null
theorem IF(ha:dj a=ak)(hb:dj b=ak):dj (.tup [.str k,a,b])=ak:=show (dj a&&(dj b&&ak))=ak by rw[ha,hb];rfl
theorem aN.plain:∀p:aN,dj p.toV=ak
 |.nn=>rfl
 |.em=>rfl
 |.tx=>rfl
 |.rf U1=>rfl
 |.sm p=>show (dj p.toV&&ak)=ak by rw[p.plain];rfl
 |.gr a b=>IF a.plain b.plain
 |.ch a b=>IF a.plain b.plain
 |.il a b=>IF a.plain b.plain
theorem IG(ha:dm a=p)(hb:dm b=q):dm (.tup [.str k,a,b])=max p q+1:=by
 rw[<- ha,<- hb];show max 0 (max (dm a) (max (dm b) 0))+1=_;rw[ahd,ahe]
theorem aN.depth:∀p:aN,dm p.toV=p.ht
 |.nn=>rfl
 |.em=>rfl
 |.tx=>rfl
 |.rf U1=>rfl
 |.sm p=>by show max 0 (max (dm p.toV) 0)+1=_;rw[ahd,ahe,p.depth];rfl
 |.gr a b=>IG a.depth b.depth
 |.ch a b=>IG a.depth b.depth
 |.il a b=>IG a.depth b.depth
theorem ahz(a b:af):eX (.tup a) (.tup b)=lS a b:=rfl
theorem aaR(a b:aa):eX (.str a) (.str b)=(a==b):=rfl
theorem aaS(a b:Int):eX (.int a) (.int b)=(a==b):=rfl
theorem ahA(a b:af):eX (.lst a) (.lst b)=lS a b:=rfl
theorem aaT(x y:V)(a b:af):lS (x::a) (y::b)=(eX x y&&lS a b):=rfl
theorem aaU:lS [] []=ak:=rfl
theorem ahB(x:V)(a:af):lS (x::a) []=ap:=rfl
theorem sd(a b:aa):cy .eq (.str a) (.str b)=aj (a==b):=rfl
theorem aaV(a b:aa):cy .ne (.str a) (.str b)=aj (!(a==b)):=rfl
def aN.vF(a b:aN):Bool:=Internal.eX a.toV b.toV
theorem IH(h:(a&&(b&&ak))=ak):b=ak:=aI (ax h)
theorem aN.rB:∀a b:aN,a.vF b=ak->a=b
 |.nn=>λb h=>by cases b with | nn=>rfl | _=>exact aY h
 |.em=>λb h=>by cases b with | em=>rfl | _=>exact aY h
 |.tx=>λb h=>by cases b with | tx=>rfl | _=>exact aY h
 |.rf s=>λb h=>by cases b with | rf t=>exact aE rf (cq (aI h)) | _=>exact aY h
 |.sm p=>λb h=>by cases b with | sm q=>exact aE sm (rB p q (aI h)) | _=>exact aY h
 |.gr a b=>λc h=>by cases c with | gr c d=>exact congr (aE gr (rB a c (aI h))) (rB b d (IH h)) | _=>exact aY h
 |.ch a b=>λc h=>by cases c with | ch c d=>exact congr (aE ch (rB a c (aI h))) (rB b d (IH h)) | _=>exact aY h
 |.il a b=>λc h=>by cases c with | il c d=>exact congr (aE il (rB a c (aI h))) (rB b d (IH h)) | _=>exact aY h
def aN.dR(a:aN):Bool:=a.vF .nn
def aN.ld(a:aN):Bool:=a.vF .em
theorem uw{a:aN}(h:a.dR=ap):a≠.nn:=λe=>nomatch (e▸h:aN.dR .nn=ap)
theorem II{a b:aN}(h:b.ht=1):min a.ht b.ht<=100:=aB (vh _ _) (h▸by decide)
theorem Eg(a b:aN)(h:min a.ht b.ht<=100):cy .eq a.toV b.toV=aj (a.vF b):=Bf a.plain b.plain (by rw[a.depth,b.depth];exact h)
theorem i9(a:aN):cy .eq a.toV aN.nn.toV=aj a.dR:=Eg a .nn (II rfl)
theorem v9(a:aN):cy .eq a.toV aN.em.toV=aj a.ld:=Eg a .em (II rfl)
theorem aaW(a:aN):cy .ne a.toV aN.nn.toV=aj (!a.dR):=aE (gT not) (i9 a)
theorem fJ(h:max a b+1<=k+1):a<=k:=aB (zK _ _) (g8 h)
theorem fC(h:max a b+1<=k+1):b<=k:=aB (xo _ _) (g8 h)
theorem sh(h1:a<=k)(h2:b<=k):max a b+1<=k+1:=cr (g9.2 ⟨h1,h2⟩)
theorem aaX:∀a:aN,1<=a.ht
 |.nn | .em | .tx | .rf _=>aV 1
 |.sm _ | .gr _ _ | .ch _ _ | .il _ _=>cr (bW _)
theorem wa{p:aN}{P:Prop}(h:p.ht<=0):P:=(xf _ (aB (aaX p) h)).elim
theorem QM(h:a=ak):(a&&b)=b:=by rw[h];rfl
theorem QN(h:a=ap):(a&&b)=a:=by rw[h];rfl
theorem aaY(h:a=ak):(a||b)=a:=by rw[h];rfl
theorem aaZ(h:a=ap):(a||b)=b:=by rw[h];rfl
theorem bl{Q:i4}(e:a=b)(h:Q (.bool a) σ):Q (.bool b) σ:=e▸h
theorem qw:∀(p:aN) (n:Nat),p.ht<=n->eg n "_null" [p.toV] (.bool p.null)
 |p,0=>λh=>wa h
 |.nn,n+1=>λU=>λQ X hq=>bz (.fin hq)
 |.em,n+1=>λU=>λQ X hq=>bz (.fin hq)
 |.tx,n+1=>λU=>λQ X hq=>bz (.fin hq)
 |.rf U1,n+1=>λU=>λQ X hq=>bz (.fin hq)
 |.sm p,n+1=>λh=>λQ X hq=>bz (.c<|.c<|.c<|.c<|.c<|.r (qw p n (g8 h)) (.fin hq))
 |.gr a b,n+1=>λh=>λQ X hq=>bz (.c<|.c<|.c<|.r (qw a n (fJ h)) (.s (λc:a.null=ak=>.c<|.r (qw b n (fC h)) (.fin (bl (QM c) hq))) λc=>.fin (bl (QN c) hq)))
 |.il a b,n+1=>λh=>λQ X hq=>bz (.c<|.c<|.c<|.r (qw a n (fJ h)) (.s (λc:a.null=ak=>.c<|.r (qw b n (fC h)) (.fin (bl (QM c) hq))) λc=>.fin (bl (QN c) hq)))
 |.ch a b,n+1=>λh=>λQ X hq=>bz (.c<|.c<|.c<|.c<|.r (qw a n (fJ h)) (.s (λc:a.null=ak=>.fin (bl (aaY c) hq)) λc=>.c<|.r (qw b n (fC h)) (.fin (bl (aaZ c) hq))))
def aN.oX(a b:aN):aN:=match a.dR with
 |true=>b
 |false=>match b.dR with
  |true=>a
  |false=>match a.vF b with
   |true=>a
   |false=>.ch a b
def aN.mk(k:aN->aN->aN)(a b:aN):aN:=match a.dR with
 |true=>.nn
 |false=>match b.dR with
  |true=>.nn
  |false=>match a.ld with
   |true=>b
   |false=>match b.ld with
    |true=>a
    |false=>k a b
def aN.oS(a b:aN):aN:=mk .gr a b
def aN.tO(a b:aN):aN:=mk .il a b
theorem Bk{C:aN->Prop}(a b:aN)(h1:a.dR=ak->C b)(h2:a.dR=ap->b.dR=ak->C a)(h3:a.dR=ap->b.dR=ap->a.vF b=ak->C a)(h4:a.dR=ap->b.dR=ap->a.vF b=ap->C (.ch a b)):C (a.oX b):=by
 unfold aN.oX
 cases e1:a.dR with
 |true=>exact h1 e1
 |false=>cases e2:b.dR with
  |true=>exact h2 e1 e2
  |false=>cases e3:a.vF b with
   |true=>exact h3 e1 e2 e3
   |false=>exact h4 e1 e2 e3
theorem ux{C:aN->Prop}(k:aN->aN->aN)(a b:aN)(h1:a.dR=ak->C .nn)(h2:a.dR=ap->b.dR=ak->C .nn)(h3:a.dR=ap->b.dR=ap->a.ld=ak->C b)(h4:a.dR=ap->b.dR=ap->a.ld=ap->b.ld=ak->C a)
  (h5:a.dR=ap->b.dR=ap->a.ld=ap->b.ld=ap->C (k a b)):C (aN.mk k a b):=by
 unfold aN.mk
 cases e1:a.dR with
 |true=>exact h1 e1
 |false=>cases e2:b.dR with
  |true=>exact h2 e1 e2
  |false=>cases e3:a.ld with
   |true=>exact h3 e1 e2 e3
   |false=>cases e4:b.ld with
    |true=>exact h4 e1 e2 e3 e4
    |false=>exact h5 e1 e2 e3 e4
theorem Bl(a b:aN)(n:Nat)(hd:min a.ht b.ht<=100):eg (n+1) "_mk" [.str sb,a.toV,b.toV] (a.oX b).toV:=Bk (C:=λp=>eg (n+1) "_mk" [.str sb,a.toV,b.toV] p.toV) a b
 (λc Q X hq=>bz (.c<|.b (i9 a)<|.y c<|.fin hq))
 (λc1 c2 Q X hq=>bz (.c<|.b (i9 a)<|.nn c1<|.b (i9 b)<|.y c2<|.y c2<|.fin hq))
 (λc1 c2 c3 Q X hq=>bz (.c<|.b (i9 a)<|.nn c1<|.b (i9 b)<|.nn c2<|.b (Eg a b hd)<|.y c3<|.fin hq))
 (λc1 c2 c3 Q X hq=>bz (.c<|.b (i9 a)<|.nn c1<|.b (i9 b)<|.nn c2<|.b (Eg a b hd)<|.nn c3<|.fin hq))
theorem QO(hk:∀a b,(k a b).toV=.tup [.str s,a.toV,b.toV])(hs:(s==sb)=ap)(a b:aN)(n:Nat):eg (n+1) "_mk" [.str s,a.toV,b.toV] (aN.mk k a b).toV:=ux (C:=λp=>eg (n+1) "_mk" [.str s,a.toV,b.toV] p.toV) k a b
 (λc Q X hq=>bz (.b (sd s sb)<|.nn hs<|.b (i9 a)<|.y c<|.y c<|.fin hq))
 (λc1 c2 Q X hq=>bz (.b (sd s sb)<|.nn hs<|.b (i9 a)<|.nn c1<|.b (i9 b)<|.y c2<|.fin hq))
 (λc1 c2 c3 Q X hq=>bz (.b (sd s sb)<|.nn hs<|.b (i9 a)<|.nn c1<|.b (i9 b)<|.nn c2<|.b (v9 a)<|.y c3<|.fin hq))
 (λc1 c2 c3 c4 Q X hq=>bz (.b (sd s sb)<|.nn hs<|.b (i9 a)<|.nn c1<|.b (i9 b)<|.nn c2<|.b (v9 a)<|.nn c3<|.b (v9 b)<|.y c4<|.fin hq))
 (λc1 c2 c3 c4 Q X hq=>bz (.b (sd s sb)<|.nn hs<|.b (i9 a)<|.nn c1<|.b (i9 b)<|.nn c2<|.b (v9 a)<|.nn c3<|.b (v9 b)<|.nn c4<|.fin (hk a b▸hq)))
theorem IJ(a b:aN)(n:Nat):eg (n+1) "_mk" [.str QK,a.toV,b.toV] (a.oS b).toV:=QO (λU U=>rfl) rfl a b n
theorem IK(a b:aN)(n:Nat):eg (n+1) "_mk" [.str QL,a.toV,b.toV] (a.tO b).toV:=QO (λU U=>rfl) rfl a b n
theorem Eh{a b:aN}(ha:a.ht<=k)(hb:b.ht<=k):(a.oX b).ht<=k+1:=Bk (C:=λp=>p.ht<=k+1) a b (λU=>eU hb) (λU U=>eU ha) (λU U U=>eU ha) λU U U=>sh ha hb
theorem wb(hf:(f a b).ht<=k+1)(ha:a.ht<=k)(hb:b.ht<=k):(aN.mk f a b).ht<=k+1:=
 ux (C:=λp=>p.ht<=k+1) f a b (λU=>cr (bW _)) (λU U=>cr (bW _)) (λU U U=>eU hb) (λU U U U=>eU ha) λU U U U=>hf
set_option genCtorIdx true in
inductive It where
 |tx
 |nm (l:List aK)
def It.toV:It->V
 |.tx=>.str cH
 |.nm l=>.lst (l.map .str)
def mt(s:aK):It->Bool
 |.tx=>s==cH
 |.nm l=>l.contains s
noncomputable def dRf(s:aK)(x:It):Bool:=match x with
 |.tx=>ap
 |.nm l=>l.contains s
noncomputable def dTx(x:It):Bool:=match x with
 |.tx=>ak
 |.nm U1=>ap
theorem sj{α:Type}(C:α->Prop){x y:α}(h:C x)(h':C y):C (cond b x y):=by
 cases b with
 |false=>exact h'
 |true=>exact h
theorem Ei{α:Type}(C:α->Prop){x y:α}(h:C (cond b x y))(e:b=ak):C x:=by subst e;exact h
theorem Ej{α:Type}(C:α->Prop){x y:α}(h:C (cond b x y))(e:b=ap):C y:=by subst e;exact h
noncomputable def aN.d(x:It):aN->aN
 |.nn=>.nn
 |.em=>.nn
 |.tx=>cond (dTx x) .tx .nn
 |.rf s=>cond (dRf s x) .em .nn
 |.sm a=>(a.d x).oS (.ch (.sm a) .em)
 |.gr a b=>cond a.null (((a.d x).oS b).oX (b.d x)) ((a.d x).oS b)
 |.ch a b=>(a.d x).oX (b.d x)
 |.il a b=>((a.d x).tO b).oX (a.tO (b.d x))
theorem qx(h:a<=k):a<=2*k:=aB h (ahf k aM)
theorem mW(x:It):∀(p:aN) (k:Nat),p.ht<=k->(p.d x).ht<=2*k
 |p,0=>λh=>wa h
 |.nn,k+1=>λU=>cr (bW _)
 |.em,k+1=>λU=>cr (bW _)
 |.tx,k+1=>λU=>sj (λp:aN=>p.ht<=2*(k+1)) (cr (bW _)) (cr (bW _))
 |.rf s,k+1=>λU=>sj (λp:aN=>p.ht<=2*(k+1)) (cr (bW _)) (cr (bW _))
 |.sm a,k+1=>λh=>have h:=g8 h
  match k,h with
  |0,h=>wa h
  |k+1,h=>have e:(aN.ch (.sm a) .em).ht<=2*k+3:=sh (aB (cr h) (cr (cr (qx (aV k))))) (cr (bW _))
   wb (f:=.gr) (k:=2*k+3) (sh (eU (mW x a _ h)) e) (eU (mW x a _ h)) e
 |.ch a b,k+1=>λh=>eU (Eh (mW x a k (fJ h)) (mW x b k (fC h)))
 |.gr a b,k+1=>λh=>
  have h1:=mW x a k (fJ h);have h2:((a.d x).oS b).ht<=2*k+1:=wb (sh h1 (qx (fC h))) h1 (qx (fC h))
  sj (λp:aN=>p.ht<=2*(k+1)) (Eh h2 (eU (mW x b k (fC h)))) (eU h2)
 |.il a b,k+1=>λh=>
  have h1:=mW x a k (fJ h);have h2:=mW x b k (fC h)
  Eh (wb (sh h1 (qx (fC h))) h1 (qx (fC h))) (wb (sh (qx (fJ h)) h2) (qx (fJ h)) h2)
theorem QP(l:List aK)(s:aK):((l.map V.str).any λy=>eX y (.str s))=l.contains s:=by
 induction l with
 |nil=>rfl
 |cons a l ih=>rw[th,L9,aaR,ih,xJ,BEq.comm (a:=a)]
theorem qy:∀l:List aK,gW (l.map .str)=ak
 |[]=>rfl
 |U1::l=>qy l
theorem Bm:∀l:List aK,i0 (l.map .str)=0
 |[]=>rfl
 |U1::l=>show max 0 (i0 (l.map .str))=0 by rw[Bm l];rfl
theorem Bn(n:Nat):min n 0<=100:=aB (vh n 0) aM
theorem Bo(l:List aK)(s:aK):De (.str s) (.lst (l.map .str))=aj (l.contains s):=(D9 rfl (qy l) (Bn _)).trans (aE aj (QP l s))
theorem inC(a b:V):cy .isIn a b=De a b:=rfl
theorem in2(s a b:aa):cy .isIn (.str s) (.tup [.str a,.str b])=aj (a==s||b==s):=by
 show aj (a==s||(b==s||ap))=_;rw[CM]
theorem QR(s a b c:aa):cy .isIn (.str s) (.tup [.str a,.str b,.str c])=aj (a==s||(b==s||c==s)):=by
 show aj (a==s||(b==s||(c==s||ap)))=_;rw[CM]
theorem aa0(s:aK)(x:It)(n:Nat):eg (n+1) "_d" [aN.toV (.rf s),x.toV] (aN.d x (.rf s)).toV:=λQ X=>match x with
 |.tx=>λhq=>bz (.fin hq)
 |.nm l=>λhq=>bz (.c<|.c<|.b ((aE (gT not) (Bf (a:=.lst (WA V.str l)) (b:=.str cH) (qy l) rfl (Bn _))))<|.y rfl<|.c<|.bs (Bo l s) (λc=>.fin (Ei (λp:aN=>Q p.toV _) hq c)) λc=>.fin (Ej (λp:aN=>Q p.toV _) hq c))
theorem aa1(x:It)(n:Nat):eg (n+1) "_d" [aN.toV .tx,x.toV] (aN.d x .tx).toV:=λQ X=>match x with
 |.tx=>λhq=>bz (.fin hq)
 |.nm l=>λhq=>bz (.c<|.c<|.c<|.b ((Bf (a:=.lst (WA V.str l)) (b:=.str cH) (qy l) rfl (Bn _)))<|.nn rfl<|.fin hq)
theorem IL(h:a<=k)(hk:k<=100):min a b<=100:=aB (ahg _ _) (aB h hk)
theorem mn2(h:b<=k)(hk:k<=100):min a b<=100:=aB (vh _ _) (aB h hk)
theorem so(x:It):∀(p:aN) (n:Nat),p.ht<=n->p.ht<=50->eg (n+1) "_d" [p.toV,x.toV] (p.d x).toV
 |p,0=>λh U=>wa h
 |.nn,n+1=>λU U=>λQ X hq=>bz (.fin hq)
 |.em,n+1=>λU U=>λQ X hq=>bz (.fin hq)
 |.tx,n+1=>λU U=>aa1 x _
 |.rf s,n+1=>λU U=>aa0 s x _
 |.sm a,n+1=>λh h5=>λQ X hq=>bz (.c<|.c<|.c<|.c<|.c<|.c<|.c<|.c<|.r (so x a n (g8 h) (tA h5))<|.r (Bl (.sm a) .em n (II rfl))<|.r (IJ (a.d x) (.ch (.sm a) .em) n)<|.fin hq)
 |.ch a b,n+1=>λh h5=>λQ X hq=>bz (.c<|.c<|.c<|.c<|.c<|.r (so x a n (fJ h) (eU (fJ h5)))<|.c<|.r (so x b n (fC h) (eU (fC h5)))<|.r (Bl (a.d x) (b.d x) n (IL (mW x a 49 (fJ h5)) (by decide)))<|.fin hq)
 |.gr a b,n+1=>λh h5=>λQ X hq=>bz (.c<|.c<|.c<|.c<|.c<|.c<|.r (so x a n (fJ h) (eU (fJ h5)))<|.c<|.r (IJ (a.d x) b n)<|.c<|.r (qw a (n+1) (eU (fJ h))) <|
   .s (λc:a.null=ak=>.c<|.r (so x b n (fC h) (eU (fC h5)))<|.r (Bl ((a.d x).oS b) (b.d x) n (mn2 (mW x b 49 (fC h5)) (by decide)))<|.fin (Ei (λp:aN=>Q p.toV _) hq c)) λc=>.fin (Ej (λp:aN=>Q p.toV _) hq c))
 |.il a b,n+1=>λh h5=>λQ X hq=>have h1:=mW x a 49 (fJ h5)
  bz (.c<|.c<|.c<|.c<|.c<|.c<|.c<|.r (so x a n (fJ h) (eU (fJ h5)))<|.c<|.r (IK (a.d x) b n)<|.c<|.c<|.r (so x b n (fC h) (eU (fC h5)))<|.r (IK a (b.d x) n) <|
   .r (Bl ((a.d x).tO b) (a.tO (b.d x)) n (IL (wb (sh h1 (qx (fC h5))) h1 (qx (fC h5))) (by decide)))<|.fin hq)
noncomputable def aN.simple:aN->aN
 |.nn=>.nn
 |.em=>.em
 |.tx=>.tx
 |.rf s=>.rf s
 |.sm a=>match a.simple.dR with
  |true=>a.simple
  |false=>match a.simple.ld with
   |true=>a.simple
   |false=>.sm a.simple
 |.gr a b=>a.simple.oS b.simple
 |.ch a b=>a.simple.oX b.simple
 |.il a b=>a.simple.tO b.simple
theorem Bp{C:aN->Prop}(a:aN)(h1:a.simple.dR=ak->C a.simple)(h2:a.simple.dR=ap->a.simple.ld=ak->C a.simple)(h3:a.simple.dR=ap->a.simple.ld=ap->C (.sm a.simple)):C (aN.simple (.sm a)):=by
 show C (match a.simple.dR with
  |true=>a.simple
  |false=>match a.simple.ld with
   |true=>a.simple
   |false=>.sm a.simple)
 cases e1:a.simple.dR with
 |true=>exact h1 e1
 |false=>cases e2:a.simple.ld with
  |true=>exact h2 e1 e2
  |false=>exact h3 e1 e2
theorem pv:∀(p:aN) (k:Nat),p.ht<=k->p.simple.ht<=k
 |p,0=>λh=>wa h
 |.nn,k+1=>λh=>h
 |.em,k+1=>λh=>h
 |.tx,k+1=>λh=>h
 |.rf U1,k+1=>λh=>h
 |.sm a,k+1=>λh=>have h1:=pv a k (g8 h)
  Bp (C:=λp=>p.ht<=k+1) a (λU=>eU h1) (λU U=>eU h1) λU U=>cr h1
 |.gr a b,k+1=>λh=>have h1:=pv a k (fJ h);have h2:=pv b k (fC h);wb (sh h1 h2) h1 h2
 |.il a b,k+1=>λh=>have h1:=pv a k (fJ h);have h2:=pv b k (fC h);wb (sh h1 h2) h1 h2
 |.ch a b,k+1=>λh=>Eh (pv a k (fJ h)) (pv b k (fC h))
theorem uy:∀(p:aN) (n:Nat),p.ht<=n->p.ht<=100->eg (n+1) "_simple" [p.toV] p.simple.toV
 |p,0=>λh U=>wa h
 |.nn,n+1=>λU U=>λQ X hq=>bz (.fin hq)
 |.em,n+1=>λU U=>λQ X hq=>bz (.fin hq)
 |.tx,n+1=>λU U=>λQ X hq=>bz (.fin hq)
 |.rf s,n+1=>λU U=>λQ X hq=>bz (.fin hq)
 |.sm a,n+1=>λh h5=>λQ X=>have r:=uy a n (g8 h) (tA h5)
  Bp (C:=λp=>Q p.toV am->CW (n+2) "_simple" [aN.toV (.sm a)] am Q X) a
   (λc hq=>bz (.c<|.c<|.c<|.c<|.c<|.r r<|.b (i9 a.simple)<|.y c<|.y c<|.fin hq))
   (λc1 c2 hq=>bz (.c<|.c<|.c<|.c<|.c<|.r r<|.b (i9 a.simple)<|.nn c1<|.b (v9 a.simple)<|.y c2<|.fin hq))
   λc1 c2 hq=>bz (.c<|.c<|.c<|.c<|.c<|.r r<|.b (i9 a.simple)<|.nn c1<|.b (v9 a.simple)<|.nn c2<|.fin hq)
 |.gr a b,n+1=>λh h5=>λQ X hq=>bz (.c<|.c<|.c<|.c<|.r (uy a n (fJ h) (eU (fJ h5)))<|.c<|.r (uy b n (fC h) (eU (fC h5)))<|.r (IJ a.simple b.simple n)<|.fin hq)
 |.il a b,n+1=>λh h5=>λQ X hq=>bz (.c<|.c<|.c<|.c<|.r (uy a n (fJ h) (eU (fJ h5)))<|.c<|.r (uy b n (fC h) (eU (fC h5)))<|.r (IK a.simple b.simple n)<|.fin hq)
 |.ch a b,n+1=>λh h5=>λQ X hq=>bz (.c<|.c<|.c<|.c<|.r (uy a n (fJ h) (eU (fJ h5)))<|.c<|.r (uy b n (fC h) (eU (fC h5)))<|.r (Bl a.simple b.simple n (IL (pv a 99 (fJ h5)) (by decide)))<|.fin hq)
def aN.tM(p:aN)(xs:List It):aN:=xs.foldl (λq x=>q.d x) p
def aN.run(p:aN)(xs:List It):aN:=p.simple.tM xs
theorem QS(h1:2^(k+1)*h<=M)(h2:m<=2*h):2^k*m<=M:=aB (vf _ h2) (Cu (2^k) 2 h▸h1)
theorem QT(h1:2^(k+1)*h<=2*M):h<=M:=Nat.le_of_mul_le_mul_left (aB (s8 h (ahf 2 (UR k))) h1) aM
theorem IM:∀(xs:List It) (q:aN),2^xs.length*q.ht<=M->(q.tM xs).ht<=M
 |[]=>λq h=>VS q.ht▸h
 |x::xs=>λq h=>IM xs (q.d x) (QS h (mW x q _ (aV _)))
def rnS(xs:List It)(b:aN×Option It):bj:=[.v b.1.toV,.v (.lst (xs.map It.toV)),lE It.toV b.2]
def Ek(b:aN×Option It)(x:It):aN×Option It:=(b.1.d x,aj x)
theorem QU:∀(xs:List It) (b:aN×Option It),(xs.foldl Ek b).1=b.1.tM xs
 |[]=>λU=>rfl
 |x::xs=>λb=>QU xs (Ek b x)
theorem QV(p:aN)(xs:List It)(n M:Nat)(h1:2^xs.length*p.ht<=2*M)(hn:M<=n)(hM:M<=50)(h2:p.ht<=n)(h3:p.ht<=100):eg (n+2) "_run" [p.toV,.lst (xs.map It.toV)] (p.run xs).toV:=λQ X hq=>
 bz (.r (uy p n h2 h3)<|.f It.toV (rnS xs) Ek (λys b=>2^ys.length*b.1.ht<=2*M) rfl (b:=(p.simple,am)) rfl (aB (vf _ (pv p _ (aV _))) h1)
  (λx ys b h=>QS h (mW x b.1 _ (aV _))) (λx ys b h=>.r (so x b.1 n (aB (QT h) hn) (aB (QT h) hM)) (.fe rfl))
 <|.fin (show Q (xs.foldl Ek (p.simple,am)).1.toV am by rw[QU];exact hq))
theorem aa2(p:aN)(xs:List It)(n M:Nat)(h1:2^xs.length*p.ht<=2*M)(hn:2*M<=n)(hM:M<=50)(h2:p.ht<=n)(h3:p.ht<=100):eg (n+3) "matches" [p.toV,.lst (xs.map It.toV)] (.bool (p.run xs).null):=λQ X hq=>
 bz (.r (QV p xs n M h1 (aB (qx (aV M)) hn) hM h2 h3)<|.r (qw (p.run xs) (n+2) (aB (IM xs p.simple (aB (vf _ (pv p _ (aV _))) h1)) (aB hn (dH n 2))))<|.fin hq)
noncomputable def aN.refs:aN->af
 |.nn=>[]
 |.em=>[]
 |.tx=>[]
 |.rf s=>[.str s]
 |.sm p=>bI [] p.refs
 |.gr a b=>bI (bI [] a.refs) b.refs
 |.ch a b=>bI (bI [] a.refs) b.refs
 |.il a b=>bI (bI [] a.refs) b.refs
noncomputable def aN.iZ:aN->Nat
 |.nn=>1
 |.em=>1
 |.tx=>1
 |.rf U1=>1
 |.sm p=>p.iZ
 |.gr a b=>a.iZ+b.iZ
 |.ch a b=>a.iZ+b.iZ
 |.il a b=>a.iZ+b.iZ
theorem QW(l m:af):(bI l m).length<=l.length+m.length:=by
 unfold bI;rw[bJ];exact iE (vt _ _) _
theorem El(h:m.length<=k):(bI [] m).length<=k:=aB (QW [] m) (by rw[rg,jP];exact h)
theorem Em(h1:l.length<=j)(h2:m.length<=k):(bI (bI [] l) m).length<=j+k:=aB (QW _ _) (jh (El h1) h2)
theorem kR:∀p:aN,p.refs.length<=p.iZ
 |.nn | .em | .tx=>bW _
 |.rf U1=>aV 1
 |.sm p=>El (kR p)
 |.gr a b=>Em (kR a) (kR b)
 |.ch a b=>Em (kR a) (kR b)
 |.il a b=>Em (kR a) (kR b)
theorem IN{l:af}(h:l.length<=k)(hk:k<=2000):decide (l.length<=kK)=ak:=eP (aB h hk)
def yJ:PS:=MV.body.getD 2 .brk
theorem IO(n:Nat)(p:V):FW n (fT yJ) (fB yJ) [] [.v p,.os [],.un] (aj (.next,[.v p,.os [],.un])):=FW.nil
theorem aa3(h:eg n "_refs" [v] (.set l))(hl:l.length<=k)(hk:k<=2000):FW n (fT yJ) (fB yJ) [v] [.v p,.os [],.un] (aj (.next,[.v p,.os (bI [] l),.v v])):=
 FW.turn (f₁:=.next) (ρ₁:=[.v p,.os (bI [] l),.v v]) (.r h<|.p (IN (El hl) hk)<|.z ⟨rfl,rfl⟩) (by kernel_rfl) FW.nil
theorem IP(h:eg n "_refs" [v] (.set l))(h':eg n "_refs" [u] (.set m))(hl:l.length<=j)(hm:m.length<=k)(hk:j+k<=2000):FW n (fT yJ) (fB yJ) [v,u] [.v p,.os [],.un] (aj (.next,[.v p,.os (bI (bI [] l) m),.v u])):=
 FW.turn (f₁:=.next) (ρ₁:=[.v p,.os (bI [] l),.v v]) (.r h<|.p (IN (El hl) (aB (dH _ _) hk))<|.z ⟨rfl,rfl⟩) (by kernel_rfl) (FW.turn (f₁:=.next) (ρ₁:=[.v p,.os (bI (bI [] l) m),.v u]) (.r h'<|.p (IN (Em hl hm) hk)<|.z ⟨rfl,rfl⟩) (by kernel_rfl) FW.nil)
theorem uz:∀(p:aN) (n:Nat),p.ht<=n->p.iZ<=2000->eg n "_refs" [p.toV] (.set p.refs)
 |p,0=>λh U=>wa h
 |.nn,n+1=>λU U=>λQ X hq=>bz (.lf (IO n (aN.toV .nn))<|.fin hq)
 |.em,n+1=>λU U=>λQ X hq=>bz (.lf (IO n (aN.toV .em))<|.fin hq)
 |.tx,n+1=>λU U=>λQ X hq=>bz (.lf (IO n (aN.toV .tx))<|.fin hq)
 |.rf s,n+1=>λU U=>λQ X hq=>bz (.fin hq)
 |.sm p,n+1=>λh hl=>λQ X hq=>bz (.lf (aa3 (p:=aN.toV (.sm p)) (uz p n (g8 h) hl) (kR p) hl)<|.fin hq)
 |.gr a b,n+1=>λh hl=>λQ X hq=>bz (.lf (IP (p:=aN.toV (.gr a b)) (uz a n (fJ h) (aB (dH _ _) hl)) (uz b n (fC h) (aB (ms _ _) hl)) (kR a) (kR b) hl)<|.fin hq)
 |.ch a b,n+1=>λh hl=>λQ X hq=>bz (.lf (IP (p:=aN.toV (.ch a b)) (uz a n (fJ h) (aB (dH _ _) hl)) (uz b n (fC h) (aB (ms _ _) hl)) (kR a) (kR b) hl)<|.fin hq)
 |.il a b,n+1=>λh hl=>λQ X hq=>bz (.lf (IP (p:=aN.toV (.il a b)) (uz a n (fJ h) (aB (dH _ _) hl)) (uz b n (fC h) (aB (ms _ _) hl)) (kR a) (kR b) hl)<|.fin hq)
inductive ja(P:List aK->Prop):List aK->Prop
 |nil:ja P []
 |app {u v:List aK}:P u->ja P v->ja P (u++v)
inductive jb:List aK->List aK->List aK->Prop
 |nil:jb [] [] []
 |l {s:aK} {u v w:List aK}:jb u v w->jb (s::u) v (s::w)
 |r {s:aK} {u v w:List aK}:jb u v w->jb u (s::v) (s::w)
noncomputable def L:aN->List aK->Prop
 |.nn,U1=>False
 |.em,w=>w=[]
 |.tx,w=>∀s∈w,s=cH
 |.rf s,w=>w=[s]
 |.gr a b,w=>∃u v,w=u++v/\L a u/\L b v
 |.ch a b,w=>L a w\/L b w
 |.il a b,w=>∃u v,jb u v w/\L a u/\L b v
 |.sm a,w=>∃u v,w=u++v/\L a u/\ja (L a) v
theorem ja.mono(h:∀w,P w->P' w)(s:ja P w):ja P' w:=by
 induction s with
 |nil=>exact .nil
 |app hu U1 ih=>exact .app (h _ hu) ih
theorem Bq:jb u v []<->u=[]/\v=[]:=by
 constructor
 .intro h;cases h;exact ⟨rfl,rfl⟩
 .rintro ⟨rfl,rfl⟩;exact .nil
theorem uA:jb u v (s::w)<->(∃u',u=s::u'/\jb u' v w)\/(∃v',v=s::v'/\jb u v' w):=by
 constructor
 .intro h
  cases h with
  |l h=>exact .inl ⟨_,rfl,h⟩
  |r h=>exact .inr ⟨_,rfl,h⟩
 .rintro (⟨u',rfl,h⟩ | ⟨v',rfl,h⟩)
  .exact .l h
  .exact .r h
theorem Br:∀{v w:List aK},jb [] v w<->v=w
 |v,[]=>by rw[Bq];simp
 |v,s::w=>by
  rw[uA];constructor
  .rintro (⟨u',h,_⟩ | ⟨v',rfl,h⟩)
   .simp at h
   .rw[Br.1 h]
  .rintro rfl;exact .inr ⟨w,rfl,Br.2 rfl⟩
theorem En:∀{u w:List aK},jb u [] w<->u=w
 |u,[]=>by rw[Bq];simp
 |u,s::w=>by
  rw[uA];constructor
  .rintro (⟨v',rfl,h⟩ | ⟨u',h,_⟩)
   .rw[En.1 h]
   .simp at h
  .rintro rfl;exact .inl ⟨w,rfl,En.2 rfl⟩
theorem aa4(h:jb u v w):w.length=u.length+v.length:=by
 induction h with
 |nil=>rfl
 |l U1 ih=>exact (aE (·+1) ih).trans (K8 ..).symm
 |r U1 ih=>exact aE (·+1) ih
theorem qz:∀u v,jb u v (u++v)
 |[]=>λv=>Br.2 rfl
 |s::u=>λv=>.l (qz u v)
theorem QX(h:jb u v w)(s):s∈w<->s∈u\/s∈v:=by
 induction h with
 |nil=>simp
 |l U1 ih=>simp[ih,or_assoc]
 |r U1 ih=>simp[ih];exact or_left_comm
theorem mX:∀p,p.null=ak<->L p []
 |.nn=>⟨aY,gE⟩
 |.em=>⟨λU=>rfl,λU=>rfl⟩
 |.tx=>⟨λU U=>nofun,λU=>rfl⟩
 |.rf s=>⟨aY,nofun⟩
 |.gr a b=>dM.trans ⟨λh=>⟨[],[],rfl,(mX a).1 h.1,(mX b).1 h.2⟩,λh=>bX h λu v h h1 h2=>have e:=Ma.1 h.symm;⟨(mX a).2 (e.1▸h1),(mX b).2 (e.2▸h2)⟩⟩
 |.ch a b=>Ah.trans (or_congr (mX a) (mX b))
 |.il a b=>dM.trans ⟨λh=>⟨[],[],.nil,(mX a).1 h.1,(mX b).1 h.2⟩,λh=>bX h λu v h h1 h2=>have e:=Bq.1 h;⟨(mX a).2 (e.1▸h1),(mX b).2 (e.2▸h2)⟩⟩
 |.sm a=>(mX a).trans ⟨λh1=>⟨[],[],rfl,h1,.nil⟩,λh=>bX h λu v h h1 h2=>(Ma.1 h.symm).1▸h1⟩
theorem sp{P:Prop}(h:a.dR=ak)(g:L a w):P:=by rw[aN.rB a .nn h] at g;exact g.elim
theorem mY(h:a.ld=ak):L a w<->w=[]:=by rw[aN.rB a .em h];exact p5
theorem Eo(a b)(w):L (a.oX b) w<->L a w\/L b w:=Bk (C:=λp=>L p w<->L a w\/L b w) a b (λh=>⟨.inr,λg=>g.elim (sp h) id⟩) (λU h=>⟨.inl,λg=>g.elim id (sp h)⟩) (λU U h=>⟨.inl,λg=>g.elim id (aN.rB a b h▸id)⟩) λU U U=>p5
theorem Ep(a b)(w):L (a.oS b) w<->L (.gr a b) w:=ux (C:=λp=>L p w<->L (.gr a b) w) .gr a b (λh=>⟨gE,by (intro bu;(refine bX bu ?_;clear bu;intro u v _ g _));exact sp h g⟩) (λU h=>⟨gE,by (intro bu;(refine bX bu ?_;clear bu;intro u v _ _ g));exact sp h g⟩)
 (λU U h=>⟨λg=>⟨[],w,rfl,(mY h).2 rfl,g⟩,by (intro bu;(refine bX bu ?_;clear bu;intro u v e eu g));rw[e,(mY h).1 eu];exact g⟩)
 (λU U U h=>⟨λg=>⟨w,[],(eh w).symm,g,(mY h).2 rfl⟩,by (intro bu;(refine bX bu ?_;clear bu;intro u v e g ev));rw[e,(mY h).1 ev,eh];exact g⟩) λU U U U=>p5
theorem IQ(a b)(w):L (a.tO b) w<->L (.il a b) w:=ux (C:=λp=>L p w<->L (.il a b) w) .il a b (λh=>⟨gE,by (intro bu;(refine bX bu ?_;clear bu;intro u v _ g _));exact sp h g⟩) (λU h=>⟨gE,by (intro bu;(refine bX bu ?_;clear bu;intro u v _ _ g));exact sp h g⟩)
 (λU U h=>⟨λg=>⟨[],w,Br.2 rfl,(mY h).2 rfl,g⟩,by (intro bu;(refine bX bu ?_;clear bu;intro u v e eu g));rw[(mY h).1 eu] at e;rw[<- Br.1 e];exact g⟩)
 (λU U U h=>⟨λg=>⟨w,[],En.2 rfl,g,(mY h).2 rfl⟩,by (intro bu;(refine bX bu ?_;clear bu;intro u v e g ev));rw[(mY h).1 ev] at e;rw[<- En.1 e];exact g⟩) λU U U U=>p5
theorem Er(h:ja P w):∀s w',w=s::w'->∃u v,w'=u++v/\P (s::u)/\ja P v:=by
 induction h with
 |nil=>intro s w' h;simp at h
 |@app u v hu hv ih=>
  intro s w' h
  cases u with
  |nil=>exact ih s w' h
  |cons t u=>
   rw[gi,vv] at h;obtain ⟨rfl,rfl⟩:=h;exact ⟨u,v,rfl,hu,hv⟩
noncomputable def aN.good:aN->Prop
 |.rf s=>s≠cH
 |.sm p=>p.good
 |.gr a b | .ch a b | .il a b=>a.good/\b.good
 |_=>True
def It.good:It->Prop
 |.tx=>True
 |.nm l=>cH∉l
theorem aa5(hx:x.good)(w):L (aN.d x .tx) w<->∃s,mt s x=ak/\L .tx (s::w):=by
 cases x with
 |tx=>exact ⟨λh=>⟨cH,f0 _,gF.2 ⟨rfl,h⟩⟩,λh=>ar h λs U h=>(gF.1 h).2⟩
 |nm l=>exact ⟨gE,λh=>ar h λs h1 h2=>hx (h2 s dh▸gV.1 h1)⟩
theorem aa6(hp:t≠cH)(w):L (aN.d x (.rf t)) w<->∃s,mt s x=ak/\L (.rf t) (s::w):=by
 cases x with
 |tx=>exact ⟨gE,λh=>ar h λs h1 h2=>hp ((G1 h2).1.symm.trans (cq h1))⟩
 |nm l=>
  show L (match l.contains t with | true=>aN.em | false=>aN.nn) w<->∃s,l.contains s=ak/\s::w=[t]
  cases h:l.contains t
  .exact ⟨gE,λg=>ar g λs h1 h2=>aY (h.symm.trans ((G1 h2).1▸h1))⟩
  .exact ⟨λe=>⟨t,h,aE (t::·) e⟩,λg=>ar g λs U h=>List.tail_eq_of_cons_eq h⟩
section
variable {x:It}{a b da db:aN}{w:List aK}(Da:∀w,L da w<->∃s,mt s x=ak/\L a (s::w))(Db:∀w,L db w<->∃s,mt s x=ak/\L b (s::w))
include Da in
theorem aa7:L (.gr da (.ch (.sm a) .em)) w<->∃s,mt s x=ak/\L (.sm a) (s::w):=
 have st:∀v,ja (L a) v<->L (.ch (.sm a) .em) v:=λv=>⟨λh=>by
  cases h with
  |nil=>exact .inr rfl
  |app h6 h7=>exact .inl ⟨_,_,rfl,h6,h7⟩,λh=>h.elim (λh=>bX h λu v e h1 h2=>e▸ .app h1 h2) λe=>e▸ .nil⟩
 ⟨λh=>bX h λu v e h2 h3=>ar ((Da u).1 h2) λs h1 h2=>⟨s,h1,s::u,v,aE (s::·) e,h2,(st v).2 h3⟩,
  λh=>ar h λs h1 h=>bX h λu v e h2 h3=>(ahh.1 e).elim (λg=>bX (Er h3 s w g.2) λu' v' e' h4 h5=>⟨u',v',e',(Da u').2 ⟨s,h1,h4⟩,(st v').1 h5⟩)
   λg=>ar g λu' g1 g2=>⟨u',v,g2,(Da u').2 ⟨s,h1,g1▸h2⟩,(st v).1 h3⟩⟩
include Da Db
theorem aa8:(L (.gr da b) w\/(L a []/\L db w))<->∃s,mt s x=ak/\L (.gr a b) (s::w):=
 ⟨λh=>h.elim (λh=>bX h λu v e h2 h3=>ar ((Da u).1 h2) λs h1 h2=>⟨s,h1,s::u,v,aE (s::·) e,h2,h3⟩) λh=>ar ((Db w).1 h.2) λs h1 h3=>⟨s,h1,[],s::w,rfl,h.1,h3⟩,
  λh=>ar h λs h1 h=>bX h λu v e h2 h3=>(ahh.1 e).elim (λg=>.inr ⟨g.1▸h2,(Db w).2 ⟨s,h1,g.2▸h3⟩⟩) λg=>ar g λu' g1 g2=>.inl ⟨u',v,g2,(Da u').2 ⟨s,h1,g1▸h2⟩,h3⟩⟩
theorem aa9:(L (.il da b) w\/L (.il a db) w)<->∃s,mt s x=ak/\L (.il a b) (s::w):=
 ⟨λh=>h.elim (λh=>bX h λu v h1 h3 h4=>ar ((Da u).1 h3) λs h2 h3=>⟨s,h2,_,_,.l h1,h3,h4⟩) λh=>bX h λu v h1 h3 h4=>ar ((Db v).1 h4) λs h2 h4=>⟨s,h2,_,_,.r h1,h3,h4⟩,
  λh=>ar h λs h2 h=>bX h λu v h h3 h4=>(uA.1 h).elim (λg=>ar g λu' e h'=>.inl ⟨u',v,h',(Da u').2 ⟨s,h2,e▸h3⟩,h4⟩) λg=>ar g λv' e h'=>.inr ⟨u,v',h',h3,(Db v').2 ⟨s,h2,e▸h4⟩⟩⟩
end
theorem pA(x)(hx:x.good):∀p,p.good->∀w,(L (p.d x) w<->∃s,mt s x=ak/\L p (s::w))
 |.nn=>λU w=>⟨gE,λh=>ar h λU U h=>h⟩
 |.em=>λU w=>⟨gE,λh=>ar h λU U h=>qb _ _ h⟩
 |.tx=>λU w=>aa5 hx w
 |.rf t=>λhp w=>aa6 hp w
 |.ch a b=>λhp w=>(Eo _ _ w).trans ((or_congr (pA x hx a hp.1 w) (pA x hx b hp.2 w)).trans ⟨λh=>h.elim (λh=>ar h λs h1 h2=>⟨s,h1,.inl h2⟩) λh=>ar h λs h1 h2=>⟨s,h1,.inr h2⟩,
   λh=>ar h λs h1 h2=>h2.imp (λh2=>⟨s,h1,h2⟩) λh2=>⟨s,h1,h2⟩⟩)
 |.gr a b=>λhp w=>by
  refine Iff.trans ?_ (aa8 (pA x hx a hp.1) (pA x hx b hp.2));rw[<- mX];show L (match a.null with | true=>((a.d x).oS b).oX (b.d x) | false=>(a.d x).oS b) w<->_;cases h:a.null
  .exact (Ep _ _ _).trans ⟨.inl,λg=>g.elim id λg=>nomatch g.1⟩
  .exact (Eo _ _ _).trans (or_congr (Ep _ _ _) ⟨λg=>⟨rfl,g⟩,Ww⟩)
 |.il a b=>λhp w=>(Eo _ _ w).trans ((or_congr (IQ _ _ w) (IQ _ _ w)).trans (aa9 (pA x hx a hp.1) (pA x hx b hp.2)))
 |.sm a=>λhp w=>(Ep _ _ w).trans (aa7 (pA x hx a hp))
theorem lF:∀p w,L p.simple w<->L p w
 |.nn,w | .em,w | .tx,w | .rf _,w=>p5
 |.gr a b,w=>(Ep _ _ w).trans ⟨λh=>bX h λu v e h1 h2=>⟨u,v,e,(lF a u).1 h1,(lF b v).1 h2⟩,λh=>bX h λu v e h1 h2=>⟨u,v,e,(lF a u).2 h1,(lF b v).2 h2⟩⟩
 |.ch a b,w=>(Eo _ _ w).trans (or_congr (lF a w) (lF b w))
 |.il a b,w=>(IQ _ _ w).trans ⟨λh=>bX h λu v e h1 h2=>⟨u,v,e,(lF a u).1 h1,(lF b v).1 h2⟩,λh=>bX h λu v e h1 h2=>⟨u,v,e,(lF a u).2 h1,(lF b v).2 h2⟩⟩
 |.sm a,w=>by
  have hs:L (.sm a.simple) w<->L (.sm a) w:=⟨λh=>bX h λu v e h1 h2=>⟨u,v,e,(lF a u).1 h1,h2.mono λw=>(lF a w).1⟩,λh=>bX h λu v e h1 h2=>⟨u,v,e,(lF a u).2 h1,h2.mono λw=>(lF a w).2⟩⟩;rw[<- hs];refine Bp (C:=λp=>L p w<->L (.sm a.simple) w) a (λh=>⟨sp h,?_⟩) (λU h=>⟨λg=>⟨[],[],(mY h).1 g,(mY h).2 rfl,.nil⟩,?_⟩) λU U=>p5
  ·(intro bu;(refine bX bu ?_;clear bu;intro u v _ g _));exact sp h g
  .rintro ⟨u,v,rfl,e,g⟩
   refine (mY h).2 ?_;rw[(mY h).1 e];clear hs
   induction g with
   |nil=>rfl
   |app h1 U1 ih=>rw[(mY h).1 h1];exact ih
theorem Es{a b:aN}(ha:a.good)(hb:b.good):(a.oX b).good:=Bk (C:=aN.good) a b (λU=>hb) (λU U=>ha) (λU U U=>ha) λU U U=>⟨ha,hb⟩
theorem IR{a b:aN}(ha:a.good)(hb:b.good):(a.oS b).good:=ux (C:=aN.good) .gr a b (λU=>trivial) (λU U=>trivial) (λU U U=>hb) (λU U U U=>ha) λU U U U=>⟨ha,hb⟩
theorem IS{a b:aN}(ha:a.good)(hb:b.good):(a.tO b).good:=ux (C:=aN.good) .il a b (λU=>trivial) (λU U=>trivial) (λU U U=>hb) (λU U U U=>ha) λU U U U=>⟨ha,hb⟩
theorem sq:∀p:aN,p.good->p.simple.good
 |.nn,h | .em,h | .tx,h | .rf _,h=>h
 |.gr a b,h=>IR (sq a h.1) (sq b h.2)
 |.ch a b,h=>Es (sq a h.1) (sq b h.2)
 |.il a b,h=>IS (sq a h.1) (sq b h.2)
 |.sm a,h=>have g:=sq a h;Bp (C:=aN.good) a (λU=>g) (λU U=>g) λU U=>g
theorem sr(x):∀p:aN,p.good->(p.d x).good
 |.nn,h | .em,h=>trivial
 |.tx,h=>sj aN.good trivial trivial
 |.rf s,h=>sj aN.good trivial trivial
 |.gr a b,h=>have g:=IR (sr x a h.1) h.2;sj aN.good (Es g (sr x b h.2)) g
 |.ch a b,h=>Es (sr x a h.1) (sr x b h.2)
 |.il a b,h=>Es (IS (sr x a h.1) h.2) (IS h.1 (sr x b h.2))
 |.sm a,h=>IR (sr x a h) ⟨h,trivial⟩
noncomputable def su:List aK->List It->Prop
 |[],[]=>True
 |s::w,x::xs=>mt s x=ak/\su w xs
 |U1,U2=>False
theorem su.len:∀{w:List aK} {xs:List It},su w xs->w.length=xs.length
 |[],[]=>λU=>rfl
 |s::w,x::xs=>λh=>by simp[su.len h.2]
 |[],U1::U2=>λh=>h.elim
 |U1::U2,[]=>λh=>h.elim
theorem QY:∀xs p,(∀x∈xs,x.good)->p.good->∀w,(L (p.tM xs) w<->∃u,su u xs/\L p (u++w))
 |[]=>λp hx hp w=>by
  constructor
  .exact λh=>⟨[],trivial,h⟩
  ·(intro bu;(refine ar bu ?_;clear bu;intro u h1 h2))
   cases u with
   |nil=>exact h2
   |cons U1 U2=>exact h1.elim
 |x::xs=>λp hx hp w=>by
  show L ((p.d x).tM xs) w<->_;rw[QY xs (p.d x) (λy hy=>hx y (cJ _ hy)) (sr x p hp)];constructor
  ·(intro bu;(refine ar bu ?_;clear bu;intro u h1 h2))
   exact ar ((pA x (hx x dh) p hp _).1 h2) λs h3 h4=>⟨s::u,⟨h3,h1⟩,h4⟩
  ·(intro bu;(refine ar bu ?_;clear bu;intro u h1 h2))
   cases u with
   |nil=>exact h1.elim
   |cons s u=>exact ⟨u,h1.2,(pA x (hx x dh) p hp _).2 ⟨s,h1.1,h2⟩⟩
theorem IT(xs)(p)(hx:∀x∈xs,x.good)(hp:p.good)(w):L (p.run xs) w<->∃u,su u xs/\L p (u++w):=by
 show L (p.simple.tM xs) w<->_;rw[QY xs p.simple hx (sq p hp)];simp only[lF]
theorem aba(xs)(p)(hx:∀x∈xs,x.good)(hp:p.good):(p.run xs).null=ak<->∃u,su u xs/\L p u:=by
 rw[mX,IT xs p hx hp];simp only[eh]
noncomputable def aN.Ai:aN->Prop
 |.nn=>False
 |.sm p=>p.Ai
 |.gr a b | .ch a b | .il a b=>a.Ai/\b.Ai
 |_=>True
def aN.red(p:aN):Prop:=p=.nn\/p.Ai
theorem wc:∀p,p.Ai->∃w,L p w
 |.nn=>λh=>h.elim
 |.em=>λU=>⟨[],rfl⟩
 |.tx=>λU=>⟨[],λU h=>absurd h gU⟩
 |.rf s=>λU=>⟨[s],rfl⟩
 |.gr a b=>λh=>by
  refine a9 (wc a h.1) λu hu=>a9 (wc b h.2) λv hv=>?_;exact ⟨u++v,u,v,rfl,hu,hv⟩
 |.il a b=>λh=>by
  refine a9 (wc a h.1) λu hu=>a9 (wc b h.2) λv hv=>?_;exact ⟨u++v,u,v,qz u v,hu,hv⟩
 |.ch a b=>λh=>by
  exact a9 (wc a h.1) λu hu=>⟨u,.inl hu⟩
 |.sm a=>λh=>by
  exact a9 (wc a h) λu hu=>⟨u,u,[],by simp,hu,.nil⟩
theorem Et{a b:aN}(ha:a.red)(hb:b.red):(a.oX b).red:=Bk (C:=aN.red) a b (λU=>hb) (λU U=>ha) (λU U U=>ha) λh1 h2 U=>.inr ⟨ha.resolve_left (uw h1),hb.resolve_left (uw h2)⟩
theorem IU{a b:aN}(ha:a.red)(hb:b.red):(a.oS b).red:=ux (C:=aN.red) .gr a b (λU=>.inl rfl) (λU U=>.inl rfl) (λU U U=>hb) (λU U U U=>ha) λh1 h2 U U=>.inr ⟨ha.resolve_left (uw h1),hb.resolve_left (uw h2)⟩
theorem IV{a b:aN}(ha:a.red)(hb:b.red):(a.tO b).red:=ux (C:=aN.red) .il a b (λU=>.inl rfl) (λU U=>.inl rfl) (λU U U=>hb) (λU U U U=>ha) λh1 h2 U U=>.inr ⟨ha.resolve_left (uw h1),hb.resolve_left (uw h2)⟩
theorem uB:∀p:aN,p.simple.red
 |.nn=>.inl rfl
 |.em | .tx | .rf _=>.inr trivial
 |.gr a b=>IU (uB a) (uB b)
 |.ch a b=>Et (uB a) (uB b)
 |.il a b=>IV (uB a) (uB b)
 |.sm a=>have g:=uB a;Bp (C:=aN.red) a (λU=>g) (λU U=>g) λh U=>.inr (g.resolve_left (uw h))
theorem Eu{a:aN}(h:a.red)(e:a≠.nn):a.Ai:=h.resolve_left e
theorem sw(x):∀p:aN,p.red->(p.d x).red
 |.nn,h | .em,h=>.inl rfl
 |.tx,h=>sj aN.red (.inr trivial) (.inl rfl)
 |.rf s,h=>sj aN.red (.inr trivial) (.inl rfl)
 |.gr a b,h=>
  have h:=Eu h aN.noConfusion;have g:=IU (sw x a (.inr h.1)) (.inr h.2)
  sj aN.red (Et g (sw x b (.inr h.2))) g
 |.ch a b,h=>have h:=Eu h aN.noConfusion;Et (sw x a (.inr h.1)) (sw x b (.inr h.2))
 |.il a b,h=>have h:=Eu h aN.noConfusion;Et (IV (sw x a (.inr h.1)) (.inr h.2)) (IV (.inr h.1) (sw x b (.inr h.2)))
 |.sm a,h=>have h:=Eu h aN.noConfusion;IU (sw x a (.inr h)) (.inr ⟨h,trivial⟩)
theorem QZ:∀xs (p:aN),p.red->(p.tM xs).red
 |[]=>λp h=>h
 |x::xs=>λp h=>QZ xs (p.d x) (sw x p h)
theorem abb(h:p.red):(!p.dR)=ak<->∃w,L p w:=by
 constructor
 .exact λhn=>wc p (h.resolve_left (uw (k9 _▸hn)))
 ·(intro bu;(refine a9 bu ?_;clear bu;intro w hw))
  cases e:p.dR
  .rfl
  .exact sp e hw
theorem abc(xs)(p)(x)(hx:∀y∈xs,y.good)(d9:x.good)(hp:p.good) :
  (!((p.run xs).d x).dR)=ak<->∃u s w,su u xs/\mt s x=ak/\L p (u++s::w):=by
 rw[abb (p:=(p.run xs).d x) (sw x _ (QZ xs _ (uB p)))]
 have hg:(p.run xs).good:=by
  show (p.simple.tM xs).good
  have:∀ys (q:aN),q.good->(q.tM ys).good:=by
   intro ys
   induction ys with
   |nil=>exact λq h=>h
   |cons y ys ih=>exact λq h=>ih _ (sr y q h)
  exact this xs _ (sq p hp)
 constructor
 ·(intro bu;(refine a9 bu ?_;clear bu;intro w hw))
  refine ar ((pA x d9 _ hg w).1 hw) λs h1 h2=>ar ((IT xs p hx hp _).1 h2) λu h3 h4=>?_;exact ⟨u,s,w,h3,h1,h4⟩
 ·(intro bu;(refine kJ bu ?_;clear bu;intro u s w h3 h1 h4))
  exact ⟨w,(pA x d9 _ hg w).2 ⟨s,h1,(IT xs p hx hp _).2 ⟨u,h3,h4⟩⟩⟩
def kf(p)(k m):=∀u v,u.length=k->L p (u++v)->∃v',L p (u++v')/\k+v'.length<=m
structure Bd(p:aN)(a b c:Nat):Prop where
 e0:kf p 0 a
 e1:kf p 1 b
 e2:kf p 2 c
theorem kf.zero(h:kf p 0 m)(hw:L p w):∃v,L p v/\v.length<=m:=by
 exact ar (h [] w rfl hw) λv h1 h2=>⟨v,h1,by lia⟩
theorem kf.one(h:kf p 1 m)(hw:L p (s::w)):∃v,L p (s::v)/\v.length+1<=m:=by
 exact ar (h [s] w rfl hw) λv h1 h2=>⟨v,h1,by lia⟩
theorem kf.two(h:kf p 2 m)(hw:L p (s::t::w)):∃v,L p (s::t::v)/\v.length+2<=m:=by
 exact ar (h [s,t] w rfl hw) λv h1 h2=>⟨v,h1,by lia⟩
theorem wd(h:∀w,L p w->∃v,L p v/\v.length<=m):kf p 0 m:=by
 intro u v hu hw;obtain rfl:=Mb.1 hu;exact ar (h _ hw) λv' h1 h2=>⟨v',h1,by lia⟩
theorem we(h:∀s w,L p (s::w)->∃v,L p (s::v)/\v.length+1<=m):kf p 1 m:=by
 intro u v hu hw;obtain ⟨s,rfl⟩:=Ad.1 hu;exact ar (h s _ hw) λv' h1 h2=>⟨v',h1,by lia⟩
theorem wf(h:∀s t w,L p (s::t::w)->∃v,L p (s::t::v)/\v.length+2<=m):kf p 2 m:=by
 intro u v hu hw
 cases u with
 |nil=>cases hu
 |cons s u=>cases u with
  |nil=>(injection hu with hu;cases hu)
  |cons t u=>
   rw[xt (Wm (Wm hu))] at hw ⊢;exact ar (h s t _ hw) λv' h1 h2=>⟨v',h1,kZ 2 _▸h2⟩
theorem abd(ha:Bd a a0 a1 a2)(hb:Bd b b0 b1 b2)(h0:a0+b0<=c0)(h1:a1+b0<=c1)(jM:b1<=c1)(h2:a2+b0<=c2)(mq:1+b1<=c2)(FB:b2<=c2):Bd (.gr a b) c0 c1 c2:=by
 refine ⟨wd ?_,we ?_,wf ?_⟩
 .rintro w ⟨x,y,-,hx,hy⟩
  refine ar (ha.e0.zero hx) λx' d9 lx=>ar (hb.e0.zero hy) λy' ib ly=>?_;exact ⟨x'++y',⟨x',y',rfl,d9,ib⟩,by rw[bJ];lia⟩
 ·(intro s w Ck;refine bX Ck λx y e hx hy=>?_)
  cases x with
  |nil=>
   rw[oO] at e;subst e;exact ar (hb.e1.one hy) λv hv lv=>⟨v,⟨[],_,rfl,hx,hv⟩,by exact aB ‹_› ‹_›⟩
  |cons s' x=>
   rw[gi,vv] at e;obtain ⟨rfl,rfl⟩:=e;refine ar (ha.e1.one hx) λx' d9 lx=>ar (hb.e0.zero hy) λy' ib ly=>?_;exact ⟨x'++y',⟨s::x',y',rfl,d9,ib⟩,by rw[bJ];lia⟩
 ·(intro s t w wY;refine bX wY λx y e hx hy=>?_)
  match x,e,hx with
  |[],e,hx=>
   rw[oO] at e;subst e;exact ar (hb.e2.two hy) λv hv lv=>⟨v,⟨[],_,rfl,hx,hv⟩,by exact aB ‹_› ‹_›⟩
  |[s'],e,hx=>
   rw[gi,oO,vv] at e;obtain ⟨rfl,rfl⟩:=e;exact ar (hb.e1.one hy) λv hv lv=>⟨v,⟨[s],_,rfl,hx,hv⟩,by lia⟩
  |s'::t'::x,e,hx=>
   rw[gi,gi,vv,vv] at e;obtain ⟨rfl,rfl,rfl⟩:=e;refine ar (ha.e2.two hx) λx' d9 lx=>ar (hb.e0.zero hy) λy' ib ly=>?_;exact ⟨x'++y',⟨s::t::x',y',rfl,d9,ib⟩,by rw[bJ];lia⟩
theorem IX(ha:Bd a c0 c1 c2)(hb:Bd b c0 c1 c2):Bd (.ch a b) c0 c1 c2:=by
 have:∀k m,kf a k m->kf b k m->kf (.ch a b) k m:=by
  rintro k m h1 h2 u v hu (h | h)
  .exact ar (h1 u v hu h) λv' h3 h4=>⟨v',.inl h3,h4⟩
  .exact ar (h2 u v hu h) λv' h3 h4=>⟨v',.inr h3,h4⟩
 exact ⟨this _ _ ha.e0 hb.e0,this _ _ ha.e1 hb.e1,this _ _ ha.e2 hb.e2⟩
theorem abe(ha:Bd a a0 a1 a2)(hb:Bd b b0 b1 b2)(h0:a0+b0<=c0)(h1:a1+b0<=c1)(jM:a0+b1<=c1)(h2:a2+b0<=c2)(mq:a1+b1<=c2)(FB:a0+b2<=c2):Bd (.il a b) c0 c1 c2:=by
 refine ⟨wd ?_,we ?_,wf ?_⟩
 .rintro w ⟨x,y,-,hx,hy⟩
  refine ar (ha.e0.zero hx) λx' d9 lx=>ar (hb.e0.zero hy) λy' ib ly=>?_;exact ⟨x'++y',⟨x',y',qz _ _,d9,ib⟩,by rw[bJ];exact aB (jh lx ly) h0⟩
 ·(intro s w Ck;refine bX Ck λx y e hx hy=>?_)
  rcases uA.1 e with ⟨x,rfl,e⟩ | ⟨y,rfl,e⟩
  .refine ar (ha.e1.one hx) λx' d9 lx=>ar (hb.e0.zero hy) λy' ib ly=>?_;exact ⟨x'++y',⟨_,_,.l (qz _ _),d9,ib⟩,by rw[bJ];exact C5 lx ly h1⟩
  .refine ar (ha.e0.zero hx) λx' d9 lx=>ar (hb.e1.one hy) λy' ib ly=>?_;exact ⟨x'++y',⟨_,_,.r (qz _ _),d9,ib⟩,by rw[bJ];exact Mv lx ly jM⟩
 ·(intro s t w wY;refine bX wY λx y e hx hy=>?_)
  rcases uA.1 e with ⟨x,rfl,e1⟩ | ⟨y,rfl,e1⟩
  .rcases uA.1 e1 with ⟨x,rfl,e⟩ | ⟨y,rfl,e⟩
   .refine ar (ha.e2.two hx) λx' d9 lx=>ar (hb.e0.zero hy) λy' ib ly=>?_;exact ⟨x'++y',⟨_,_,.l (.l (qz _ _)),d9,ib⟩,by rw[bJ];exact C5 lx ly h2⟩
   .refine ar (ha.e1.one hx) λx' d9 lx=>ar (hb.e1.one hy) λy' ib ly=>?_;exact ⟨x'++y',⟨_,_,.l (.r (qz _ _)),d9,ib⟩,by rw[bJ];exact C5 (k:=1) (y:=y'.length+1) lx ly mq⟩
  .rcases uA.1 e1 with ⟨x,rfl,e⟩ | ⟨y,rfl,e⟩
   .refine ar (ha.e1.one hx) λx' d9 lx=>ar (hb.e1.one hy) λy' ib ly=>?_;exact ⟨x'++y',⟨_,_,.r (.l (qz _ _)),d9,ib⟩,by rw[bJ];exact C5 (k:=1) (y:=y'.length+1) lx ly mq⟩
   .refine ar (ha.e0.zero hx) λx' d9 lx=>ar (hb.e2.two hy) λy' ib ly=>?_;exact ⟨x'++y',⟨_,_,.r (.r (qz _ _)),d9,ib⟩,by rw[bJ];exact Mv lx ly FB⟩
theorem Q0(h:L (.sm a) (s::w)):∃u v,w=u++v/\L a (s::u)/\ja (L a) v:=by
 refine bX h λu v e hu hv=>?_
 cases u with
 |nil=>exact Er hv s w e.symm
 |cons t u=>
  rw[gi,vv] at e;obtain ⟨rfl,rfl⟩:=e;exact ⟨u,v,rfl,hu,hv⟩
theorem Q1(ha:Bd a a0 a1 a2)(h2:a2<=c2)(mq:1+a1<=c2):Bd (.sm a) a0 a1 c2:=by
 have one:∀{w},L a w->L (.sm a) w:=λ{w} h=>⟨w,[],(eh w).symm,h,.nil⟩;refine ⟨wd ?_,we ?_,wf ?_⟩
 .rintro w ⟨x,y,-,hx,hy⟩
  exact ar (ha.e0.zero hx) λx' d9 lx=>⟨x',one d9,lx⟩
 .intro s w h;(refine bX (Q0 h) λu v av hu cI=>?_;clear cI);exact ar (ha.e1.one hu) λx' d9 lx=>⟨x',one d9,lx⟩
 .refine λs t w h=>bX (Q0 h) λu v e hu hv=>?_
  cases u with
  |nil=>
   rw[oO] at e;(refine bX (Er hv t w e.symm) λu' v' av oE cI=>?_;clear cI);exact ar (ha.e1.one oE) λx' d9 lx=>⟨x',⟨[s],t::x',rfl,hu,(by have:=ja.app d9 ja.nil;rwa [eh] at this)⟩,by lia⟩
  |cons t' u=>
   rw[gi,vv] at e;obtain ⟨rfl,rfl⟩:=e;exact ar (ha.e2.two hu) λx' d9 lx=>⟨x',one d9,by exact aB ‹_› ‹_›⟩
theorem Bd.mono(h:Bd p a b c)(ha:a<=a')(hb:b<=b')(hc:c<=c'):Bd p a' b' c':=by
 have:∀k m m',m<=m'->kf p k m->kf p k m':=λk m m' hm h u v hu hv=>by
  exact ar (h u v hu hv) λv' h1 h2=>⟨v',h1,by exact aB ‹_› ‹_›⟩
 exact ⟨this _ _ _ ha h.e0,this _ _ _ hb h.e1,this _ _ _ hc h.e2⟩
theorem Ev(s):Bd (.rf s) 1 1 2:=
 ⟨wd λw h=>⟨w,h,(h:w=[s])▸aV 1⟩,we λt w h=>⟨w,h,(G1 (h:t::w=[s])).2▸aV 1⟩,wf λt u w h=>absurd (G1 (h:t::u::w=[s])).2 (qb _ _)⟩
theorem abf:Bd .tx 1 1 2:=
 ⟨wd λw h=>⟨[],λU h=>absurd h gU,bW _⟩,we λt w h=>⟨[],λs g=>h s (cD.2 (.inl (en.1 g))),aV 1⟩,
  wf λt u w h=>⟨[],λs g=>h s ((cD.1 g).elim (λe=>e▸dh) λg=>cJ _ (cD.2 (.inl (en.1 g)))),aV 2⟩⟩
theorem Q2:Bd .em 0 0 0:=
 ⟨wd λw h=>⟨[],rfl,aV 0⟩,we λt w h=>absurd (h:t::w=[]) (qb _ _),wf λt u w h=>absurd (h:t::u::w=[]) (qb _ _)⟩
theorem abg:Bd .nn 0 0 0:=
 ⟨wd λw h=>h.elim,we λt w h=>h.elim,wf λt u w h=>h.elim⟩
noncomputable def sA:aK:=[97]
noncomputable def sB:aK:=[98,55]
def hY:List aK:=[sA,sB,cH]
noncomputable def wV(w:List aK):V:=.tup (w.map .str)
def tV(a u v:List aK):V:=.tup [wV a,wV u,wV v]
def fx(w:List aK):Prop:=∀s∈w,s∈hY
noncomputable def IY:Nat->List (List aK)
 |0=>[[]]
 |n+1=>(IY n).flatMap λw=>hY.map (·::w)
theorem Q3:∀{w:List aK},fx w->w∈IY w.length
 |[]=>λU=>dh
 |s::w=>λh=>by
  exact WB.2 ⟨w,Q3 λt ht=>h t (cJ _ ht),eV.2 ⟨s,h s dh,rfl⟩⟩
def W4:=(fk 5).flatMap IY
theorem Q4(h:fx w)(hl:w.length<=4):w∈W4:=by
 simp only[W4,WB,mr];exact ⟨w.length,by lia,Q3 h⟩
theorem abh:W4.length=121:=by decide +kernel
def T4:=W4.flatMap λw=>(fk (w.length+1)).flatMap λi=>(fk (i+1)).map λj=>(w.take j,(w.take i).drop j,w.drop i)
theorem abi:T4.length=1549:=by decide +kernel
def Ew(x):=∃w,x=wV w/\w.length<=4/\fx w
def IsT(x):=∃a u v,x=tV a u v/\a.length+u.length+v.length<=4/\fx a/\fx u/\fx v
theorem Bs:∀l:List aK,qe (l.map .str)=ak
 |[]=>rfl
 |U1::l=>Bs l
theorem dW(w):dm (wV w)<=4:=cr (aB (ec (Bm w)) (bW 3))
theorem Q5{l:af}(hn:l.Nodup)(h:∀x∈l,Ew x):l.length<=121:=by
 have:=yC (m:=W4.map wV) hn λx hx=>by
  (refine bx (h x hx) λw av h1 h2=>?_;subst av);exact Mc (Q4 h2 h1)
 rwa [ed,abh] at this
theorem len_T{l:af}(hn:l.Nodup)(h:∀x∈l,IsT x):l.length<=1549:=by
 have:=yC (m:=T4.map λt=>tV t.1 t.2.1 t.2.2) hn λx hx=>by
  (refine mH (h x hx) λa u v av h1 h2 h3 h4=>?_;subst av)
  exact eV.2 ⟨(a,u,v),(by
    simp only[T4,WB,eV,mr];refine ⟨a++(u++v),Q4 ?_ ?_,a.length+u.length,?_,a.length,?_,?_⟩
    .intro s hs;rw[dZ,dZ] at hs
     rcases hs with h | h | h
     .exact h2 s h
     .exact h3 s h
     .exact h4 s h
    .simp only[bJ];lia
    .simp only[bJ];lia
    .lia
    .have h1:(a++(u++v)).take (a.length+u.length)=a++u:=by
      rw[<- b8,<- bJ,WC]
     have h2q:(a++(u++v)).drop (a.length+u.length)=v:=by
      rw[<- b8,<- bJ,GD]
     rw[h1,h2q,WC,GD]),rfl⟩
 rwa [ed,abi] at this
theorem Q6(h:∀x∈l,Ew x):dO ak l=ak:=by
 have h1:=Q5 (qv l) λx hx=>h x (kQ.1 hx);simp only[dO,if_true,fM,eE,nz,kK];exact ⟨λx hx=>by (refine ar (h x hx) λw av az=>?_;subst av;clear az);exact (dM.2 ⟨Bs w,eP (eU (dW w))⟩),eP (aB h1 (show 121<=2000 by decide))⟩
theorem IZ(h:∀x∈l,IsT x):dO ak l=ak:=by
 have h1:=len_T (qv l) λx hx=>h x (kQ.1 hx);simp only[dO,if_true,fM,eE,nz,kK];exact ⟨λx hx=>by (refine tS (h x hx) λa u v av az=>?_;subst av;clear az);exact (dM.2 ⟨dM.2 ⟨Bs a,dM.2 ⟨Bs u,dM.2 ⟨Bs v,rfl⟩⟩⟩,eP (cr (g9.2 ⟨dW a,g9.2 ⟨dW u,g9.2 ⟨dW v,bW _⟩⟩⟩))⟩),eP (aB h1 (show 1549<=2000 by decide))⟩
theorem Q7(us vs)(f:V->V->V)(ok:V->V->Bool)
  (h1:∀Q:af->Pz->Prop,(∀l,l.Perm us->Q l am)->IW (CW n) bB it (ρ.map im++cU k Sl.un) am Q False)
  (h2:∀x∈us,∀z Q,(∀l,l.Perm vs->Q l am)->IW (CW n) bB fE (((ρ.map im++cU k Sl.un).set j z).set i (.v x)) am Q False)
  (h3:∀x∈us,∀y∈vs,TW (CW n) bB [xM] (((ρ.map im++cU k Sl.un).set j (.v y)).set i (.v x)) am (λb σ=>if b=ak then EW (CW n) bB elt (((ρ.map im++cU k Sl.un).set j (.v y)).set i (.v x)) σ (λv σ=>σ=am/\aj v=gy (ok x y) (f x y)) False else σ=am/\am=gy (ok x y) (f x y)) False)
  (zA:i≠j) (hr:ρ.map im++cU k Sl.un=((ρ.map im++cU k Sl.un).set j .un).set i .un) (sV:∀l:af,(∀z∈l,∃x∈us,∃y∈vs,aj z=gy (ok x y) (f x y))->dO ak l=ak) :
  yD n (.comp ak elt k [.mk (.one i) it [],.mk (.one j) fE [xM]]) ρ (λr:af=>r.Nodup/\∀z,z∈r<->∃x∈us,∃y∈vs,aj z=gy (ok x y) (f x y)) .set:=λQ hq=>by
 show GW (CW n) bB _ _ _ _ _ _;generalize ρ.map im++cU k Sl.un=r at *
 have inner:∀x∈us,∀K ys (z:Sl) (acc:af),(∀y∈ys,y∈vs)->(∀z∈acc,∃x∈us,∃y∈vs,aj z=gy (ok x y) (f x y))->
   (∀z kX,(∀z∈kX,∃x∈us,∃y∈vs,aj z=gy (ok x y) (f x y))->(∀w∈acc,w∈kX)->(∀y∈ys,∀w,aj w=gy (ok x y) (f x y)->w∈kX)->K ⟨(r.set j z).set i (.v x),am,kX⟩)->
   mM (λx dv gK=>gM (.one j) x dv.ρ λbt=>TW (CW n) bB [xM] bt dv.σ (λb cC=>if b=ak then GW (CW n) bB (dO ak) (EW (CW n) bB elt) [] ⟨bt,cC,dv.acc⟩ gK False else gK ⟨bt,cC,dv.acc⟩) False) ys ⟨(r.set j z).set i (.v x),am,acc⟩ K:=by
  intro x hx K ys
  induction ys with
  |nil=>exact λz acc U hg h=>h z acc hg (λU h=>h) λU h=>nomatch (h)
  |cons y ys ih=>
   intro z acc hy hg h;have e:((r.set j z).set i (.v x)).set j (.v y)=(r.set j (.v y)).set i (.v x):=by rw[Wz _ _ zA,GZ]
   have ih:=λkX g1 (g2:∀w∈acc,w∈kX) (g3:∀w,aj w=gy (ok x y) (f x y)->w∈kX)=>ih (.v y) kX (λy h=>hy y (cJ _ h)) g1 λz Kj k1 k2 k3=>h z Kj k1 (λw hw=>k2 w (g2 w hw)) λy' ib w hw=>(cD.1 ib).elim (λe=>k2 w (g3 w (e▸hw))) λib=>k3 y' ib w hw;show TW (CW n) bB [xM] (((r.set j z).set i (.v x)).set j (.v y)) _ _ _;rw[e];refine DM (hW n) _ _ _ _ _ _ _ (λb ay=>rU (λhv=>du (hW n) elt _ _ _ _ _ _ (λv ad2 hv=>?_) id hv) λhv=>?_) id (h3 x hx y (hy y dh))
   .rw[hv.1];have Uz:∀z∈acc++[v],∃x∈us,∃y∈vs,aj z=gy (ok x y) (f x y):=λw hw=>(dZ.1 hw).elim (hg w) λhw=>⟨x,hx,y,hy y dh,en.1 hw▸hv.2⟩;exact ⟨sV _ Uz,ih _ Uz (λw hw=>my _ hw) λw hw=>nw _ (en.2 (aZ (hw.trans hv.2.symm)))⟩
   .rw[hv.1];exact ih acc hg (λU h=>h) λw hw=>nomatch hw.trans hv.2.symm
 have outer:∀(xs:af) (y z:Sl) (acc:af),(∀x∈xs,x∈us)->(∀z∈acc,∃x∈us,∃y∈vs,aj z=gy (ok x y) (f x y))->
   (∀kX,(∀z∈kX,∃x∈us,∃y∈vs,aj z=gy (ok x y) (f x y))->(∀w∈acc,w∈kX)->(∀x∈xs,∀y∈vs,∀w,aj w=gy (ok x y) (f x y)->w∈kX)->Q (.set (eH kX)) am)->
   mM (λx dv gK=>gM (.one i) x dv.ρ λbt=>TW (CW n) bB [] bt dv.σ (λb cC=>if b=ak then GW (CW n) bB (dO ak) (EW (CW n) bB elt) [.mk (.one j) fE [xM]] ⟨bt,cC,dv.acc⟩ gK False else gK ⟨bt,cC,dv.acc⟩) False) xs ⟨(r.set j z).set i y,am,acc⟩ (λc=>Q (nJ ak c.acc) c.σ):=by
  intro xs
  induction xs with
  |nil=>exact λy z acc U hg h=>h acc hg (λU h=>h) λU h=>nomatch (h)
  |cons x xs ih=>
   intro y z acc hx hg h;show IW (CW n) bB fE (((r.set j z).set i y).set i (.v x)) _ _ _;rw[GZ];refine h2 x (hx x dh) z _ λl hl=>inner x (hx x dh) _ l z acc (λy h=>hl.mem_iff.1 h) hg λz' kX k1 k2 k3=>ih _ z' kX (λx h=>hx x (cJ _ h)) k1 λKj m1 m2 m3=>h Kj m1 (λw hw=>m2 w (k2 w hw)) λx' d9 y hy w hw=>?_
   rcases cD.1 d9 with rfl | d9
   .exact m2 w (k3 y (hl.mem_iff.2 hy) w hw)
   .exact m3 x' d9 y hy w hw
 refine h1 _ λl hl=>?_;have:=outer l .un .un [] (λx h=>hl.mem_iff.1 h) (λU h=>nomatch (h)) λkX k1 U k3=>hq _ ⟨qv _,λz=>kQ.trans ⟨k1 z,λ⟨x,hx,y,hy,e⟩=>k3 x (hl.mem_iff.2 hx) y hy z e⟩⟩;rw[<- hr] at this;exact this
structure cv(r:af)(P:List aK->Prop):Prop where
 gn:r.Nodup
 mem:∀x,x∈r<->∃w,x=wV w/\w.length<=4/\P w
 al:∀w,P w->fx w
theorem cv.C3(h:cv r P)(hx:x∈r):Ew x:=by
 exact bx ((h.mem x).1 hx) λw e h1 h2=>⟨w,e,h1,h.al w h2⟩
theorem cv.len(h:cv r P):r.length<=121:=Q5 h.gn λU hx=>h.C3 hx
theorem cv.congr(h:cv r P)(e:∀w,w.length<=4->(P w<->R w))(al:∀w,R w->fx w):cv r R:=
 ⟨h.gn,λx=>by
  rw[h.mem];constructor
  ·(intro bu;refine bx bu λw h1 h2 h3=>?_);exact ⟨w,h1,h2,(e w h2).1 h3⟩
  ·(intro bu;refine bx bu λw h1 h2 h3=>?_);exact ⟨w,h1,h2,(e w h2).2 h3⟩,al⟩
theorem Ex(w):fX "len" [wV w]=aj (.int w.length):=by
 show aj (V.int ((w.map V.str).length:Int))=_;rw[ed]
theorem Bt(u v):jU .add (wV u) (wV v)=aj (wV (u++v)):=by
 show aj (V.tup (u.map V.str++v.map V.str))=aj (V.tup ((u++v).map V.str));rw[L8]
theorem Q8(w)(h:w.length<=100000):cz (wV w)=ak:=eP (show (w.map V.str).length<=100000 by rw[ed];exact h)
theorem add_int(a b):jU .add (.int a) (.int b)=aj (.int (a+b)):=rfl
theorem Bu(i)(h:i.natAbs<=100000):cz (.int i)=ak:=eP h
theorem uC(k m:Nat)(h:k<=m)(hm:m<=100000:=by decide):cz (.int (k:Int))=ak:=Bu _ (aB h hm)
theorem Q9{k m:Nat}(h:k<m)(hm:m<=100000:=by decide):cz (.int (k:Int))=ak:=uC _ _ (gc h) hm
theorem I0(n k:Nat):qf n (k:Int)=min k n:=by
 refine (aE WD (if_neg (Gp.2 (CH k)))).trans ?_
 rcases ahi k n with h | h
 .rw[afP (zY.2 h),Gy h];rfl
 .rw[Int.min_eq_right (zY.2 h),ahj h];rfl
theorem yK(h:k<=n):qf n (k:Int)=k:=(I0 n k).trans (Gy h)
theorem abj(a:Int):(max a 0).toNat=a.toNat:=(Int.le_total a 0).elim (λh=>by rw[afT h,Int.toNat_of_nonpos h];rfl) λh=>by rw[Int.max_eq_left h]
theorem Ra(n k):qf n (-((k+1:Nat):Int))=n-(k+1):=
 (aE WD (bw (Int.negSucc_lt_zero k))).trans ((abj _).trans ((aE WD (Int.add_comm _ _)).trans (afX n (k+1))))
theorem le_int(a b):cy .le (.int a) (.int b)=aj (decide (a<=b)):=rfl
def yL(P R:List aK->Prop)(w):=∃u v,w=u++v/\P u/\R v
theorem sy(hu:fx u)(hv:fx v):fx (u++v):=by
 intro s hs;rw[dZ] at hs;rcases hs with h | h
 .exact hu s h
 .exact hv s h
theorem yL.al(hp:∀w,P w->fx w)(hr:∀w,R w->fx w)(w)(h:yL P R w):fx w:=by
 (refine bX h λu v av h1 h2=>?_;subst av);exact sy (hp u h1) (hr v h2)
noncomputable def kg(v:V):=match v with
 |.tup l=>l.length
 |_=>0
theorem jp(w):kg (wV w)=w.length:=ed _
def qA(x y):=decide (kg x+kg y<=4)
def Ey(x y):=(jU .add x y).getD .none
theorem Ez(u v):Ey (wV u) (wV v)=wV (u++v):=aE (·.getD .none) (Bt u v)
theorem EA(h:aj z=gy b v):b=ak/\z=v:=by
 cases b with
 |true=>exact ⟨rfl,aZ h⟩
 |false=>cases h
theorem Ok.xM{e:Prop}{p q:Prop}(u v:List aK)(hu:u.length<=4)(hv:v.length<=4)(h1:qA (wV u) (wV v)=ak->Ok n e t p)(h2:qA (wV u) (wV v)=ap->Ok n e u' q) :
  Ok n e (.o (.int u.length) (.o (.int v.length) (.o (.int (u.length+v.length:Nat)) (.b (qA (wV u) (wV v)) (.s t u'))))) (fX "len" [wV u]=aj (.int u.length)/\fX "len" [wV v]=aj (.int v.length)/\jU .add (.int u.length) (.int v.length)=aj (.int (u.length+v.length:Nat))/\cz (.int (u.length+v.length:Nat))=ak/\
   cy .le (.int (u.length+v.length:Nat)) (.int 4)=aj (qA (wV u) (wV v))/\(qA (wV u) (wV v)=ak->p)/\(qA (wV u) (wV v)=ap->q)):=
 ⟨Ex u,Ex v,rfl,uC _ 8 (jh hu hv),aE aj (decide_eq_decide.2 (by rw[jp,jp];exact zY)),h1,h2⟩
theorem abk(hu:cv us P)(hv:cv vs R)(n):yD n (.comp ak (.bin .add (.var 2) (.var 3)) 2 [(.mk (.one 2) (.e (.var 0)) []),(.mk (.one 3) (.e (.var 1)) [(.cmp .le (.bin .add (.bi "len" [(.var 2)]) (.bi "len" [(.var 3)])) (.aR (.int 4)))])]) [.v (.set us),.v (.set vs)]
  (λr:af=>r.Nodup/\∀z,z∈r<->∃x∈us,∃y∈vs,aj z=gy (qA x y) (Ey x y)) .set:=by
 refine Q7 us vs Ey qA (λQ h=>yI (.w λl hl=>.fin (h l hl)) (by kernel_rfl)) (λx U z Q h=>yI (.w λl hl=>.fin (h l hl)) (by kernel_rfl)) (λx hx y hy=>?_) (by decide) rfl λl hl=>Q6 λz hz=>?_
 ·(refine bx ((hu.mem x).1 hx) λu av lu cI=>?_;subst av;clear cI);(refine bx ((hv.mem y).1 hy) λv av lv cI=>?_;subst av;clear cI);exact QH (.xM u v lu lv (λh=>.g (v:=Ey (wV u) (wV v)) rfl (by rw[Ez];exact Q8 _ (by rw[bJ];lia)) (.ft (n8 h))) λh=>.fn (n9 h)) (by kernel_rfl)
 ·(refine ar (hl z hz) λx hx zr=>?_;obtain ⟨y,hy,e⟩:=zr);(refine bx (hu.C3 hx) λu av lu oE=>?_;subst av);(refine bx (hv.C3 hy) λv av lv qR=>?_;subst av);obtain ⟨e1,rfl⟩:=EA e;exact ⟨u++v,Ez u v,by have:=eT e1;rw[jp,jp] at this;rw[bJ];exact this,sy oE qR⟩
theorem I1(hu:cv us P)(hv:cv vs R)(n):n7 (n+1) "_law_cat" [.set us,.set vs] (λr=>cv r (yL P R)) .set:=λQ X hq=>
 bz (.ac (abk hu hv n) λr hr=>.fin (hq r ⟨hr.1,λz=>(hr.2 z).trans ⟨λh=>by
  refine ar h λx hx zr=>?_;refine ar zr λy hy e=>?_;(refine bx ((hu.mem x).1 hx) λu av lu oE=>?_;subst av);(refine bx ((hv.mem y).1 hy) λv av lv qR=>?_;subst av);obtain ⟨e1,rfl⟩:=EA e;exact ⟨u++v,Ez u v,by have:=eT e1;rw[jp,jp] at this;rw[bJ];exact this,u,v,rfl,oE,qR⟩,λh=>by
  refine bx h λw e lw zr=>bX zr λu v e' oE qR=>?_;subst e e';rw[bJ] at lw;exact ⟨wV u,(hu.mem _).2 ⟨u,rfl,aB (dH _ _) lw,oE⟩,wV v,(hv.mem _).2 ⟨v,rfl,aB (ms _ _) lw,qR⟩,Ez u v▸n8 (eP (by rw[jp,jp];exact lw))⟩⟩,yL.al hu.al hv.al⟩))
theorem I2:x∈bI a b<->x∈a\/x∈b:=by
 unfold bI;rw[dZ,iH]
 by_cases c:x∈a
 .exact ⟨λU=>.inl c,λU=>.inl c⟩
 .exact or_congr p5 ⟨WE,λh=>⟨h,by rw[k9,ny];exact λe=>c (gV.1 e)⟩⟩
theorem I3(ha:a.Nodup)(hb:b.Nodup):(bI a b).Nodup/\∀x,x∈bI a b<->x∈a\/x∈b:=by
 refine ⟨zQ.2 ⟨ha,hb.filter _,λx hx y hy e=>?_⟩,λx=>I2⟩;have:=(iH.1 hy).2;rw[<- e,k9,ny] at this;exact this (gV.2 hx)
theorem wg(ha:cv a P)(hb:cv b R):cv (bI a b) (λw=>P w\/R w):=
 have h:=I3 ha.gn hb.gn
 ⟨h.1,λx=>(h.2 x).trans ⟨λg=>g.elim (λg=>bx ((ha.mem x).1 g) λw h1 h2 h3=>⟨w,h1,h2,.inl h3⟩) λg=>bx ((hb.mem x).1 g) λw h1 h2 h3=>⟨w,h1,h2,.inr h3⟩,
  λ⟨w,h1,h2,h3⟩=>h3.imp (λh3=>(ha.mem x).2 ⟨w,h1,h2,h3⟩) λh3=>(hb.mem x).2 ⟨w,h1,h2,h3⟩⟩,λw h=>h.elim (ha.al w) (hb.al w)⟩
theorem Ok.un{e:Prop}{q:Prop}{a b:af}(h:cv (bI a b) P)(r:Ok n e t q):Ok n e (.o (.set (bI a b)) t) (jU .bor (.set a) (.set b)=aj (.set (bI a b))/\cz (.set (bI a b))=ak/\q):=
 ⟨bw (eP (aB h.len (show 121<=kK by decide))),eP (aB h.len (show 121<=100000 by decide)),r⟩
def EB(P R:List aK->Prop)(w):=∃u v,jb u v w/\P u/\R v
theorem EB.al(hp:∀w,P w->fx w)(hr:∀w,R w->fx w)(w)(h:EB P R w):fx w:=by
 (refine bX h ?_;clear h;intro u v h0 h1 h2);intro s hs
 rcases (QX h0 s).1 hs with h | h
 .exact hp u h1 s h
 .exact hr v h2 s h
structure uD(P R:List aK->Prop)(k:Nat)(t:af):Prop where
 gn:t.Nodup
 snd:∀x∈t,∃a u v,x=tV a u v/\a.length+u.length+v.length<=4/\fx a/\fx u/\fx v/\∃jf ia,P jf/\R ia/\∀z,jb u v z->jb jf ia (a++z)
 WK:∀jf ia z,P jf->R ia->jb jf ia z->z.length<=4->∃a u v z',tV a u v∈t/\z=a++z'/\jb u v z'/\z'.length<=4-k
theorem uD.qd(h:uD P R k t)(hx:x∈t):IsT x:=by
 (refine mH (h.snd x hx) λa u v e h1 h2 h3 zr=>?_;obtain ⟨h4,-⟩:=zr);exact ⟨a,u,v,e,h1,h2,h3,h4⟩
theorem Rb(u):kL (wV u) am (aj 1)=aj (wV (u.take 1)):=by
 cases u with
 |nil=>rfl
 |cons s u=>
  have e:gq ((s::u).map V.str).length (aj 1)=1:=yK (k:=1) (cr (bW _));show aj (V.tup (((V.str s::u.map .str).take (gq _ (aj 1))).drop 0))=_;rw[e];rfl
theorem Rc(u):kL (wV u) (aj 1) am=aj (wV (u.drop 1)):=by
 cases u with
 |nil=>rfl
 |cons s u=>
  have e:eR ((s::u).map V.str).length (aj 1)=1:=yK (k:=1) (cr (bW _));show aj (V.tup (((V.str s::u.map .str).take (V.str s::u.map .str).length).drop (eR _ (aj 1))))=_;rw[e,Gz];rfl
abbrev wh:=List aK×List aK×List aK
def od(t:wh):=tV t.1 t.2.1 t.2.2
def qB:V->List aK
 |.tup l=>(jC l).getD []
 |_=>[]
def pB:V->wh
 |.tup [a,u,v]=>(qB a,qB u,qB v)
 |_=>([],[],[])
theorem yM:∀w,jC (w.map .str)=aj w
 |[]=>rfl
 |s::w=>aE (gT (s::·)) (yM w)
theorem yN(w):qB (wV w)=w:=aE (·.getD []) (yM w)
theorem yO(a u v):pB (tV a u v)=(a,u,v):=by show (qB (wV a),qB (wV u),qB (wV v))=_;rw[yN,yN,yN]
noncomputable def tL(t:wh):wh:=(t.1++t.2.1.take 1,t.2.1.drop 1,t.2.2)
noncomputable def tR(t:wh):wh:=(t.1++t.2.2.take 1,t.2.1,t.2.2.drop 1)
noncomputable def tE(t:wh):=t.1++t.2.1++t.2.2
def pC(x):=od (tL (pB x))
def pD(x):=od (tR (pB x))
def I4(x):=wV (tE (pB x))
theorem EC(a u v):pC (tV a u v)=tV (a++u.take 1) (u.drop 1) v:=aE (λt=>od (tL t)) (yO a u v)
theorem I5(a u v):pD (tV a u v)=tV (a++v.take 1) u (v.drop 1):=aE (λt=>od (tR t)) (yO a u v)
theorem I6(a u v):I4 (tV a u v)=wV (a++u++v):=aE (λt=>wV (tE t)) (yO a u v)
theorem ED(k)(h:fx u):fx (u.take k):=λs hs=>h s (Gr hs)
theorem EE(k)(h:fx u):fx (u.drop k):=λs hs=>h s (Lg hs)
theorem DX{a u v:List aK}(h:a.length+u.length+v.length<=4):(a++u.take 1).length+(u.drop 1).length+v.length<=4:=by
 rwa [<- bJ,b8,tg,bJ]
theorem Rd{a u v:List aK}(h:a.length+u.length+v.length<=4):(a++v.take 1).length+u.length+(v.drop 1).length<=4:=by
 rw[kY] at h ⊢;exact DX h
theorem abl(h:IsT x):IsT (pC x):=by
 ((refine mH h ?_;clear h;intro a u v av h1 h2 h3 h4);subst av)
 exact ⟨_,_,_,EC a u v,DX h1,sy h2 (ED 1 h3),EE 1 h3,h4⟩
theorem abm(h:IsT x):IsT (pD x):=by
 ((refine mH h ?_;clear h;intro a u v av h1 h2 h3 h4);subst av)
 exact ⟨_,_,_,I5 a u v,Rd h1,sy h2 (ED 1 h4),h3,EE 1 h4⟩
theorem uD.step(h:uD P R k t)(hn:t'.Nodup)(hm:∀y,y∈t'<->(∃x∈t,y=pC x)\/∃x∈t,y=pD x):uD P R (k+1) t':=by
 refine ⟨hn,λy hy=>?_,λjf ia z hp hr hz hl=>?_⟩
 .rcases (hm y).1 hy with ⟨x,hx,rfl⟩ | ⟨x,hx,rfl⟩
  ·(refine Hc (h.snd x hx) λa u v zr=>fy zr λzq h1 h2 zr=>d5 zr λh3 h4 zr=>bX zr λjf ia h5 h6 h7=>?_;subst zq);refine ⟨_,_,_,EC a u v,DX h1,sy h2 (ED 1 h3),EE 1 h3,h4,jf,ia,h5,h6,λz hz=>?_⟩
   cases u with
   |nil=>simp at hz ⊢;exact h7 z hz
   |cons s u=>
    have:=h7 (s::z) (.l hz);simpa using this
  ·(refine Hc (h.snd x hx) λa u v zr=>fy zr λzq h1 h2 zr=>d5 zr λh3 h4 zr=>bX zr λjf ia h5 h6 h7=>?_;subst zq);refine ⟨_,_,_,I5 a u v,Rd h1,sy h2 (ED 1 h4),h3,EE 1 h4,jf,ia,h5,h6,λz hz=>?_⟩
   cases v with
   |nil=>simp at hz ⊢;exact h7 z hz
   |cons s v=>
    have:=h7 (s::z) (.r hz);simpa using this
 ·(refine vI (h.WK jf ia z hp hr hz hl) λa u v z' h1 av h2 h3=>?_;subst av)
  cases z' with
  |nil=>
   obtain ⟨rfl,rfl⟩:=Bq.1 h2;refine ⟨a,[],[],[],(hm _).2 (.inl ⟨_,h1,?_⟩),rfl,.nil,by simp⟩;rw[EC];simp
  |cons s z'=>
   simp only[re] at h3
   rcases uA.1 h2 with ⟨u',rfl,mq⟩ | ⟨v',rfl,mq⟩
   .exact ⟨a++[s],u',v,z',(hm _).2 (.inl ⟨_,h1,by rw[EC];rfl⟩),by simp,mq,CA h3⟩
   .exact ⟨a++[s],u,v',z',(hm _).2 (.inr ⟨_,h1,by rw[I5];rfl⟩),by simp,mq,CA h3⟩
theorem Re{l:af}(h:∀x∈l,∃a u v,x=tV a u v):l=(l.map pB).map od:=by
 rw[ij];refine (xB l).symm.trans (LF λx hx=>?_);(refine jk (h x hx) λa u zr=>?_;obtain ⟨v,rfl⟩:=zr);exact (aE od (yO a u v)).symm
theorem I7{l:af}{R:V->Prop}(hR:∀l,(∀x∈l,R x)->dO ak l=ak)(h:∀x∈l,R (f x)):dO ak (l.map f)=ak:=hR _ λy hy=>ar (eV.1 hy) λx hx e=>e▸h x hx
theorem abn(hu:cv us P)(hv:cv vs R)(n):yD n (.comp ak (.tup [(.tup []),(.var 4),(.var 5)]) 2 [(.mk (.one 4) (.e (.var 0)) []),(.mk (.one 5) (.e (.var 1)) [(.cmp .le (.bin .add (.bi "len" [(.var 4)]) (.bi "len" [(.var 5)])) (.aR (.int 4)))])]) [.v (.set us),.v (.set vs),.un,.un]
  (λr:af=>r.Nodup/\∀z,z∈r<->∃x∈us,∃y∈vs,aj z=gy (qA x y) (.tup [.tup [],x,y])) .set:=by
 refine Q7 us vs (λx y=>.tup [.tup [],x,y]) qA (λQ h=>yI (.w λl hl=>.fin (h l hl)) (by kernel_rfl)) (λx U z Q h=>yI (.w λl hl=>.fin (h l hl)) (by kernel_rfl)) (λx hx y hy=>?_) aM rfl λl hl=>IZ λz hz=>?_
 ·(refine bx ((hu.mem x).1 hx) λu av lu cI=>?_;subst av;clear cI);(refine bx ((hv.mem y).1 hy) λv av lv cI=>?_;subst av;clear cI);exact QH (.xM u v lu lv (λh=>.ft (n8 h)) λh=>.fn (n9 h)) (by kernel_rfl)
 ·(refine ar (hl z hz) λx hx zr=>?_;obtain ⟨y,hy,e⟩:=zr);(refine bx (hu.C3 hx) λu av lu oE=>?_;subst av);(refine bx (hv.C3 hy) λv av lv qR=>?_;subst av);obtain ⟨e1,rfl⟩:=EA e;exact ⟨[],u,v,rfl,by have:=eT e1;rw[jp,jp] at this;rw[rg,jP];exact this,(λU h=>nomatch (h)),oE,qR⟩
theorem abo(hu:cv us P)(hv:cv vs R)(n:Nat):n7 (n+1) "_law_mix" [.set us,.set vs] (λr=>cv r (EB P R)) .set:=λQ X hq=>by
 refine bz (.ac (abn hu hv n) λKk h₀=>.stop (?_:cV (CW n) bB (Di.body.drop 1) [.v (.set us),.v (.set vs),.v (.set Kk),.un] am (iN λv U=>Q v am) λU=>X))
 have ht:uD P R 0 Kk:=by
  refine ⟨h₀.1,λx hx=>?_,λjf ia z hp hr hz hl=>?_⟩
  ·(refine ar ((h₀.2 x).1 hx) λx d9 zr=>ar zr λy hy e=>?_);(refine bx ((hu.mem x).1 d9) λu av lu oE=>?_;subst av);(refine bx ((hv.mem y).1 hy) λv av lv qR=>?_;subst av);obtain ⟨e1,rfl⟩:=EA e;exact ⟨[],u,v,rfl,by have:=eT e1;rw[jp,jp] at this;rw[rg,jP];exact this,(λU h=>nomatch (h)),hu.al u oE,hv.al v qR,u,v,oE,qR,λz hz=>hz⟩
  .have d8:jf.length+ia.length<=4:=aa4 hz▸hl;exact ⟨[],jf,ia,z,(h₀.2 _).2 ⟨wV jf,(hu.mem _).2 ⟨jf,rfl,aB (dH _ _) d8,hp⟩,wV ia,(hv.mem _).2 ⟨ia,rfl,aB (ms _ _) d8,hr⟩,n8 (eP (by rw[jp,jp];exact d8))⟩,rfl,hz,hl⟩
 have fW:∀w:List aK,w.length<=4->cz (wV w)=ak:=λw h=>Q8 w (aB h (by decide));refine ⟨rfl,Iv (λl ρ ay=>ay=am/\l.length<=4/\∃t s,ρ=[.v (.set us),.v (.set vs),.v (.set t),s]/\uD P R (4-l.length) t) ?_ ?_ (tY 4) _ _ ⟨rfl,by decide,Kk,.un,rfl,by rw[show (tY 4).length=4 by decide];exact ht⟩⟩
 .refine λρ ay zr=>d5 zr λzq zx zr=>?_;(refine eZ zr ?_;clear zr;intro t s zp ht);subst zq;subst zp;have hx:∀l:af,l.Perm t->∀x∈l,IsT x:=λl hl x hx=>ht.qd (hl.mem_iff.1 hx)
  have hz:∀l:af,l.Perm t->∀z∈l.map pB,z.1.length+z.2.1.length+z.2.2.length<=4:=λl hl z hz=>by
   (refine ar (eV.1 hz) λx h az=>?_;subst az);(refine kJ (hx l hl x h) λa u v av h1 cI=>?_;subst av;clear cI);rw[yO];exact h1
  refine run (s:=Di.body.drop 2) (.w (l:=t) λl hl=>.ks od (λz=>aj (wV (tE z))) (l.map pB) (Re λx h=>tS (hx l hl x h) λa u v e U=>⟨a,u,v,e⟩) (out:=l.map I4) ?_ ((fm _ _).trans ij) (λz h=>.g (Bt z.1 z.2.1) (fW _ ?_)<|.g (Bt (z.1++z.2.1) z.2.2) (fW _ ?_) (.z rfl))<|.fin (hq (eH (l.map I4)) ⟨qv _,λy=>kQ.trans (eV.trans ⟨?_,?_⟩),EB.al hu.al hv.al⟩)) (by kernel_rfl)
  .exact I7 (R:=Ew) (λU=>Q6) λx h=>by
    (refine mH (hx l hl x h) λa u v av h1 h2 h3 h4=>?_;subst av);exact ⟨_,I6 a u v,by rw[bJ,bJ];exact h1,sy (sy h2 h3) h4⟩
  .rw[bJ];exact aB (dH _ _) (hz l hl z h)
  .have:=hz l hl z h;rw[bJ,bJ];exact this
  .refine λzr=>ar zr λx h zq=>?_;subst zq;(refine Hc (ht.snd x (hl.mem_iff.1 h)) λa u v zr=>fy zr λzq h1 h2 zr=>d5 zr λh3 h4 zr=>bX zr λjf ia h5 h6 h7=>?_;subst zq);exact ⟨_,I6 a u v,by rw[bJ,bJ];exact h1,jf,ia,b8 a u v▸h7 _ (qz u v),h5,h6⟩
  .intro zr;(refine bx zr ?_;clear zr;intro w zq lw zr);(refine bX zr ?_;clear zr;intro jf ia h0 h5 h6);subst zq;(refine vI (ht.WK jf ia w h5 h6 h0 lw) λa u v z' h1 av h2 h3=>?_;subst av);obtain rfl:z'=[]:=Mb.1 (UT.1 h3);obtain ⟨rfl,rfl⟩:=Bq.1 h2;exact ⟨_,hl.mem_iff.2 h1,by rw[I6,eh,eh]⟩
 .intro x xs ρ ay zr;(refine d5 zr ?_;clear zr;intro zq hl4 zr);(refine eZ zr ?_;clear zr;intro t s zp ht);subst zq;subst zp;have hx:∀l:af,l.Perm t->∀x∈l,IsT x:=λl hl x hx=>ht.qd (hl.mem_iff.1 hx);have hm:∀l:af,l.Perm t->l=(l.map pB).map od:=λl hl=>Re λx h=>tS (hx l hl x h) λa u v e U=>⟨a,u,v,e⟩
  have hz:∀l:af,l.Perm t->∀z∈l.map pB,z.1.length+z.2.1.length+z.2.2.length<=4:=λl hl z hz=>by
   (refine ar (eV.1 hz) λx h az=>?_;subst az);(refine kJ (hx l hl x h) λa u v av h1 cI=>?_;subst av;clear cI);rw[yO];exact h1
  have hm2:∀l l':af,l.Perm t->l'.Perm t->(bI (eH (l.map pC)) (eH (l'.map pD))).Nodup/\∀y,y∈bI (eH (l.map pC)) (eH (l'.map pD))<->(∃x∈t,y=pC x)\/∃x∈t,y=pD x:=λl l' hl fG=>by
   have h:=I3 (qv (l.map pC)) (qv (l'.map pD));exact ⟨h.1,λy=>(h.2 y).trans (or_congr (kQ.trans (eV.trans ⟨λ⟨x,h,e⟩=>⟨x,hl.mem_iff.1 h,e.symm⟩,λ⟨x,h,e⟩=>⟨x,hl.mem_iff.2 h,e.symm⟩⟩)) (kQ.trans (eV.trans ⟨λ⟨x,h,e⟩=>⟨x,fG.mem_iff.1 h,e.symm⟩,λ⟨x,h,e⟩=>⟨x,fG.mem_iff.2 h,e.symm⟩⟩)))⟩
  have hT:=λl l' hl fG=>ht.step (hm2 l l' hl fG).1 (hm2 l l' hl fG).2;have hL:=λl l' hl fG=>len_T (hm2 l l' hl fG).1 λx hx=>(hT l l' hl fG).qd hx
  refine run (s:=fB (Di.body.getD 1 .brk)) (.w (l:=t) λl hl=>.ks od (λz=>aj (od (tL z))) (l.map pB) (hm l hl) (out:=l.map pC) (I7 (R:=IsT) (λU=>IZ) λx h=>abl (hx l hl x h)) ((fm _ _).trans ij)
    (λz h=>.p rfl<|.o (Rb z.2.1)<|.g (Bt z.1 (z.2.1.take 1)) (fW _ ?_)<|.p rfl<|.o (Rc z.2.1) (.z rfl))
  <|.w (l:=t) λl' fG=>.ks od (λz=>aj (od (tR z))) (l'.map pB) (hm l' fG) (out:=l'.map pD) (I7 (R:=IsT) (λU=>IZ) λx h=>abm (hx l' fG x h)) ((fm _ _).trans ij)
    (λz h=>.p rfl<|.o (Rb z.2.2)<|.g (Bt z.1 (z.2.2.take 1)) (fW _ ?_)<|.p rfl<|.o (Rc z.2.2) (.z rfl))
  <|.g (o:=jU .bor (.set (eH (l.map pC))) (.set (eH (l'.map pD)))) (v:=.set (bI (eH (l.map pC)) (eH (l'.map pD)))) (bw (eP (aB (hL l l' hl fG) (show 1549<=kK by decide)))) (eP (aB (hL l l' hl fG) (show 1549<=100000 by decide)))
  <|.fin (show (am:Pz)=am/\xs.length<=4/\∃t s,([.v (.set us),.v (.set vs),.v (.set (bI (eH (l.map pC)) (eH (l'.map pD)))),.v x]:bj)=[.v (.set us),.v (.set vs),.v (.set t),s]/\uD P R (4-xs.length) t from ⟨rfl,tA hl4,_,_,rfl,?_⟩)) (by kernel_rfl)
  .rw[bJ];exact aB (iE (Gq _ _) _) (aB (dH _ _) (hz l hl z h))
  .rw[bJ];exact aB (jh (dH _ _) (Gq _ _)) (hz l' fG z h)
  .have:=hT l l' hl fG;rw[re] at this hl4
   rwa [show 4-(xs.length+1)+1=4-xs.length from GC (Lz hl4)] at this
noncomputable def lG:Nat->aN->aN
 |0,p=>p
 |1,p=>.ch p .em
 |2,p=>.sm p
 |U1,p=>.ch (.sm p) .em
noncomputable def mZ:Nat->aa->aa
 |0,t=>t
 |1,t=>t++[63]
 |2,t=>t++[32,43]
 |U1,t=>t++[42]
def iy(p:aN)(t:aa)(r:af):V:=.tup [p.toV,.str t,.set r]
noncomputable def Rf(P:List aK->Prop):Nat->List aK->Prop
 |0,U1=>False
 |k+1,w=>P w\/∃u v,w=u++v/\P u/\Rf P k v
theorem Rg:∀k w,ja P w->w.length<=k->w=[]\/Rf P k w
 |k,[]=>λU U=>.inl rfl
 |0,U1::U2=>λU h=>by simp at h
 |k+1,s::w=>λh hl=>by
  (refine bX (Er h s w rfl) λu v av h1 h2=>?_;subst av);simp only[re,bJ] at hl
  rcases Rg k v h2 (by lia) with rfl | h3
  .rw[eh];exact .inr (.inl h1)
  .exact .inr (.inr ⟨s::u,v,rfl,h1,h3⟩)
theorem abp(hu:ja P u)(hv:ja P v):ja P (u++v):=by
 induction hu with
 |nil=>exact hv
 |app h1 U1 ih=>rw[b8];exact .app h1 ih
theorem EF(h:L (.sm p) w):ja (L p) w:=by
 (refine bX h λu v av h1 h2=>?_;subst av);exact .app h1 h2
theorem Rh(hu:L (.sm p) u)(hv:L (.sm p) v):L (.sm p) (u++v):=by
 (refine bX hu λa b av h1 h2=>?_;subst av);exact ⟨a,b++v,by simp,h1,abp h2 (EF hv)⟩
theorem I8(hu:L p u):L (.sm p) u:=⟨u,[],by simp,hu,.nil⟩
def EG(P:List aK->Prop)(w:List aK):=P w\/yL P P w
def abq(P:List aK->Prop)(w:List aK):=EG P w\/yL (EG P) (EG P) w
theorem I9(h:EG (L p) w):L (.sm p) w:=by
 rcases h with h | ⟨u,v,rfl,h1,h2⟩
 .exact I8 h
 .exact Rh (I8 h1) (I8 h2)
theorem abr(hl:w.length<=4):abq (L p) w<->L (.sm p) w:=by
 constructor
 .rintro (h | ⟨u,v,rfl,h1,h2⟩)
  .exact I9 h
  .exact Rh (I9 h1) (I9 h2)
 .intro h
  rcases Rg 4 w (EF h) hl with rfl | h'
  .refine bX h λu v e h1 h2=>?_;have:=Ma.1 e.symm;rw[this.1] at h1;exact .inl (.inl h1)
  .rcases h' with h1 | ⟨u1,v1,rfl,g1,h2 | ⟨u2,v2,rfl,g2,h3 | ⟨u3,v3,rfl,g3,h4 | ⟨u4,v4,rfl,g4,h5⟩⟩⟩⟩
   .exact .inl (.inl h1)
   .exact .inl (.inr ⟨u1,v1,rfl,g1,h2⟩)
   .exact .inr ⟨u1,u2++v2,rfl,.inl g1,.inr ⟨u2,v2,rfl,g2,h3⟩⟩
   .exact .inr ⟨u1++u2,u3++v3,by simp,.inr ⟨u1,u2,rfl,g1,g2⟩,.inr ⟨u3,v3,rfl,g3,h4⟩⟩
   .exact h5.elim
theorem abt(hp:∀w,P w->fx w)(h:ja P w):fx w:=by
 induction h with
 |nil=>simp[fx]
 |app h1 U1 ih=>exact sy (hp _ h1) ih
theorem Bv:cv [.tup []] (L .em):=
 ⟨pX.2 ⟨gU,p9⟩,λx=>⟨λh=>⟨[],en.1 h,bW _,rfl⟩,λh=>bx h λw e U h=>en.2 (e.trans (aE wV (h:w=[])))⟩,λw h U g=>absurd ((h:w=[])▸g) gU⟩
theorem add_str(a b):jU .add (.str a) (.str b)=aj (.str (a++b)):=rfl
theorem iR(a)(h:a.length<=100000):cz (.str a)=ak:=eP h
def Ri(r c2 c4:af)(m:Nat):=[r,bI r [.tup []],bI (bI r c2) c4,bI (bI (bI r c2) c4) [.tup []]].getD m []
@[elab_as_elim] theorem n3{P:Nat->Prop}(m)(h:m<3)(a:P 0)(b:P 1)(c:P 2):P m:=
 match m with
 |0=>a
 |1=>b
 |2=>c
 |U1+3=>Ar h
@[elab_as_elim] theorem n4{P:Nat->Prop}(m)(h:m<4)(a:P 0)(b:P 1)(c:P 2)(d:P 3):P m:=
 match m with
 |0=>a
 |m+1=>n3 (P:=λm=>P (m+1)) m (UX h) b c d
theorem Ja(hs:cv r (L p))(ht:t.length<=1000){m:Nat}(hm:m<4)(n):n7 (n+2) "_law_mark" [p.toV,.str t,.set r,.int m] (λr'=>cv r' (L (lG m p))) (iy (lG m p) (mZ m t)):=λQ X hq=>by
 have ft:∀u,u.length<=2->cz (.str (t++u))=ak:=λu h=>iR _ (by rw[bJ];lia);have hsm:∀c4,cv (bI r c4) _->∀c8,cv c8 _->cv (bI (bI r c4) c8) (L (.sm p)):=λc4 h4 c8 h8=>(wg h4 h8).congr (λw hw=>abr hw) λw hw=>abt hs.al (EF hw);have hg:∀c2 c4,dN (.lst [iy p t r,iy (.ch p .em) (t++[63]) (bI r [.tup []]),iy (.sm p) (t++[32,43]) (bI (bI r c2) c4),iy (.ch (.sm p) .em) (t++[42]) (bI (bI (bI r c2) c4) [.tup []])]) (.int m)=aj (iy (lG m p) (mZ m t) (Ri r c2 c4 m)):=λU U=>n4 m hm rfl rfl rfl rfl;have hz:∀c2 c4,cv (bI (bI r c2) c4) (L (.sm p))->cv (Ri r c2 c4 m) (L (lG m p)):=λU U h4=>n4 m hm hs (wg hs Bv) h4 (wg h4 Bv);exact bz (.a (I1 hs hs n) λc2 hc2=>have h2:=wg hs hc2; .un h2<|.a (I1 h2 h2 n) λc4 hc4=>have h4:=hsm c2 h2 c4 hc4; .un h4<|.g rfl (ft [63] (by decide))<|.un (wg hs Bv)<|.g rfl (ft [32,43] (by decide))<|.g rfl (ft [42] (by decide))<|.un (wg h4 Bv)
 <|.o (hg c2 c4)<|.fin (hq _ (hz c2 c4 h4)))
def qC:Nat->aN
 |0=>.rf sA
 |1=>.rf sB
 |2=>.tx
 |3=>.em
 |4=>.nn
 |5=>.rf sA
 |_=>.rf sB
noncomputable def og:Nat->aa
 |0=>[97]
 |1=>[98,55]
 |2=>[116,101,120,116]
 |3=>[101,109,112,116,121,32]
 |4=>[110,111,116,65,108,108,111,119,101,100]
 |5=>[40,97,41]
 |_=>[32,98,55]
def yP:=[wV [],wV [cH],wV [cH,cH],wV [cH,cH,cH],wV [cH,cH,cH,cH]]
def Jb:Nat->af
 |0=>[wV [sA]]
 |1=>[wV [sB]]
 |2=>yP
 |3=>[wV []]
 |4=>[]
 |5=>[wV [sA]]
 |_=>[wV [sB]]
theorem Rj:∀w,L .tx w->w=cU w.length cH
 |[]=>λU=>rfl
 |s::w=>λh=>by
  rw[re,List.replicate_succ,<- (Rj w λt ht=>h t (cJ _ ht)),(h s dh)]
theorem EH(s)(hs:s∈hY):cv [wV [s]] (L (.rf s)):=
 ⟨pX.2 ⟨gU,p9⟩,λx=>⟨λh=>⟨[s],en.1 h,cr (bW _),rfl⟩,λh=>bx h λw e U h=>en.2 (e.trans (aE wV (h:w=[s])))⟩,λw h t g=>en.1 ((h:w=[s])▸g)▸hs⟩
theorem Rk:cv yP (L .tx):=by
 refine ⟨by decide +kernel,λx=>?_,λw h s hs=>by rw[h s hs];simp[hY]⟩;constructor
 .intro h;replace h:x∈(fk 5).map (λk=>wV (cU k cH)):=h;refine ar (eV.1 h) λk hk e=>⟨cU k cH,e.symm,?_,λs hs=>(List.mem_replicate.1 hs).2⟩;rw[List.length_replicate];exact pY (mr.1 hk)
 .rintro ⟨w,rfl,hl,h⟩
  have:=Rj w h;generalize w.length=k at hl this;subst this;have:=mG (f:=λk=>yP.contains (wV (cU k cH))) (g:=λU=>ak) (n:=5) (by kernel_rfl) k (Lb hl);exact gV.1 this
theorem abu:∀i,cv (Jb i) (L (qC i))
 |0=>EH _ (by simp[hY])
 |1=>EH _ (by simp[hY])
 |2=>Rk
 |3=>Bv
 |4=>⟨p9,λx=>⟨nofun,λh=>bx h λU U U h=>h.elim⟩,λw h=>h.elim⟩
 |5=>EH _ (by simp[hY])
 |U1+6=>EH _ (by simp[hY])
def Jc(i:Nat):=((dN Df (.int i)).bind λv=>(dN v (.int 2)).bind rJ).getD []
theorem abv:∀i:Nat,i<7->∃l,dN Df (.int i)=aj (.tup [(qC i).toV,.str (og i),.tup l])/\qg l=aj (.set (Jb i)):=λi hi=>
 ⟨Jc i,mG (f:=λi=>dN Df (.int i)) (g:=λi=>aj (.tup [(qC i).toV,.str (og i),.tup (Jc i)])) (n:=7) (by kernel_rfl) i hi,mG (f:=λi=>qg (Jc i)) (g:=λi=>aj (.set (Jb i))) (n:=7) (by kernel_rfl) i hi⟩
theorem Rm:∀i,(og i).length<=10
 |0 | 1 | 2 | 3 | 4 | 5=>by decide
 |U1+6=>by show [32,98,55].length<=10;decide
theorem mod_int(a b)(h:0<b):jU .mod (.int a) (.int b)=aj (.int (a%b)):=bw h
noncomputable def bh(x:Int)(k:Nat):=(x%k).toNat
theorem iS(x)(h:0<k):bh x k<k:=by
 exact (ae7 (US x (Vq (iY.2 h)))).2 (ae8 x (iY.2 h))
theorem abw(x){k:Nat}(h:0<k):x%(k:Int)=(bh x k:Int):=by
 exact (UN (US x (Vq (iY.2 h)))).symm
theorem EI(x)(k:Nat)(h:0<k):jU .mod (.int x) (.int (k:Int))=aj (.int (bh x k:Int)):=by
 rw[mod_int _ _ (by lia),abw x h]
def bQ(x:Int):=lG (bh x 4) (qC (bh x 7))
def aQ(x:Int):=mZ (bh x 4) (og (bh x 7))
theorem abx(x)(n:Nat):n7 (n+3) "_law_part" [.int x] (λr=>cv r (L (bQ x))) (iy (bQ x) (aQ x)):=λQ X hq=>by
 refine ar (abv (bh x 7) (iS x (by decide))) λl hl hs=>?_;have l7:=iS x (k:=7) (by decide);have l4:=iS x (k:=4) (by decide);exact bz (.g (EI x 7 (by decide)) (Bu _ (bD (gc ‹_›)))<|.o hl<|.o (o:=fX "set" [.tup l]) hs<|.g (EI x 4 (by decide)) (Bu _ (bD (gc ‹_›)))<|.a (Ja (abu (bh x 7)) (t:=og (bh x 7)) (aB (Rm _) (by decide)) l4 n) λr hr=>.fin (hq r hr))
noncomputable def iz:Nat->aN->aN->aN
 |0,a,b=>.gr a b
 |1,a,b=>.ch a b
 |U1,a,b=>.il a b
noncomputable def uE:Nat->aa
 |0=>[32,44]
 |1=>[124]
 |_=>[32,32,38,32]
def fQ(k:Nat)(a b:aa):=a++uE k++b
theorem eq_int(a b):cy .eq (.int a) (.int b)=aj (a==b):=rfl
theorem Rn:∀k,(uE k).length<=4
 |0=>by decide
 |1=>by decide
 |U1+2=>aV _
theorem Bw(k)(t u):(fQ k t u).length<=t.length+4+u.length:=by
 unfold fQ;rw[bJ,bJ];exact gD (iE (Rn k) _) _
theorem EJ(hs:cv r (L p))(w0:cv r' (L q))(ht:t.length<=1000)(hu:u.length<=1000){k:Nat}(hk:k<3)(n):n7 (n+2) "_law_join" [.int k,iy p t r,iy q u r'] (λs=>cv s (L (iz k p q))) (iy (iz k p q) (fQ k t u)):=λQ X hq=>by
 have h1:=wg hs w0;have f2 k:cz (.str (t++uE k++u))=ak:=iR _ (aB (Bw k t u) (bD (jh (gD ht 4) hu)));have f1 k:cz (.str (t++uE k))=ak:=iR _ (by rw[bJ];exact bD (jh ht (Rn k)));revert Q;refine n3 k hk ?_ ?_ ?_<;>intro Q hq
 .exact bz (.c<|.c<|.un h1<|.c<|.c<|.c<|.a (I1 hs w0 n) λc hc=>.c<|.c<|.c<|.c<|.c<|.g rfl (f1 0)<|.c<|.g rfl (f2 0)<|.fin (hq c hc))
 .exact bz (.c<|.c<|.un h1<|.c<|.c<|.c<|.c<|.c<|.c<|.g rfl (f1 1)<|.c<|.g rfl (f2 1)<|.fin (hq _ h1))
 .exact bz (.c<|.c<|.un h1<|.c<|.c<|.c<|.c<|.a (abo hs w0 n) λc hc=>.c<|.c<|.c<|.c<|.g rfl (f1 2)<|.c<|.g rfl (f2 2)<|.fin (hq c hc))
theorem Ro(m)(t):(mZ m t).length<=t.length+2:=
 match m with
 |0=>dH _ 2
 |1=>aB (ec bJ) (dT _)
 |2=>ec bJ
 |U1+3=>aB (ec bJ) (dT _)
theorem uF(x):(aQ x).length<=12:=by
 exact aB (Ro ..) (gD (Rm (bh x 7)) 2)
def l8(bv one two m:Nat)(a b c:aN):=
 if bv=0 then iz one (iz one a b) c else if bv=1 then iz two c (lG m (iz one a b)) else iz two (lG m (iz one a b)) c
def dl(bv one two m:Nat)(a b c:aa):=
 if bv=0 then fQ one (fQ one a b) c else if bv=1 then fQ two c (mZ m ([40]++fQ one a b++[32,41])) else fQ two (mZ m ([40]++fQ one a b++[32,41])) c
theorem Jd{one:Nat}(ha:a.length<=12)(hb:b.length<=12):(fQ one a b).length<=28:=aB (Bw one a b) (jh (gD ha 4) hb)
theorem Rp{one:Nat}(ha:a.length<=12)(hb:b.length<=12):([40]++fQ one a b++[32,41]).length<=31:=bD (jS (jS (aV _) (Jd ha hb)) (aV _))
theorem Je{one m:Nat}(ha:a.length<=12)(hb:b.length<=12):(mZ m ([40]++fQ one a b++[32,41])).length<=33:=aB (Ro ..) (gD (Rp ha hb) 2)
theorem aby(bv one two m)(a b c)(ha:a.length<=12)(hb:b.length<=12)(hc:c.length<=12):(dl bv one two m a b c).length<=60:=
 vG (aB (Bw ..) (bD (jh (gD (Jd ha hb) 4) hc))) (vG (aB (Bw ..) (bD (jh (gD hc 4) (Je ha hb)))) (aB (Bw ..) (bD (jh (gD (Je ha hb) 4) hc))))
theorem abz{a b c:aN}(ha:cv ra (L a))(hb:cv rb (L b))(hc:cv rc (L c))(la:ta.length<=12)(lb:tb.length<=12)(lc:tc.length<=12)
  {bv one two m:Nat} (h3:bv<3) (h1:one<3) (h2:two<3) (hm:m<4) (n):n7 (n+3) "_law_top" [.int bv,.int one,.int two,.int m,iy a ta ra,iy b tb rb,iy c tc rc] (λs=>cv s (L (l8 bv one two m a b c))) (iy (l8 bv one two m a b c) (dl bv one two m ta tb tc)):=λQ X hq=>by
 have l1:(fQ one ta tb).length<=1000:=bD (Jd la lb);have l2:([40]++fQ one ta tb++[32,41]).length<=1000:=bD (Rp la lb);have l3:(mZ m ([40]++fQ one ta tb++[32,41])).length<=1000:=bD (Je la lb);have f2:=iR _ (bD l2);have f1:cz (.str ([40]++fQ one ta tb))=ak:=iR _ (bD (jS (aV 1) l1));have lc:tc.length<=1000:=bD lc;have jn:=EJ (t:=ta) (u:=tb) ha hb (bD la) (bD lb) h1 n;revert Q;refine n3 bv h3 ?_ ?_ ?_<;>intro Q hq
 .exact bz (.a jn λab w9=>.c<|.a (EJ w9 hc l1 lc h1 n) λs hs=>.fin (hq s hs))
 .exact bz (.a jn λab w9=>.c<|.c<|.c<|.g rfl f1<|.g rfl f2<|.c<|.a (Ja w9 l2 hm n) λmb KL=>.c<|.a (EJ hc KL lc l3 h2 n) λs hs=>.fin (hq s hs))
 .exact bz (.a jn λab w9=>.c<|.c<|.c<|.g rfl f1<|.g rfl f2<|.c<|.a (Ja w9 l2 hm n) λmb KL=>.c<|.a (EJ KL hc l3 lc h2 n) λs hs=>.fin (hq s hs))
noncomputable def wi:=[65,66,67,68,69,70,71,72,73,74,75,76,77,78,79,80,81,82,83,84,85,86,87,88,89,90,97,98,99,100,101,102,103,104,105,106,107,108,109,110,111,112,113,114,115,116,117,118,119,120,121,122]
def Jf:=wi++[48,49,50,51,52,53,54,55,56,57]
def l9(c):=wi.contains c
def c9(c):=Jf.contains c
noncomputable def md:List aK:=[[115,116,97,114,116],[101,108,101,109,101,110,116],[97,116,116,114,105,98,117,116,101],[116,101,120,116],[101,109,112,116,121],[110,111,116,65,108,108,111,119,101,100]]
def qD(s:aa)(i:Nat):Nat:=match s.drop i with
 |[]=>i
 |c::r=>if l9 c then i+1+(r.takeWhile c9).length else i
def mf(s:aa):Bool:=!s.isEmpty&&qD s 0==s.length&& !md.contains s
theorem Rq(c):∀l,lT [c] l=l.contains c
 |[]=>rfl
 |a::l=>by
  rw[xJ,<- Rq c l,<- Bool.and_true (c==a)];rfl
theorem in1(c)(l):cy .isIn (.str [c]) (.str l)=aj (l.contains c):=aE aj (Rq c l)
theorem lt_int(a b):cy .lt (.int a) (.int b)=aj (decide (a<b)):=rfl
theorem gt_int(a b):cy .gt (.int a) (.int b)=aj (decide (b<a)):=rfl
theorem len_str(s):fX "len" [.str s]=aj (.int s.length):=rfl
theorem qE{k:Nat}(h:s.drop k=c::r):dN (.str s) (.int k)=aj (.str [c]):=by
 have:s[k]?=aj c:=by
  have:=z0 (xs:=s) (i:=k) (j:=0);rw[h] at this;simpa using this.symm
 show (s[k]?).map _=_;rw[this];rfl
theorem EK(s):cy .isIn (.str s) (.tup (md.map .str))=aj (md.contains s):=(D9 (x:=.str s) (l:=md.map .str) rfl (qy md) (Bn _)).trans (aE aj (QP md s))
theorem pE(h:a<b):cy .lt (.int a) (.int b)=aj ak:=aE aj (eP h)
theorem sz(h:¬a<b):cy .lt (.int a) (.int b)=aj ap:=aE aj (decide_eq_false h)
theorem EL{s r:aa}(h:s.drop k=c::r):k<s.length/\s.drop (k+1)=r:=by
 refine ⟨Vn λg=>?_,?_⟩
 .rw[VQ g] at h;cases h
 .rw[<- VR,h];rfl
theorem Jg{s:aa}(h:s.drop k=[]):¬((k:Int)<(s.length:Int)):=λg=>absurd (ahk.1 h) (Lj.2 (iY.1 g))
theorem yQ{s:aa}(hl:s.length<=90000)(h:k<=s.length):cz (.int (k:Int))=ak:=uC _ 90000 (aB h hl)
def neL:=(fB (MT.body.getD 2 .brk)).getD 1 .brk
theorem Rr(hl:s.length<=90000):∀r (j:Nat),s.drop j=r->ix n neL [.v (.str s),.v i,.v (.int s.length),.v (.int j)] am (aj (.next,[.v (.str s),.v i,.v (.int s.length),.v (.int (j+(r.takeWhile c9).length:Nat))],am))
 |[]=>λj h=>r9 (.b (sz (Jg h)) (.z rfl))
 |c::r=>λj h=>by
  refine bm (EL h) λh1 h2=>?_;rw[G2]
  cases e:c9 c with
  |false=>exact r9 (.b (pE (iY.2 h1))<|.o (qE h)<|.b ((in1 c Jf).trans (aE aj e)) (.z rfl))
  |true=>
   have:=Rr hl (n:=n) (i:=i) r (j+1) h2;rw[jg,kZ 1] at this;exact uu (.b (pE (iY.2 h1))<|.o (qE h)<|.b ((in1 c Jf).trans (aE aj e))<|.p (yQ hl (k:=j+1) h1) (.z rfl)) (by kernel_rfl) this
theorem Jh(s)(i)(hi:i<=s.length)(hl:s.length<=90000)(n)(σ:Pz)(Q:i4)(X:Prop)(hq:Q (.int (qD s i:Nat)) σ):CW (n+1) "_name_end" [.str s,.int i] σ Q X:=by
 unfold qD at hq
 cases h:s.drop i with
 |nil=>rw[h] at hq;exact bz (.c<|.b (sz (Jg h))<|.fin hq)
 |cons c r=>
  refine bm (EL h) λh1 h2=>?_;rw[h] at hq;replace hq:Q (.int ((if l9 c=ak then i+1+(r.takeWhile c9).length else i:Nat):Int)) σ:=hq
  cases e:l9 c with
  |false=>rw[e] at hq;exact bz (.c<|.b (pE (iY.2 h1))<|.o (qE h)<|.b ((in1 c wi).trans (aE aj e))<|.fin hq)
  |true=>rw[e] at hq;exact bz (.c<|.b (pE (iY.2 h1))<|.o (qE h)<|.b ((in1 c wi).trans (aE aj e))<|.p (yQ hl (k:=i+1) h1)<|.l (Rr (i:=.int i) hl r (i+1) h2)<|.fin hq)
theorem Rs(a b:Nat):((a:Int)==(b:Int))=(a==b):=by rw[ii,beq_iff_eq,beq_iff_eq];exact Int.ofNat_inj
theorem Rt(s)(hl:s.length<=90000)(n)(σ:Pz)(Q:i4)(X:Prop)(hq:Q (.bool (mf s)) σ):CW (n+2) "_is_name" [.str s] σ Q X:=by
 unfold mf at hq
 cases s with
 |nil=>exact bz (.fin hq)
 |cons c s=>
  have bA:∀b,(qD (c::s) 0==(c::s).length)=b->cy .ne (.int (qD (c::s) 0:Nat)) (.int (c::s).length)=aj (!b):=λb h=>aE (λb=>aj (!b)) ((Rs _ _).trans h);have hr:eg (n+1) "_name_end" [.str (c::s),.int 0] _:=λQ X=>Jh (c::s) 0 (bW _) hl n _ Q X
  cases h:(qD (c::s) 0==(c::s).length) with
  |false=>rw[h] at hq;exact bz (.c<|.r hr<|.c<|.b (bA _ h)<|.fin hq)
  |true=>rw[h] at hq;exact bz (.c<|.r hr<|.c<|.b (bA _ h)<|.b ((aE (gT not) (EK (c::s))))<|.fin hq)
noncomputable def qF:=[40,41,63,42,43,44,124,38]
def wj(a b:Option (List aK))(c)(r:aa):=if c=32 then a
  else if l9 c=ak then b.map ((c::r.takeWhile c9)::·)
  else if qF.contains c=ak then a.map ([c]::·)
  else am
noncomputable def yR:Nat->aa->Option (List aK)
 |0,U1=>aj []
 |n+1,l=>match l with
  |[]=>aj []
  |c::r=>wj (yR n r) (yR n (r.dropWhile c9)) c r
def toks(l):=yR l.length l
theorem abA(h:a=a')(h':b=b'):wj a b c r=wj a' b' c r:=h▸h'▸rfl
theorem Ji:∀n m l,l.length<=n->l.length<=m->yR n l=yR m l
 |n,m,[]=>λU U=>by cases n<;>cases m<;>rfl
 |0,U1,U2::U3=>λh U=>absurd h (xf _)
 |U1,0,U2::U3=>λU h=>absurd h (xf _)
 |n+1,m+1,c::r=>λh h'=>have hd:=(z6 c9 (l:=r)).length_le
  abA (Ji n m r (g8 h) (g8 h')) (Ji n m _ (aB hd (g8 h)) (aB hd (g8 h')))
theorem Jj(c)(r):toks (c::r)=wj (toks r) (toks (r.dropWhile c9)) c r:=
 aE (λb=>wj (toks r) b c r) (Ji _ _ _ (z6 c9 (l:=r)).length_le (aV _))
theorem sC:toks []=aj []:=rfl
theorem jc(r):toks (32::r)=toks r:=rfl
theorem Ru(r)(h:l9 c=ak):toks (c::r)=(toks (r.dropWhile c9)).map ((c::r.takeWhile c9)::·):=
 (Jj c r).trans ((if_neg λe:c=32=>absurd (e▸h:l9 32=ak) (by decide)).trans (bw h))
theorem kh(r)(h:qF.contains c=ak):toks (c::r)=(toks r).map ([c]::·):=
 have e:=dM.1 (eE.1 (rfl:(qF.all λc=>!(c==32)&& !l9 c)=ak) c (gV.1 h))
 (Jj c r).trans ((if_neg λg=>by rw[g] at e;cases e.1).trans ((if_neg λg=>by rw[g] at e;cases e.2).trans (bw h)))
theorem Rv(r)(h1:c≠32)(h2:l9 c=ap)(h3:qF.contains c=ap):toks (c::r)=am:=
 (Jj c r).trans ((if_neg h1).trans ((if_neg λg=>by rw[g] at h2;cases h2).trans (if_neg λg=>by rw[g] at h3;cases h3)))
theorem abB(s:aa):∀r,∀k,s.drop k=r->s.drop (k+(r.takeWhile c9).length)=r.dropWhile c9:=by
 intro r
 induction r with
 |nil=>intro k h;simpa using h
 |cons c r ih=>
  intro k h;rw[G2,WF]
  cases hc:c9 c
  .simpa using h
  .simp only[if_true,re];have h':s.drop (k+1)=r:=by rw[<- VR,h];rfl
   rw[show k+((r.takeWhile c9).length+1)=k+1+(r.takeWhile c9).length from kY k _ 1];exact ih (k+1) h'
theorem Rw(s)(a b:Nat)(h1:a<=b)(h2:b<=s.length):kL (.str s) (aj a) (aj b)=aj (.str ((s.drop a).take (b-a))):=by
 have e1:gq s.length (aj (b:Int))=b:=yK h2;have e2:eR s.length (aj (a:Int))=a:=yK (aB h1 h2);show aj (V.str ((s.take (gq s.length (aj (b:Int)))).drop (eR s.length (aj (a:Int)))))=_;rw[e1,e2,afU]
theorem abC(r:aa):r.take (r.takeWhile c9).length=r.takeWhile c9:=by
 induction r with
 |nil=>rfl
 |cons c r ih=>
  rw[G2];cases c9 c
  .rfl
  .simp[ih]
noncomputable def wl(s:aa)(acc:af)(k:Nat)(x y:Sl):bj:=[.v (.str s),.ol acc,.v (.int k),.v (.int s.length),x,y]
def Rx:=MU.body.getD 3 .brk
def spL:=(fB ((fB Rx).getD 1 .brk)).getD 0 .brk
theorem Ry(hl:s.length<=90000):∀r k,s.drop k=r->∃k',ix n spL (wl s acc k x y) am (aj (.next,wl s acc k' x y,am))/\k<=k'/\k'<=max k s.length/\toks (s.drop k')=toks r/\(∀r',r=32::r'->k<k')
 |[]=>λk h=>⟨k,r9 (.b (sz (Jg h)) (.z rfl)),aV _,zK _ _,h▸rfl,λU h=>(by injection h)⟩
 |c::r=>λk h=>by
  refine bm (EL h) λh1 h2=>?_
  cases e:([c]==[32]) with
  |false=>
   refine ⟨k,r9 (.b (pE (iY.2 h1))<|.o (qE h)<|.b ((sd [c] [32]).trans (aE aj e)) (.z rfl)),aV _,zK _ _,h▸rfl,λr' h=>?_⟩
   (injection h with h h2;cases h;cases h2);cases e
  |true=>
   (refine lR (Ry hl (n:=n) (acc:=acc) (x:=x) (y:=y) r (k+1) h2) λk' g1 g2 g3 g4 az=>?_;clear az);refine ⟨k',uu (.b (pE (iY.2 h1))<|.o (qE h)<|.b ((sd [c] [32]).trans (aE aj e))<|.p (yQ hl (k:=k+1) h1) (.z rfl)) (by kernel_rfl) g1,tA g2,aB g3 (g9.2 ⟨aB h1 (xo _ _),xo _ _⟩),?_,λU U=>g2⟩
   cases beq_iff_eq.1 e
   rw[jc];exact g4
def yS(s:aa)(acc:af)(x y:Sl):Option (List aK)->Option (Fl×bj×Pz)
 |some l=>aj (.next,wl s (acc++l.map .str) s.length x y,am)
 |none=>am
theorem Rz(s)(acc)(x y):yS s acc x y (aj [])=aj (.next,wl s acc s.length x y,am):=aE (λa=>aj (Fl.next,wl s a s.length x y,am)) (eh acc)
theorem RA(s)(acc)(w)(x y)(o):yS s (acc++[.str w]) x y o=yS s acc x y (o.map (w::·)):=by
 cases o with
 |none=>rfl
 |some l=>exact aE (λl=>aj (Fl.next,wl s l s.length x y,am)) (b8 acc [.str w] (l.map .str))
theorem abD(hl:s.length<=90000):∀m k (acc:af) (x y:Sl),s.length-k<=m->k<=s.length->acc.length<=k->∃x' y',ix (n+1) Rx (wl s acc k x y) am (yS s acc x' y' (toks (s.drop k))):=by
 intro m
 induction m with
 |zero=>
  intro k acc x y hm hk _;obtain rfl:k=s.length:=F2 hk (xj (UT.1 hm));rw[Ly,sC];refine ⟨x,y,?_⟩;rw[Rz];exact r9 (.b (sz (WG (s.length:Int))) (.z rfl))
 |succ m ih=>
  intro k acc x y hm hk ha
  cases h:s.drop k with
  |nil=>
   obtain rfl:k=s.length:=F2 hk (ahk.1 h);rw[sC];refine ⟨x,y,?_⟩;rw[Rz];exact r9 (.b (sz (WG (s.length:Int))) (.z rfl))
  |cons c r=>
   refine bm (EL h) λh1 h2=>?_;have bM:=pE (iY.2 h1)
   by_cases c1:c=32
   .subst c1;refine lR (Ry hl (n:=n+1) (acc:=acc) (x:=.v (.str [32])) (y:=y) (32::r) k h) λk' g1 g2 g3 g4 g5=>?_;have:=g5 r rfl;refine jk (ih k' acc (.v (.str [32])) y (C4 hm this) (aB g3 (g9.2 ⟨hk,aV _⟩)) (aB ha g2)) λx' y' hi=>?_;rw[<- g4];exact ⟨x',y',uu (.b bM<|.o (qE h)<|.c<|.l g1 (.z rfl)) (by kernel_rfl) hi⟩
   .have hb:cy .eq (.str [c]) (.str [32])=aj ap:=(sd _ _).trans (aE aj (kz.2 λe=>c1 (G1 e).1))
    cases c2:l9 c with
    |true=>
     have hr:eg (n+1) "_name_end" [.str s,.int k] _:=λQ X=>Jh s k hk hl n _ Q X;have bA:qD s k=k+1+(r.takeWhile c9).length:=by simp only[qD,h,c2,if_true]
     have fF:k+1+(r.takeWhile c9).length<=s.length:=by
      have h3:=aE vo h;rw[mw,re] at h3;rw[<- zP hk,h3,jg k 1,kZ k,kZ 1];exact gD (cr (ahl c9 (l:=r)).length_le) k
     have wX:=Rw s k (k+1+(r.takeWhile c9).length) (aB (dT k) (dH _ _)) fF;rw[h,show k+1+(r.takeWhile c9).length-k=(r.takeWhile c9).length+1 by rw[jg,La,kZ],af2,abC] at wX;rw[bA] at hr;refine jk (ih (k+1+(r.takeWhile c9).length) (acc++[.str (c::r.takeWhile c9)]) (.v (.str [c])) (.v (.int (k+1+(r.takeWhile c9).length:Nat))) (C4 hm (b7 (iF k) (dH _ _))) fF (by rw[bJ];exact aB (gD ha 1) (dH _ _))) λx' y' hi=>?_;rw[Ru r c2,<- abB s r (k+1) h2];rw[RA] at hi;exact ⟨x',y',uu (o:=yS s acc x' y' _) (.b bM<|.o (qE h)<|.b hb<|.b ((in1 c wi).trans (aE aj c2))<|.r hr<|.p (yQ hl hk)<|.p (yQ hl fF)<|.o wX<|.p (l6 (acc++[.str (c::r.takeWhile c9)]) (by rw[bJ];exact aB (gD ha 1) (bD (aB h1 hl)))) (.z rfl)) (by kernel_rfl) hi⟩
    |false=>
     cases c3:qF.contains c with
     |true=>
      refine jk (ih (k+1) (acc++[.str [c]]) (.v (.str [c])) y (C4 hm (iF k)) h1 (by rw[bJ];exact gD ha _)) λx' y' hi=>?_;rw[kh r c3,<- h2];rw[RA] at hi;exact ⟨x',y',uu (o:=yS s acc x' y' _) (.b bM<|.o (qE h)<|.b hb<|.b ((in1 c wi).trans (aE aj c2))<|.b ((in1 c qF).trans (aE aj c3))<|.p (l6 (acc++[.str [c]]) (by rw[bJ];exact aB (gD ha 1) (bD (aB h1 hl))))<|.p (yQ hl (k:=k+1) h1) (.z rfl)) (by kernel_rfl) hi⟩
     |false=>
      rw[Rv r c1 c2 c3];exact ⟨x,y,IE (.b bM<|.o (qE h)<|.b hb<|.b ((in1 c wi).trans (aE aj c2))<|.b ((in1 c qF).trans (aE aj c3)) (.z trivial)) (by kernel_rfl)⟩
theorem RB(s)(hl:s.length<=90000)(n)(σ)(Q)(X)
  (hq:match toks s with | some l=>Q (.lst (l.map .str)) σ | none=>X):CW (n+2) "_tokens" [.str s] σ Q X:=by
 refine jk (abD hl (n:=n) (s.length) 0 [] .un .un (aV _) (bW _) (aV _)) λx y h=>?_;rw[tm] at h
 cases e:toks s with
 |some l=>rw[e] at h hq;exact bz (.p rfl<|.c<|.l h<|.fin hq)
 |none=>rw[e] at h hq;exact bz (.p rfl<|.c<|.lx h hq)
abbrev lH:=Option (Option (aN×List aK))
noncomputable def wm(s:aK):Bool:=[[44],[124],[38]].contains s
noncomputable def kd(s:aK)(p q:aN):aN:=if s=[44] then .gr p q else if s=[124] then .ch p q else .il p q
noncomputable def iT(part:List aK->lH):Nat->Option aK->aN->List aK->lH
 |0,U1,U2,U3=>am
 |U1+1,U2,p,[]=>aj (aj (p,[]))
 |k+1,sg,p,s::r=>if wm s=ak then (if sg=am\/sg=aj s then
   (match part r with
    |some (aj (q,r'))=>iT part k (aj s) (kd s p q) r'
    |some am=>aj am
    |none=>am) else aj am) else aj (aj (p,s::r))
theorem abE:iT part (k+1) sg p (s::r)=if wm s=ak then (if sg=am\/sg=aj s then
   (match part r with
    |some (aj (q,r'))=>iT part k (aj s) (kd s p q) r'
    |some am=>aj am
    |none=>am) else aj am) else aj (aj (p,s::r)):=rfl
def yT(part:List aK->lH):lH->lH
 |some (aj (p,r))=>iT part (r.length+1) am p r
 |some am=>aj am
 |none=>am
def qG(part:List aK->lH)(ts:List aK):lH:=yT part (part ts)
noncomputable def wn(p:aN):List aK->aN×List aK
 |[]=>(p,[])
 |s::r=>if s=[63] then (.ch p .em,r) else if s=[42] then (.ch (.sm p) .em,r) else if s=[43] then (.sm p,r) else (p,s::r)
def ao(lev:List aK->lH)(t:aK)(r:List aK):lH:=
 if t=[40] then (match lev r with
  |some (aj (p,c::r'))=>if c=[41] then aj (aj (p,r')) else aj am
  |some (aj (U1,[]))=>aj am
  |some am=>aj am
  |none=>am)
 else if t=cH then aj (aj (.tx,r)) else if t=Bj then aj (aj (.em,r))
 else if t=[110,111,116,65,108,108,111,119,101,100] then aj (aj (.nn,r))
 else if mf t=ak then aj (aj (.rf t,r)) else aj am
theorem Jk(a:s≠[63])(b:s≠[42])(c:s≠[43]):wn p (s::r)=(p,s::r):=(if_neg a).trans ((if_neg b).trans (if_neg c))
def mA:lH->lH
 |some (aj (p,r'))=>aj (aj (wn p r'))
 |some am=>aj am
 |none=>am
noncomputable def gH:Nat->List aK->lH
 |0,U1=>am
 |U1+1,[]=>aj am
 |f+1,t::r=>mA (ao (qG (gH f)) t r)
noncomputable def St(T r:List aK):Pz:=aj (T.map .str,((T.length-r.length:Nat):Int))
noncomputable def pk:List aK->V
 |[]=>.none
 |s::U1=>.str s
theorem Jl(h:r <:+ T):r.length<=T.length:=h.length_le
theorem abF(h:(s::r) <:+ T):dN (.lst (T.map .str)) (.int ((T.length-(s::r).length:Nat):Int))=aj (.str s):=by
 refine a9 h λgZ az=>?_;subst az;show (WA V.str (gZ++s::r))[(gZ++s::r).length-(s::r).length]?=_;rw[bJ,Nat.add_sub_cancel,lQ,Af (aV _),Cz];rfl
theorem EM(h:(s::r) <:+ T):r <:+ T:=by
 refine a9 h λgZ az=>?_;subst az;exact ⟨gZ++[s],by simp⟩
theorem Bx(h:(s::r) <:+ T):(aj (T.map V.str,((T.length-(s::r).length:Nat):Int)+1):Pz)=St T r:=
 aE (λk:Nat=>(aj (T.map V.str,(k:Int)):Pz)) (GC (Lz (Jl h)))
theorem yU(h:r <:+ T)(n):Bg (n+1) "peek" (St T r) (pk r) (St T r):=λQ X hq=>by
 cases r with
 |nil=>exact lD (.o (ob V.str T)<|.b (sz (a:=(T.length-0:Nat)) (b:=T.length) (WG _))<|.fin hq)
 |cons s r=>exact lD (.o (ob V.str T)<|.b (pE (a:=(T.length-(s::r).length:Nat)) (b:=T.length) (iY.2 (UM (b7 (ku _) (Jl h)) (ku _))))<|.o (abF h)<|.fin hq)
def sD(n:Nat)(f:String)(T ts:List aK)(a:lH):Prop:=match a with
 |some (aj (p,r))=>r <:+ T/\Bg n f (St T ts) p.toV (St T r)
 |some am=>Ec n f (St T ts)
 |none=>True
noncomputable def EN(sg:Option aK):V:=match sg with
 |some x=>.str x
 |none=>.none
theorem RC(s:aK):cy .isIn (.str s) (.tup [.str [44],.str [124],.str [38]])=aj (wm s):=by
 rw[QR];simp only[wm,xJ,ahm,CM,BEq.comm (a:=s)]
theorem RD(sg)(s:aK):cy .eo (EN sg) (.tup [.none,.str s])=aj (!decide (sg=am\/sg=aj s)):=by
 cases sg with
 |none=>rfl
 |some x=>
  refine aE (λb=>aj (!b)) (?_:(ap||(s==x||ap))=_);rw[CM];exact ii.2 ⟨λe=>eP (.inr (aE aj (cq e).symm)),λe=>(eT e).elim nofun λe=>beq_iff_eq.2 (aZ e).symm⟩
theorem abG(h:wm s=ak):∃k,fX "_KIND" [.str s]=aj (.str k)/\∀p q,(kd s p q).toV=.tup [.str k,p.toV,q.toV]:=by
 simp only[wm,xJ,ahm,CM,Gm,beq_iff_eq] at h
 rcases h with rfl | rfl | rfl<;>exact ⟨_,rfl,λU U=>rfl⟩
def EO:PS:=Ho.body.getD 2 .brk
def yV(p:aN)(sg:Option aK)(x:Sl):bj:=[.self,.v p.toV,.v (EN sg),x]
def RF(n:Nat)(T:List aK)(p:aN)(sg:Option aK)(x:Sl)(r:List aK)(a:lH):Prop:=match a with
 |some (aj (q,r'))=>r' <:+ T/\∃sg' x',ix n EO (yV p sg x) (St T r) (aj (.next,yV q sg' x',St T r'))
 |some am=>ix n EO (yV p sg x) (St T r) am
 |none=>True
theorem uG{T r:List aK}(hT:T.length<=90000):cz (.int (((T.length-r.length:Nat):Int)+1))=ak:=Bu _ (aB (cr (aB (xp _ _) hT)) aM)
theorem RG(hT:T.length<=90000)(hp:∀ts,ts <:+ T->sD (n+1) "part" T ts (part ts)):∀k sg p r x,r <:+ T->RF (n+1) T p sg x r (iT part k sg p r)
 |0,U1,U2,U3=>λU U=>trivial
 |k+1,sg,p,[]=>λx hr=>⟨hr,sg,x,r9 (.m (yU hr n) (.z rfl))⟩
 |k+1,sg,p,s::r=>λx hr=>by
  have nj:=yU hr n;rw[abE]
  cases c1:wm s with
  |false=>exact ⟨hr,sg,x,r9 (.m nj<|.b ((RC s).trans (aE aj c1)) (.z rfl))⟩
  |true=>
   have hb:=(RC s).trans (aE aj c1);rw[bw rfl]
   by_cases c2:sg=am\/sg=aj s
   .have hn:cy .eo (EN sg) (.tup [.none,.str s])=aj ap:=(RD sg s).trans (by rw[eP c2];rfl);refine ar (abG c1) λkn hk1 hk2=>?_;have FJ:=hp r (EM hr);rw[bw c2]
    cases e:part r with
    |none=>trivial
    |some a=>
     rw[e] at FJ
     cases a with
     |none=>exact IE (.m nj<|.b hb<|.m nj<|.b hn<|.p (uG (r:=s::r) hT)<|.sg (Bx hr)<|.o hk1<|.xm FJ trivial) (by kernel_rfl)
     |some pr=>
      obtain ⟨q,r'⟩:=pr;(refine bm FJ ?_;clear FJ;intro h1 h2);have hi:=RG hT hp k (aj s) (kd s p q) r' (.v (.str s)) h1
      have st:∀o,ix (n+1) EO (yV (kd s p q) (aj s) (.v (.str s))) (St T r') o->ix (n+1) EO (yV p sg x) (St T (s::r)) o:=λo h=>by
       unfold yV at h;rw[hk2] at h;exact uu (.m nj<|.b hb<|.m nj<|.b hn<|.p (uG (r:=s::r) hT)<|.sg (Bx hr)<|.o hk1<|.m h2 (.z rfl)) (by kernel_rfl) h
      show RF _ _ _ _ _ _ (iT part k (aj s) (kd s p q) r')
      cases e':iT part k (aj s) (kd s p q) r' with
      |none=>trivial
      |some a=>
       rw[e'] at hi
       cases a with
       |none=>exact st am hi
       |some pr=>exact ⟨hi.1,let ⟨g,y,h⟩:=hi.2;⟨g,y,st _ h⟩⟩
   .have hn:cy .eo (EN sg) (.tup [.none,.str s])=aj ak:=(RD sg s).trans (by rw[decide_eq_false c2];rfl);rw[if_neg c2];exact IE (.m nj<|.b hb<|.m nj<|.b hn<|.z trivial) (by kernel_rfl)
theorem RH(hT:T.length<=90000)(hp:∀ts,ts <:+ T->sD (n+1) "part" T ts (part ts))(ts)(ht:ts <:+ T):sD (n+2) "level" T ts (qG part ts):=by
 have h:=hp ts ht;unfold qG
 cases e:part ts with
 |none=>trivial
 |some a=>
  rw[e] at h
  cases a with
  |none=>exact λQ X hX=>lD (.xm h hX)
  |some pr=>
   obtain ⟨p,r⟩:=pr;have hl:=RG hT hp (r.length+1) am p r .un h.1;show sD _ _ _ _ (iT part (r.length+1) am p r)
   cases e':iT part (r.length+1) am p r with
   |none=>trivial
   |some a=>
    rw[e'] at hl
    cases a with
    |none=>exact λQ X hX=>lD (.m h.2<|.lx hl hX)
    |some pr=>exact ⟨hl.1,λQ X hq=>let ⟨g,y,hl⟩:=hl.2;lD (.m h.2<|.l hl<|.fin hq)⟩
theorem RJ(hT:T.length<=90000)(p)(r)(x)(hr:r <:+ T)(hq:Q (wn p r).1.toV (St T (wn p r).2)):cV (CW (n+1)) bB (Hp.body.drop 3) [.self,x,.v p.toV,.un] (St T r) (iN Q) X:=by
 have nj:=yU hr n
 cases r with
 |nil=>exact run (.m nj<|.fin hq)
 |cons s r=>
  have st:=λ{e t q}=>Ok.sg (n:=n+1) (e:=e) (t:=t) (q:=q) (Bx hr)
  by_cases c1:s=[63]
  .subst c1;exact run (.m nj<|.c<|.p (uG (r:=[63]::r) hT)<|st<|.fin hq)
  .by_cases c2:s=[42]
   .subst c2;exact run (.m nj<|.c<|.p (uG (r:=[42]::r) hT)<|st<|.fin hq)
   .by_cases c3:s=[43]
    .subst c3;exact run (.m nj<|.c<|.p (uG (r:=[43]::r) hT)<|st<|.fin hq)
    .rw[Jk c1 c2 c3] at hq;have hb:cy .isIn (.str s) (.tup [.str [63],.str [42],.str [43]])=aj ap:=by rw[QR];simp only[kz.2 (fV c1),kz.2 (fV c2),kz.2 (fV c3),Bool.or_self]
     exact run (.m nj<|.b hb<|.fin hq)
theorem EP(h:a≠b):cy .eq (.str a) (.str b)=aj ap:=(sd a b).trans (aE aj (kz.2 h))
theorem RK(p)(r):(wn p r).2 <:+ r:=by
 cases r with
 |nil=>exact Md _
 |cons s r=>
  by_cases c1:s=[63]
  .subst c1;exact xK _ _
  by_cases c2:s=[42]
  .subst c2;exact xK _ _
  by_cases c3:s=[43]
  .subst c3;exact xK _ _
  rw[Jk c1 c2 c3];exact Md _
theorem abH(hT:T.length<=90000)(hw:∀s∈T,s.length<=90000)(hp:∀ts,ts <:+ T->sD (n+2) "level" T ts (lev ts))(t)(r)(ht:(t::r) <:+ T) :
  sD (n+3) "part" T (t::r) (mA (ao lev t r)):=by
 have hr:=EM ht;have st:=λ{e t' q} (r':Ok (n+2) e t' q)=>Ok.m (yU ht (n+1)) (.p (uG (r:=t::r) hT) (Ok.sg (Bx ht) r'));have tl:=λp Q X h=>RJ hT (n:=n+1) p r (.v (.str t)) (Q:=Q) (X:=λU=>X) hr h;have sf:=λp=>(RK p r).trans hr;unfold ao
 by_cases c1:t=[40]
 .subst c1;rw[bw rfl];have h:=hp r hr
  cases e:lev r with
  |none=>trivial
  |some a=>
   rw[e] at h
   cases a with
   |none=>exact λQ X hX=>lD (st <| .c <| .xm h hX)
   |some pr=>
    obtain ⟨p,r'⟩:=pr;have Kq:=yU h.1 (n+1)
    cases r' with
    |nil=>exact λQ X hX=>lD (st<|.c<|.m h.2<|.m Kq<|.fin hX)
    |cons c r'=>
     by_cases c2:c=[41]
     .subst c2;exact ⟨(RK p r').trans (EM h.1),λQ X hq=>lD (st<|.c<|.m h.2<|.m Kq<|.c<|.p (uG (r:=[41]::r') hT)<|.sg (Bx h.1)<|.stop (RJ hT (n:=n+1) p r' (.v (.str [40])) (X:=λU=>X) (EM h.1) hq))⟩
     .show sD _ _ _ _ (mA (if c=[41] then aj (aj (p,r')) else aj am));rw[if_neg c2];have hb:cy .ne (.str c) (.str [41])=aj ak:=(aaV c [41]).trans (aE (λb=>aj (!b)) (kz.2 c2));exact λQ X hX=>lD (st<|.c<|.m h.2<|.m Kq<|.b hb<|.fin hX)
 .rw[if_neg c1]
  by_cases c2:t=cH
  .subst c2;exact ⟨sf .tx,λQ X hq=>lD (st<|.c<|.c<|.d<|.stop (tl .tx Q X hq))⟩
  .rw[if_neg c2]
   by_cases c3:t=Bj
   .subst c3;exact ⟨sf .em,λQ X hq=>lD (st<|.c<|.c<|.d<|.stop (tl .em Q X hq))⟩
   .rw[if_neg c3];have hb2:cy .isIn (.str t) (.tup [.str [116,101,120,116],.str [101,109,112,116,121]])=aj ap:=(in2 t cH Bj).trans (aE aj (by rw[kz.2 (fV c2),kz.2 (fV c3)];rfl))
    by_cases c4:t=[110,111,116,65,108,108,111,119,101,100]
    .subst c4;exact ⟨sf .nn,λQ X hq=>lD (st<|.c<|.c<|.c<|.d<|.stop (tl .nn Q X hq))⟩
    .rw[if_neg c4];have FN:eg (n+2) "_is_name" [.str t] (.bool (mf t)):=λQ X=>Rt t (hw t (ht.subset dh)) n _ Q X
     cases c5:mf t with
     |false=>rw[c5] at FN;exact λQ X hX=>lD (st<|.b (EP c1)<|.b hb2<|.b (EP c4)<|.c<|.r FN<|.fin hX)
     |true=>rw[c5] at FN;exact ⟨sf (.rf t),λQ X hq=>lD (st<|.b (EP c1)<|.b hb2<|.b (EP c4)<|.c<|.r FN<|.d<|.stop (tl (.rf t) Q X hq))⟩
theorem RM{T:List aK}(hT:T.length<=90000)(hw:∀s∈T,s.length<=90000):∀f n,2*f+3<=n->∀ts,ts <:+ T->sD n "part" T ts (gH f ts)
 |0=>λU U U U=>trivial
 |f+1=>λn hn ts ht=>by
  refine a9 (Aq 3 (aB (ms 3 _) hn)) λn az=>?_;subst az
  cases ts with
  |nil=>exact λQ X hX=>lD (.m (yU ht (n+1))<|.p (uG (r:=[]) hT)<|.fin hX)
  |cons t r=>exact abH hT hw (RH hT λts ht=>RM hT hw f (n+1) (by lia) ts ht) t r ht
noncomputable def wo:lH->Option (Option aN)
 |none=>am
 |some am=>aj am
 |some (aj (p,r))=>if r=[] then aj (aj p) else aj am
def RN(a:Option (Option aN))(Q:V->Prop)(X:Prop):Prop:=match a with
 |some (aj p)=>Q p.toV
 |some am=>X
 |none=>False
def yW:Option (List aK)->Option (Option aN)
 |none=>aj am
 |some T=>wo (qG (gH 3) T)
def m0(s:aa):Option (Option aN):=yW (toks s)
theorem abI(h:wj a b c r=aj T):a=aj T\/∃k T',k.length<=r.length+1/\(a=aj T'\/b=aj T')/\T=k::T':=by
 unfold wj at h
 by_cases h1:c=32
 .rw[bw h1] at h;exact .inl h
 rw[if_neg h1] at h
 by_cases h2:l9 c=ak
 .rw[bw h2] at h;exact ar (g7.1 h) λT' e1 e2=>.inr ⟨c::r.takeWhile c9,T',cr (ahl c9 (l:=r)).length_le,.inr e1,e2.symm⟩
 rw[if_neg h2] at h
 by_cases h3:qF.contains c=ak
 .rw[bw h3] at h;exact ar (g7.1 h) λT' e1 e2=>.inr ⟨[c],T',cr (bW _),.inl e1,e2.symm⟩
 .rw[if_neg h3] at h;cases h
theorem Jm:∀n s,s.length<=N->∀T,yR n s=aj T->T.length<=s.length/\∀t∈T,t.length<=N
 |0,U1=>λU T h=>by (replace h:=aZ h;cases h);exact ⟨bW _,nofun⟩
 |U1+1,[]=>λU T h=>by (replace h:=aZ h;cases h);exact ⟨bW _,nofun⟩
 |n+1,c::r=>λhs T h=>by
  have hd:=(z6 c9 (l:=r)).length_le;have i1:=Jm n r (tA hs)
  rcases abI h with h | h
  .exact (i1 T h).imp_left eU
  .refine bX h λa T' h1 h2 e=>?_;have:=h2.elim (i1 T') ((λT h=>(Jm n (r.dropWhile c9) (aB hd (tA hs)) T h).imp_left λg=>aB g hd) T');rw[e];exact ⟨cr this.1,λt ht=>(cD.1 ht).elim (λe=>e▸aB h1 hs) (this.2 t)⟩
theorem abJ(s)(hl:s.length<=90000)(n)(σ)(Q)(X)
  (hq:RN (m0 s) (λv=>Q v σ) X):CW (n+11) "read_pattern" [.str s] σ Q X:=by
 cases e:toks s with
 |none=>rw[m0,e] at hq;exact bz (.x (λQ X h=>RB s hl _ _ Q X (by rw[e];exact h)) hq)
 |some T=>
  rw[m0,e] at hq;replace hq:RN (wo (qG (gH 3) T)) _ _:=hq;have lK:eg (n+10) "_tokens" [.str s] (.lst (T.map .str)):=λQ X h=>RB s hl _ _ Q X (by rw[e];exact h);refine bm ((Jm _ s (aV _) T e)) λb1 b2=>?_;have fj:(aj (T.map V.str,(0:Int)):Pz)=St T T:=by simp[St]
  have h:=RH (aB b1 hl) (RM (T:=T) (aB b1 hl) (λs hs=>aB (b2 s hs) hl) 3 (n+9) (ms 9 n)) T (Md _)
  cases e':qG (gH 3) T with
  |none=>rw[e'] at hq;exact hq.elim
  |some a=>
   rw[e'] at hq h
   cases a with
   |none=>
    unfold sD at h;rw[<- fj] at h;exact bz (.r lK<|.xm h hq)
   |some pr=>
    obtain ⟨p,r⟩:=pr;(refine bm h ?_;clear h;intro h1 h2);rw[<- fj] at h2
    cases r with
    |nil=>exact bz (.r lK<|.m h2<|.o (ob V.str T)<|.b (o:=cy .ne (.int (T.length-0:Nat)) (.int T.length)) (aE (λb=>aj (!b)) (f0 _))<|.fin hq)
    |cons c r=>exact bz (.r lK<|.m h2<|.o (ob V.str T)<|.b (o:=cy .ne (.int (T.length-(c::r).length:Nat)) (.int T.length)) (v:=ak) (aE (λb=>aj (!b)) ((Rs _ _).trans (kz.2 (ji (UM (b7 (ku _) (Jl h1)) (ku _))))))<|.fin hq)
def nm:aa->aa×aa
 |[]=>([],[])
 |c::r=>if l9 c=ak then (c::r.takeWhile c9,r.dropWhile c9) else ([],c::r)
noncomputable def hZ(p s:aa):=if p.isPrefixOf s=ak then aj (s.drop p.length) else am
noncomputable def Jn:=[32,61,32,101,108,101,109,101,110,116,32]
noncomputable def qH:=[32,123,32]
noncomputable def uH:=[97,116,116,114,105,98,117,116,101,32]
noncomputable def By:=[44,32]
noncomputable def jJ:aa->Bool×aa
 |[]=>(ak,[])
 |c::r=>if c=63 then (ap,r) else (ak,c::r)
def jq(r:aa):Option (aa×Bool×aa):=match hZ uH r with
 |none=>am
 |some r1=>if (nm r1).1=[]\/md.contains (nm r1).1=ak then am else
   match hZ By (jJ (nm r1).2).2 with
   |none=>am
   |some r4=>aj ((nm r1).1,(jJ (nm r1).2).1,r4)
noncomputable def Jo(r:aa)(f:aa->af×aa):Option (aa×Bool×aa)->af×aa
 |none=>([],r)
 |some x=>(.tup [.str x.1,.bool x.2.1]::(f x.2.2).1,(f x.2.2).2)
noncomputable def iU:Nat->aa->af×aa
 |0,r=>([],r)
 |k+1,r=>Jo r (iU k) (jq r)
theorem yX(h:jq r=am):iU (k+1) r=([],r):=aE (Jo r (iU k)) h
theorem wq(h:jq r=aj (a,nd,r')):iU (k+1) r=(.tup [.str a,.bool nd]::(iU k r').1,(iU k r').2):=aE (Jo r (iU k)) h
def oh(r):=decide ((nm r).1=[])||md.contains (nm r).1
def yY(n1 n2)(x:af×aa):=if x.2.length<3\/i3 x.2 [32,125]=ap then aj am else
 (m0 (x.2.take (x.2.length-2))).map (gT λp=>V.tup [.str n1,.str n2,.lst x.1,p.toV])
def RO(n1 n2:aa):Option aa->Option (Option V)
 |none=>aj am
 |some r4=>yY n1 n2 (iU (r4.length+1) r4)
def RP(n1:aa):Option aa->Option (Option V)
 |none=>aj am
 |some r2=>cond (oh r2) (aj am) (RO n1 (nm r2).1 (hZ qH (nm r2).2))
def kS(ba):=cond (oh ba) (aj am) (RP (nm ba).1 (hZ Jn (nm ba).2))
noncomputable def ps(ba r:aa):=ba.length-r.length
theorem EQ(r):(nm r).1++(nm r).2=r:=by
 cases r with
 |nil=>rfl
 |cons c r=>
  by_cases h:l9 c=ak
  .have e:nm (c::r)=(c::r.takeWhile c9,r.dropWhile c9):=bw h;rw[e];exact aE (c::·) (af5)
  .have e:nm (c::r)=([],c::r):=if_neg h;rw[e];rfl
theorem Bz(r):(nm r).2 <:+ r:=⟨_,EQ r⟩
theorem ER(h:r <:+ ba):ba.drop (ps ba r)=r:=by
 obtain ⟨gZ,rfl⟩:=h;simp[ps]
theorem BA(ba r):ps ba r<=ba.length:=xp _ _
theorem BB(h:a++r <:+ ba):ps ba r=ps ba (a++r)+a.length:=by
 have hl:=h.length_le;rw[bJ] at hl;unfold ps;rw[bJ,kZ a.length,<- ae6];exact (zP (Nat.le_sub_of_add_le hl)).symm
theorem ES(h:r <:+ ba):ps ba (nm r).2=ps ba r+(nm r).1.length:=by
 have e:=BB (a:=(nm r).1) (r:=(nm r).2) (ba:=ba) ((EQ r).symm▸h)
 rwa [EQ] at e
theorem abK(h:r <:+ ba):qD ba (ps ba r)=ps ba (nm r).2:=by
 unfold qD;rw[ER h,ES h]
 cases r with
 |nil=>rfl
 |cons c r=>
  dsimp only[nm]
  cases l9 c
  .rfl
  .exact kY _ _ _
theorem wr(h:r <:+ ba):kL (.str ba) (aj (ps ba r)) (aj (ps ba (nm r).2))=aj (.str (nm r).1):=by
 have e:=WC (l₁:=(nm r).1) (l₂:=(nm r).2);rw[EQ] at e;rw[Rw _ _ _ (ES h▸dH _ _) (BA _ _),ER h,ES h,La,e]
set_option tactic.hygienic true in
theorem sE(h:hZ p r=aj r'):p.isPrefixOf r=ak/\r=p++r':=by
 unfold hZ at h
 split at h
 .rename_i c
  simp at h;refine ⟨c,?_⟩;obtain ⟨t,rfl⟩:=tj.1 c;rw[GD] at h;rw[h]
 .simp at h
set_option tactic.hygienic true in
theorem BC(h:hZ p r=am):p.isPrefixOf r=ap:=by
 unfold hZ at h
 split at h
 .simp at h
 .rename_i c;exact ny.2 c
theorem ws(h:r <:+ ba)(hs:hZ p r=aj r'):r' <:+ ba/\ps ba r'=ps ba r+p.length:=by
 obtain ⟨-,rfl⟩:=sE hs;exact ⟨(C0 _ _).trans h,BB h⟩
theorem ET(h:r <:+ ba):((ps ba (nm r).2:Int)==(ps ba r:Int))=decide ((nm r).1=[]):=by
 rw[ES h,ii,beq_iff_eq,decide_eq_true_iff,<- Mb];exact ⟨λe=>ahn (VJ e),λe=>aE (λk=>((ps ba r+k:Nat):Int)) e⟩
theorem Jp:∀x,([63].isPrefixOf x=ak/\x=63::(jJ x).2/\(jJ x).1=ap)\/([63].isPrefixOf x=ap/\(jJ x).2=x/\(jJ x).1=ak)
 |[]=>.inr ⟨rfl,rfl,rfl⟩
 |c::r=>if e:c=63 then by subst e;exact .inl ⟨rfl,rfl,rfl⟩ else
  have q:jJ (c::r)=(ak,c::r):=if_neg e
  .inr ⟨Wx.2 (.inl (kz.2 (fV e))),aE (·.2) q,aE (·.1) q⟩
set_option tactic.hygienic true in
theorem abL(h:jq r=aj (a,nd,r')):r'.length<r.length:=by
 unfold jq at h
 split at h
 .simp at h
 .rename_i r1 e1
  split at h
  .simp at h
  .split at h
   .simp at h
   .rename_i r4 e4
    simp at h;obtain ⟨-,-,rfl⟩:=h;have h1:=aE vo (sE e1).2;have h4:=aE vo (sE e4).2;have h2:=(Bz r1).length_le;have h3:=((Jp ((nm r1).2)).elim (λh=>aB (dT _) (ec (aE vo h.2.1).symm)) λh=>ec (aE vo h.2.1):(jJ ((nm r1).2)).2.length<=((nm r1).2).length);simp only[bJ,uH,By,re,rg] at h1 h4;lia
section
variable {ba:aa}(hl:ba.length<=80000)
include hl
theorem iA(r):cz (.int (ps ba r:Int))=ak:=uC _ 80000 (aB (BA ba r) hl)
theorem EU(h:r <:+ ba)(n):eg (n+1) "_name_end" [.str ba,.int (ps ba r)] (.int (ps ba (nm r).2)):=λQ X hq=>Jh ba _ (BA _ _) (aB hl (by decide)) n _ Q X (by rw[abK h];exact hq)
theorem Ok.GM{r:aa}(h:r <:+ ba){e:Prop}{q:Prop}(c:oh r=ap)(a:Ok n e t q) :
  Ok n e (.b ap (.p (.p (.o (.str (nm r).1) (.b ap t))))) (cy .eq (.int (ps ba (nm r).2)) (.int (ps ba r))=aj ap/\cz (.int (ps ba r))=ak/\cz (.int (ps ba (nm r).2))=ak/\kL (.str ba) (aj (ps ba r)) (aj (ps ba (nm r).2))=aj (.str (nm r).1)/\cy .isIn (.str (nm r).1) (.tup (md.map .str))=aj ap/\q):=
 have c:=xy.1 c
 ⟨(eq_int _ _).trans (aE aj ((ET h).trans c.1)),iA hl _,iA hl _,wr h,(EK _).trans (aE aj c.2),a⟩
theorem Jq(h:r <:+ ba)(c:oh r=ak):(cy .eq (.int (ps ba (nm r).2)) (.int (ps ba r))=aj ak)\/(cy .eq (.int (ps ba (nm r).2)) (.int (ps ba r))=aj ap/\cy .isIn (.str (nm r).1) (.tup (md.map .str))=aj ak):=by
 unfold oh at c
 cases c1:decide ((nm r).1=[]) with
 |true=>exact .inl ((eq_int _ _).trans (aE aj ((ET h).trans c1)))
 |false=>rw[c1,GY] at c;exact .inr ⟨(eq_int _ _).trans (aE aj ((ET h).trans c1)),(EK _).trans (aE aj c)⟩
theorem lI(h:r <:+ ba)(c:p.isPrefixOf r=b):mL "startswith" ba [.str p,.int (ps ba r)]=aj (.bool b):=c▸(by
  have hl:=h.length_le;show (if (0:Int)<=(ps ba r:Int) then aj (V.bool (tU ba p (ps ba r:Int).toNat)) else am)=_;rw[bw (by lia)];unfold tU;simp only[z9,ER h]
  congr 2
  rw[ii,tj,Me];simp only[fM,nz,beq_iff_eq];constructor
  ·(intro bu;refine bm bu λU h=>?_);exact h.symm
  .intro e;obtain ⟨t,rfl⟩:=Me.2 e;exact ⟨BB h▸BA _ _,e.symm⟩)
theorem yZ(h:r <:+ ba)(hs:hZ p r=aj r'):jU .add (.int (ps ba r)) (.int p.length)=aj (.int (ps ba r':Nat)):=by rw[(ws h hs).2];exact (by rw[add_int];simp)
def wt(ba n1 n2:aa)(r:aa)(acc:af)(j a b c d:Sl):bj:=[.v (.str ba),j,.v (.str n1),.v (.int (ps ba r)),.v (.str n2),.ol acc,a,b,c,d,.un]
def EV:=Hl.body.getD 11 .brk
theorem abM(h:r <:+ ba)(hn:jq r=am)(j a b c d):∃a' b' c' d',ix (n+1) EV (wt ba n1 n2 r acc j a b c d) am (aj (.next,wt ba n1 n2 r acc j a' b' c' d',am)):=by
 unfold jq at hn
 cases d1:hZ uH r with
 |none=>exact ⟨a,b,c,d,r9 (.g (lI hl h (BC d1)) rfl (.z rfl))⟩
 |some r1=>
  rw[d1] at hn;refine bm (ws h d1) λt1 u1=>?_;have st:=λ{e t q} (x:Ok (n+1) e t q)=>Ok.g (lI hl h (sE d1).1) rfl (.g (yZ hl h d1) (iA hl r1) (.r (EU hl t1 n) x))
  cases d2:oh r1 with
  |true=>
       rcases Jq hl t1 d2 with g | ⟨g,g'⟩
       .exact ⟨.v (.int (ps ba r1)),.v (.int (ps ba (nm r1).2)),c,d,Ef (st<|.b g (.z rfl)) (by kernel_rfl)⟩
       .exact ⟨.v (.int (ps ba r1)),.v (.int (ps ba (nm r1).2)),c,d,Ef (st<|.b g<|.p (iA hl r1)<|.p (iA hl (nm r1).2)<|.o (wr t1)<|.b g' (.z rfl)) (by kernel_rfl)⟩
  |false=>
   have t2:(nm r1).2 <:+ ba:=(Bz r1).trans t1
   have hn:hZ By (jJ (nm r1).2).2=am:=by
    dsimp only at hn
    rw[if_neg (λc=>by
     have:=xy.1 d2
     rcases c with c | c
     .exact of_decide_eq_false this.1 c
     .rw[this.2] at c;cases c)] at hn
    cases e:hZ By (jJ (nm r1).2).2 with
    |none=>rfl
    |some=>rw[e] at hn;cases hn
   refine (Jp (nm r1).2).elim (λz=>d5 z λq1 q2 q3=>?_) λz=>d5 z λq1 q2 q3=>?_
   .have t3:(jJ (nm r1).2).2 <:+ ba:=(xK 63 _).trans (q2▸t2);have u3:(ps ba (nm r1).2:Int)+1=(ps ba (jJ (nm r1).2).2:Nat):=by have e:=BB (a:=[63]) (q2▸t2);rw[show [63]++_=_ from q2.symm] at e;rw[e];rfl
    have hs:=lI hl t3 (BC hn);have hf:=iA hl (jJ (nm r1).2).2;rw[<- u3] at hs hf;exact ⟨.v (.int (ps ba r1)),.v (.int (ps ba (nm r1).2)),.v (.bool ap),.v (.int ((ps ba (nm r1).2:Int)+1)),Ef (st<|.GM hl t1 d2<|.g (lI hl t2 q1) rfl<|.p hf<|.g hs rfl (.z rfl)) (by kernel_rfl)⟩
   .rw[q2] at hn;exact ⟨.v (.int (ps ba r1)),.v (.int (ps ba (nm r1).2)),.v (.bool ak),.v (.int (ps ba (nm r1).2)),Ef (st<|.GM hl t1 d2<|.g (lI hl t2 q1) rfl<|.g (lI hl t2 (BC hn)) rfl (.z rfl)) (by kernel_rfl)⟩
theorem abN(h:r <:+ ba)(hn:jq r=aj (x,nd,r5))(ha:acc.length<=80000)(j a b c d):r5 <:+ ba/\∃a' b' c' d',∀o,ix (n+1) EV (wt ba n1 n2 r5 (acc++[.tup [.str x,.bool nd]]) j a' b' c' d') am o->ix (n+1) EV (wt ba n1 n2 r acc j a b c d) am o:=by
 unfold jq at hn
 cases d1:hZ uH r with
 |none=>rw[d1] at hn;cases hn
 |some r1=>
  rw[d1] at hn;refine bm (ws h d1) λt1 u1=>?_
  by_cases d2:(nm r1).1=[]\/md.contains (nm r1).1=ak
  .dsimp only at hn;rw[bw d2] at hn;cases hn
  .dsimp only at hn;rw[if_neg d2] at hn;have d2:oh r1=ap:=xy.2 ⟨decide_eq_false λc=>d2 (.inl c),ny.2 λc=>d2 (.inr c)⟩
   cases d3:hZ By (jJ (nm r1).2).2 with
   |none=>rw[d3] at hn;cases hn
   |some r4=>
    rw[d3] at hn
    (replace hn:=aZ hn;injection hn with hn h2;cases hn;injection h2 with h2 h3;cases h2;cases h3)
    have t2:(nm r1).2 <:+ ba:=(Bz r1).trans t1;have ff:cz (.lst (acc++[.tup [.str (nm r1).1,.bool (jJ (nm r1).2).1]]))=ak:=l6 _ (by rw[bJ];exact aB (gD ha 1) (by decide));have st:=λ{e t q} (x:Ok (n+1) e t q)=>Ok.g (lI hl h (sE d1).1) rfl (.g (yZ hl h d1) (iA hl r1) (.r (EU hl t1 n) (.GM hl t1 d2 x)));refine (Jp (nm r1).2).elim (λz=>d5 z λq1 q2 q3=>?_) λz=>d5 z λq1 q2 q3=>?_
    .have t3:(jJ (nm r1).2).2 <:+ ba:=(xK 63 _).trans (q2▸t2);have u3:(ps ba (nm r1).2:Int)+1=(ps ba (jJ (nm r1).2).2:Nat):=by have e:=BB (a:=[63]) (q2▸t2);rw[show [63]++_=_ from q2.symm] at e;rw[e];rfl
     refine bm (ws t3 d3) λt5 u5=>?_;have hs:=lI hl t3 (sE d3).1;have hf:=iA hl (jJ (nm r1).2).2;have h5:=yZ hl t3 d3;rw[<- u3] at hs hf h5;rw[q3] at ff ⊢;exact ⟨t5,.v (.int (ps ba r1)),.v (.int (ps ba (nm r1).2)),.v (.bool ap),.v (.int ((ps ba (nm r1).2:Int)+1)),λo ho=>uu (st<|.g (lI hl t2 q1) rfl<|.p hf<|.g hs rfl<|.p (iA hl r1)<|.p (iA hl (nm r1).2)<|.o (wr t1)<|.p ff<|.g h5 (iA hl r4) (.z rfl)) (by kernel_rfl) ho⟩
    .rw[q2] at d3;refine bm (ws t2 d3) λt5 u5=>?_;rw[q3] at ff ⊢;exact ⟨t5,.v (.int (ps ba r1)),.v (.int (ps ba (nm r1).2)),.v (.bool ak),.v (.int (ps ba (nm r1).2)),λo ho=>uu (st<|.g (lI hl t2 q1) rfl<|.g (lI hl t2 (sE d3).1) rfl<|.p (iA hl r1)<|.p (iA hl (nm r1).2)<|.o (wr t1)<|.p ff<|.g (yZ hl t2 d3) (iA hl r4) (.z rfl)) (by kernel_rfl) ho⟩
theorem RQ:∀k r acc j a b c d,r <:+ ba->r.length<k->acc.length+r.length<=80000->(iU k r).2 <:+ ba/\∃a' b' c' d',ix (n+1) EV (wt ba n1 n2 r acc j a b c d) am (aj (.next,wt ba n1 n2 (iU k r).2 (acc++(iU k r).1) j a' b' c' d',am))
 |0=>λU U U U U U U U h U=>absurd h (xk _)
 |k+1=>λr acc j a b c d h hk ha=>by
  cases e:jq r with
  |none=>
   rw[yX e];exact C6 (abM hl (n1:=n1) (n2:=n2) (n:=n) (acc:=acc) h e j a b c d) λa' b' c' d' g=>⟨h,a',b',c',d',(eh acc).symm▸g⟩
  |some x=>
   obtain ⟨x,nd,r5⟩:=x;rw[wq e];have bM:=abL e;(refine bm (abN hl (n1:=n1) (n2:=n2) (n:=n) (acc:=acc) h e (by lia) j a b c d) λt5 zr=>C6 zr λa' b' c' d' g=>?_);refine bm (RQ (n1:=n1) (n2:=n2) (n:=n) k r5 (acc++[.tup [.str x,.bool nd]]) j a' b' c' d' t5 (b7 bM (pY hk)) (by rw[bJ];exact aB (ec (kY ..)) (aB (iE bM _) ha))) λt6 zr=>C6 zr λa2 b2 c2 d2 g2=>?_;rw[b8] at g2;exact ⟨t6,a2,b2,c2,d2,g _ g2⟩
end
theorem RS(r):kL (.str r) am (aj (-2))=aj (.str (r.take (r.length-2))):=by
 have e1:gq r.length (aj (-2:Int))=r.length-2:=Ra _ 1;show aj (V.str (r.take (gq r.length (aj (-2:Int)))))=_;rw[e1]
def uI(a:Option (Option V))(Q:V->Prop)(X:Prop):=match a with
 |some (aj v)=>Q v
 |some am=>X
 |none=>False
theorem abO(hl:ba.length<=80000)(h:r <:+ ba)(j a b c d){X:Prop}(hq:uI (yY n1 n2 (acc,r)) Q X):cV (CW (n+11)) bB (Hl.body.drop 12) (wt ba n1 n2 r acc j a b c d) am (iN λv U=>Q v) λU=>X:=by
 have st:=λ{e t q} (x:Ok (n+11) e t q)=>Ok.p (iA hl r) (.o ((by
   have e1:eR ba.length (aj (ps ba r:Int))=ps ba r:=yK (BA ba r);show aj (V.str ((ba.take ba.length).drop (eR ba.length (aj (ps ba r:Int)))))=_;rw[e1,Gz,ER h])) (.c x))
 have nu:∀b,i3 r [32,125]=b->mL "endswith" r [.str [32,125]]=aj (.bool b):=λb h=>h▸rfl;unfold yY at hq
 by_cases c1:r.length<3
 .rw[bw (.inl c1)] at hq;exact run (st<|.b (pE (b:=3) (iY.2 c1))<|.fin hq)
 .have bM:=sz (a:=r.length) (b:=3) λc=>c1 (iY.1 c)
  cases c2:i3 r [32,125] with
  |false=>
   rw[bw (.inr c2)] at hq;exact run (st<|.b bM<|.g (nu _ c2) rfl<|.fin hq)
  |true=>
   rw[if_neg (λc=>c.elim c1 λc=>by rw[c2] at c;cases c)] at hq;have KF:=λQ X=>abJ (r.take (r.length-2)) (aB (Va _ _) (aB (xp _ _) (aB h.length_le (aB hl (by decide))))) n am Q X
   cases e:m0 (r.take (r.length-2)) with
   |none=>rw[e] at hq;exact hq.elim
   |some x=>
    rw[e] at hq KF
    cases x with
    |none=>exact run (st<|.b bM<|.g (nu _ c2) rfl<|.p rfl<|.o (RS r)<|.x KF hq)
    |some p=>exact run (st<|.b bM<|.g (nu _ c2) rfl<|.p rfl<|.o (RS r)<|.r KF<|.fin hq)
theorem abP(ba)(hl:ba.length<=80000)(n)(σ)(Q)(X)
  (hq:uI (kS ba) (λv=>Q v σ) X):CW (n+12) "_read_def" [.str ba] σ Q X:=by
 have s0:ba <:+ ba:=Md _;have p0:((ps ba ba:Nat):Int)=0:=by unfold ps;rw[Cz];rfl
 have h0:=EU hl s0 (n+10);have c0:=wr s0;rw[p0] at h0 c0;have s1:(nm ba).2 <:+ ba:=Bz ba;have f1:=iA hl (nm ba).2
 cases c1:oh ba with
 |true=>
  replace hq:=Ei (λa=>uI a (λv=>Q v σ) X) hq c1;have g:=Jq hl s0 c1;rw[p0] at g
  rcases g with g | ⟨g,g'⟩
  .exact bz (.r h0<|.b g<|.fin hq)
  .exact bz (.r h0<|.b g<|.p rfl<|.p f1<|.o c0<|.b g'<|.fin hq)
 |false=>
  replace hq:=Ej (λa=>uI a (λv=>Q v σ) X) hq c1;have c1:=xy.1 c1;have g:=(ET s0).trans c1.1;rw[p0] at g;have gZ:=λ{e t q} (x:Ok (n+11) e t q)=>Ok.r h0 (Ok.b (aE aj g) (Ok.p (v:=cz (.int 0)) rfl (.p f1 (.o c0 (.b ((EK _).trans (aE aj c1.2)) (.p (v:=cz (.int 0)) rfl (.p f1 (.o c0 x))))))))
  cases c2:hZ Jn (nm ba).2 with
  |none=>rw[c2] at hq;exact bz (gZ<|.g (lI hl s1 (BC c2)) rfl<|.fin hq)
  |some r2=>
   rw[c2] at hq;have s2:=(ws s1 c2).1;have pre2:=λ{e t q} (x:Ok (n+11) e t q)=>gZ (Ok.g (lI hl s1 (sE c2).1) rfl (.g (yZ hl s1 c2) (iA hl r2) (.r (EU hl s2 (n+10)) x)))
   cases c3:oh r2 with
   |true=>
    replace hq:=Ei (λa=>uI a (λv=>Q v σ) X) hq c3
    rcases Jq hl s2 c3 with g | ⟨g,g'⟩
    .exact bz (pre2<|.b g<|.fin hq)
    .exact bz (pre2<|.b g<|.p (iA hl r2)<|.p (iA hl (nm r2).2)<|.o (wr s2)<|.b g'<|.fin hq)
   |false=>
    replace hq:=Ej (λa=>uI a (λv=>Q v σ) X) hq c3;have s3:(nm r2).2 <:+ ba:=(Bz r2).trans s2;have pre3:=λ{e t q} (x:Ok (n+11) e t q)=>pre2 (Ok.GM hl s2 c3 (.p (iA hl r2) (.p (iA hl (nm r2).2) (.o (wr s2) x))))
    cases c4:hZ qH (nm r2).2 with
    |none=>rw[c4] at hq;exact bz (pre3<|.g (lI hl s3 (BC c4)) rfl<|.fin hq)
    |some r4=>
     rw[c4] at hq;have s4:=(ws s3 c4).1;(refine bm (RQ hl (n1:=(nm ba).1) (n2:=(nm r2).1) (n:=n+10) (r4.length+1) r4 [] (.v (.int (ps ba (nm r2).2))) .un .un .un .un s4 (iF _) (aB (ec (jP _)) (aB s4.length_le hl))) λt4 zr=>C6 zr λa b c d g=>?_);exact bz (pre3<|.g (lI hl s3 (sE c4).1) rfl<|.g (yZ hl s3 c4) (iA hl r4)<|.p rfl<|.l g<|.stop (abO (n1:=(nm ba).1) (n2:=(nm r2).1) (acc:=(iU (r4.length+1) r4).1) hl t4 (.v (.int (ps ba (nm r2).2))) a b c d (n:=n) (Q:=λv=>Q v σ) (X:=X) hq))
noncomputable def ki:=[115,116,97,114,116,32,61,32]
noncomputable def g6:=[32,124,32]
noncomputable def EX(r:Option (Option af)):Option (Option V)->Option (Option af)
 |none=>am
 |some am=>aj am
 |some (aj v)=>r.map (gT (v::·))
noncomputable def oi:List aa->Option (Option af)
 |[]=>aj (aj [])
 |l::ls=>EX (oi ls) (kS l)
theorem y0(h:kS l=aj (aj v)):oi (l::ls)=(oi ls).map (gT (v::·)):=aE (EX (oi ls)) h
theorem RT(h:kS l=aj am):oi (l::ls)=aj am:=aE (EX (oi ls)) h
def y4(l0)(ls):=cond (ki.isPrefixOf l0&&(fH (l0.drop 8) g6).all mf) ((oi ls).map (gT λvs=>V.tup [.lst ((fH (l0.drop 8) g6).map .str),.lst vs])) (aj am)
def RU:List aa->Option (Option V)
 |[]=>am
 |l0::ls=>y4 l0 ls
def eM(text):=cond (i3 text [10]) (RU (fH (text.take (text.length-1)) [10])) (aj am)
theorem RV(s sep):(fH s sep).length<=s.length+1/\∀x∈fH s sep,x.length<=s.length:=by
 have:=split_len sep s 0 [];simpa[fH] using this
theorem abQ(s p):mL "startswith" s [.str p]=aj (.bool (p.isPrefixOf s)):=by
 show aj (V.bool (tU s p 0))=_;simp only[tU,tm,jP]
 congr 2
 rw[ii,tj,Me];simp only[fM,nz,beq_iff_eq];constructor
 ·(intro bu;refine bm bu λU h=>?_);exact h.symm
 .exact λe=>⟨(Me.2 e).length_le,e.symm⟩
theorem abR(a)(l):kL (.lst (a::l)) (aj 1) am=aj (.lst l):=by
 have e:eR (a::l).length (aj 1)=1:=yK (k:=1) (cr (bW _));show aj (V.lst (((a::l).take (a::l).length).drop (eR _ (aj 1))))=_;rw[e,Gz];rfl
theorem abS(s):kL (.str s) am (aj (-1))=aj (.str (s.take (s.length-1))):=by
 have e1:gq s.length (aj (-1:Int))=s.length-1:=Ra _ 0;show aj (V.str (s.take (gq s.length (aj (-1:Int)))))=_;rw[e1]
theorem abT(s):kL (.str s) (aj 8) am=aj (.str (s.drop 8)):=by
 have e:eR s.length (aj 8)=min 8 s.length:=I0 _ 8;show aj (V.str ((s.take s.length).drop (eR s.length (aj 8))))=_;rw[e,Gz]
 rcases ahi 8 s.length with h | h
 .rw[Gy h]
 .rw[ahj h,Ly,VQ h]
def RW:=Hm.body.getD 4 .brk
def uJ:=Hm.body.getD 6 .brk
theorem RX:∀(zs:List aK) x,(∀z∈zs,z.length<=90000)->tZ x=ak->∃x',tZ x'=ak/\FW (n+2) (fT RW) (fB RW) (zs.map .str) [.v a,.v b,.v c,x,.un,.un] (if zs.all mf=ak then aj (.next,[.v a,.v b,.v c,x',.un,.un]) else am)
 |[]=>λx U hx=>⟨x,hx,.nil⟩
 |z::zs=>λx h U=>by
  have hr:eg (n+2) "_is_name" [.str z] (.bool (mf z)):=λQ X=>Rt z (h z dh) n _ Q X;rw[xC]
  cases e:mf z with
  |false=>rw[e] at hr;exact ⟨x,‹_›,.exc (.r hr (.z trivial)) (by kernel_rfl)⟩
  |true=>
   rw[e] at hr;exact ar (RX (n:=n) (a:=a) (b:=b) (c:=c) zs (.v (.str z)) (λz hz=>h z (cJ _ hz)) rfl) λx' h1 h2=>⟨x',h1,.turn (f₁:=.next) (ρ₁:=[.v a,.v b,.v c,.v (.str z),.un,.un]) (.r hr (.z ⟨rfl,rfl⟩)) (by kernel_rfl) h2⟩
def RY(n)(a b c)(x y)(acc)(zs:List aK)(o:Option (Option af)):=match o with
 |some (aj vs)=>∃y',FW n (fT uJ) (fB uJ) (zs.map .str) [.v a,.v b,.v c,x,.ol acc,y] (aj (.next,[.v a,.v b,.v c,x,.ol (acc++vs),y']))
 |some am=>FW n (fT uJ) (fB uJ) (zs.map .str) [.v a,.v b,.v c,x,.ol acc,y] am
 |none=>True
theorem RZ:∀zs acc y,(∀z∈zs,z.length<=80000)->acc.length+zs.length<=100000->RY (n+12) a b c x y acc zs (oi zs)
 |[]=>λacc y U U=>⟨y,(eh acc).symm▸ .nil⟩
 |z::zs=>λacc y h hl=>by
  have hr:=λQ X=>abP z (h z dh) n am Q X;refine (?_:RY _ _ _ _ _ _ _ _ (EX (oi zs) (kS z)))
  cases e:kS z with
  |none=>trivial
  |some v=>
   rw[e] at hr
   cases v with
   |none=>exact FW.exc (.x (f:="_read_def") (vs:=[.str z]) hr trivial) (by kernel_rfl)
   |some v=>
    have hf:cz (.lst (acc++[v]))=ak:=l6 _ (by rw[bJ];exact aB (iE (cr (bW _)) _) hl);have hi:=RZ (n:=n) (a:=a) (b:=b) (c:=c) (x:=x) zs (acc++[v]) (.v (.str z)) (λz hz=>h z (cJ _ hz)) (by rw[bJ];exact aB (ec (kY _ _ _)) hl)
    have st:∀o,FW (n+12) (fT uJ) (fB uJ) (zs.map .str) [.v a,.v b,.v c,x,.ol (acc++[v]),.v (.str z)] o->FW (n+12) (fT uJ) (fB uJ) ((z::zs).map .str) [.v a,.v b,.v c,x,.ol acc,y] o:=λo ho=>
     .turn (f₁:=.next) (ρ₁:=[.v a,.v b,.v c,x,.ol (acc++[v]),.v (.str z)]) (.r (f:="_read_def") (vs:=[.str z]) hr<|.p hf (.z ⟨rfl,rfl⟩)) (by kernel_rfl) ho
    cases e':oi zs with
    |none=>trivial
    |some w=>
     rw[e'] at hi
     cases w with
     |none=>exact st am hi
     |some vs=>refine a9 hi λy' hi=>?_;rw[b8] at hi;exact ⟨y',st _ hi⟩
theorem R0(text)(hl:text.length<=70000)(n)(σ)(Q)(X)
  (hq:uI (eM text) (λv=>Q v σ) X):CW (n+13) "read_schema" [.str text] σ Q X:=by
 have he:∀b,i3 text [10]=b->mL "endswith" text [.str [10]]=aj (.bool b):=λb h=>h▸rfl;unfold eM at hq
 cases h1:i3 text [10] with
 |false=>rw[h1] at hq;exact bz (.g (he _ h1) rfl<|.fin hq)
 |true=>
  rw[h1] at hq;have d8:=RV (text.take (text.length-1)) [10];have ht:(text.take (text.length-1)).length<=70000:=aB (Gq _ _) hl;have hf:cz (.lst ((fH (text.take (text.length-1)) [10]).map .str))=ak:=l6 _ (by rw[ed];exact aB d8.1 (bD (cr ht)))
  cases h2:fH (text.take (text.length-1)) [10] with
  |nil=>rw[h2] at hq;exact hq.elim
  |cons l0 ls=>
   rw[h2] at hq d8 hf;replace hq:uI (y4 l0 ls) (λv=>Q v σ) X:=hq;unfold y4 at hq;have hsp:mL "split" (text.take (text.length-1)) [.str [10]]=aj (.lst ((l0::ls).map .str)):=h2▸rfl;have hls:∀l∈ls,l.length<=80000:=λl h=>bD (aB (d8.2 l (cJ _ h)) ht);have gZ:=λ{e t q} (x:Ok (n+12) e t q)=>Ok.g (he _ h1) rfl (.p (v:=cz (.int (-1))) rfl (.o (abS text) (.g hsp hf (.c x))));have fj:∀b,ki.isPrefixOf l0=b->mL "startswith" l0 [.str ki]=aj (.bool b):=λb h=>h▸abQ l0 ki
   cases h3:ki.isPrefixOf l0 with
   |false=>rw[h3] at hq;exact bz (gZ <| .g (fj _ h3) rfl <| .fin hq)
   |true=>
    rw[h3] at hq;have Kp:=RV (l0.drop 8) g6;have h0:(l0.drop 8).length<=70000:=aB (by rw[mw];exact xp _ _) (aB (d8.2 l0 dh) ht);have Uh:mL "split" (l0.drop 8) [.str [32,124,32]]=aj (.lst ((fH (l0.drop 8) g6).map .str)):=rfl;generalize fH (l0.drop 8) g6=sts at Kp Uh hq;have hf2:cz (.lst (sts.map .str))=ak:=l6 _ (by rw[ed];exact aB Kp.1 (bD (cr h0)));have pre2:=λ{e t q} (x:Ok (n+12) e t q)=>gZ (Ok.g (fj _ h3) rfl (.c (.p (v:=cz (.int 8)) rfl (.o (abT l0) (.g Uh hf2 x)))));refine ar (RX (n:=n+10) (a:=.str text) (b:=.lst ((l0::ls).map .str)) (c:=.lst (sts.map .str)) sts .un (λz hz=>bD (aB (Kp.2 z hz) h0)) rfl) λx' hx g1=>?_
    cases h4:sts.all mf with
    |false=>
     rw[h4] at hq;rw[if_neg (by rw[h4];decide)] at g1;exact bz (pre2<|.WJ g1 hq)
    |true=>
     rw[h4] at hq;rw[bw h4] at g1;have g2:=RZ (n:=n) (a:=.str text) (b:=.lst ((l0::ls).map .str)) (c:=.lst (sts.map .str)) (x:=x') ls [] .un hls (by rw[rg,jP];exact bD (aB (g8 d8.1) ht));have pre3:=λ{e t q} (x:Ok (n+12) e t q)=>pre2 (Ok.lf g1 (.p (v:=List.all [.v (.str text),.v (.lst ((l0::ls).map .str)),.v (.lst (sts.map .str)),x',.un,.un] tZ) (by simp only[xC,hx];rfl) (.p (v:=cz (.int 1)) rfl (.o (abR (.str l0) (ls.map .str)) x))))
     cases h5:oi ls with
     |none=>rw[h5] at hq;exact hq.elim
     |some w=>
      rw[h5] at hq g2
      cases w with
      |none=>exact bz (pre3<|.WJ g2 hq)
      |some vs=>refine a9 g2 λy' g2=>?_;exact bz (pre3<|.lf g2<|.fin hq)
def NA:aa->Prop
 |[]=>True
 |c::U1=>c9 c=ap
theorem abU(h:NA s):s.takeWhile c9=[]/\s.dropWhile c9=s:=by
 cases s with
 |nil=>exact ⟨rfl,rfl⟩
 |cons c s=>have h:c9 c=ap:=h;simp[G2,WF,h]
theorem R1(hw:∀c∈w,c9 c=ak)(h:NA s):(w++s).takeWhile c9=w/\(w++s).dropWhile c9=s:=by
 induction w with
 |nil=>exact abU h
 |cons c w ih=>
  have:=ih λd hd=>hw d (cJ _ hd);simp[G2,WF,(hw c dh),this.1,this.2]
theorem pF(hc:l9 c=ak)(hw:∀d∈w,c9 d=ak)(h:NA s):toks (c::(w++s))=(toks s).map ((c::w)::·):=by
 rw[Ru _ hc,(R1 hw h).1,(R1 hw h).2]
def Jr:Nat->List aK
 |0=>[sA]
 |1=>[sB]
 |2=>[cH]
 |3=>[Bj]
 |4=>[[110,111,116,65,108,108,111,119,101,100]]
 |5=>[[40],sA,[41]]
 |_=>[sB]
noncomputable def y5:Nat->aa
 |0=>[]
 |1=>[63]
 |2=>[32,43]
 |_=>[42]
noncomputable def oj:Nat->List aK
 |0=>[]
 |1=>[[63]]
 |2=>[[43]]
 |_=>[[42]]
theorem wu(m)(t):mZ m t=t++y5 m:=by
 match m with
 |0=>exact (eh t).symm
 |1=>rfl
 |2=>rfl
 |U1+3=>rfl
theorem R2(m)(h:NA s):NA (y5 m++s):=by
 match m with
 |0=>exact h
 |1=>rfl
 |2=>rfl
 |U1+3=>rfl
theorem wv(k)(s):NA (uE k++s):=by
 match k with
 |0=>rfl
 |1=>rfl
 |U1+2=>rfl
noncomputable def jr:Nat->aK
 |0=>[44]
 |1=>[124]
 |_=>[38]
theorem ww(o:Option (List aK))(f g:List aK->List aK):(o.map f).map g=o.map λl=>g (f l):=by cases o<;>rfl
theorem R3(i)(h:NA s):toks (og i++s)=(toks s).map (Jr i++·):=by
 match i with
 |0=>exact pF (c:=97) (w:=[]) rfl (by simp) h
 |1=>exact pF (c:=98) (w:=[55]) rfl (by simp;rfl) h
 |2=>exact pF (c:=116) (w:=[101,120,116]) rfl aM h
 |3=>
  refine (pF (c:=101) (w:=[109,112,116,121]) (s:=32::s) rfl aM rfl).trans ?_;rw[jc];rfl
 |4=>exact pF (c:=110) (w:=[111,116,65,108,108,111,119,101,100]) rfl aM h
 |5=>
  refine (kh (c:=40) (97::41::s) rfl).trans ?_;have:=pF (c:=97) (w:=[]) (s:=41::s) rfl (by simp) rfl;rw[oO] at this;rw[this,kh s rfl,ww,ww];rfl
 |U1+6=>
  exact (jc (98::55::s)).trans (pF (c:=98) (w:=[55]) rfl (by simp;rfl) h)
theorem R4(m)(s):toks (y5 m++s)=(toks s).map (oj m++·):=by
 match m with
 |0=>exact (congrFun Option.map_id (toks s)).symm
 |1=>exact kh s rfl
 |2=>exact (jc (43::s)).trans (kh s rfl)
 |U1+3=>exact kh s rfl
theorem BD(k)(s):toks (uE k++s)=(toks s).map (jr k::·):=by
 match k with
 |0=>exact (jc (44::s)).trans (kh s rfl)
 |1=>exact kh s rfl
 |U1+2=>
  refine (jc (32::38::32::s)).trans ((jc (38::32::s)).trans ((kh (32::s) rfl).trans ?_));rw[jc];rfl
def gQ(x):=Jr (bh x 7)++oj (bh x 4)
theorem uK(x:Int)(h:NA s):toks (aQ x++s)=(toks s).map (gQ x++·):=by
 unfold aQ gQ;rw[wu,b8,R3 _ (R2 _ h),R4,ww];simp only[b8]
def EY(bv one two m)(a b c):=
 if bv=0 then a++jr one::(b++jr one::c)
 else if bv=1 then c++jr two::([40]::(a++jr one::(b++[41]::oj m)))
 else [40]::(a++jr one::(b++[41]::(oj m++jr two::c)))
theorem R5(one m)(a b)(h:NA s):toks (mZ m ([40]++fQ one (aQ a) (aQ b)++[32,41])++s)=(toks s).map λl=>[40]::(gQ a++jr one::(gQ b++[41]::(oj m++l))):=by
 rw[wu];simp only[fQ,b8,gi,oO];rw[kh _ (show qF.contains 40=ak from rfl),uK a (wv _ _),BD,uK b (show NA (32::41::(y5 m++s)) from rfl),jc,kh _ (show qF.contains 41=ak from rfl),R4];simp only[ww,b8,gi]
theorem R6(bv one two m)(a b c)(h:NA s):toks (dl bv one two m (aQ a) (aQ b) (aQ c)++s)=(toks s).map (EY bv one two m (gQ a) (gQ b) (gQ c)++·):=by
 unfold dl EY;split
 .simp only[fQ,b8];rw[uK a (wv _ _),BD,uK b (wv _ _),BD,uK c h];simp only[ww,b8,gi]
 .split
  .rw[fQ,b8,b8,uK c (wv _ _),BD,R5 one m a b h];simp only[ww,b8,gi]
  .rw[fQ,b8,b8,R5 one m a b (wv _ _),BD,uK c h];simp only[ww,b8,gi]
def qI:List aK->Prop
 |[]=>True
 |s::U1=>s≠[63]/\s≠[42]/\s≠[43]
theorem abV(h:qI r):wn p r=(p,r):=by
 cases r with
 |nil=>rfl
 |cons s r=>exact Jk h.1 h.2.1 h.2.2
theorem R7(m)(p)(h:qI r):wn p (oj m++r)=(lG m p,r):=by
 match m with
 |0=>exact abV h
 |1=>rfl
 |2=>rfl
 |U1+3=>rfl
theorem abW(f i)(r):∃t T,Jr i++r=t::T/\ao (qG (gH (f+1))) t T=aj (aj (qC i,r)):=by
 match i with
 |0=>exact ⟨_,_,rfl,rfl⟩
 |1=>exact ⟨_,_,rfl,rfl⟩
 |2=>exact ⟨_,_,rfl,rfl⟩
 |3=>exact ⟨_,_,rfl,rfl⟩
 |4=>exact ⟨_,_,rfl,rfl⟩
 |5=>exact ⟨_,_,rfl,rfl⟩
 |U1+6=>exact ⟨_,_,rfl,rfl⟩
theorem uL(f)(x)(h:qI r):gH (f+2) (gQ x++r)=aj (aj (bQ x,r)):=by
 unfold gQ;rw[b8];refine eZ (abW f (bh x 7) (oj (bh x 4)++r)) λt T e1 e2=>?_;rw[e1];exact (aE mA e2).trans (aE (λx=>aj (aj x)) (R7 _ _ h))
theorem abX(k)(p q):kd (jr k) p q=iz k p q:=by
 match k with
 |0=>rfl
 |1=>rfl
 |U1+2=>rfl
theorem BE(k)(r):qI (jr k::r):=by
 match k with
 |0=>exact ⟨by decide,by decide,by decide⟩
 |1=>exact ⟨by decide,by decide,by decide⟩
 |U1+2=>exact (by decide:([38]:aK)≠[63]/\([38]:aK)≠[42]/\([38]:aK)≠[43])
theorem BF(hs:sg=am\/sg=aj (jr j))(h:part r=aj (aj (q,r'))) :
  iT part (k+1) sg p (jr j::r)=iT part k (aj (jr j)) (iz j p q) r':=by
 refine (bw ((by
   match j with
   |0=>rfl
   |1=>rfl
   |U1 + 2=>rfl))).trans ((bw hs).trans ?_);rw[h,<- abX]
theorem R8(one m)(a b)(h:qI r):gH 3 ([40]::(gQ a++jr one::(gQ b++[41]::(oj m++r))))=aj (aj (lG m (iz one (bQ a) (bQ b)),r)):=by
 have hp:qG (gH 2) (gQ a++jr one::(gQ b++[41]::(oj m++r)))=aj (aj (iz one (bQ a) (bQ b),[41]::(oj m++r))):=by
  refine (aE (yT (gH 2)) (uL 0 a (BE _ _))).trans ((BF (.inl rfl) (uL 0 b (show qI ([41]::_) from ⟨by decide,by decide,by decide⟩))).trans ?_);rfl
 refine (aE mA (?_:ao (qG (gH 2)) [40] _=aj (aj (iz one (bQ a) (bQ b),oj m++r)))).trans (aE (λx=>aj (aj x)) (R7 _ _ h));rw[ao,bw rfl,hp];rfl
theorem R9(bv one two m)(a b c)(h:qI rest):∃k,rest.length<=k/\
  qG (gH 3) (EY bv one two m (gQ a) (gQ b) (gQ c)++rest)=iT (gH 3) (k+1) (aj (jr (if bv=0 then one else two))) (l8 bv one two m (bQ a) (bQ b) (bQ c)) rest:=by
 unfold EY l8
 by_cases c0:bv=0
 .simp only[c0,if_true,b8,gi];have e:(jr one::(gQ b++jr one::(gQ c++rest))).length=((gQ b).length+(gQ c++rest).length)+1+1:=aE (·+1) bJ;refine ⟨(gQ b).length+(gQ c++rest).length,aB (C0 _ _).length_le (ms _ _),(aE (yT (gH 3)) (uL 1 a (BE _ _))).trans ((BF (.inl rfl) (uL 1 b (BE _ _))).trans ?_)⟩;rw[e];exact BF (.inr rfl) (uL 1 c h)
 .by_cases c1:bv=1
  .subst c1;simp only[Nat.one_ne_zero,if_true,if_false,b8,gi]
   exact ⟨([40]::(gQ a++jr one::(gQ b++[41]::(oj m++rest)))).length,((((((C0 _ _).trans (xK _ _)).trans (C0 _ _)).trans (xK _ _)).trans (C0 _ _)).trans (xK _ _)).length_le,
    (aE (yT (gH 3)) (uL 1 c (BE _ _))).trans (BF (.inl rfl) (R8 one m a b h))⟩
  .simp only[c0,c1,if_false,b8,gi];exact ⟨(gQ c++rest).length,(C0 _ _).length_le,(aE (yT (gH 3)) (R8 one m a b (BE _ _))).trans (BF (.inl rfl) (uL 1 c h))⟩
theorem abY(h:10∉l):∀cur,iK [10] l 0 cur=[cur++l]:=by
 induction l with
 |nil=>exact λcur=>aE (·::[]) (eh cur).symm
 |cons c l ih=>exact λcur=>(Av (sep:=[10]) (c:=c) (s:=l) λe=>h (cD.2 (.inl (cq (dM.1 e).1)))).trans ((ih (λg=>h (cJ _ g)) _).trans (aE (·::[]) (b8 cur [c] l)))
theorem abZ(h:10∉l)(r):∀cur,iK [10] (l++10::r) 0 cur=(cur++l)::fH r [10]:=by
 induction l with
 |nil=>exact λcur=>(He rfl).trans (aE (·::fH r [10]) (eh cur).symm)
 |cons c l ih=>exact λcur=>(Av (sep:=[10]) (c:=c) (s:=l++10::r) λe=>h (cD.2 (.inl (cq (dM.1 e).1)))).trans ((ih (λg=>h (cJ _ g)) _).trans (aE (·::fH r [10]) (b8 cur [c] l)))
theorem qJ(h:10∉l)(r):fH (l++10::r) [10]=l::fH r [10]:=abZ h r []
theorem Sa(h:10∉l):fH l [10]=[l]:=abY h []
theorem ab0(t)(h:i3 t [10]=ap):eM t=aj am:=aE (cond · _ _) h
theorem EZ(t)(h:fH t [10]=l0::ls):eM (t++[10])=y4 l0 ls:=by
 have h1:i3 (t++[10]) [10]=ak:=by simp[i3]
 have h2:(t++[10]).take ((t++[10]).length-1)=t:=by simp
 rw[eM,h1,h2];exact aE RU h
theorem E0(h:jq r=am)(k):iU (k+1) r=([],r):=yX h
theorem qK{r2 r1:aa}(h1:nm ba=(eQ,r1))(h2:(decide (eQ=[])||md.contains eQ)=ap)(h3:hZ Jn r1=aj r2)(h4:(nm r2).1=tag)
  (h5:(decide (tag=[])||md.contains tag)=ap) (h6:hZ qH (nm r2).2=aj r4):kS ba=yY eQ tag (iU (r4.length+1) r4):=by
 subst h4;have e2:oh r2=ap:=h5;rw[kS,oh,h1,h2];exact (aE (RP eQ) h3).trans ((aE (cond · _ _) e2).trans (aE (RO eQ _) h6))
theorem sF(h:iU (r4.length+1) r4=(at_,pt++[32,125]))(hp:pt≠[]) :
  yY n1 n2 (iU (r4.length+1) r4)=(m0 pt).map (gT λp=>V.tup [.str n1,.str n2,.lst at_,p.toV]):=by
 rw[h,yY];have h1:i3 (pt++[32,125]) [32,125]=ak:=by simp[i3]
 have h2:0<pt.length:=List.length_pos_iff.2 hp
 have h3:¬((pt++[32,125]).length<3\/i3 (pt++[32,125]) [32,125]=ap):=by
  rw[h1];simp;lia
 rw[if_neg h3];have h4:(pt++[32,125]).take ((pt++[32,125]).length-2)=pt:=by simp
 rw[h4]
theorem ab1(i)(h:NA s):hZ uH (og i++s)=am:=by
 match i with
 |0=>
  cases s with
  |nil=>rfl
  |cons c s=>
   have h:c9 c=ap:=h;exact if_neg λe=>absurd ((cq (a:=116) (b:=c) (dM.1 (dM.1 e).2).1).symm▸h:c9 116=ap) aM
 |1=>rfl
 |2=>rfl
 |3=>rfl
 |4=>rfl
 |5=>rfl
 |U1+6=>rfl
theorem E1(x)(h:NA s):hZ uH (aQ x++s)=am:=by
 unfold aQ;rw[wu,b8];exact ab1 _ (R2 _ h)
theorem Js(bv one two m)(a b c)(s):hZ uH (dl bv one two m (aQ a) (aQ b) (aQ c)++s)=am:=by
 unfold dl;split
 .simp only[fQ,b8];exact E1 a (wv _ _)
 .split
  .simp only[fQ,b8];exact E1 c (wv _ _)
  .simp only[fQ,wu,b8,gi];rfl
theorem BG(h:hZ uH r=am):jq r=am:=by unfold jq;rw[h]
theorem ab2(i):og i≠[]:=by
 match i with
 |0=>exact qb _ _
 |1=>exact qb _ _
 |2=>exact qb _ _
 |3=>exact qb _ _
 |4=>exact qb _ _
 |5=>exact qb _ _
 |U1+6=>exact qb _ _
theorem BH(x):aQ x≠[]:=by unfold aQ;rw[wu];simp[ab2]
theorem Sb(bv one two m)(a b c):dl bv one two m (aQ a) (aQ b) (aQ c)≠[]:=by
 unfold dl;split
 .simp[fQ,BH]
 .split
  .simp[fQ,BH]
  .simp[fQ,BH]
theorem Sd(x)(hs:toks s=aj [])(h:NA s):m0 (aQ x++s)=aj (aj (bQ x)):=by
 exact (aE yW ((uK x h).trans (aE (gT _) hs))).trans (aE (λa=>wo (yT (gH 3) a)) (uL 1 x (show qI [] from trivial)))
theorem ab3(bv one two m)(a b c):m0 (dl bv one two m (aQ a) (aQ b) (aQ c))=aj (aj (l8 bv one two m (bQ a) (bQ b) (bQ c))):=by
 have h:=R6 bv one two m a b c (s:=[]) trivial;rw[eh] at h;exact ar (R9 bv one two m a b c (rest:=[]) trivial) λk U hk=>(aE yW h).trans (aE wo hk)
noncomputable def om:aK:=[82,48]
noncomputable def qL:=[100,111,99]
noncomputable def sX:=[120]
noncomputable def sY:=[121]
def dA:Nat->List aK
 |0=>[om]
 |1=>[om,sA]
 |2=>[sA]
 |_=>[sB,om]
noncomputable def cT:Nat->aa
 |0=>[97,116,116,114,105,98,117,116,101,32,105,100,44,32]
 |1=>[97,116,116,114,105,98,117,116,101,32,105,100,63,44,32]
 |2=>[97,116,116,114,105,98,117,116,101,32,105,100,44,32,97,116,116,114,105,98,117,116,101,32,107,50,63,44,32]
 |_=>[97,116,116,114,105,98,117,116,101,32,105,100,63,44,32,97,116,116,114,105,98,117,116,101,32,107,50,44,32]
noncomputable def uM:aK:=[105,100]
noncomputable def uN:aK:=[107,50]
def wx:Nat->List (aK×Bool)
 |0=>[(uM,ak)]
 |1=>[(uM,ap)]
 |2=>[(uM,ak),(uN,ap)]
 |_=>[(uM,ap),(uN,ak)]
def uO(h:Nat):af:=(wx h).map λa=>.tup [.str a.1,.bool a.2]
def fc(i):=ki++gL g6 (dA i)
noncomputable def kj:=[82,48,32,61,32,101,108,101,109,101,110,116,32,100,111,99,32,123,32]
def oo(h)(top):=kj++(cT h++(top++[32,125]))
noncomputable def E2:=[97,32,61,32,101,108,101,109,101,110,116,32,120,32,123,32]
def wy(one):=E2++(one++[32,32,125])
noncomputable def wz:=[98,55,32,61,32,101,108,101,109,101,110,116,32]
def y6(tag two):=wz++(tag++(qH++(two++[32,125])))
noncomputable def uP:=[32,61,32,101,108,101,109,101,110,116,32,121,32,123,32,116,101,120,116,32,125]
def wA(name):=name++uP
def y7(one tag two name):=wy one++10::(y6 tag two++10::wA name)
noncomputable def gz(c):=c != 10&&c != 123&&c != 125
theorem ab4(i):(og i).all gz=ak:=by
 match i with
 |0 | 1 | 2 | 3 | 4 | 5=>decide
 |U1+6=>exact (by decide:(og 6).all gz=ak)
theorem Se(m):(y5 m).all gz=ak:=by
 match m with
 |0 | 1 | 2=>decide
 |U1+3=>exact (by decide:(y5 3).all gz=ak)
theorem ab5(m):(uE m).all gz=ak:=by
 match m with
 |0 | 1=>decide
 |U1+2=>exact (by decide:(uE 2).all gz=ak)
theorem mh(x):(aQ x).all gz=ak:=by
 unfold aQ;rw[wu,xH,ab4,Se];rfl
theorem y8(ha:a.all gz=ak)(hb:b.all gz=ak):(fQ k a b).all gz=ak:=by
 unfold fQ;rw[xH,xH,ha,hb,ab5];rfl
theorem Sg(ha:a.all gz=ak):(mZ m ([40]++a++[32,41])).all gz=ak:=by
 rw[wu,xH,xH,xH,ha,Se];rfl
theorem js(bv one two m)(a b c):(dl bv one two m (aQ a) (aQ b) (aQ c)).all gz=ak:=by
 unfold dl;split
 .exact y8 (y8 (mh a) (mh b)) (mh c)
 .split
  .exact y8 (mh c) (Sg (y8 (mh a) (mh b)))
  .exact y8 (Sg (y8 (mh a) (mh b))) (mh c)
theorem m4{t:aa}(h:t.all gz=ak):10∉t/\123∉t/\125∉t:=by
 rw[eE] at h;refine ⟨λhc=>?_,λhc=>?_,λhc=>?_⟩<;>exact absurd (h _ hc) aM
theorem y9(i):10∉fc i/\ki.isPrefixOf (fc i)=ak/\fH ((fc i).drop 8) g6=dA i/\(dA i).all mf=ak/\123∉fc i/\125∉fc i:=by
 match i with
 |0=>decide +kernel
 |1=>decide +kernel
 |2=>decide +kernel
 |U1+3=>exact (by decide +kernel:10∉fc 3/\ki.isPrefixOf (fc 3)=ak/\fH ((fc 3).drop 8) g6=dA 3/\(dA 3).all mf=ak/\123∉fc 3/\125∉fc 3)
theorem E3(h):(cT h).all gz=ak:=by
 match h with
 |0 | 1 | 2=>decide
 |U1+3=>exact (by decide:(cT 3).all gz=ak)
theorem Sh(h)(ht:top.all gz=ak):10∉oo h top:=by
 simp only[oo,dZ,not_or];exact ⟨by decide,((m4 (E3 h)).1),((m4 ht).1),by decide⟩
theorem Si(ht:t.all gz=ak):10∉wy t:=by
 simp only[wy,dZ,not_or];exact ⟨by decide,((m4 ht).1),by decide⟩
theorem ab6(hg:10∉tag)(ht:t.all gz=ak):10∉y6 tag t:=by
 simp only[y6,dZ,not_or];exact ⟨by decide,hg,by decide,((m4 ht).1),by decide⟩
theorem ab7(hg:10∉name):10∉wA name:=by
 simp only[wA,dZ,not_or];exact ⟨hg,by decide⟩
theorem Sj(r):jq ([97,116,116,114,105,98,117,116,101,32,105,100,44,32]++r)=aj (uM,ak,r):=rfl
theorem Sk(r):jq ([97,116,116,114,105,98,117,116,101,32,105,100,63,44,32]++r)=aj (uM,ap,r):=rfl
theorem ab8(r):jq ([97,116,116,114,105,98,117,116,101,32,107,50,44,32]++r)=aj (uN,ak,r):=rfl
theorem ab9(r):jq ([97,116,116,114,105,98,117,116,101,32,107,50,63,44,32]++r)=aj (uN,ap,r):=rfl
theorem Jt(h)(hr:jq r=am)(k):iU (k+3) (cT h++r)=(uO h,r):=by
 match h with
 |0=>exact (wq (Sj r)).trans (by rw[yX hr];rfl)
 |1=>exact (wq (Sk r)).trans (by rw[yX hr];rfl)
 |2=>exact (wq (Sj ([97,116,116,114,105,98,117,116,101,32,107,50,63,44,32]++r))).trans (by rw[wq (k:=k+1) (ab9 r),yX (k:=k) hr])
 |U1+3=>exact (wq (Sk ([97,116,116,114,105,98,117,116,101,32,107,50,44,32]++r))).trans (by rw[wq (k:=k+1) (ab8 r),yX (k:=k) hr])
theorem Ju(h)(b):∃k,(cT h++b).length+1=k+3:=by
 have hl:2<=(cT h).length:=by
  match h with
  |0 | 1 | 2=>decide
  |U1+3=>exact (by decide:2<=(cT 3).length)
 exact ⟨_,aE (·+1) (zP (bJ▸aB hl (dH _ _))).symm⟩
theorem Sm(h bv one two m)(a b c):kS (oo h (dl bv one two m (aQ a) (aQ b) (aQ c)))=aj (aj (.tup [.str om,.str qL,.lst (uO h),(l8 bv one two m (bQ a) (bQ b) (bQ c)).toV])):=by
 unfold oo;rw[qK (eQ:=om) (tag:=qL) (r4:=cT h++(dl bv one two m (aQ a) (aQ b) (aQ c)++[32,125])) rfl aM rfl rfl aM rfl]
 have ha:iU ((cT h++(dl bv one two m (aQ a) (aQ b) (aQ c)++[32,125])).length+1) (cT h++(dl bv one two m (aQ a) (aQ b) (aQ c)++[32,125]))=(uO h,dl bv one two m (aQ a) (aQ b) (aQ c)++[32,125]):=by
  refine a9 (Ju h (dl bv one two m (aQ a) (aQ b) (aQ c)++[32,125])) λk hk=>?_;rw[hk];exact Jt h (BG (Js bv one two m a b c [32,125])) k
 rw[sF ha (Sb _ _ _ _ _ _ _),ab3];rfl
theorem Sn(x):kS (wy (aQ x))=aj (aj (.tup [.str sA,.str sX,.lst [],(bQ x).toV])):=by
 unfold wy;rw[qK (eQ:=sA) (tag:=sX) (r4:=aQ x++[32,32,125]) rfl aM rfl rfl aM rfl]
 have ha:iU ((aQ x++[32,32,125]).length+1) (aQ x++[32,32,125])=([],(aQ x++[32])++[32,125]):=by
  rw[E0 (BG (E1 x (show NA [32,32,125] from rfl)))];simp
 rw[sF ha (by simp),Sd x (s:=[32]) (by rw[jc,sC]) (show NA [32] from rfl)];rfl
theorem aca(tag)(ht:tag=sX\/tag=sY)(x):kS (y6 tag (aQ x))=aj (aj (.tup [.str sB,.str tag,.lst [],(bQ x).toV])):=by
 have ha:iU ((aQ x++[32,125]).length+1) (aQ x++[32,125])=([],aQ x++[32,125]):=by
  rw[E0 (BG (E1 x (show NA [32,125] from rfl)))]
 have hp:=Sd x sC (show NA [] from trivial);rw[eh] at hp;unfold y6
 rcases ht with rfl | rfl
 .rw[qK (eQ:=sB) (tag:=sX) (r4:=aQ x++[32,125]) rfl aM rfl rfl aM rfl];rw[sF ha (BH x),hp];rfl
 .rw[qK (eQ:=sB) (tag:=sY) (r4:=aQ x++[32,125]) rfl aM rfl rfl aM rfl];rw[sF ha (BH x),hp];rfl
theorem Sp:m0 [116,101,120,116]=aj (aj .tx):=rfl
theorem acb(name:aa)(ht:name=sA\/name=sB):kS (wA name)=aj (aj (.tup [.str name,.str sY,.lst [],aN.tx.toV])):=by
 rcases ht with rfl | rfl
 .rw[qK (ba:=wA sA) (eQ:=sA) (tag:=sY) (r4:=[116,101,120,116,32,125]) rfl aM rfl rfl aM rfl];rw[sF (at_:=[]) (pt:=[116,101,120,116]) rfl (by simp)];exact aE (gT _) Sp
 .rw[qK (ba:=wA sB) (eQ:=sB) (tag:=sY) (r4:=[116,101,120,116,32,125]) rfl aM rfl rfl aM rfl];rw[sF (at_:=[]) (pt:=[116,101,120,116]) rfl (by simp)];exact aE (gT _) Sp
theorem Jv(i)(ls):y4 (fc i) ls=(oi ls).map (gT λvs=>V.tup [.lst ((dA i).map .str),.lst vs]):=by
 have h:=y9 i;rw[y4,h.2.1,h.2.2.1,h.2.2.2.1];rfl
theorem acd(i h bv one two m)(a b c x y)(tag name:aa)(ht:tag=sX\/tag=sY)(hn:name=sA\/name=sB) :
  eM ((fc i++10::(oo h (dl bv one two m (aQ a) (aQ b) (aQ c))++10::y7 (aQ x) tag (aQ y) name))++[10]) =
   aj (aj (.tup [.lst ((dA i).map .str),.lst [.tup [.str om,.str qL,.lst (uO h),(l8 bv one two m (bQ a) (bQ b) (bQ c)).toV],
    .tup [.str sA,.str sX,.lst [],(bQ x).toV],.tup [.str sB,.str tag,.lst [],(bQ y).toV],.tup [.str name,.str sY,.lst [],aN.tx.toV]]])):=by
 have n3:10∉tag:=by rcases ht with rfl | rfl<;>decide
 have n4:10∉name:=by rcases hn with rfl | rfl<;>decide
 rw[EZ (l0:=fc i) (ls:=[oo h (dl bv one two m (aQ a) (aQ b) (aQ c)),wy (aQ x),y6 tag (aQ y),wA name])]
 .rw[Jv,y0 (Sm ..),y0 (Sn ..),y0 (aca tag ht _),y0 (acb name hn)];rfl
 .unfold y7;rw[qJ ((y9 i).1),qJ (Sh h (js ..)),qJ (Si (mh x)),qJ (ab6 n3 (mh y)),Sa (ab7 n4)]
noncomputable def cW:Nat->aa×aa
 |0=>([115,116,97,114,116,32,61,32],[98,101,103,105,110,32,61,32])
 |1=>([115,116,97,114,116,32,61,32],[115,116,97,114,116,32,61,32,32,124,32])
 |2=>([115,116,97,114,116,32,61,32],[115,116,97,114,116,32,61,32,116,101,120,116,32,124,32])
 |3=>([115,116,97,114,116,32,61,32],[115,116,97,114,116,32,61,32,97,45,32,124,32])
 |4=>([115,116,97,114,116,32,61,32],[10,115,116,97,114,116,32,61,32])
 |5=>([10,82,48,32,61,32],[10,10,82,48,32,61,32])
 |6=>([10,82,48,32,61,32],[10,32,61,32])
 |7=>([10,82,48,32,61,32],[10,55,82,48,32,61,32])
 |8=>([10,82,48,32,61,32],[10,101,109,112,116,121,32,61,32])
 |9=>([10,82,48,32,61,32],[10,115,116,97,114,116,32,61,32,97,10,82,48,32,61,32])
 |10=>([101,108,101,109,101,110,116,32,100,111,99],[101,108,101,109,97,110,116,32,100,111,99])
 |11=>([32,125,10],[44,32,101,108,101,109,101,110,116,32,125,10])
 |12=>([101,108,101,109,101,110,116,32,100,111,99],[101,108,101,109,101,110,116,32,116,101,120,116])
 |13=>([101,108,101,109,101,110,116,32,100,111,99],[101,108,101,109,101,110,116,32])
 |14=>([100,111,99,32,123,32],[100,111,99,32,91,32])
 |15=>([97,116,116,114,105,98,117,116,101,32,105,100],[97,116,116,114,105,98,117,116,101,32,116,101,120,116])
 |16=>([97,116,116,114,105,98,117,116,101,32,105,100],[97,116,116,114,105,98,117,116,101,32])
 |17=>([97,116,116,114,105,98,117,116,101,32,105,100],[97,116,116,114,105,98,117,116,101,32,105,100,59])
 |18=>([32,125,10],[32,41,10])
 |19=>([32,125,10],[32,124,32,97,44,32,97,32,125,10])
 |20=>([32,125,10],[32,38,32,40,97,32,98,55,32,125,10])
 |21=>([32,125,10],[32,97,32,125,10])
 |22=>([32,125,10],[32,124,32,125,10])
 |_=>([101,108,101,109,101,110,116,32,121,32,123,32,116,101,120,116,32,125,10],[101,108,101,109,101,110,116,32,121,32,123,32,116,101,120,116,32,125,32])
theorem Jw(h:a≠[])(r):cK a b (a++r)=b++r:=by
 cases a with
 |nil=>exact absurd rfl h
 |cons c a=>
  exact (bw (tj.2 ⟨r,rfl⟩)).trans (aE (b++·) GD)
theorem Sq(a b):∀s,(cK a b s).length<=s.length+b.length
 |[]=>bW _
 |c::s=>by
  show (if a.isPrefixOf (c::s)=ak then b++(c::s).drop a.length else c::cK a b s).length<=_;refine vG ?_ (aB (cr (Sq a b s)) (ec (K8 ..).symm));rw[bJ,mw,kZ];exact gD (xp _ _) _
theorem Sr(r):∀u,125∉u->cK [32,125,10] b (u++([32,125,10]++r))=u++(b++r)
 |[]=>λU=>by rw[oO,oO];exact Jw (by simp) r
 |c::u=>λh=>by
  rw[cD,not_or] at h;refine (C7 ?_).trans (aE (c::·) (Sr r u h.2))
  cases u with
  |nil=>simp[aho]
  |cons d u=>
   rw[cD,not_or] at h;simp[aho];exact λU e=>absurd e h.2.1
theorem Ss(hn:10∉l0)(h:ki.isPrefixOf l0=ap\/(fH (l0.drop 8) g6).all mf=ap)(R):eM ((l0++10::R)++[10])=aj am:=(EZ _ (qJ hn R)).trans (aE (cond · _ _) (Wx.2 h))
theorem BI(h:(nm ba).1=[]\/md.contains (nm ba).1=ak):kS ba=aj am:=aE (cond · _ _) ((Ah).2 (h.imp_left eP):oh ba=ak)
theorem ace(r):m0 ([97,116,116,114,105,98,117,116,101]++32::r)=aj am:=by
 have:=pF (c:=97) (w:=[116,116,114,105,98,117,116,101]) (s:=32::r) rfl aM rfl;rw[show (97::([116,116,114,105,98,117,116,101]++32::r))=[97,116,116,114,105,98,117,116,101]++32::r from rfl] at this;refine (aE yW this).trans ?_
 cases toks (32::r) with
 |none=>rfl
 |some T=>rfl
theorem acf(bv one two m)(a b c)(hs:toks s=aj rest)(sW:NA s)(hm:qI rest)
  (h:∀k sg p,rest.length<=k->(∃q r,iT (gH 3) (k+1) (aj sg) p rest=aj (aj (q,r))/\r≠[])\/iT (gH 3) (k+1) (aj sg) p rest=aj am) :
  m0 (dl bv one two m (aQ a) (aQ b) (aQ c)++s)=aj am:=by
 refine ar (R9 bv one two m a b c hm) λk hk e=>(aE yW ((R6 bv one two m a b c sW).trans (aE (gT _) hs))).trans ((aE wo e).trans ?_)
 rcases h k _ (l8 bv one two m (bQ a) (bQ b) (bQ c)) hk with ⟨q,r,e,hr⟩ | e
 .exact (aE wo e).trans (if_neg hr)
 .exact aE wo e
theorem acg(h bv one two m)(a b c)
  (hp:m0 (dl bv one two m (aQ a) (aQ b) (aQ c)++s)=aj am) :
  kS (kj++(cT h++(dl bv one two m (aQ a) (aQ b) (aQ c)++(s++[32,125]))))=aj am:=by
 rw[qK (eQ:=om) (tag:=qL) (r4:=cT h++(dl bv one two m (aQ a) (aQ b) (aQ c)++(s++[32,125]))) rfl aM rfl rfl aM rfl]
 have ha:iU ((cT h++(dl bv one two m (aQ a) (aQ b) (aQ c)++(s++[32,125]))).length+1) (cT h++(dl bv one two m (aQ a) (aQ b) (aQ c)++(s++[32,125])))=(uO h,(dl bv one two m (aQ a) (aQ b) (aQ c)++s)++[32,125]):=by
  refine a9 (Ju h (dl bv one two m (aQ a) (aQ b) (aQ c)++(s++[32,125]))) λk hk=>?_;rw[hk,Jt h (BG (Js bv one two m a b c _)) k,b8]
 rw[sF ha (by simp[Sb]),hp];rfl
def dG(i h:Nat)(top tail:aa):aa:=(fc i++10::(oo h top++10::tail))++[10]
theorem BJ(i h)(top tail):dG i h top tail=fc i++10::(kj++(cT h++(top++([32,125,10]++(tail++[10]))))):=by
 simp only[dG,oo,b8,gi,oO]
theorem Su(i h)(top tail b):cK ki b (dG i h top tail)=((b++gL g6 (dA i))++10::(oo h top++10::tail))++[10]:=by
 have:=Jw (a:=ki) (b:=b) aM (gL g6 (dA i)++10::(oo h top++10::tail)++[10]);unfold dG fc;simp only[b8,gi] at this ⊢;exact this
theorem BK(i h)(top tail b):cK [10,82,48,32,61,32] b (dG i h top tail)=fc i++(b++([101,108,101,109,101,110,116,32,100,111,99,32,123,32]++(cT h++(top++([32,125,10]++(tail++[10])))))):=by
 rw[BJ]
 match i with
 |0=>rfl
 |1=>rfl
 |2=>rfl
 |U1+3=>rfl
theorem Jx(i h)(top tail b):cK [101,108,101,109,101,110,116,32,100,111,99] b (dG i h top tail)=fc i++(10::([82,48,32,61,32]++(b++([32,123,32]++(cT h++(top++([32,125,10]++(tail++[10])))))))):=by
 rw[BJ]
 match i with
 |0=>rfl
 |1=>rfl
 |2=>rfl
 |U1+3=>rfl
theorem ach(i h)(top tail b):cK [100,111,99,32,123,32] b (dG i h top tail)=fc i++(10::([82,48,32,61,32,101,108,101,109,101,110,116,32]++(b++(cT h++(top++([32,125,10]++(tail++[10]))))))):=by
 rw[BJ]
 match i with
 |0=>rfl
 |1=>rfl
 |2=>rfl
 |U1+3=>rfl
noncomputable def sG:Nat->aa
 |0=>[44,32]
 |1=>[63,44,32]
 |2=>[44,32,97,116,116,114,105,98,117,116,101,32,107,50,63,44,32]
 |_=>[63,44,32,97,116,116,114,105,98,117,116,101,32,107,50,44,32]
theorem aci(h):cT h=[97,116,116,114,105,98,117,116,101,32,105,100]++sG h:=by
 match h with
 |0=>rfl
 |1=>rfl
 |2=>rfl
 |U1+3=>rfl
theorem Jy(i h)(top tail b):cK [97,116,116,114,105,98,117,116,101,32,105,100] b (dG i h top tail)=fc i++(10::(kj++(b++(sG h++(top++([32,125,10]++(tail++[10]))))))):=by
 rw[BJ,aci,b8]
 match i with
 |0=>rfl
 |1=>rfl
 |2=>rfl
 |U1+3=>rfl
theorem Sv(i h)(ht:top.all gz=ak)(tail b):cK [32,125,10] b (dG i h top tail)=fc i++(10::(kj++(cT h++(top++(b++(tail++[10])))))):=by
 have:=Sr (b:=b) (tail++[10]) (fc i++10::(kj++(cT h++top))) (by
  simp only[dZ,cD,not_or];exact ⟨(y9 i).2.2.2.2.2,by decide,by decide,(m4 (E3 h)).2.2,(m4 ht).2.2⟩)
 rw[BJ];simp only[b8,gi] at this ⊢;exact this
theorem m5(i h)(top tail b)(hn:10∉b++gL g6 (dA i))(hb:ki.isPrefixOf (b++gL g6 (dA i))=ap\/(fH ((b++gL g6 (dA i)).drop 8) g6).all mf=ap) :
  eM (cK ki b (dG i h top tail))=aj am:=by
 rw[Su];exact Ss hn hb _
theorem oq(i){l1:aa}(hn:10∉l1)(h:kS l1=aj am)(e:t=fc i++(10::(l1++(10::(R++[10]))))):eM t=aj am:=by
 have:=((EZ _ ((qJ (y9 i).1 _).trans (aE (fc i::·) (qJ hn R)))).trans ((Jv i _).trans (aE (gT _) (RT h))):eM ((fc i++10::(l1++10::R))++[10])=aj am);simp only[b8,gi] at this;rw[e];exact this
theorem acj(k)(sg)(p):iT (gH 3) (k+1) (aj sg) p [[44],[101,108,101,109,101,110,116]]=aj am:=(bw rfl).trans (ite_self _)
theorem ack(k)(sg)(p):iT (gH 3) (k+2) (aj sg) p [[124],[97],[44],[97]]=aj am:=(bw rfl).trans (ite_self _)
theorem acl(k)(sg)(p):iT (gH 3) (k+1) (aj sg) p [[38],[40],[97],[98,55]]=aj am:=(bw rfl).trans (ite_self _)
theorem acm(k)(sg)(p):iT (gH 3) (k+1) (aj sg) p [[97]]=aj (aj (p,[[97]])):=rfl
theorem acn(k)(sg)(p):iT (gH 3) (k+1) (aj sg) p [[124]]=aj am:=(bw rfl).trans (ite_self _)
theorem sH(ht:top.all gz=ak)(hx:x=10)(hp:x∉p)(hs:x∉s):x∉p++(cT h++(top++s)):=by
 subst hx;simp only[dZ,not_or];exact ⟨hp,(m4 (E3 h)).1,(m4 ht).1,hs⟩
theorem E4(i h)(top tail):∀j,j<4->eM (cK ki (cW j).2 (dG i h top tail))=aj am
 |0=>λU=>by
  refine m5 i h top tail _ ?_ (.inl rfl)
  match i with
  |0 | 1 | 2=>decide
  |U1+3=>exact (by decide:10∉(cW 0).2++gL g6 (dA 3))
 |1=>λU=>by
  match i with
  |0=>exact m5 0 h top tail _ aM (.inr (by decide +kernel))
  |1=>exact m5 1 h top tail _ aM (.inr (by decide +kernel))
  |2=>exact m5 2 h top tail _ aM (.inr (by decide +kernel))
  |U1+3=>exact m5 3 h top tail _ aM (.inr (by decide +kernel))
 |2=>λU=>by
  match i with
  |0=>exact m5 0 h top tail _ aM (.inr (by decide +kernel))
  |1=>exact m5 1 h top tail _ aM (.inr (by decide +kernel))
  |2=>exact m5 2 h top tail _ aM (.inr (by decide +kernel))
  |U1+3=>exact m5 3 h top tail _ aM (.inr (by decide +kernel))
 |3=>λU=>by
  match i with
  |0=>exact m5 0 h top tail _ aM (.inr (by decide +kernel))
  |1=>exact m5 1 h top tail _ aM (.inr (by decide +kernel))
  |2=>exact m5 2 h top tail _ aM (.inr (by decide +kernel))
  |U1+3=>exact m5 3 h top tail _ aM (.inr (by decide +kernel))
 |U1+4=>λh=>Ar h
theorem aco(i h)(top tail):eM (cK ki (cW 4).2 (dG i h top tail))=aj am:=by
 rw[Su];have:=Ss (l0:=[]) (by simp) (.inl rfl) ((ki++gL g6 (dA i))++10::(oo h top++10::tail));exact this
theorem BL(i h)(ht:top.all gz=ak)(tail):∀j,j<5->eM (cK [10,82,48,32,61,32] (cW (j+5)).2 (dG i h top tail))=aj am
 |0=>λU=>by
  rw[BK];refine oq i (l1:=[]) (R:=kj++(cT h++(top++([32,125,10]++tail)))) (by simp) (BI (.inl rfl)) ?_;simp only[b8];rfl
 |1=>λU=>by
  rw[BK];refine oq i (l1:=[32,61,32,101,108,101,109,101,110,116,32,100,111,99,32,123,32]++(cT h++(top++[32,125]))) (R:=tail) (sH ht rfl aM aM) (BI (.inl rfl)) ?_;simp only[b8];rfl
 |2=>λU=>by
  rw[BK];refine oq i (l1:=[55,82,48,32,61,32,101,108,101,109,101,110,116,32,100,111,99,32,123,32]++(cT h++(top++[32,125]))) (R:=tail) (sH ht rfl aM aM) (BI (.inl rfl)) ?_;simp only[b8];rfl
 |3=>λU=>by
  rw[BK];refine oq i (l1:=[101,109,112,116,121,32,61,32,101,108,101,109,101,110,116,32,100,111,99,32,123,32]++(cT h++(top++[32,125]))) (R:=tail) (sH ht rfl aM aM) (BI (.inr rfl)) ?_;simp only[b8];rfl
 |4=>λU=>by
  rw[BK];refine oq i (l1:=[115,116,97,114,116,32,61,32,97]) (R:=kj++(cT h++(top++([32,125,10]++tail)))) aM (BI (.inr rfl)) ?_;simp only[b8];rfl
 |U1+5=>λh=>Ar h
theorem acp(i h)(ht:top.all gz=ak)(tail):eM (cK [101,108,101,109,101,110,116,32,100,111,99] (cW 10).2 (dG i h top tail))=aj am:=by
 rw[Jx];refine oq i (l1:=[82,48,32,61,32,101,108,101,109,97,110,116,32,100,111,99,32,123,32]++(cT h++(top++[32,125]))) (R:=tail) (sH ht rfl aM aM) rfl ?_;simp only[b8];rfl
theorem acq(i h)(ht:top.all gz=ak)(tail):eM (cK [101,108,101,109,101,110,116,32,100,111,99] (cW 12).2 (dG i h top tail))=aj am:=by
 rw[Jx];refine oq i (l1:=[82,48,32,61,32,101,108,101,109,101,110,116,32,116,101,120,116,32,123,32]++(cT h++(top++[32,125]))) (R:=tail) (sH ht rfl aM aM) rfl ?_;simp only[b8];rfl
theorem acr(i h)(ht:top.all gz=ak)(tail):eM (cK [101,108,101,109,101,110,116,32,100,111,99] (cW 13).2 (dG i h top tail))=aj am:=by
 rw[Jx];refine oq i (l1:=[82,48,32,61,32,101,108,101,109,101,110,116,32,32,123,32]++(cT h++(top++[32,125]))) (R:=tail) (sH ht rfl aM aM) rfl ?_;simp only[b8];rfl
theorem acs(i h)(ht:top.all gz=ak)(tail):eM (cK [100,111,99,32,123,32] (cW 14).2 (dG i h top tail))=aj am:=by
 rw[ach];refine oq i (l1:=[82,48,32,61,32,101,108,101,109,101,110,116,32,100,111,99,32,91,32]++(cT h++(top++[32,125]))) (R:=tail) (sH ht rfl aM aM) rfl ?_;simp only[b8];rfl
@[elab_as_elim] theorem kn{P:Nat->Prop}(m)(a:P 0)(b:P 1)(c:P 2)(d:∀m,P (m+3)):P m:=
 match m with
 |0=>a
 |1=>b
 |2=>c
 |m+3=>d m
theorem Jz(i h)(ht:top.all gz=ak)(tail):∀j,15<=j->j<18->eM (cK [97,116,116,114,105,98,117,116,101,32,105,100] (cW j).2 (dG i h top tail))=aj am:=by
 have hnn:∀x,10∉x->10∉kj++([97,116,116,114,105,98,117,116,101]++32::(x++(sG h++(top++[32,125])))):=by
  intro x hx;simp only[dZ,cD,not_or]
  exact ⟨by decide,by decide,by decide,hx,(by
    match h with
    |0 | 1 | 2=>decide
    |U1+3=>exact (by decide:10∉sG 3)),(m4 ht).1,by decide⟩
 have key:∀x,10∉x->jq ([97,116,116,114,105,98,117,116,101]++32::(x++(sG h++(top++[32,125]))))=am->
   eM (fc i++(10::(kj++(([97,116,116,114,105,98,117,116,101]++32::x)++(sG h++(top++([32,125,10]++(tail++[10]))))))))=aj am:=by
  refine λx hx ha=>oq i (l1:=kj++([97,116,116,114,105,98,117,116,101]++32::(x++(sG h++(top++[32,125]))))) (R:=tail) (hnn x hx) ((by
    rw[qK (eQ:=om) (tag:=qL) (r4:=[97,116,116,114,105,98,117,116,101]++32::(x++(sG h++(top++[32,125])))) rfl aM rfl rfl aM rfl];rw[sF (at_:=[]) (pt:=[97,116,116,114,105,98,117,116,101]++32::(x++(sG h++top))) ?_ (by simp),ace];rfl;rw[E0 ha];simp)) ?_
  simp only[b8,gi,oO]
 intro j h1 h2;obtain rfl | rfl | rfl:=(by decide:∀j,j<18->15<=j->j=15\/j=16\/j=17) j h2 h1
 .exact Jy ..▸key [116,101,120,116] aM (kn h rfl rfl rfl λU=>rfl)
 .exact Jy ..▸key [] aM (kn h rfl rfl rfl λU=>rfl)
 .exact Jy ..▸key [105,100,59] aM (kn h rfl rfl rfl λU=>rfl)
section
variable (i h bv one two m:Nat)(a b c:Int)(tail:aa)
theorem BM(e:bb=s++[32,125,10])(hs:toks s=aj rest)(sW:NA s)(hm:qI rest)(hn:10∉s)
  (hh:∀k sg p,rest.length<=k->(∃q r,iT (gH 3) (k+1) (aj sg) p rest=aj (aj (q,r))/\r≠[])\/iT (gH 3) (k+1) (aj sg) p rest=aj am) :
  eM (cK [32,125,10] bb (dG i h (dl bv one two m (aQ a) (aQ b) (aQ c)) tail))=aj am:=by
 rw[Sv i h (js ..)];refine oq i (l1:=kj++(cT h++(dl bv one two m (aQ a) (aQ b) (aQ c)++(s++[32,125])))) (R:=tail) ?_ (acg h bv one two m a b c (acf bv one two m a b c hs sW hm hh)) ?_
 .refine sH (js ..) rfl aM ?_;simp only[dZ,not_or];exact ⟨hn,by decide⟩
 .rw[e];simp only[b8,gi,oO]
theorem act:eM (cK [32,125,10] (cW 11).2 (dG i h (dl bv one two m (aQ a) (aQ b) (aQ c)) tail))=aj am:=by
 refine BM (s:=[44,32,101,108,101,109,101,110,116]) (rest:=[[44],[101,108,101,109,101,110,116]]) i h bv one two m a b c tail rfl ?_ rfl ⟨by decide,by decide,by decide⟩ aM λk sg p U=>.inr (acj k sg p);rw[kh _ rfl,jc];have:=pF (c:=101) (w:=[108,101,109,101,110,116]) (s:=[]) rfl aM trivial;rw[eh] at this;rw[this,sC];rfl
theorem E5(hs:NA s):toks (97::s)=(toks s).map ([97]::·):=by
 exact pF (c:=97) (w:=[]) rfl (by simp) hs
theorem acu:eM (cK [32,125,10] (cW 19).2 (dG i h (dl bv one two m (aQ a) (aQ b) (aQ c)) tail))=aj am:=by
 refine BM (s:=[32,124,32,97,44,32,97]) (rest:=[[124],[97],[44],[97]]) i h bv one two m a b c tail rfl ?_ rfl ⟨by decide,by decide,by decide⟩ aM λk sg p hk=>.inr ?_
 .rw[jc,kh _ rfl,jc,E5 (s:=[44,32,97]) rfl,kh _ rfl,jc,E5 (s:=[]) trivial,sC];rfl
 .obtain ⟨k,rfl⟩:∃j,k=j+1:=⟨k-1,(GC (b7 (ku _) hk)).symm⟩;exact ack k sg p
theorem acv:eM (cK [32,125,10] (cW 20).2 (dG i h (dl bv one two m (aQ a) (aQ b) (aQ c)) tail))=aj am:=by
 refine BM (s:=[32,38,32,40,97,32,98,55]) (rest:=[[38],[40],[97],[98,55]]) i h bv one two m a b c tail rfl ?_ rfl ⟨by decide,by decide,by decide⟩ aM λk sg p hk=>.inr (acl k sg p);have:=pF (c:=98) (w:=[55]) (s:=[]) rfl aM trivial;rw[eh] at this;rw[jc,kh _ rfl,jc,kh _ rfl,E5 (s:=[32,98,55]) rfl,jc,this,sC];rfl
theorem acw:eM (cK [32,125,10] (cW 21).2 (dG i h (dl bv one two m (aQ a) (aQ b) (aQ c)) tail))=aj am:=by
 refine BM (s:=[32,97]) (rest:=[[97]]) i h bv one two m a b c tail rfl ?_ rfl ⟨by decide,by decide,by decide⟩ aM λk sg p hk=>.inl ⟨p,_,acm k sg p,by simp⟩;rw[jc,E5 (s:=[]) trivial,sC];rfl
theorem acx:eM (cK [32,125,10] (cW 22).2 (dG i h (dl bv one two m (aQ a) (aQ b) (aQ c)) tail))=aj am:=by
 refine BM (s:=[32,124]) (rest:=[[124]]) i h bv one two m a b c tail rfl ?_ rfl ⟨by decide,by decide,by decide⟩ aM λk sg p hk=>.inr (acn k sg p);rw[jc,kh _ rfl,sC];rfl
theorem acy:eM (cK [32,125,10] (cW 18).2 (dG i h (dl bv one two m (aQ a) (aQ b) (aQ c)) tail))=aj am:=by
 rw[Sv i h (js ..)];refine oq i (l1:=kj++(cT h++(dl bv one two m (aQ a) (aQ b) (aQ c)++[32,41]))) (R:=tail) (sH (js ..) rfl aM aM) ?_ ?_
 .rw[qK (eQ:=om) (tag:=qL) (r4:=cT h++(dl bv one two m (aQ a) (aQ b) (aQ c)++[32,41])) rfl aM rfl rfl aM rfl];obtain ⟨k,hk⟩:=Ju h (dl bv one two m (aQ a) (aQ b) (aQ c)++[32,41]);rw[hk,Jt h (BG (Js bv one two m a b c _)) k];have:i3 (dl bv one two m (aQ a) (aQ b) (aQ c)++[32,41]) [32,125]=ap:=by simp[i3]
  exact bw (.inr this)
 .show fc i++(10::(kj++(cT h++(dl bv one two m (aQ a) (aQ b) (aQ c)++([32,41,10]++(tail++[10]))))))=_;simp only[b8,gi,oO]
end
theorem JA:∀{u t:aa},x∉u->x∉t->u++x::w=t++x::v->u=t/\w=v
 |[],[]=>λU U e=>by simpa using e
 |[],c::t=>λU h e=>by simp at e;exact absurd (e.1▸dh) h
 |c::u,[]=>λh U e=>by simp at e;exact absurd (e.1▸dh) h
 |c::u,d::t=>λh h' e=>by
  rw[gi,gi,vv] at e;have:=JA (λhx=>h (cJ _ hx)) (λhx=>h' (cJ _ hx)) e.2;exact ⟨by rw[e.1,this.1],this.2⟩
theorem E6(ha:123∉a1)(hn:a1≠[]):∀{u:aa},123∉u->((¬∃u',u=u'++a1)\/a2.isPrefixOf v=ap)->
  cK (a1++123::a2) b (u++123::v)=u++123::cK (a1++123::a2) b v
 |[]=>λU U=>by
  cases a1 with
  |nil=>exact absurd rfl hn
  |cons d a1=>
   rw[cD,not_or] at ha;exact C7 λe=>ha.1 (cq (dM.1 e).1).symm
 |c::u=>λhu h=>by
  have qT:¬(a1++123::a2).isPrefixOf (c::u++123::v)=ak:=by
   rw[tj]
   (intro bu;refine a9 bu λt e=>?_)
   rw[b8,gi] at e;refine bm (JA ha hu e) λe1 e2=>?_
   rcases h with h | h
   .exact h ⟨[],by rw[e1];rfl⟩
   .have:a2.isPrefixOf v=ak:=by rw[tj];exact ⟨t,e2⟩
    rw[this] at h;simp at h
  rw[gi] at qT;exact (C7 qT).trans (aE (c::·) (E6 ha hn (λhx=>hu (cJ _ hx)) (h.imp_left λh g=>h (g.elim λu' e=>⟨c::u',aE (c::·) e⟩))))
theorem JB(ha:123∉a1)(hn:a1≠[]):∀{u:aa},123∉u->cK (a1++123::a2) b (u++(a1++123::(a2++v)))=u++(b++v)
 |[]=>λU=>by
  have:=Jw (a:=a1++123::a2) (b:=b) (by simp) v;simpa using this
 |c::u=>λhu=>by
  have qT:¬(a1++123::a2).isPrefixOf (c::(u++(a1++123::(a2++v))))=ak:=by
   rw[tj]
   (intro bu;refine a9 bu λt e=>?_)
   have e:a1++123::(a2++t)=(c::u)++a1++123::(a2++v):=by
    simpa only [b8,gi] using e
   have h1:123∉(c::u)++a1:=by rw[dZ,not_or];exact ⟨hu,ha⟩
   have:=(JA ha h1 e).1;have:=aE vo this;simp at this;lia
  exact (C7 qT).trans (aE (c::·) (JB ha hn λhx=>hu (cJ _ hx)))
theorem acz{w x s a1 p:aa}(hl:s.length=x.length)(h:s≠x)(e:a1=p++x):¬∃u',w++s=u'++a1:=by
 (intro bu;refine a9 bu λu' e'=>?_)
 rw[e,<- b8] at e';exact h (List.append_inj' e' hl).2
noncomputable def eA:=[101,108,101,109,101,110,116,32,121,32]
noncomputable def eB:=[32,116,101,120,116,32,125,10]
noncomputable def eC:=[101,108,101,109,101,110,116,32,121,32,123,32,116,101,120,116,32,125,32]
theorem acA(y)(r):aQ y=cH\/eB.isPrefixOf (32::(aQ y++([32,125,10]++r)))=ap:=
 have e:((fk 7).all λp=>(fk 4).all λq=>mZ q (og p)==cH|| !eB.isPrefixOf (32::(mZ q (og p)++([32,125,10]++r))))=ak:=rfl
 (Ah.1 (eE.1 (eE.1 e _ (mr.2 (iS y (k:=7) aM))) _ (mr.2 (iS y (k:=4) aM)))).imp cq ID
theorem jt{x:Nat}{a b:aa}(h:x∉a)(h':x∉b):x∉a++b:=λe=>(dZ.1 e).elim h h'
theorem gl{x:Nat}{u v:aa}(h:v.getLast?=aj x):(u++v).getLast?=aj x:=by rw[List.getLast?_append,h];rfl
theorem JC{x y:Nat}{v:aa}(h:v.getLast?=aj x):(y::v).getLast?=aj x:=gl (u:=[y]) h
theorem acB(h:t.getLast?=aj 32):i3 t [10]=ap:=by
 refine a9 (List.getLast?_eq_some_iff.1 h) λw e=>?_;rw[e];simp[i3]
theorem JD(hl:s.length=2)(h:s≠[121,32]):¬∃u',u1++(u2++(w++s))=u'++eA:=by
 rw[<- b8 u2,<- b8];exact acz (p:=[101,108,101,109,101,110,116,32]) (x:=[121,32]) hl h rfl
theorem BN:123∉eA:=by decide
theorem BP:eA≠[]:=by decide
theorem acC(h1:123∉A1)(c1:¬∃u',A1=u'++eA)(h2:123∉A2)(c2:¬∃u',A2=u'++eA):cK (eA++123::eB) eC (A1++123::(A2++123::R))=A1++123::(A2++123::cK (eA++123::eB) eC R):=
 (E6 BN BP h1 (.inl c1)).trans (aE (λz=>A1++123::z) (E6 BN BP h2 (.inl c2)))
theorem Sw(h3:123∉A3)(h4:123∉A4)(c:(¬∃u',A3=u'++eA)\/eB.isPrefixOf (A4++(eA++123::(eB++[])))=ap) :
  eM (A1++123::(A2++123::cK (eA++123::eB) eC (A3++123::(A4++(eA++123::(eB++[]))))))=aj am:=by
 rw[E6 BN BP h3 c,JB BN BP h4];exact ab0 _ (acB (gl (JC (gl (JC (gl (JC (gl rfl))))))))
theorem acD:kS (wz++(sY++(qH++([116,101,120,116,32,125,32]++(name++uP)))))=aj am:=by
 rw[qK (eQ:=sB) (tag:=sY) (r4:=[116,101,120,116,32,125,32]++(name++uP)) rfl aM rfl rfl aM rfl];rw[sF (at_:=[]) (pt:=[116,101,120,116,32,125,32]++(name++[32,61,32,101,108,101,109,101,110,116,32,121,32,123,32,116,101,120,116])) ((E0 rfl _).trans (aE (λz=>([],[116,101,120,116,32,125,32]++z)) (b8 name [32,61,32,101,108,101,109,101,110,116,32,121,32,123,32,116,101,120,116] [32,125]).symm)) (qb _ _)];have h1:=R3 2 (s:=32::125::32::(name++[32,61,32,101,108,101,109,101,110,116,32,121,32,123,32,116,101,120,116])) rfl;rw[jc,Rv _ aM rfl rfl] at h1;have h2:m0 ([116,101,120,116,32,125,32]++(name++[32,61,32,101,108,101,109,101,110,116,32,121,32,123,32,116,101,120,116]))=aj am:=aE yW h1;rw[h2];rfl
theorem acE(i h)(top one tag two name):dG i h top (y7 one tag two name) =
  (fc i++10::[82,48,32,61,32,101,108,101,109,101,110,116,32,100,111,99,32])++123::((32::(cT h++(top++[32,125,10,97,32,61,32,101,108,101,109,101,110,116,32,120,32])))++123 ::
   ((32::(one++([32,32,125,10,98,55,32,61,32,101,108,101,109,101,110,116,32]++(tag++[32]))))++123::((32::(two++([32,125,10]++(name++[32,61,32]))))++(eA++123::(eB++[]))))):=by
 exact Ap.eq (.a (.a (.l (fc i)) (.a (.a (.l (10::kj)) (.a (.l (cT h)) (.a (.l top) (.l [32,125])))) (.a (.a (.l (10::E2)) (.a (.l one) (.l [32,32,125]))) (.a (.a (.l (10::wz)) (.a (.l tag) (.a (.l qH) (.a (.l two) (.l [32,125]))))) (.a (.l (10::name)) (.l uP)))))) (.l [10]))
  (.a (.a (.l (fc i)) (.l (10::[82,48,32,61,32,101,108,101,109,101,110,116,32,100,111,99,32]))) (.a (.a (.l [123,32]) (.a (.l (cT h)) (.a (.l top) (.l [32,125,10,97,32,61,32,101,108,101,109,101,110,116,32,120,32])))) (.a (.a (.l [123,32]) (.a (.l one) (.a (.l [32,32,125,10,98,55,32,61,32,101,108,101,109,101,110,116,32]) (.a (.l tag) (.l [32]))))) (.a (.a (.l [123,32]) (.a (.l two) (.a (.l [32,125,10]) (.a (.l name) (.l [32,61,32]))))) (.l (eA++123::(eB++[]))))))) (by kernel_rfl)
theorem acF(i h bv one two m)(a b c x y)(tag name:aa)(ht:tag=sX\/tag=sY)(hn:name=sA\/name=sB) :
  eM (cK (cW 23).1 (cW 23).2 (dG i h (dl bv one two m (aQ a) (aQ b) (aQ c)) (y7 (aQ x) tag (aQ y) name)))=aj am:=by
 have KH:=m4 (mh x);have n4:123∉name/\10∉name:=by rcases hn with rfl | rfl<;>decide
 rw[acE]
 refine Eq.substr (p:=λz=>eM z=_) (acC (jt (y9 i).2.2.2.2.1 aM) (JD (u2:=[]) (w:=10::[82,48,32,61,32,101,108,101,109,101,110,116,32,100,111]) (s:=[99,32]) rfl aM)
  (jt (a:=[32]) aM (jt (m4 (E3 h)).2.1 (jt (m4 (js bv one two m a b c)).2.1 aM))) (JD (u1:=32::cT h) (w:=[32,125,10,97,32,61,32,101,108,101,109,101,110,116,32]) (s:=[120,32]) rfl aM)) ?_
 have m3:=jt (x:=123) (a:=[32]) aM (jt (m4 (mh y)).2.1 (jt (a:=[32,125,10]) aM (jt n4.1 (b:=[32,61,32]) aM)))
 rcases ht with rfl | rfl
 .exact Sw (jt (a:=[32]) aM (jt KH.2.1 aM)) m3 (.inl (JD (u1:=32::aQ x) (u2:=[]) (w:=[32,32,125,10,98,55,32,61,32,101,108,101,109,101,110,116,32]) (s:=[120,32]) rfl aM))
 .rcases acA y ((name++[32,61,32])++(eA++123::(eB++[]))) with hy | hy
  .rw[hy];have e3:=JB (b:=eC) (a2:=eB) (v:=name++([32,61,32]++(eA++123::(eB++[])))) BN BP (u:=32::(aQ x++[32,32,125,10,98,55,32,61,32])) (jt (a:=[32]) aM (jt KH.2.1 aM))
   have e4:(32::(aQ x++([32,32,125,10,98,55,32,61,32,101,108,101,109,101,110,116,32]++(sY++[32]))))++123::((32::(cH++([32,125,10]++(name++[32,61,32]))))++(eA++123::(eB++[])))=32::(aQ x++[32,32,125,10,98,55,32,61,32])++(eA++123::(eB++(name++([32,61,32]++(eA++123::(eB++[])))))):=
    (b8 (32::aQ x) _ _).trans (.trans (by kernel_rfl) (.trans (aE (λz=>32::(aQ x++(([32,32,125,10,98,55,32,61,32,101,108,101,109,101,110,116,32]++(sY++[32]))++(123::32::(cH++([32,125,10]++z)))))) (b8 name [32,61,32] (eA++123::(eB++[])))) (.trans (by kernel_rfl) (b8 (32::aQ x) [32,32,125,10,98,55,32,61,32] (eA++123::(eB++(name++([32,61,32]++(eA++123::(eB++[]))))))).symm)))
   rw[e4,e3]
   have hr:=(EZ (fc i++10::(oo h (dl bv one two m (aQ a) (aQ b) (aQ c))++10::(wy (aQ x)++10::(wz++(sY++(qH++([116,101,120,116,32,125,32]++(name++uP)))))))) (by
    rw[qJ ((y9 i).1),qJ (Sh h (js ..)),qJ (Si (mh x)),Sa (jt (a:=wz) aM (jt (a:=sY) aM (jt (a:=qH) aM (jt (a:=[116,101,120,116,32,125,32]) aM (jt n4.2 (b:=uP) aM)))))])).trans ((Jv i _).trans (aE (gT _) ((y0 (Sm ..)).trans (aE (gT _) ((y0 (Sn ..)).trans (aE (gT _) (RT acD)))))))
   refine (aE eM ?_).trans hr
   exact Ap.eq (.a (.a (.l (fc i)) (.l (10::[82,48,32,61,32,101,108,101,109,101,110,116,32,100,111,99,32]))) (.a (.a (.l [123,32]) (.a (.l (cT h)) (.a (.l (dl bv one two m (aQ a) (aQ b) (aQ c))) (.l [32,125,10,97,32,61,32,101,108,101,109,101,110,116,32,120,32])))) (.a (.a (.l [123,32]) (.a (.l (aQ x)) (.l [32,32,125,10,98,55,32,61,32]))) (.a (.l eC) (.a (.l name) (.l ([32,61,32]++(eA++123::(eB++[])))))))))
    (.a (.a (.l (fc i)) (.a (.a (.l (10::kj)) (.a (.l (cT h)) (.a (.l (dl bv one two m (aQ a) (aQ b) (aQ c))) (.l [32,125])))) (.a (.a (.l (10::E2)) (.a (.l (aQ x)) (.l [32,32,125]))) (.a (.l (10::wz)) (.a (.l sY) (.a (.l qH) (.a (.l [116,101,120,116,32,125,32]) (.a (.l name) (.l uP))))))))) (.l [10])) (by kernel_rfl)
  .exact Sw (jt (a:=[32]) aM (jt KH.2.1 aM)) m3 (.inr ((aE (λz=>eB.isPrefixOf (32::z)) (b8 (aQ y) ([32,125,10]++(name++[32,61,32])) _)).trans hy))
theorem acG(i h bv one two m)(a b c x y)(tag name:aa)(ht:tag=sX\/tag=sY)(hn:name=sA\/name=sB) :
  ∀j,j<24->eM (cK (cW j).1 (cW j).2 (dG i h (dl bv one two m (aQ a) (aQ b) (aQ c)) (y7 (aQ x) tag (aQ y) name)))=aj am
 |0=>λU=>E4 i h _ _ 0 aM
 |1=>λU=>E4 i h _ _ 1 aM
 |2=>λU=>E4 i h _ _ 2 aM
 |3=>λU=>E4 i h _ _ 3 aM
 |4=>λU=>aco i h _ _
 |5=>λU=>BL i h (js ..) _ 0 aM
 |6=>λU=>BL i h (js ..) _ 1 aM
 |7=>λU=>BL i h (js ..) _ 2 aM
 |8=>λU=>BL i h (js ..) _ 3 aM
 |9=>λU=>BL i h (js ..) _ 4 aM
 |10=>λU=>acp i h (js ..) _
 |11=>λU=>act i h bv one two m a b c _
 |12=>λU=>acq i h (js ..) _
 |13=>λU=>acr i h (js ..) _
 |14=>λU=>acs i h (js ..) _
 |15=>λU=>Jz i h (js ..) _ 15 aM aM
 |16=>λU=>Jz i h (js ..) _ 16 aM aM
 |17=>λU=>Jz i h (js ..) _ 17 aM aM
 |18=>λU=>acy i h bv one two m a b c _
 |19=>λU=>acu i h bv one two m a b c _
 |20=>λU=>acv i h bv one two m a b c _
 |21=>λU=>acw i h bv one two m a b c _
 |22=>λU=>acx i h bv one two m a b c _
 |23=>λU=>acF i h bv one two m a b c x y tag name ht hn
 |U1+24=>Ar
noncomputable def gZ:List aK->List It->Bool
 |U1,[]=>ak
 |[],U1::U2=>ap
 |s::w,x::xs=>mt s x&&gZ w xs
theorem BQ:∀w xs,gZ w xs=ak<->∃u v,w=u++v/\su u xs
 |w,[]=>⟨λU=>⟨[],w,rfl,trivial⟩,λU=>by cases w<;>rfl⟩
 |[],x::xs=>⟨λh=>absurd h vd,λh=>eZ h λu v e h=>by
  cases u with
  |nil=>exact h.elim
  |cons U1 U2=>cases e⟩
 |s::w,x::xs=>by
  refine (dM (x:=mt s x) (y:=gZ w xs)).trans ?_;rw[BQ w xs];constructor
  .exact λh=>eZ h.2 λu v e hm=>⟨s::u,v,aE (s::·) e,h.1,hm⟩
  ·(intro bu;(refine eZ bu ?_;clear bu;intro u v e h))
   cases u with
   |nil=>exact h.elim
   |cons t u=>
    rw[gi,vv] at e;obtain ⟨rfl,rfl⟩:=e;exact ⟨h.1,u,v,rfl,h.2⟩
theorem Sz:∀w xs,xs.length<=w.length->((w.zip xs).map λp=>mt p.1 p.2).all id=gZ w xs
 |U1,[]=>λU=>by rw[List.zip_nil_right];cases ‹List aK›<;>rfl
 |[],U1::U2=>λh=>nomatch (h)
 |s::w,x::xs=>λh=>aE (mt s x&&·) (Sz w xs (g8 h))
theorem SB:∀w xs,gZ w xs=ak->xs.length<=w.length
 |U1,[]=>λU=>bW _
 |[],U1::U2=>λh=>(by injection h)
 |U1::w,U2::xs=>λh=>cr (SB w xs (dM.1 h).2)
theorem acH(hs:s∈hY)(x):cy .isIn (.str s) x.toV=aj (mt s x):=by
 cases x with
 |tx=>
  simp only[hY,cD,gU,or_false] at hs
  rcases hs with rfl | rfl | rfl<;>rfl
 |nm l=>rw[inC];exact Bo l s
theorem ge_int(a b):cy .ge (.int a) (.int b)=aj (decide (b<=a)):=rfl
theorem acI(w:List aK)(xs):tX (w.map .str) (xs.map It.toV)=(w.zip xs).map λp=>.tup [.str p.1,p.2.toV]:=by
 unfold tX;rw[List.zip_map,ij];rfl
theorem SD(l:List Bool):(l.map V.bool).all xT=ak:=eE.2 λx h=>ar (eV.1 h) λb U e=>e▸rfl
theorem JE(l:List Bool):fX "all" [.lst (l.map .bool)]=aj (.bool (l.all id)):=by
 have h2:(l.map V.bool).all ck=l.all id:=by rw[L2];rfl
 show (if _ then aj (V.bool ((l.map V.bool).all ck)) else am)=_;rw[bw (SD l),h2]
theorem acJ(l:List Bool):fX "any" [.lst (l.map .bool)]=aj (.bool (l.any id)):=by
 have h2:(l.map V.bool).any ck=l.any id:=by rw[ahp];rfl
 show (if _ then aj (V.bool ((l.map V.bool).any ck)) else am)=_;rw[bw (SD l),h2]
theorem SE(hr:cv r P)(xs)(hx:xs.length<=100)(n) :
  n7 (n+1) "_law_opens" [.set r,.lst (xs.map It.toV)] (λl=>(∀v,v∈l<->∃w,v=wV w/\w.length<=4/\P w/\gZ w xs=ak)/\l.length<=121) .lst:=λQ X hq=>
 have hl:=λ(l:af) (h:l.Perm r)=>(h.length_eq▸hr.len:l.length<=121)
 have hw:=λl (h:l.Perm r) w (hw:w∈l.map qB)=>show w.length<=4/\P w/\fx w by
  (refine ar (eV.1 hw) λv hv az=>?_;subst az);(refine bx ((hr.mem v).1 (h.mem_iff.1 hv)) λw av h1 h2=>?_;subst av);rw[yN];exact ⟨h1,h2,hr.al w h2⟩
 have hm:=λl (h:l.Perm r)=>show l=(l.map qB).map wV by
  rw[ij]
  exact (List.map_id' l).symm.trans (LF λv hv=>by
   (refine ar ((hr.mem v).1 (h.mem_iff.1 hv)) λw av az=>?_;subst av;clear az);exact (aE wV (yN w)).symm)
 bz (.w λl h=>.k wV (λw=>gy (gZ w xs) (wV w)) (l.map qB) (hm l h) (by rw[ed];exact aB (hl l h) aM) (uv _ _ _)
  (λw hm=>.o (Ex w)<|.o (ob It.toV xs)<|.bs (v:=decide ((xs.length:Int)<=w.length)) rfl
   (λc=>.k (λp:aK×It=>.tup [.str p.1,p.2.toV]) (λp=>aj (.bool (mt p.1 p.2))) (w.zip xs) (acI w xs) (by rw[List.length_zip];exact aB (vh _ _) (bD hx)) ((fm _ _).trans ij.symm)
    (λp hp=>.b (acH ((hw l h w hm).2.2 _ (ag4 hp).1) p.2) (.z rfl))
   <|.o ((JE _).trans (aE (λb=>aj (V.bool b)) (Sz w xs (zY.1 (eT c)))))<|.s (λh=>.ft (n8 h)) λh=>.fn (n9 h))
   λc=>.nn c<|.fn (n9 (ny.2 λe=>of_decide_eq_false c (zY.2 (SB w xs e)))))
 <|.fin (hq _ ⟨λv=>by
   rw[eV];constructor
   .rintro ⟨w,hv,rfl⟩
    obtain ⟨h1,h2⟩:=iH.1 hv;exact ⟨w,rfl,(hw l h w h1).1,(hw l h w h1).2.1,h2⟩
   .rintro ⟨w,rfl,h1,h2,h3⟩
    exact ⟨w,iH.2 ⟨eV.2 ⟨wV w,h.mem_iff.2 ((hr.mem _).2 ⟨w,rfl,h1,h2⟩),yN w⟩,h3⟩,rfl⟩,
   by rw[ed];exact aB (vt _ _) (by rw[ed];exact hl l h)⟩))
structure Rl where
 eQ:aK
 tag:aK
 at_:List (aK×Bool)
 p:aN
 kl:Bool
noncomputable def uQ(l:List (aK×Bool)):af:=l.map λa=>.tup [.str a.1,.bool a.2]
def za(r:Rl):V:=.tup [.str r.eQ,.str r.tag,.lst (uQ r.at_),r.p.toV]
def E7(r:Rl):V:=if r.kl=ak then .lst (uQ r.at_) else .tup (uQ r.at_)
def zb(x:Rl×af):V:=.tup [.str x.1.eQ,.str x.1.tag,E7 x.1,.set x.2]
def fN:=[om,sA,sB]
structure jd(x:Rl×af):Prop where
 good:x.1.p.good
 ht:x.1.p.ht<=7
 set:cv x.2 (L x.1.p)
 nm:x.1.eQ∈fN
 al:x.1.at_.length<=2
noncomputable def qM(g:List (aK×aK)):af:=g.map λa=>.tup [.str a.1,.str a.2]
noncomputable def JF(r:Rl)(has:List aK):=has.all (λh=>(r.at_.map (·.1)).contains h)&&r.at_.all (λa=>!a.2||has.contains a.1)
def pG(r:Rl)(tag)(has:List aK)(xs:List It):=(r.tag==tag)&&(JF r has&&(r.p.run xs).null)
structure dQ where
 t:V
 it:Option It
 eG:af
def zc:Option It->V
 |none=>.none
 |some x=>x.toV
def dQ.toV(k:dQ):V:=.tup [k.t,zc k.it,.lst k.eG]
noncomputable def kT(ks:List dQ):=ks.filterMap (·.it)
noncomputable def pH:=[32,9,13,10]
def BR(d)(b:V):=∃l:List Int,b=.lst (l.map .int)/\l.length<=d
noncomputable def sI(path:af):af->V
 |.lst l::U1=>.lst (path++l)
 |_=>.none
structure dK(S:V)(d:Nat)(k:dQ):Prop where
 plain:dj k.t=ak
 depth:dm k.t<=3+2*d
 bl:k.eG.length<=4^d
 Ao:∀b∈k.eG,BR d b
 kind:(∃s,k.t=.str s/\k.eG=[]/\(iL s pH).length<=10/\((k.it=am/\iL s pH=[])\/(k.it=aj .tx/\iL s pH≠[])))\/
  (∃l ns,k.t=.tup l/\k.it=aj (.nm ns)/\(∀s∈ns,s∈fN)/\
   (∀m σ Q X,62+d<=m->Q (.lst (ns.map .str)) σ->CW m "_fit" [S,k.t] σ Q X)/\
   (∀m σ Q X path,64+d<=m->path.length+d<=100->Q (sI path k.eG) σ->CW m "_go" [S,.lst path,k.t] σ Q X))
theorem dK.ahx(h:dK S d k):∀x,k.it=aj x->x.good:=by
 intro x e
 rcases h.kind with ⟨s,-,-,-,⟨h1,-⟩ | ⟨h1,-⟩⟩ | ⟨l,ns,-,h2,h3,-⟩
 .rw[h1] at e;simp at e
 .rw[h1] at e;simp at e;subst e;trivial
 .rw[h2] at e;simp at e;subst e;intro ht;have:=h3 _ ht;revert this;decide
theorem acK(o):cy .vz (zc o) .none=aj o.isSome:=by
 cases o with
 |none=>rfl
 |some x=>cases x<;>rfl
theorem SG(ks):(kT ks).length<=ks.length:=ahb _ _
noncomputable def wB(r:Rl)(has:List aK):=has.filter λh=>!(r.at_.map (·.1)).contains h
noncomputable def wC(r:Rl)(has:List aK):=(r.at_.filter λa=>a.2&& !has.contains a.1).map (·.1)
theorem acL(r)(has):JF r has=ak<->wB r has++wC r has=[]:=by
 simp only[JF,wB,wC,fM,Ma,LQ,List.map_eq_nil_iff,eE];constructor
 ·(intro bu;refine bm bu λh1 h2=>?_)
  refine ⟨λa ha=>by have:=h1 a ha;revert this;cases (r.at_.map (·.1)).contains a<;>simp,λa ha=>?_⟩;have:=h2 a ha;cases h:a.2<;>simp_all
 ·(intro bu;refine bm bu λh1 h2=>?_)
  refine ⟨λa ha=>by have:=h1 a ha;revert this;cases (r.at_.map (·.1)).contains a<;>simp,λa ha=>?_⟩;have:=h2 a ha;cases h:a.2<;>simp_all
theorem SH(l:List aK)(s):cy .eo (.str s) (.lst (l.map .str))=aj (!l.contains s):=aE (gT not) (Bo l s)
theorem SI(l):cy .eq (.lst (l.map .str)) (.lst [])=aj (decide (l=[])):=
 (Bf (a:=.lst (l.map .str)) (b:=.lst []) (qy l) rfl (aB (vh _ _) aM)).trans (by cases l<;>rfl)
noncomputable def fg(k:Nat):V:=.int (k:Int)
theorem SJ(l:aa)(k:Nat):cy .isIn (.int k) (.lst (l.map fg))=aj (l.contains k):=by
 have h1:∀l:aa,gW (l.map fg)=ak:=by
  intro l;induction l with
  |nil=>rfl
  |cons a l ih=>exact ih
 have h3:∀l:aa,(l.map fg).any (λy=>eX y (.int k))=l.contains k:=by
  intro l;induction l with
  |nil=>rfl
  |cons a l ih=>
   rw[th,L9,ih,fg,aaS,xJ]
   congr 1;exact ii.2 ⟨λe=>beq_iff_eq.2 (VJ (cq e)).symm,λe=>beq_iff_eq.2 (aE Int.ofNat (cq e).symm)⟩
 exact (D9 (x:=.int k) rfl (h1 l) (Bn _)).trans (aE aj (h3 l))
theorem SK(l:af):(l.map λv=>fg (kg v))=(l.map kg).map fg:=by rw[ij];rfl
theorem SM(hx:jd x)(tag:aK)(has:List aK)(xs)(hi:∀y∈xs,y.good)(hl:xs.length<=3){l:af}
  (h:∀v,v∈l<->∃w,v=wV w/\w.length<=4/\L x.1.p w/\gZ w xs=ak):(l.map kg).contains xs.length=(x.1.p.run xs).null:=by
 rw[ii,gV,eV,aba xs _ hi hx.good];constructor
 ·(intro bu;refine ar bu λv hv e=>?_)
  (refine cm ((h v).1 hv) λw av h1 h2 h3=>?_;subst av);(refine eZ ((BQ _ _).1 h3) λu t av hm=>?_;subst av);rw[jp,bJ,<- hm.len] at e;have ht:t=[]:=Mb.1 (ahn (k:=0) e);subst ht;rw[eh] at h2;exact ⟨u,hm,h2⟩
 ·(intro bu;refine ar bu λu hm hu=>?_)
  have:=hm.len;refine ⟨wV u,(h _).2 ⟨u,rfl,by lia,hu,(BQ _ _).2 ⟨u,[],by simp,hm⟩⟩,?_⟩;rw[jp];exact this
noncomputable def pI(k:Nat)(b:V):V:=match b with
 |.lst l=>.lst (.int k::l)
 |_=>.none
noncomputable def m6:Nat->List dQ->af
 |U1,[]=>[]
 |i,k::ks=>k.eG.map (pI i)++m6 (i+1) ks
noncomputable def E8(xs:List It):=xs.any λx=>match x with
 |.nm []=>ak
 |_=>ap
theorem acM(x:It):dj x.toV=ak:=by
 cases x with
 |tx=>rfl
 |nm l=>exact qy l
theorem SN:∀xs:List It,gW (xs.map It.toV)=ak
 |[]=>rfl
 |x::xs=>dM.2 ⟨acM x,SN xs⟩
theorem acN(xs):cy .eo (.lst []) (.lst (xs.map It.toV))=aj (!E8 xs):=by
 have h:∀xs,(xs.map It.toV).any (λy=>eX y (.lst []))=E8 xs:=by
  intro xs;induction xs with
  |nil=>rfl
  |cons x xs ih=>
   refine congr (aE or (?_:eX x.toV (.lst [])=_)) ih
   cases x with
   |tx=>rfl
   |nm l=>cases l <;> rfl
 have hd:dm (.lst [])=1:=rfl;exact aE (gT not) ((D9 (x:=.lst []) (l:=xs.map It.toV) rfl (SN xs) (aB (vh _ _) (by decide))).trans (aE aj (h xs)))
theorem acO(h:BR d b):BR (d+1) (pI k b):=by
 (refine ar h ?_;clear h;intro l av hl;subst av);exact ⟨(k:Int)::l,rfl,by simp;lia⟩
theorem JG:∀ks i,(∀k∈ks,dK S d k)->(m6 i ks).length<=ks.length*4^d
 |[]=>λU U=>bW _
 |k::ks=>λi h=>by
  rw[re,Nat.add_mul,VS,kZ];refine (?_:(k.eG.map (pI i)++m6 (i+1) ks).length<=_);rw[bJ,ed];exact jh ((h k dh).bl) (JG ks (i+1) λk hk=>h k (cJ _ hk))
theorem SO:∀ks i,(∀k∈ks,dK S d k)->∀b∈m6 i ks,BR (d+1) b
 |[]=>λU U b hb=>absurd hb gU
 |k::ks=>λi h b hb=>by
  rcases dZ.1 hb with hb | hb
  ·(refine ar (eV.1 hb) λc hc az=>?_;subst az);exact acO ((h k dh).Ao c hc)
  .exact SO ks (i+1) (λk hk=>h k (cJ _ hk)) b hb
theorem SP{l:List aK}:qg (l.map V.str)=aj (.set (eH (l.map V.str)))\/2000<(eH (l.map V.str)).length:=by
 by_cases h:(eH (l.map V.str)).length<=2000
 .left
  unfold qg;rw[bw];rw[fM,eE];refine ⟨λx hx=>?_,eP h⟩;(refine ar (eV.1 hx) λs av az=>?_;subst az);rfl
 .exact .inr (Vn h)
theorem SQ(l:List aK):∃m:List aK,eH (l.map V.str)=m.map .str/\m.Nodup/\∀s,s∈m<->s∈l:=by
 have:∀r:af,(∀x∈r,∃s,x=.str s)->∃m:List aK,r=m.map .str:=by
  intro r;induction r with
  |nil=>intro _;exact ⟨[],rfl⟩
  |cons x r ih=>
   intro h;obtain ⟨m,rfl⟩:=ih λy hy=>h y (cJ _ hy);refine a9 (h x dh) λs az=>?_;subst az;exact ⟨s::m,rfl⟩
 obtain ⟨m,hm⟩:=this (eH (l.map V.str)) λx hx=>by
  refine ar (eV.1 (kQ.1 hx)) λs az cI=>?_;subst cI;exact ⟨s,rfl⟩
 refine ⟨m,hm,?_,λs=>?_⟩
 .have:=qv (l.map V.str);rw[hm] at this;exact (CD.1 this).imp λh e=>h (by rw[e])
 .have:=kQ (l:=l.map V.str) (x:=.str s);rw[hm] at this;simpa using this
noncomputable def wD(p q r:aK)(a b c:Bool):=match a with
 |true=>p::(match b with
  |true=>q::(match c with
   |true=>[r]
   |false=>[])
  |false=>(match c with
   |true=>[r]
   |false=>[]))
 |false=>(match b with
  |true=>q::(match c with
   |true=>[r]
   |false=>[])
  |false=>(match c with
   |true=>[r]
   |false=>[]))
theorem SR(hp:∀b c,oY p (wD p q r ap b c)=wD p q r ak b c)(hq:∀a c,oY q (wD p q r a ap c)=wD p q r a ak c)(hr:∀a b,oY r (wD p q r a b ap)=wD p q r a b ak)
  (h1:(q==p)=ap) (h2:(r==p)=ap) (h3:(r==q)=ap) (jM:(p==q)=ap) (mq:(p==r)=ap) (xc:(q==r)=ap) :
  ∀{l:List aK},l.Nodup->(∀s∈l,s∈[p,q,r])->ik l=[p,q,r].filter λs=>l.contains s:=by
 suffices h:∀l,l.Nodup->(∀s∈l,s∈[p,q,r])->ik l=wD p q r (l.contains p) (l.contains q) (l.contains r) from λ{l} a b=>h l a b
 intro l
 induction l with
 |nil=>exact λU U=>rfl
 |cons x l ih=>
  intro hn hm;show oY x (ik l)=_;have hx:l.contains x=ap:=ny.2 λe=>(pX.1 hn).1 (gV.1 e);rw[ih (pX.1 hn).2 λs hs=>hm s (cJ _ hs),xJ,xJ,xJ]
  rcases cD.1 (hm x dh) with rfl | g
  .rw[hx,f0,h1,h2];exact hp _ _
  rcases cD.1 g with rfl | g
  .rw[hx,f0,jM,h3];exact hq _ _
  .rw[en.1 g] at hx ⊢;rw[hx,f0,mq,xc];exact hr _ _
theorem SS(hn:l.Nodup)(hm:∀s∈l,s∈fN):ik l=fN.filter λs=>l.contains s:=
 SR aM aM aM rfl rfl rfl rfl rfl rfl hn hm
theorem JH(hl:m.length<64):fX "sorted" [.set (m.map .str)]=aj (.lst ((ik m).map .str)):=by
 show xU _=_;unfold xU;rw[ed,bw hl,yM];rfl
theorem acP(hl:m.length<64):fX "sorted" [.lst (m.map .str)]=aj (.lst ((ik m).map .str)):=by
 show xU _=_;unfold xU;rw[ed,bw hl,yM];rfl
def mi(rs:List (Rl×af))(tag)(has:List aK)(xs:List It):=(rs.filter λx=>pG x.1 tag has xs).map (·.1.eQ)
def ot(rs)(tag)(has)(xs):=fN.filter λs=>(mi rs tag has xs).contains s
def sJ(rs)(tag)(has)(ks):=
 (if mi rs tag has (kT ks)=[]/\E8 (kT ks)=ap then [.lst []] else [])++m6 0 ks
def ou(tag:aK)(g:List (aK×aK))(ts:af):V:=.tup [.str tag,.lst (qM g),.lst ts]
theorem E9{α:Type}(f:α->aK)(xs:List α):xs.filterMap (λa=>aj (V.str (f a)))=(xs.map f).map .str:=(fm _ xs).trans ij.symm
theorem acQ(l:List aK)(hl:l.length<=1000):∃m:List aK,fX "set" [.lst (l.map .str)]=aj (.set (m.map .str))/\m.Nodup/\(∀s,s∈m<->s∈l)/\m.length<=l.length:=by
 refine bx (SQ l) λm h1 h2 h3=>?_
 have hml:m.length<=l.length:=by
  have:=Ea (l.map V.str)
  rwa [h1,ed,ed] at this
 refine ⟨m,?_,h2,h3,hml⟩
 rcases SP (l:=l) with h | h
 .rw[h1] at h;exact h
 .rw[h1,ed] at h;lia
theorem ST(r):yE (E7 r)=aj (uQ r.at_):=by unfold E7;cases r.kl<;>rfl
def mj(tag)(has)(xs)(b:List aK×Option (Rl×af))(y:Rl×af):=(if pG y.1 tag has xs=ak then b.1++[y.1.eQ] else b.1,aj y)
theorem SU(tag)(has)(xs):∀rs b,(rs.foldl (mj tag has xs) b).1=b.1++mi rs tag has xs
 |[]=>λb=>(eh _).symm
 |y::rs=>λb=>by
  rw[xn,SU tag has xs rs];unfold mi mj;rw[xv]
  split
  .rw[b8];rfl
  .rfl
def zd(rs:List (Rl×af))(tag:aK)(g:List (aK×aK))(ks:List dQ)(has:List aK)(xs:List It)(b:List aK×Option (Rl×af)):bj:=
 [.v (.lst (rs.map zb)),.v (.str tag),.v (.lst (qM g)),.v (.lst (ks.map dQ.toV)),.v (.lst (xs.map It.toV)),.v (.lst (has.map .str)),.ol (b.1.map .str),lE (λy=>.str y.1.eQ) b.2,lE (λy=>.str y.1.tag) b.2,lE (λy=>E7 y.1) b.2,
  lE (λy=>.set y.2) b.2,lE (λy=>.lst ((wB y.1 has).map .str)) b.2,lE (λy=>.lst ((wC y.1 has).map .str)) b.2,.un]
theorem acR(b)(s) :
  (zd rs tag g ks has xs b).set 6 (.ol (b.1.map .str++[.str s]))=zd rs tag g ks has xs (b.1++[s],b.2):=by unfold zd;rw[L8];rfl
theorem JI(b)(h:pG y.1 tag has xs=ap):(b.1,aj y)=mj tag has xs b y:=by
 unfold mj;rw[if_neg (by rw[h];decide)]
theorem acS(b)(h:pG y.1 tag has xs=ak):(b.1++[y.1.eQ],aj y)=mj tag has xs b y:=by
 unfold mj;rw[bw h]
theorem Fa:pG y tag has xs=(y.tag==tag&&(decide (wB y has++wC y has=[])&&(y.p.run xs).null)):=by
 unfold pG
 congr 2
 rw[ii,decide_eq_true_iff];exact acL y has
theorem add_lists{α:Type}(f:α->V)(a b:List α):jU .add (.lst (a.map f)) (.lst (b.map f))=aj (.lst ((a++b).map f)):=aE (λl=>aj (V.lst l)) L8.symm
theorem SV(h:∃w,v=wV w):fX "len" [v]=aj (fg (kg v)):=by obtain ⟨w,rfl⟩:=h;rw[Ex,fg,jp]
theorem SZ:∀ks i,m6 i ks=(ks.zipIdx i).flatMap λp=>p.1.eG.map (pI p.2)
 |[]=>λU=>rfl
 |k::ks=>λi=>aE (k.eG.map (pI i)++·) (SZ ks (i+1))
theorem acT(ks:List dQ):(fk ks.length).map fg=ks.zipIdx.map λp=>fg p.2:=by
 rw[List.range_eq_range',<- List.zipIdx_map_snd 0 ks,ij];rfl
theorem JJ{ks:List dQ}(h:p∈ks.zipIdx):p.1∈ks:=k8 (ahq.1 h)
noncomputable def acU:PS->PE
 |.asg U1 (.bin U2 U3 e)=>e
 |_=>.aR .none
def S4(rs:List (Rl×af))(tag:aK)(g:List (aK×aK))(ks:List dQ)(has:List aK)(xs:List It)(b:List aK×Option (Rl×af))(B0:af):bj:=((zd rs tag g ks has xs b).set 6 (.v (.lst (b.1.map .str)))).set 13 (.v (.lst B0))
theorem acV(gB:∀k∈ks,dK S d k)(nt:ks.length<=3)(qU:(m6 0 ks).length<=192)(hp:d<=1000) :
  Bh n (acU (Hn.body.getD 7 .brk)) (S4 rs tag g ks has xs b B0) (.lst (m6 0 ks)):=by
 rw[SZ] at qU ⊢;refine aaN (λp:dQ×Nat=>fg p.2) id (λp=>p.1.eG) (λp=>pI p.2) ks.zipIdx (λQ hq=>?_) (λp hm z Q hq=>?_) (λp hm b hb Q hq=>?_) aM rfl (aB qU aM)
 .exact yI (.o (ob dQ.toV ks) (.p (Bu ks.length (bD ‹_›)) (.fin (show Q ((fk ks.length).map fg) am from acT ks▸hq)))) (by kernel_rfl)
 .exact yI (.o ((by
   have:=ahq.1 hm;show (ks.map dQ.toV)[p.2]?=_;rw[lQ,this];rfl)) (.fin (show Q p.1.eG am from xB p.1.eG▸hq))) (by kernel_rfl)
 ·(refine ar ((gB _ (JJ hm)).Ao b hb) λl av hl=>?_;subst av);exact aaK (.g (v:=.lst (fg p.2::l.map .int)) rfl (l6 _ (by simp;exact bD (aB ‹_› ‹_›))) (.fin hq)) (by kernel_rfl)
theorem S5(cM:∀x∈rs,jd x)(eb:rs.length<=4)(tag)(g)(hg:g.length<=2)(hd:d<=3)(gB:∀k∈ks,dK S d k)(nt:ks.length<=3)
  (n) (σ) (Q:i4) (X:Prop)
  (hq:Q (.tup [ou tag g (ks.map (·.t)),.lst ((ot rs tag (g.map (·.1)) (kT ks)).map .str),.lst (sJ rs tag (g.map (·.1)) ks)]) σ) :
  CW (n+2) "_law_node" [.lst (rs.map zb),.str tag,.lst (qM g),.lst (ks.map dQ.toV)] σ Q X:=by
 have Ux:∀x∈kT ks,x.good:=λx hx=>ar (Vd.1 hx) λk hk e=>(gB k hk).ahx x e;have KO:=SG ks;have KQ:(g.map (·.1)).length<=2:=(ed _).symm▸hg;unfold sJ at hq;have e1:ks.filterMap (λk=>k.it.map It.toV)=(kT ks).map It.toV:=List.map_filterMap.symm;have e2:=E9 (λa:aK×aK=>a.1) g;generalize kT ks=xs at hq Ux KO e1;generalize g.map (·.1)=has at hq KQ e2;have hB:=SU tag has xs rs ([],am)
 have UH:∀s∈(rs.foldl (mj tag has xs) ([],am)).1,s∈fN:=λs hs=>by
  rw[hB] at hs;(refine ar (eV.1 hs) λx hx az=>?_;subst az);exact (cM x (iH.1 hx).1).nm
 have hBl:(rs.foldl (mj tag has xs) ([],am)).1.length<=4:=by
  rw[hB];show (mi rs tag has xs).length<=4;unfold mi;rw[ed];exact aB (vt _ _) eb
 have UI:∀s,(rs.foldl (mj tag has xs) ([],am)).1.contains s=(mi rs tag has xs).contains s:=λs=>by rw[hB];rfl
 have tail:∀B0:af,B0.length<=1->Q (.tup [ou tag g (ks.map (·.t)),.lst ((ot rs tag has xs).map .str),.lst (B0++m6 0 ks)]) σ->
   cV (CW (n+1)) bB (Hn.body.drop 7) (S4 rs tag g ks has xs (rs.foldl (mj tag has xs) ([],am)) B0) am (iN λv U=>Q v σ) (λU=>X):=by
  intro B0 hB0 hQ;generalize rs.foldl (mj tag has xs) ([],am)=b at UH hBl UI;have qU:(m6 0 ks).length<=192:=aB (JG ks 0 gB) (aB (Lr nt (zH (by decide) hd)) aM);refine cm (acQ b.1 (bD ‹_›)) λm hm1 hm2 hm3 hm4=>?_
  have he:(fN.filter λs=>m.contains s)=ot rs tag has xs:=by
   unfold ot;congr 1;funext s;rw[<- UI,ii,gV,gV,hm3]
  have hs:=JH (m:=m) (by lia);rw[SS hm2 λs hs=>UH s ((hm3 s).1 hs),he] at hs;exact run (.rc (acV (rs:=rs) (tag:=tag) (g:=g) (has:=has) (xs:=xs) (b:=b) (B0:=B0) gB nt qU (bD ‹_›)) (.g (v:=.lst (B0++m6 0 ks)) rfl (l6 _ (by rw[bJ];lia)) (.k dQ.toV (λk=>aj k.t) ks rfl (bD ‹_›) (fm _ ks) (λk U=>.z rfl) (.o hm1 (.o hs (.fin hQ))))))
 have bN:∀k:dQ,k.it.isSome=ak->aj (zc k.it)=k.it.map It.toV:=λk h=>by cases e:k.it with | none=>rw[e] at h;cases h | some _=>rfl
 have oG:∀k:dQ,k.it.isSome=ap->am=k.it.map It.toV:=λk h=>by cases e:k.it with | none=>rfl | some _=>rw[e] at h;cases h
 rw[show mi rs tag has xs=(rs.foldl (mj tag has xs) ([],am)).1 from hB.symm] at hq
 refine bz (.k dQ.toV (λk=>k.it.map It.toV) ks rfl (bD ‹_›) e1 (λk U=>.bs (acK k.it) (λh=>.fin (bN k h)) λh=>.fin (oG k h))
  (.k (λa:aK×aK=>.tup [.str a.1,.str a.2]) (λa=>aj (.str a.1)) g rfl (bD ‹_›) e2 (λa U=>.z rfl)
  (.f zb (zd rs tag g ks has xs) (mj tag has xs) (λys b=>(∀y∈ys,jd y)/\b.1.length+ys.length<=4) rfl rfl (b:=([],am)) ⟨cM,(jP _).symm▸eb⟩
   (λy ys b hi=>⟨λz hz=>hi.1 z (cJ _ hz),Hb (vG (As (y:=0) (aV _) (aV _)) (dT _)) hi.2⟩)
   (λy ys b hi=>have hy:=hi.1 y dh;have qV:=hy.al;have w5:=hi.2
    .k .str (λs=>gy (!(y.1.at_.map (·.1)).contains s) (.str s)) has rfl (bD ‹_›) (uv _ _ has)
     (λs U=>.i (ST y.1) (.k (λa:aK×Bool=>.tup [.str a.1,.bool a.2]) (λa=>aj (.str a.1)) y.1.at_ rfl (bD ‹_›) (E9 (λa:aK×Bool=>a.1) y.1.at_) (λU U=>.z rfl) (.bs (SH (y.1.at_.map (·.1)) s) (λh=>.ft (n8 h)) λh=>.fn (n9 h))))
    (.i (ST y.1) (.k (λa:aK×Bool=>.tup [.str a.1,.bool a.2]) (λa=>gy (a.2&& !has.contains a.1) (.str a.1)) y.1.at_ rfl (bD ‹_›) ((uv _ _ _).trans ij.symm)
     (λa U=>.s (λh1:a.2=ak=>.bs (SH has a.1) (λh=>.ft (n8 (by rw[h1,h];rfl))) λh=>.fn (n9 (by rw[h1,h];rfl))) λh1=>.nn h1 (.fn (n9 (by rw[h1];rfl))))
    (.s (λh1:(y.1.tag==tag)=ak=>.g (add_lists .str (wB y.1 has) (wC y.1 has)) (l6 _ (by rw[ed,bJ];unfold wB wC;rw[ed];exact aB (jh (vt _ _) (vt _ _)) (by lia))) (.bs (SI (wB y.1 has++wC y.1 has))
      (λh2=>.o (ob It.toV xs) (.a (SE hy.set xs (bD (aB ‹_› ‹_›)) n)
       λl hl=>.k id (λv=>aj (fg (kg v))) l (xB l).symm (aB hl.2 aM) ((fm _ l).trans (SK l)) (λv hv=>.o (SV (ar ((hl.1 v).1 hv) λw hw U=>⟨w,hw⟩)) (.z rfl))
       (.bs ((SJ (l.map kg) xs.length).trans (aE aj (SM hy tag has xs Ux (aB ‹_› ‹_›) hl.1)))
        (λh3=>.p (l6 (b.1.map .str++[.str y.1.eQ]) (As (ed (f:=V.str) (as:=b.1)▸w5))) (.fin ((acR (b.1,aj y) y.1.eQ).trans (aE (zd rs tag g ks has xs) (acS b (by rw[Fa,h1,h2,h3];rfl))))))
        λh3=>.fe (JI b (by rw[Fa,h1,h2,h3];rfl)))))
      λh2=>.nn h2 (.fe (JI b (by rw[Fa,h1,h2];rfl)))))
     λh1=>.nn h1 (.fe (JI b (by rw[Fa,h1];rfl)))))))
  (.bs (SI (rs.foldl (mj tag has xs) ([],am)).1) (λh=>.bs (acN xs) (λh'=>.d (.stop (tail [.lst []] (by decide) (by rw[bw ⟨eT h,(k9 _).mp h'⟩] at hq;exact hq))))
   λh'=>.stop (tail [] (by decide) (by rw[if_neg λc=>by rw[c.2] at h';cases h'] at hq;exact hq))) λh=>.nn h (.stop (tail [] (by decide) (by rw[if_neg λc=>of_decide_eq_false h c.1] at hq;exact hq)))))))
def eN(bR:List aK)(rs:List (Rl×af)):V:=.tup [.lst (bR.map .str),.lst (rs.map λx=>za x.1)]
theorem ze(l:List aK)(s):(l.map V.str).contains (.str s)=l.contains s:=by
 rw[ii,gV,gV];simp
theorem BS(l)(x):(eH l).contains x=l.contains x:=by
 rw[ii,gV,gV];exact kQ
def je(l:List aK):=eH (l.map .str)
theorem Fb(l)(hl:l.length<=1000):fX "set" [.lst (l.map .str)]=aj (.set (je l)):=
 (SP (l:=l)).resolve_right λh=>by have:=Ea (l.map V.str);rw[ed] at this;lia
theorem acW(a b):cy .le (.set (je a)) (.set (je b))=aj (a.all λs=>b.contains s):=by
 show aj ((je a).all λx=>(je b).contains x)=_
 congr 1
 rw[ii,eE,eE]
 exact ⟨λh s hs=>by have:=h (.str s) (kQ.2 (Mc hs));rwa [je,BS,ze] at this,λh x hx=>by
  (refine ar (eV.1 (kQ.1 hx)) λs hs az=>?_;subst az);rw[je,BS,ze];exact h s hs⟩
theorem acX(s)(l):cy .isIn (.str s) (.set (je l))=aj (l.contains s):=aE aj ((BS _ _).trans (ze l s))
theorem acY(m:List aK)(l:List (aK×Bool)):(((l.filter (·.2)).map λa=>m.contains a.1).all id)=l.all λa=>!a.2||m.contains a.1:=by
 induction l with
 |nil=>rfl
 |cons a l ih=>
  rw[xv,xC,<- ih];cases h:a.2
  .rfl
  .rfl
noncomputable def iB:V->Bool
 |.str U1=>ak
 |_=>ap
noncomputable def jK:V->aa
 |.str s=>s
 |_=>[]
theorem dK.WM(h:dK S d k):fX "isinstance" [k.t,.ty "str"]=aj (.bool (iB k.t)):=by
 rcases h.kind with ⟨s,e,_⟩ | ⟨l,ns,e,_⟩<;>rw[e]<;>rfl
theorem dK.str(h:dK S d k)(hs:iB k.t=ak):jD k.t=aj (jK k.t)/\(iL (jK k.t) pH).length<=10/\((!(iL (jK k.t) pH).isEmpty)=ak->k.it=aj .tx)/\((!(iL (jK k.t) pH).isEmpty)=ap->k.it=am):=by
 refine h.kind.elim (λz=>cm z λs e U e2 e3=>?_) λz=>eZ z λl ns e U=>?_
 .rw[e];refine ⟨rfl,e2,λc=>e3.elim (λx=>?_) WE,λc=>e3.elim WE λx=>?_⟩
  .have x2:iL (jK (.str s)) pH=[]:=x.2;rw[x2] at c;cases c
  .replace c:(!(iL s pH).isEmpty)=ap:=c
   cases hh:iL s pH with
   |nil=>exact absurd hh x.2
   |cons a b=>rw[hh] at c;cases c
 .rw[e] at hs;cases hs
theorem dK.node(h:dK S d k)(hs:iB k.t=ap):∃ns,k.it=aj (.nm ns)/\(∀m,62+d<=m->eg m "_fit" [S,k.t] (.lst (ns.map .str))):=by
 rcases h.kind with ⟨s,e,_⟩ | ⟨l,ns,e,e2,_,e4,_⟩
 .rw[e] at hs;cases hs
 .exact ⟨ns,e2,λm hm Q X=>e4 m _ Q X hm⟩
def JK(S T:V)(b:af×Option dQ):bj:=[.v S,.v T,.ol b.1,lE (·.t) b.2,.un,.un,.un,.un,.un,.un]
def ov(b:af×Option dQ)(k:dQ):=(b.1++(k.it.map It.toV).toList,aj k)
theorem S6:∀ks b,(ks.foldl ov b).1=b.1++(kT ks).map It.toV
 |[]=>λb=>(eh _).symm
 |k::ks=>λb=>by
  rw[xn,S6 ks,ov];unfold kT;rw[CZ]
  cases k.it with
  |none=>rw[show (gT It.toV am).toList=[] from rfl,eh]
  |some x=>rw[b8];rfl
def ftT(S T:V)(its:af)(c:Sl)(has:List aK)(b:af×Option (Rl×af)):bj:=
 [.v S,.v T,.v (.lst its),c,.v (.set (je has)),.os b.1,lE (λy=>.str y.1.eQ) b.2,lE (λy=>.str y.1.tag) b.2,lE (λy=>.lst (uQ y.1.at_)) b.2,lE (λy=>y.1.p.toV) b.2]
def zf(tag)(has)(xs)(b:af×Option (Rl×af))(y:Rl×af):=(if pG y.1 tag has xs=ak then dI b.1 (.str y.1.eQ) else b.1,aj y)
theorem BT(b)(h:pG y.1 tag has xs=ap):(b.1,aj y)=zf tag has xs b y:=by
 unfold zf;rw[h];rfl
theorem S7(b)(h:pG y.1 tag has xs=ak):(dI b.1 (.str y.1.eQ),aj y)=zf tag has xs b y:=by
 unfold zf;rw[h];rfl
theorem acZ(l:List aK)(s):dI (l.map V.str) (.str s)=(if l.contains s then l else l++[s]).map .str:=by
 unfold dI;rw[ze];split<;>simp
set_option tactic.hygienic true in
theorem JL(tag)(has)(xs):∀(rs:List (Rl×af)) (m:List aK) (o:Option (Rl×af)),m.Nodup->
  ∃m':List aK,(rs.foldl (zf tag has xs) (m.map .str,o)).1=m'.map .str/\m'.Nodup/\(∀s,s∈m'<->s∈m\/s∈mi rs tag has xs)/\m'.length<=m.length+rs.length
 |[]=>λm o h=>⟨m,rfl,h,λs=>⟨.inl,λh=>h.elim id λh=>nomatch (h)⟩,aV _⟩
 |y::rs=>λm o h=>by
  rw[xn]
  cases c:pG y.1 tag has xs with
  |false=>
   refine cm (JL tag has xs rs m (aj y) h) λm' h1 h2 h3 h4=>?_;rw[<- BT _ c];refine ⟨m',h1,h2,λs=>(h3 s).trans ?_,eU h4⟩;unfold mi;rw[xv,c];exact p5
  |true=>
   have hn:(if m.contains y.1.eQ then m else m++[y.1.eQ]).Nodup/\(∀s,s∈(if m.contains y.1.eQ then m else m++[y.1.eQ])<->s∈m\/s=y.1.eQ)/\(if m.contains y.1.eQ then m else m++[y.1.eQ]).length<=m.length+1:=by
    split
    .rename_i hc
     exact ⟨h,λs=>⟨.inl,λe=>e.elim id λe=>e▸gV.1 hc⟩,dT _⟩
    .rename_i hc
     exact ⟨zQ.2 ⟨h,pX.2 ⟨gU,p9⟩,λa ha b hb e=>hc (gV.2 (en.1 hb▸e▸ha))⟩,λs=>dZ.trans (or_congr p5 en),by rw[bJ];exact aV _⟩
   refine cm (JL tag has xs rs _ (aj y) hn.1) λm' h1 h2 h3 h4=>?_;rw[<- S7 _ c,acZ];refine ⟨m',h1,h2,λs=>(h3 s).trans ?_,aB h4 (by rw[re,kZ rs.length,<- jg];exact gD hn.2.2 _)⟩;unfold mi;rw[xv,c,hn.2.1,or_assoc];exact or_congr p5 cD.symm
theorem BU(y)(tag)(has)(xs):pG y tag has xs=((y.tag==tag)&&(has.all (λh=>(y.at_.map (·.1)).contains h)&&y.at_.all (λa=>!a.2||has.contains a.1)&&(y.p.run xs).null)):=rfl
theorem S8(cM:∀x∈rs,jd x)(eb:rs.length<=4)(tag)(g)(hg:g.length<=2)(gB:∀k∈ks,dK (eN bR rs) d k)(nt:ks.length<=3)
  (m) (hm:63+d<=m) (σ) (Q) (X)
  (hq:Q (.lst ((ot rs tag (g.map (·.1)) (kT ks)).map .str)) σ):CW m "_fit" [eN bR rs,ou tag g (ks.map (·.t))] σ Q X:=by
 refine a9 (Aq 4 (aB (dH 63 d) hm)) λn az=>?_;subst az;have KO:=SG ks;have e1:=S6 ks ([],am);rw[oO] at e1;have e2:=E9 (λa:aK×aK=>a.1) g;have KQ:(g.map (·.1)).length<=2:=(ed _).symm▸hg;generalize kT ks=xs at hq KO e1;generalize g.map (·.1)=has at hq e2 KQ;refine cm (JL tag has xs rs [] am p9) λns h1 h2 h3 h4=>?_;have hs:=JH (m:=ns) (by simp at h4;lia)
 rw[SS h2 λs hs=>by
  (refine ar (eV.1 (((h3 s).1 hs).resolve_left λh=>nomatch (h))) λx hx az=>?_;subst az);exact (cM x (iH.1 hx).1).nm] at hs
 have hf:(fN.filter λs=>ns.contains s)=ot rs tag has xs:=by
  unfold ot;congr 1;funext s;rw[ii,gV,gV,h3];exact ⟨λh=>h.resolve_left (λh=>nomatch (h)),Or.inr⟩
 rw[hf,<- h1] at hs;have hp2:2^xs.length<=8:=aB (zH (by decide) (show xs.length<=3 by exact aB ‹_› ‹_›)) aM
 exact bz (.f (·.t) (JK (eN bR rs) (ou tag g (ks.map (·.t)))) ov (λys b=>(∀k∈ys,dK (eN bR rs) d k)/\b.1.length+ys.length<=3) rfl rfl (b:=([],am)) ⟨gB,(jP _).symm▸nt⟩
   (λk ys b hi=>⟨λz hz=>hi.1 z (cJ _ hz),Hb (by unfold ov;rw[bJ];exact iE (by cases k.it;decide;exact aV 1) _) hi.2⟩)
   (λk ys b hi=>have hk:=hi.1 k dh;have w5:=hi.2
    .o hk.WM (.s (λh:iB k.t=ak=>.u (hk.str h).1 (.g (v:=.str (iL (jK k.t) pH)) rfl (iR _ (aB (hk.str h).2.1 (by decide)))
      (.s (λh':(!(iL (jK k.t) pH).isEmpty)=ak=>.p (l6 (b.1++[It.tx.toV]) (As w5)) (.fe (x:=(b.1++[It.tx.toV],aj k)) (by rw[ov,(hk.str h).2.2.1 h'];rfl)))
       λh'=>.fe (x:=(b.1,aj k)) (by rw[ov,(hk.str h).2.2.2 h'];exact aE (·,aj k) (eh _).symm))))
     λh=>.r (v:=zc k.it) (f:="_fit") (vs:=[eN bR rs,k.t]) (ar (hk.node h) λns h1 h2=>h1▸h2 (n+3) (by lia)) (.p (l6 (b.1++[zc k.it]) (As w5)) (.fe (x:=(b.1++[zc k.it],aj k)) (by refine ar (hk.node h) λns h1 h2=>?_;rw[ov,h1];rfl)))))
  (.k (λa:aK×aK=>.tup [.str a.1,.str a.2]) (λa=>aj (.str a.1)) g rfl (bD ‹_›) e2 (λa U=>.z rfl) (.o (Fb has (bD ‹_›)) (.p (v:=((JK (eN bR rs) (ou tag g (ks.map (·.t))) (ks.foldl ov ([],am))).set 4 (.v (.set (je has)))).all xZ) (by cases h:(ks.foldl ov ([],am)).2<;>unfold JK<;>rw[h]<;>rfl)
  (.f (λx:Rl×af=>za x.1) (ftT (eN bR rs) (ou tag g (ks.map (·.t))) (ks.foldl ov ([],am)).1 (lE (·.t) (ks.foldl ov ([],am)).2) has) (zf tag has xs) (λys b=>(∀y∈ys,jd y)/\b.1.length+ys.length<=4) rfl rfl (b:=([],am)) ⟨cM,(jP _).symm▸eb⟩
   (λy ys b hi=>⟨λz hz=>hi.1 z (cJ _ hz),Hb (vG (vG (dT _) (As (y:=0) (aV _) (aV _))) (dT _)) hi.2⟩)
   (λy ys b hi=>have hy:=hi.1 y dh;have qV:=hy.al;have w5:=hi.2
    .s (λh1:(!(y.1.tag==tag))=ak=>.fe (BT b (by rw[BU,(k9 _).mp h1];rfl))) λh1=>
    .k (λa:aK×Bool=>.tup [.str a.1,.bool a.2]) (λa=>aj (.str a.1)) y.1.at_ rfl (bD ‹_›) (E9 (λa:aK×Bool=>a.1) y.1.at_) (λU U=>.z rfl)
    (.o (Fb (y.1.at_.map (·.1)) (by rw[ed];exact bD ‹_›)) (.b (acW has (y.1.at_.map (·.1)))
    (.s (λh2:(!(has.all λs=>(y.1.at_.map (·.1)).contains s))=ak=>.fe (BT b (by rw[BU,(k9 _).mp h2,CL,CL,CF]))) λh2=>
    .k (λa:aK×Bool=>.tup [.str a.1,.bool a.2]) (λa=>gy a.2 (.bool (has.contains a.1))) y.1.at_ rfl (bD ‹_›) ((uv _ _ _).trans ij.symm) (λa U=>.s (λh:a.2=ak=>.b (acX a.1 has) (.ft (n8 h))) λh=>.fn (n9 h))
    (.o ((JE _).trans (aE (λb=>aj (V.bool b)) (acY has y.1.at_)))
    (.s (λh3:(!(y.1.at_.all λa=>!a.2||has.contains a.1))=ak=>.fe (BT b (by rw[BU,(k9 _).mp h3,CF,CL,CF]))) λh3=>
    .r (vs:=[y.1.p.toV,.lst (ks.foldl ov ([],am)).1]) (e1▸aa2 y.1.p xs n 28 (show _<=8*7 from Lr hp2 hy.ht) (by lia) (by decide) (aB hy.ht (by lia)) (aB hy.ht (by decide)))
    (.s (λh4:(y.1.p.run xs).null=ak=>.p (eP (show b.1.length<2000 from Mr w5)) (.fe (S7 b (by rw[BU,(Mf _).mp h1,(Mf _).mp h2,(Mf _).mp h3,h4];rfl))))
     λh4=>.fe (BT b (by rw[BU,h4,CF,CF])))))))))
  (.o hs (.fin hq)))))))
def BV(p:Nat×dQ):V:=.tup [fg p.1,p.2.t]
def pJ(i)(ks:List dQ):=((ks.zipIdx i).filter λp=>!iB p.1.t).map λp=>(p.2,p.1)
noncomputable def wF:List (Nat×dQ)->af
 |[]=>[]
 |p::ps=>p.2.eG.map (pI p.1)++wF ps
noncomputable def uR(k:dQ):=match k.it with
 |some (.nm [])=>ak
 |_=>ap
theorem S9(i)(k)(ks):pJ i (k::ks)=if iB k.t=ak then pJ (i+1) ks else (i,k)::pJ (i+1) ks:=by
 unfold pJ;rw[V0,xv];cases iB k.t<;>rfl
theorem dK.LE(h:dK S d k)(hs:iB k.t=ak):k.eG=[]/\∀x,k.it=aj x->x=.tx:=by
 refine h.kind.elim (λz=>cm z λs U e U e3=>?_) λz=>eZ z λl ns e U=>?_
 .exact ⟨e,λx hx=>e3.elim (λe3=>by rw[e3.1] at hx;cases hx) λe3=>by rw[e3.1] at hx;(replace hx:=aZ hx;cases hx);rfl⟩
 .rw[e] at hs;cases hs
theorem Ta:∀ks i,(∀k∈ks,dK S d k)->m6 i ks=wF (pJ i ks)
 |[]=>λU U=>rfl
 |k::ks=>λi h=>by
  have ih:=Ta ks (i+1) λk hk=>h k (cJ _ hk);rw[S9]
  by_cases c:iB k.t=ak
  .rw[bw c,<- ih];exact aE (λb=>b.map (pI i)++m6 (i+1) ks) ((h k dh).LE c).1
  .rw[if_neg c];exact aE (k.eG.map (pI i)++·) ih
theorem Tb:∀ks i,(∀k∈ks,dK S d k)->E8 (kT ks)=(pJ i ks).any λp=>uR p.2
 |[]=>λU U=>rfl
 |k::ks=>λi h=>by
  have ih:=Tb ks (i+1) λk hk=>h k (cJ _ hk);have hk:=h k dh;unfold kT at ih ⊢;rw[S9,CZ]
  cases c:iB k.t with
  |true=>
   rw[bw rfl,<- ih]
   cases e:k.it with
   |none=>rfl
   |some x=>rw[(hk.LE c).2 x e];rfl
  |false=>
   (refine ar (hk.node c) λns e az=>?_;clear az);rw[if_neg (by decide),e,L9,<- ih,uR,e];cases ns<;>rfl
theorem Tc(h:p∈pJ 0 ks):p.2∈ks/\iB p.2.t=ap:=by
 (refine ar (eV.1 h) λq hq az=>?_;subst az);exact ⟨JJ (iH.1 hq).1,(k9 _).mp (iH.1 hq).2⟩
theorem ac0(cM:∀x∈rs,jd x)(tag)(has)(xs):ot rs tag has xs=[]<->mi rs tag has xs=[]:=by
 unfold ot;rw[LQ];constructor
 .intro h
  cases e:mi rs tag has xs with
  |nil=>rfl
  |cons s l=>
   exfalso
   have hs:s∈mi rs tag has xs:=by rw[e];exact dh
   (refine ar (eV.1 hs) λx hx az=>?_;subst az);exact h _ (cM x (iH.1 hx).1).nm (gV.2 hs)
 .intro h s _;rw[h];simp
def m7(S:V)(path:af)(T:V)(ps:List (Nat×dQ))(a:Sl)(p:Option (Nat×dQ))(r:Sl):bj:=[.v S,.v (.lst path),.v T,.v (.lst (ps.map BV)),a,lE (λp=>fg p.1) p,lE (λp=>p.2.t) p,r]
def Td:=(fB (Dh.body.getD 1 .brk)).getD 1 .brk
def Fc:=Dh.body.getD 2 .brk
theorem Te{ps:List (Nat×dQ)}(hn:62+d<=n):∀(qs:List (Nat×dQ)) p,(∀p∈qs,dK S d p.2/\iB p.2.t=ap)->
  ∃p',FW n (fT Td) (fB Td) (qs.map BV) (m7 S path T ps (.v (.bool ak)) p .un) (aj (.next,m7 S path T ps (.v (.bool (!qs.any λp=>uR p.2))) p' .un))
 |[]=>λp U=>⟨p,.nil⟩
 |q::qs=>λp h=>by
  refine bm (h q dh) λhk hi=>?_;refine ar (hk.node hi) λns e hf=>?_;rw[L9]
  cases ns with
  |nil=>rw[show uR q.2=ak by rw[uR,e]];exact ⟨aj q,.turn (f₁:=.brk) (ρ₁:=m7 S path T ps (.v (.bool ap)) (aj q) .un) (.r (hf n hn) (.z ⟨rfl,rfl⟩)) (by kernel_rfl) rfl⟩
  |cons s ns=>
   rw[show uR q.2=ap by rw[uR,e],GY];obtain ⟨p',h'⟩:=Te hn qs (aj q) λp hp=>h p (cJ _ hp);exact ⟨p',.turn (f₁:=.next) (ρ₁:=m7 S path T ps (.v (.bool ak)) (aj q) .un) (.r (hf n hn) (.z ⟨rfl,rfl⟩)) (by kernel_rfl) h'⟩
noncomputable def JM:V->Fl
 |.none=>.next
 |v=>.ret v
theorem dK.go(h:dK S d k)(hs:iB k.t=ap)(hm:64+d<=m)(hp:path.length+d<=100):eg m "_go" [S,.lst path,k.t] (sI path k.eG):=by
 refine h.kind.elim (λz=>ar z λs e U=>?_) λz=>My z λl ns e e2 U U e5=>?_
 .rw[e] at hs;cases hs
 .exact λQ X=>e5 m _ Q X path hm hp
theorem Tf{ps:List (Nat×dQ)}(hn:64+d<=n)(hp:path.length+(d+1)<=100):∀qs p r,(∀p∈qs,dK S d p.2/\iB p.2.t=ap)->
  ∃p' r',FW n (fT Fc) (fB Fc) (qs.map BV) (m7 S path T ps a p r) (aj (JM (sI path (wF qs)),m7 S path T ps a p' r'))
 |[]=>λp r U=>⟨p,r,.nil⟩
 |q::qs=>λp r h=>by
  refine bm (h q dh) λhk hi=>?_;have hg:=hk.go hi hn (path:=path++[fg q.1]) (by simp;lia);have hf:=l6 (path++[fg q.1]) (by simp;lia);refine (?_:∃p' r',FW n (fT Fc) (fB Fc) ((q::qs).map BV) (m7 S path T ps a p r) (aj (JM (sI path (q.2.eG.map (pI q.1)++wF qs)),m7 S path T ps a p' r')))
  cases hb:q.2.eG with
  |nil=>
   rw[hb] at hg;obtain ⟨p',r',h'⟩:=Tf hn hp qs (aj q) (.v .none) λp hp=>h p (cJ _ hp);exact ⟨p',r',.turn (f₁:=.next) (ρ₁:=m7 S path T ps a (aj q) (.v .none)) (.g rfl hf (.r hg (.z ⟨rfl,rfl⟩))) (by kernel_rfl) h'⟩
  |cons b bs=>
   (refine ar (hk.Ao b (by rw[hb];exact dh)) λpl av az=>?_;subst av;clear az);rw[hb] at hg;have e:aj (JM (sI path ((V.lst (pl.map V.int)::bs).map (pI q.1)++wF qs)),m7 S path T ps a (aj q) (.v (.lst (path++[fg q.1]++pl.map V.int))))=aj (Fl.ret (.lst (path++[fg q.1]++pl.map V.int)),m7 S path T ps a (aj q) (.v (.lst (path++[fg q.1]++pl.map V.int)))):=by rw[b8];rfl
   exact ⟨aj q,.v (.lst (path++[fg q.1]++pl.map V.int)),.turn (f₁:=.ret (.lst (path++[fg q.1]++pl.map V.int))) (ρ₁:=m7 S path T ps a (aj q) (.v (.lst (path++[fg q.1]++pl.map V.int)))) (.g rfl hf (.r hg (.z ⟨rfl,rfl⟩))) (by kernel_rfl) e⟩
theorem ac1(path):∀l,sI path l=.none\/∃m,sI path l=.lst m
 |[]=>.inl rfl
 |x::U1=>by cases x<;>first | exact .inl rfl | exact .inr ⟨_,rfl⟩
theorem ac2{S T:V}{ps:List (Nat×dQ)}{d n:Nat}{a:Sl}{σ:Pz}{Q:i4}{X:bj->Prop}(hn:64+d<=n)(hp:path.length+(d+1)<=100)(p)(r)(h:∀p∈ps,dK S d p.2/\iB p.2.t=ap)(hq:Q (sI path (wF ps)) σ) :
  cV (CW n) bB (Dh.body.drop 2) (m7 S path T ps a p r) am (iN λv U=>Q v σ) X:=by
 refine jk (Tf (T:=T) (ps:=ps) (a:=a) hn hp ps p r h) λp' r' h'=>?_
 rcases ac1 path (wF ps) with e | ⟨l,e⟩
 .rw[e] at h' hq;exact run (.lf h' (.fin hq))
 .rw[e] at h' hq;exact run (.lf h' (.fin hq))
theorem ac3{bR:List aK}{rs:List (Rl×af)}(cM:∀x∈rs,jd x)(eb:rs.length<=4)(tag)(g)(hg:g.length<=2)(gB:∀k∈ks,dK (eN bR rs) d k)(nt:ks.length<=3)
  (m) (hm:65+d<=m) (path) (df:path.length+(d+1)<=100) (σ) (Q) (X)
  (hq:Q (sI path (sJ rs tag (g.map (·.1)) ks)) σ):CW m "_go" [eN bR rs,.lst path,ou tag g (ks.map (·.t))] σ Q X:=by
 obtain ⟨n,rfl⟩:∃n,m=n+1:=⟨m-1,by lia⟩;have sR:eg n "_fit" [eN bR rs,ou tag g (ks.map (·.t))] _:=λQ X=>S8 cM eb tag g hg gB nt n (by lia) _ Q X;unfold sJ at hq;rw[Ta ks 0 gB,Tb ks 0 gB] at hq;simp only[<- ac0 cM] at hq;have KK:∀p∈pJ 0 ks,dK (eN bR rs) d p.2/\iB p.2.t=ap:=λp hp=>⟨gB _ (Tc hp).1,(Tc hp).2⟩;have e1:ks.zipIdx.filterMap (λp=>gy (!iB p.1.t) (.tup [fg p.2,p.1.t]))=(pJ 0 ks).map BV:=by rw[uv,pJ,ij];rfl
 have e2:xW (ks.map (·.t))=ks.zipIdx.map λp=>.tup [fg p.2,p.1.t]:=by unfold xW;rw[List.zipIdx_map,ij];rfl
 generalize pJ 0 ks=ps at hq KK e1;generalize ot rs tag (g.map (·.1)) (kT ks)=ns at hq sR;have kid:∀p∈ks.zipIdx,fX "isinstance" [p.1.t,.ty "str"]=aj (.bool (iB p.1.t)):=λp hp=>(gB _ (JJ hp)).WM;refine a9 (Te (S:=eN bR rs) (T:=ou tag g (ks.map (·.t))) (path:=path) (ps:=ps) (n:=n) (by lia) ps am KK) λp' h'=>?_;have tl:=λa p r=>ac2 (T:=ou tag g (ks.map (·.t))) (a:=a) (σ:=σ) (Q:=Q) (X:=λU=>X) (n:=n) (by lia) df p r KK;have c0:=λt q (r:Ok n True t q)=>Ok.k (λp:dQ×Nat=>.tup [fg p.2,p.1.t]) (λp=>gy (!iB p.1.t) (.tup [fg p.2,p.1.t])) ks.zipIdx e2 (by rw[List.length_zipIdx];exact bD ‹_›) e1 (λp hp=>.o (kid p hp) (.s (λh:(!iB p.1.t)=ak=>.ft (n8 h)) λh=>.fn (n9 h))) r
 cases ns with
 |cons s ns=>
  rw[if_neg λc=>nomatch c.1] at hq;exact bz (c0 _ _ (.r sR (.stop (tl .un am .un hq))))
 |nil=>
  cases hb:ps.any λp=>uR p.2 with
  |false=>
   rw[hb,bw ⟨rfl,rfl⟩] at hq;rw[hb] at h';exact bz (c0 _ _ (.r sR (.lf h' (.fin (show Q (.lst path) σ from (aE V.lst (eh path))▸hq)))))
  |true=>
   rw[hb,if_neg λc=>nomatch c.2] at hq;rw[hb] at h';exact bz (c0 _ _ (.r sR (.lf h' (.d (.stop (tl (.v (.bool ap)) p' .un hq))))))
theorem ac4(g):gW (qM g)=ak:=by
 unfold qM;induction g with
 |nil=>rfl
 |cons a g ih=>exact ih
theorem ac5(g):i0 (qM g)<=1:=by
 unfold qM;induction g with
 |nil=>exact bW _
 |cons a g ih=>exact g9.2 ⟨aV 1,ih⟩
theorem Tg:∀ks:List dQ,(∀k∈ks,dK S d k)->gW (ks.map (·.t))=ak/\i0 (ks.map (·.t))<=3+2*d
 |[]=>λU=>⟨rfl,bW _⟩
 |k::ks=>λh=>
  have ih:=Tg ks λk hk=>h k (cJ _ hk);have hk:=h k dh
  ⟨dM.2 ⟨hk.plain,ih.1⟩,g9.2 ⟨hk.depth,ih.2⟩⟩
theorem ac6(cM:∀x∈rs,jd x)(eb:rs.length<=4)(tag)(g)(hg:g.length<=2)(gB:∀k∈ks,dK (eN bR rs) d k)(nt:ks.length<=3) :
  dK (eN bR rs) (d+1) ⟨ou tag g (ks.map (·.t)),aj (.nm (ot rs tag (g.map (·.1)) (kT ks))),sJ rs tag (g.map (·.1)) ks⟩:=by
 have hp:=Tg ks gB;refine ⟨?_,?_,?_,?_,.inr ⟨_,_,rfl,rfl,?_,?_,?_⟩⟩
 .exact dM.2 ⟨ac4 _,dM.2 ⟨hp.1,rfl⟩⟩
 .exact cr (g9.2 ⟨bW _,g9.2 ⟨cr (aB (ac5 g) (aB aM (dH 3 _))),g9.2 ⟨cr hp.2,bW _⟩⟩⟩)
 .have h2:ks.length*4^d<=3*4^d:=s8 _ nt;have h3:1<=4^d:=Nat.one_le_pow _ _ aM;have h4:4^(d+1)=4*4^d:=by rw[s9,xi]
  show (sJ rs tag (g.map (·.1)) ks).length<=_;exact aB (jS (vG (aV 1) (bW _)) (aB (JG ks 0 gB) h2)) (aB (ec (kZ 1 _)) (aB (iE h3 _) (ec ((af4 3 (4^d)).symm.trans h4.symm))))
 .intro b hb;have hb:b∈sJ rs tag (g.map (·.1)) ks:=hb;unfold sJ at hb;rw[dZ] at hb
  rcases hb with hb | hb
  .split at hb
   .simp at hb;subst hb;exact ⟨[],rfl,by simp⟩
   .simp at hb
  .exact SO ks 0 gB b hb
 .exact λs hs=>(iH.1 hs).1
 .exact λm σ Q X hm hq=>S8 cM eb tag g hg gB nt m (by lia) σ Q X hq
 .exact λm σ Q X path hm hp hq=>ac3 cM eb tag g hg gB nt m (by lia) path ‹_› σ Q X hq
noncomputable def Th:Nat->dQ
 |0=>⟨.str [32,104,105],aj .tx,[]⟩
 |1=>⟨.str [10,9,32,13],am,[]⟩
 |_=>⟨.str [],am,[]⟩
def oz:Nat->aa×List (aK×aK)×Nat
 |0=>(sX,[],0)
 |1=>(sX,[],0)
 |2=>(sY,[],0)
 |3=>(sX,[],2)
 |4=>(sY,[],2)
 |_=>(sX,[(uN,[])],0)
def JN(rs:List (Rl×af))(tag:aK)(g:List (aK×aK))(ks:List dQ):dQ:=
 ⟨ou tag g (ks.map (·.t)),aj (.nm (ot rs tag (g.map (·.1)) (kT ks))),sJ rs tag (g.map (·.1)) ks⟩
def m8(rs:List (Rl×af))(x:Nat)(deep:List dQ):=
 if x<3 then Th x else JN rs (oz (x-3)).1 (oz (x-3)).2.1 (deep.take (oz (x-3)).2.2)
section
variable {bR:List aK}{rs:List (Rl×af)}(cM:∀x∈rs,jd x)(eb:rs.length<=4)
include cM eb
theorem Ti(tag)(g)(hg:g.length<=2)(gB:∀k∈ks,dK (eN bR rs) d k)(nt:ks.length<=3):dK (eN bR rs) (d+1) (JN rs tag g ks):=
 ac6 cM eb tag g hg gB nt
theorem Tj(x):(oz x).2.1.length<=2:=by
 match x with
 |0 | 1 | 2 | 3 | 4=>decide
 |U1+5=>show [(uN,([]:aK))].length<=2;decide
theorem BW(x)(hd:∀k∈deep,dK (eN bR rs) d k)(hl:deep.length<=3):dK (eN bR rs) (d+1) (m8 rs x deep):=by
 unfold m8;split
 .match x with
  |0=>exact ⟨rfl,bW _,bW _,nofun,.inl ⟨_,rfl,rfl,by decide,.inr ⟨rfl,by decide⟩⟩⟩
  |1=>exact ⟨rfl,bW _,bW _,nofun,.inl ⟨_,rfl,rfl,by decide,.inl ⟨rfl,by decide⟩⟩⟩
  |U1+2=>exact ⟨rfl,bW _,bW _,nofun,.inl ⟨_,rfl,rfl,by decide,.inl ⟨rfl,by decide⟩⟩⟩
 .exact Ti cM eb _ _ (Tj cM eb _) (λk hk=>hd k (Gr hk)) (by rw[CC];exact aB (vh _ _) (by assumption))
end
theorem ac7:∀x:Nat,x<3->dN MQ (.int x)=aj (Th x).toV:=by refine mG ?_;kernel_rfl
theorem ac8:∀x:Nat,x<6->dN MR (.int x)=aj (.tup [.str (oz x).1,.tup (qM (oz x).2.1),.int (oz x).2.2]):=by refine mG ?_;kernel_rfl
theorem ac9(l)(k:Nat):kL (.lst l) am (aj (k:Int))=aj (.lst (l.take k)):=by
 have e1:gq l.length (aj (k:Int))=min k l.length:=I0 _ _;show aj (V.lst (l.take (gq l.length (aj (k:Int)))))=_;rw[e1]
 congr 2
 rw[List.take_eq_take_iff];exact Gy (vh _ _)
theorem Tk{α:Type}(f:α->V)(l:List α)(k:Nat):kL (.lst (l.map f)) am (aj (k:Int))=aj (.lst ((l.take k).map f)):=(ac9 _ _).trans (aE (λl=>aj (V.lst l)) List.map_take.symm)
theorem Tl(cM:∀x∈rs,jd x)(eb:rs.length<=4){x:Nat}(hx:x<9)(hd:d<=3)(Cs:∀k∈deep,dK (eN bR rs) d k)(hl:deep.length<=3)(n:Nat) :
  eg (n+3) "_law_kid" [.lst (rs.map zb),.int x,.lst (deep.map dQ.toV)] (m8 rs x deep).toV:=λQ X hq=>by
 by_cases h:x<3
 .rw[m8,bw h] at hq;exact bz (.b (pE (iY.2 h)) (.o (ac7 x h) (.fin hq)))
 .rw[m8,if_neg h] at hq
  have he:=(by
    match (x-3) with
    |0 | 1 | 2 | 3 | 4=>decide
    |U1+5=>show 0<=2;decide:(oz (x-3)).2.2<=2)
  exact bz (.b (sz λc=>h (iY.1 c)) (.g (o:=jU .sub (.int x) (.int 3)) (v:=.int ((x-3:Nat):Int)) (aE (aj∘V.int) (Int.ofNat_sub (fZ.1 h)).symm) (uC (x-3) 9 (aB (xp _ _) (gc hx))) (.o (ac8 (x-3) ((by decide:∀x,x<9->x-3<6) x hx)) (.c (.p (uC _ 2 he) (.o (Tk dQ.toV deep (oz (x-3)).2.2)
   (.r (λQ X=>S5 cM eb (oz (x-3)).1 (oz (x-3)).2.1 (Tj cM eb _) hd (ks:=deep.take (oz (x-3)).2.2) (λk hk=>Cs k (Gr hk)) (aB (Va _ _) (aB he (by decide))) n _ Q X) (.fin hq))))))))
structure lJ where
 tag:aK
 g:List (aK×aK)
 size:Nat
 x1:Nat
 x2:Nat
 y1:Nat
 y2:Nat
 y3:Nat
def lJ.toV(p:lJ):V:=.tup [.str p.tag,.tup (qM p.g),.int p.size,.int p.x1,.int p.x2,.int p.y1,.int p.y2,.int p.y3]
structure JO(p:lJ):Prop where
 g:p.g.length<=2
 size:p.size<4
 x1:p.x1<9
 x2:p.x2<9
 y1:p.y1<9
 y2:p.y2<9
 y3:p.y3<9
def lJ.deep(rs:List (Rl×af))(p:lJ):=[m8 rs p.x1 [],m8 rs p.x2 []]
def lJ.kids(rs:List (Rl×af))(p:lJ):=[m8 rs p.y1 (p.deep rs),m8 rs p.y2 (p.deep rs),m8 rs p.y3 (p.deep rs)].take p.size
def lJ.doc(rs:List (Rl×af))(p:lJ):=JN rs p.tag p.g (p.kids rs)
theorem Fd(cM:∀x∈rs,jd x)(eb:rs.length<=4)(p:lJ):∀k∈p.deep rs,dK (eN bR rs) 1 k:=by
 intro k hk;simp only[lJ.deep,cD,gU,or_false] at hk
 rcases hk with rfl | rfl
 .exact BW cM eb _ (d:=0) (by simp) (by simp)
 .exact BW cM eb _ (d:=0) (by simp) (by simp)
theorem Tm(cM:∀x∈rs,jd x)(eb:rs.length<=4)(p:lJ):∀k∈p.kids rs,dK (eN bR rs) 2 k:=by
 intro k hk;have hk:=Gr hk;simp only[cD,gU,or_false] at hk;have hd:(p.deep rs).length<=3:=by simp[lJ.deep]
 rcases hk with rfl | rfl | rfl
 .exact BW cM eb _ (Fd cM eb p) hd
 .exact BW cM eb _ (Fd cM eb p) hd
 .exact BW cM eb _ (Fd cM eb p) hd
theorem Tn(rs)(p:lJ):(p.kids rs).length<=3:=by
 exact Gq _ _
theorem ada(cM:∀x∈rs,jd x)(eb:rs.length<=4)(hp:JO p):dK (eN bR rs) 3 (p.doc rs):=
 Ti cM eb _ _ hp.g (Tm cM eb p) (Tn rs p)
theorem adb{bR:List aK}{rs:List (Rl×af)}(cM:∀x∈rs,jd x)(eb:rs.length<=4)(hp:JO p)(n:Nat):eg (n+4) "_law_doc" [.lst (rs.map zb),p.toV] (p.doc rs).toV:=λQ X hq=>by
 have hs:=hp.size;have k0:=λx hx=>Tl (bR:=bR) cM eb (x:=x) hx (d:=0) (by decide) (deep:=[]) (λU h=>nomatch (h)) (by decide) n;have k1:=λx hx=>Tl (bR:=bR) cM eb (x:=x) hx (d:=1) (by decide) (Fd (bR:=bR) cM eb p) (show 2<=3 by decide) n
 exact bz (.r (k0 p.x1 hp.x1) (.r (k0 p.x2 hp.x2) (.r (k1 p.y1 hp.y1) (.r (k1 p.y2 hp.y2) (.r (k1 p.y3 hp.y3) (.c (.p (Q9 hp.size) (.o (Tk dQ.toV [m8 rs p.y1 (p.deep rs),m8 rs p.y2 (p.deep rs),m8 rs p.y3 (p.deep rs)] p.size)
  (.r (λQ X=>S5 cM eb p.tag p.g hp.g (d:=2) (by decide) (Tm (bR:=bR) cM eb p) (Tn rs p) (n+1) _ Q X) (.fin hq))))))))))
noncomputable def oA(bR ns:List aK):=ns.any λs=>bR.contains s
theorem dK.fit(h:dK S d k)(bN:k.it=aj (.nm ns)):iB k.t=ap/\∀m,62+d<=m->eg m "_fit" [S,k.t] (.lst (ns.map .str)):=by
 cases c:iB k.t with
 |true=>cases (h.LE c).2 _ bN
 |false=>
  refine ar (h.node c) λns' e hf=>?_
  (have hz:=bN.symm.trans e;cases hz)
  exact ⟨rfl,hf⟩
theorem adc(a b)(ha:a.length<=2000):jU .band (.set (je a)) (.set (je b))=aj (.set ((je a).filter λx=>(je b).contains x)):=
 bw (eP (aB (Ea _) ((ed _).symm▸ha)))
theorem ade(bR ns):(!((je ns).filter λx=>(je bR).contains x).isEmpty)=oA bR ns:=by
 unfold oA;rw[ii,k9,List.isEmpty_eq_false_iff,ne_eq,LQ,V9];constructor
 .intro h;refine F4 λhc=>h λx hx hb=>?_;(refine ar (eV.1 (kQ.1 hx)) λs hs az=>?_;subst az);rw[je,BS,ze] at hb;exact hc ⟨s,hs,hb⟩
 .exact λ⟨s,hs,hb⟩ h=>h (.str s) (kQ.2 (Mc hs)) (by rw[je,BS,ze];exact hb)
theorem To(fj:bR.length<=2)(hk:dK (eN bR rs) d k)(bN:k.it=aj (.nm ns))(ml:ns.length<=3)
  (n) (hm:62+d<=n):eg (n+1) "valid" [eN bR rs,k.t] (.bool (oA bR ns)):=λQ X hq=>
 bz (.r ((hk.fit bN).2 n hm) (.o (Fb ns (bD ‹_›)) (.c (.o (Fb bR (bD ‹_›)) (.g (adc ns bR (bD ‹_›)) (eP (aB (vt _ _) (aB (Ea _) (by rw[ed];show _<=100000;exact bD ‹_›))))
  (.o (o:=fX "bool" [.set ((je ns).filter λx=>(je bR).contains x)]) (aE (λb=>aj (V.bool b)) (ade bR ns)) (.fin hq)))))))
def qN(bR ns:List aK)(eG:af):V:=if oA bR ns=ak then .none else
 match eG with
 |.lst l::U1=>.lst l
 |_=>.lst []
theorem adf(fj:bR.length<=2)(hd:d<=3)(hk:dK (eN bR rs) d k)(bN:k.it=aj (.nm ns))(ml:ns.length<=3)
  (n) (hm:63+d<=n):eg (n+2) "first_bad" [eN bR rs,k.t] (qN bR ns k.eG):=λQ X hq=>by
 have hv:=To fj hk bN ml n (by lia);have hg:=hk.go (hk.fit bN).1 (m:=n+1) (path:=[]) (by lia) (by simp;exact bD ‹_›);unfold qN at hq
 cases e:oA bR ns with
 |true=>rw[e] at hv hq;exact bz (.r hv (.fin hq))
 |false=>
  rw[e] at hv hq
  cases hb:k.eG with
  |nil=>rw[hb] at hg hq;exact bz (.r hv (.r hg (.fin hq)))
  |cons b bs=>
   (refine ar (hk.Ao b (by rw[hb];exact dh)) λpl av az=>?_;subst av;clear az);rw[hb] at hg hq;exact bz (.r hv (.r hg (.fin hq)))
theorem adg(hk:dK (eN bR rs) d k)(bN:k.it=aj (.nm ns))
  (n) (hm:62+d<=n):eg (n+1) "fits" [eN bR rs,k.t] (.lst (ns.map .str)):=λQ X hq=>bz (.r ((hk.fit bN).2 n hm) (.fin hq))
noncomputable def aN.ab:aN->Prop
 |.rf s=>s=sA\/s=sB
 |.sm p=>p.ab
 |.gr a b | .ch a b | .il a b=>a.ab/\b.ab
 |_=>True
theorem wG:∀p:aN,p.ab->p.good
 |.nn,_ | .em,_ | .tx,_=>trivial
 |.rf s,h=>h.elim (λe=>e▸(by decide:sA≠cH)) λe=>e▸(by decide:sB≠cH)
 |.sm p,h=>wG p h
 |.gr a b,h | .ch a b,h | .il a b,h=>⟨wG a h.1,wG b h.2⟩
theorem JP:x∈bI [] a<->x∈a:=I2.trans ⟨λh=>h.resolve_left gU,.inr⟩
theorem zg:x∈bI (bI [] a) b<->x∈a\/x∈b:=I2.trans (or_congr JP p5)
theorem uS:∀p:aN,p.ab->∀v∈p.refs,v=.str sA\/v=.str sB
 |.nn=>λU U h=>absurd h gU
 |.em=>λU U h=>absurd h gU
 |.tx=>λU U h=>absurd h gU
 |.rf s=>λhp v h=>en.1 h▸hp.imp (aE V.str) (aE V.str)
 |.sm p=>λhp v h=>uS p hp v (JP.1 h)
 |.gr a b=>λhp v h=>(zg.1 h).elim (uS a hp.1 v) (uS b hp.2 v)
 |.ch a b=>λhp v h=>(zg.1 h).elim (uS a hp.1 v) (uS b hp.2 v)
 |.il a b=>λhp v h=>(zg.1 h).elim (uS a hp.1 v) (uS b hp.2 v)
theorem uT:∀p w,L p w->∀s∈w,s=cH\/V.str s∈p.refs
 |.nn=>λU h U U=>h.elim
 |.em=>λw h s hs=>absurd ((h:w=[])▸hs) gU
 |.tx=>λw h s hs=>.inl (h s hs)
 |.rf t=>λw h s hs=>.inr (en.2 (aE V.str (en.1 ((h:w=[t])▸hs))))
 |.sm a=>λw h s hs=>by
  have:∀{w},ja (L a) w->∀s∈w,s=cH\/V.str s∈a.refs:=by
   intro w hw
   induction hw with
   |nil=>exact λs hs=>absurd hs gU
   |app h1 U1 ih=>exact λs hs=>(dZ.1 hs).elim (uT a _ h1 s) (ih s)
  exact (this (EF h) s hs).imp id JP.2
 |.gr a b=>λw h s hs=>jk h λu v h=>((dZ.1 (h.1▸hs)).elim (λhs=>(uT a u h.2.1 s hs).imp id .inl) λhs=>(uT b v h.2.2 s hs).imp id .inr).imp id zg.2
 |.ch a b=>λw h s hs=>(h.elim (λh=>(uT a w h s hs).imp id .inl) λh=>(uT b w h s hs).imp id .inr).imp id zg.2
 |.il a b=>λw h s hs=>bX h λu v h0 h1 h2=>(((QX h0 s).1 hs).elim (λhs=>(uT a u h1 s hs).imp id .inl) λhs=>(uT b v h2 s hs).imp id .inr).imp id zg.2
theorem adh(p:aN):p.refs.Nodup:=by
 have hu:=λa b (ha:ahr a) (hb:ahr b)=>(I3 ha hb).1
 induction p with
 |nn | em | tx=>exact p9
 |rf s=>exact pX.2 ⟨gU,p9⟩
 |sm p ih=>exact hu _ _ p9 ih
 |gr a b iha ihb | ch a b iha ihb | il a b iha ihb=>exact hu _ _ (hu _ _ p9 iha) ihb
def km(p:aN)(xs)(s):=!((p.run xs).d (if s=cH then .tx else .nm [s])).dR
set_option tactic.hygienic true in
theorem JQ(hp:p.ab)(qV:∀w,L p w->fx w)(hb:Bd p 3 3 4)(hx:∀x∈xs,x.good)(hl:xs.length<=1)(hs:s∈hY) :
  km p xs s=ak<->∃w,L p w/\w.length<=4/\gZ w xs=ak/\w[xs.length]?=aj s:=by
 unfold km
 have hg:(if s=cH then It.tx else It.nm [s]).good:=by
  split
  .trivial
  .rename_i h;intro h';simp at h';exact h h'.symm
 have FO:∀t,t∈hY->(mt t (if s=cH then It.tx else It.nm [s])=ak<->t=s):=by
  intro t ht
  split
  .rename_i h;subst h;simp[mt]
  .simp[mt]
 rw[abc xs p _ hx hg (wG p hp)];constructor
 ·(intro bu;refine kJ bu λu t w h1 h2 h3=>?_)
  have ht:t=s:=(FO t (qV _ h3 t (by simp))).1 h2;subst ht;have hu:=h1.len
  have:∃v',L p ((u++[t])++v')/\(u++[t]).length+v'.length<=4:=by
   have xc:L p ((u++[t])++w):=by simpa using h3
   match u,hu with
   |[],U1=>
    refine ar (hb.e1 [t] w rfl xc) λv' e1 e2=>?_;exact ⟨v',e1,by simp at e2 ⊢;exact bD ‹_›⟩
   |[y],U1=>
    refine ar (hb.e2 [y,t] w rfl xc) λv' e1 e2=>?_;exact ⟨v',e1,by simp at e2 ⊢;assumption⟩
   |U1::U2::U3,hu=>simp at hu;lia
  refine ar this λv' e1 e2=>?_;refine ⟨(u++[t])++v',e1,by rw[bJ];assumption,(BQ _ _).2 ⟨u,[t]++v',by simp,h1⟩,?_⟩;rw[<- hu];simp
 ·(intro bu;refine cm bu λw h1 h2 h3 h4=>?_)
  (refine eZ ((BQ _ _).1 h3) λu v av hm=>?_;subst av);rw[<- hm.len,Af (aV _),Cz] at h4
  cases v with
  |nil=>simp at h4
  |cons t v=>
   simp at h4;subst h4;exact ⟨u,t,v,hm,(FO t (qV _ h1 t (by simp))).2 rfl,h1⟩
def Fe(p:aN)(xs:List It)(l:af):List aK:=(l.filter λv=>!((p.run xs).d (.nm [jK v])).dR).map jK
theorem adi(hp:p.ab)(Cq:p.ht<=7)(zz:p.iZ<=60)(xs)(hl:xs.length<=1)(n)(hn:30<=n) :
  n7 (n+2) "next_ones" [p.toV,.lst (xs.map It.toV)] (λm:List aK=>m.Nodup/\∀s,s∈m<->(s=sA\/s=sB)/\V.str s∈p.refs/\km p xs s=ak)
   (λm=>.tup [.lst ((ik m).map .str),.bool (km p xs cH),.bool (p.run xs).null]):=λQ X hq=>by
 obtain ⟨n,rfl⟩:∃m,n=m+1:=⟨n-1,by lia⟩;have Us:2^xs.length*p.ht<=14:=Lr (aB (zH aM hl) (by decide:2^1<=2)) Cq;have hrh:(p.run xs).ht<=14:=IM xs p.simple (aB (vf _ (pv p _ (aV _))) Us);have aec:=uS p hp;have Ui:=λx=>aaW ((p.run xs).d x);have hd:∀x,eg (n+2) "_d" [(p.run xs).toV,x.toV] ((p.run xs).d x).toV:=λx=>so x (p.run xs) (n+1) (by lia) (bD ‹_›)
 have hv:∀v∈p.refs,eg (n+2) "_d" [(p.run xs).toV,.lst [v]] ((p.run xs).d (.nm [jK v])).toV/\v=.str (jK v)/\(jK v=sA\/jK v=sB):=λv h=>by
  rcases aec v h with rfl | rfl
  .exact ⟨hd (.nm [sA]),rfl,.inl rfl⟩
  .exact ⟨hd (.nm [sB]),rfl,.inr rfl⟩
 refine bz (.r (QV p xs n 7 Us (by lia) aM (by lia) (bD ‹_›)) (.r (uz p (n+2) (by lia) (bD ‹_›)) (.w (l:=p.refs) λl fh=>
  .k id (λv=>gy (!((p.run xs).d (.nm [jK v])).dR) (.str (jK v))) l (xB l).symm (fh.length_eq▸aB (kR p) (bD ‹_›)) ((uv _ _ l).trans (ij (f:=jK) (g:=V.str)).symm)
   (λv h=>.r (hv v (fh.mem_iff.1 h)).1
    (.bs (Ui (.nm [jK v])) (λc=>.ft ((aE aj (hv v (fh.mem_iff.1 h)).2.1).trans (n8 c))) λc=>.fn (n9 c)))
  (.o (acP (m:=Fe p xs l) ?_) (.r (hd .tx) (.b (Ui .tx) (.r (qw (p.run xs) (n+2) (by lia)) (.fin (hq (Fe p xs l) ⟨?_,?_⟩)))))))))
 .unfold Fe;rw[ed];exact kx (vt _ _) (fh.length_eq▸kx (kR p) (by lia))
 .refine CD.2 (((fh.nodup_iff.2 (adh p)).filter _).imp_of_mem λha hb bA e=>bA ?_);rw[(hv _ (fh.mem_iff.1 (iH.1 ha).1)).2.1,(hv _ (fh.mem_iff.1 (iH.1 hb).1)).2.1,e]
 .intro s;have Uv:(s=sA\/s=sB)->s≠cH:=λh=>by rcases h with rfl | rfl<;>decide
  unfold Fe;rw[eV];constructor
  .rintro ⟨v,h,rfl⟩
   refine bm (iH.1 h) λh1 h2=>?_;refine d5 (hv v (fh.mem_iff.1 h1)) λav h3 h4=>?_;exact ⟨h4,h3▸fh.mem_iff.1 h1,by rw[km,if_neg (Uv h4)];exact h2⟩
  ·(intro bu;refine d5 bu λh1 h2 h3=>?_)
   exact ⟨.str s,iH.2 ⟨fh.mem_iff.2 h2,by rw[km,if_neg (Uv h1)] at h3;exact h3⟩,rfl⟩
theorem adj(i):(qC i).ab/\(qC i).ht=1/\(qC i).iZ=1/\Bd (qC i) 1 1 2:=by
 match i with
 |0=>exact ⟨.inl rfl,rfl,rfl,Ev _⟩
 |1=>exact ⟨.inr rfl,rfl,rfl,Ev _⟩
 |2=>exact ⟨trivial,rfl,rfl,abf⟩
 |3=>exact ⟨trivial,rfl,rfl,Q2.mono aM aM aM⟩
 |4=>exact ⟨trivial,rfl,rfl,abg.mono aM aM aM⟩
 |5=>exact ⟨.inl rfl,rfl,rfl,Ev _⟩
 |U1+6=>exact ⟨.inr rfl,rfl,rfl,Ev _⟩
theorem Tp(m)(h:p.ab):(lG m p).ab:=by
 match m with
 |0=>exact h
 |1=>exact ⟨h,trivial⟩
 |2=>exact h
 |U1+3=>exact ⟨h,trivial⟩
theorem Tq(m)(p):(lG m p).ht<=p.ht+2/\(lG m p).iZ<=p.iZ+1:=by
 match m with
 |0=>exact ⟨dH _ 2,dT _⟩
 |1=>exact ⟨cr (g9.2 ⟨dT _,cr (bW _)⟩),aV _⟩
 |2=>exact ⟨dT (p.ht+1),dT p.iZ⟩
 |U1+3=>exact ⟨cr (g9.2 ⟨aV (p.ht+1),cr (bW _)⟩),aV _⟩
theorem Ts(m)(h:Bd p a b c)(hc:1+b<=c):Bd (lG m p) a b c:=by
 have he:Bd .em a b c:=Q2.mono (bW _) (bW _) (bW _)
 match m with
 |0=>exact h
 |1=>exact IX h he
 |2=>exact Q1 h (aV _) hc
 |U1+3=>exact IX (Q1 h (aV _) hc) he
theorem Ff(k)(h:p.ab)(h':q.ab):(iz k p q).ab:=by
 match k with
 |0=>exact ⟨h,h'⟩
 |1=>exact ⟨h,h'⟩
 |U1+2=>exact ⟨h,h'⟩
theorem Fg(k)(p q):(iz k p q).ht<=max p.ht q.ht+1/\(iz k p q).iZ=p.iZ+q.iZ:=by
 match k with
 |0=>exact ⟨aV _,rfl⟩
 |1=>exact ⟨aV _,rfl⟩
 |U1+2=>exact ⟨aV _,rfl⟩
theorem Fh(k)(ha:Bd p a0 a1 a2)(hb:Bd q b0 b1 b2)(h0:a0+b0<=c0)(h1:a1+b0<=c1)(jM:a0+b1<=c1)(h2:a2+b0<=c2)(mq:a1+b1<=c2)(FB:a0+b2<=c2)(h3:1+b1<=c2):Bd (iz k p q) c0 c1 c2:=by
 match k with
 |0=>exact abd ha hb h0 h1 (by lia) h2 h3 (by lia)
 |1=>exact IX (ha.mono (by lia) (by lia) (by lia)) (hb.mono (by lia) (by lia) (by lia))
 |U1+2=>exact abe ha hb h0 h1 jM h2 mq FB
theorem BX(x):(bQ x).ab/\(bQ x).ht<=3/\(bQ x).iZ<=2/\Bd (bQ x) 1 1 2:=by
 refine fy (adj (bh x 7)) λh1 h2 h3 h4=>bm (Tq (bh x 4) (qC (bh x 7))) λg1 g2=>?_;unfold bQ;exact ⟨Tp _ h1,by lia,by lia,Ts _ h4 aM⟩
theorem mx(h:x<=max a b+1)(ha:a<=n)(hb:b<=n):x<=n+1:=aB h (cr (g9.2 ⟨ha,hb⟩))
theorem JR(bv one two m)(a b c):(l8 bv one two m (bQ a) (bQ b) (bQ c)).ab/\(l8 bv one two m (bQ a) (bQ b) (bQ c)).ht<=7/\(l8 bv one two m (bQ a) (bQ b) (bQ c)).iZ<=60/\Bd (l8 bv one two m (bQ a) (bQ b) (bQ c)) 3 3 4:=by
 refine fy (BX a) λa1 a2 a3 a4=>fy (BX b) λb1 b2 b3 b4=>?_;refine fy (BX c) λc1 c2 c3 c4=>bm (Fg one (bQ a) (bQ b)) λg1 g2=>?_;have gb:Bd (iz one (bQ a) (bQ b)) 2 2 3:=Fh one a4 b4 aM aM aM aM aM aM aM;have ga:=Ff one a1 b1;refine bm (Tq m (iz one (bQ a) (bQ b))) λm1 m2=>?_;have mb:=Ts m gb aM;have j3:=aB (ec g2) (jh a3 b3);have m3:=aB m2 (gD j3 1);have ma:=Tp m ga;unfold l8
 split
 .exact bm (Fg one (iz one (bQ a) (bQ b)) (bQ c)) λt1 t2=>⟨Ff _ ga c1,bD (mx t1 (mx g1 a2 b2) (bD c2)),aB (ec t2) (bD (jh j3 c3)),Fh one gb c4 (by decide) (by decide) (by decide) (by decide) (by decide) (by decide) (by decide)⟩
 .split
  .exact bm (Fg two (bQ c) (lG m (iz one (bQ a) (bQ b)))) λt1 t2=>⟨Ff _ c1 ma,bD (mx t1 (bD c2) (aB m1 (gD (mx g1 a2 b2) 2))),aB (ec t2) (bD (jh c3 m3)),Fh two c4 mb (by decide) (by decide) (by decide) (by decide) (by decide) (by decide) (by decide)⟩
  .exact bm (Fg two (lG m (iz one (bQ a) (bQ b))) (bQ c)) λt1 t2=>⟨Ff _ ma c1,bD (mx t1 (aB m1 (gD (mx g1 a2 b2) 2)) (bD c2)),aB (ec t2) (bD (jh m3 c3)),Fh two mb c4 (by decide) (by decide) (by decide) (by decide) (by decide) (by decide) (by decide)⟩
mutual
theorem Tt:∀v:V,dj v=ak->eX v v=ak
 |.none=>λU=>rfl
 |.bool b=>λU=>f0 b
 |.int b=>λU=>f0 b
 |.str b=>λU=>f0 b
 |.tup l=>λh=>JS l h
 |.lst l=>λh=>JS l h
 |.set l=>λh=>aY h
 |.ty l=>λh=>aY h
theorem JS:∀l:af,gW l=ak->lS l l=ak
 |[]=>λU=>aaU
 |x::l=>λh=>have h:=dM.1 h;(aaT ..).trans (dM.2 ⟨Tt x h.1,JS l h.2⟩)
end
theorem wH(h:dj v=ak)(hd:dm v<=100):cy .ne v v=aj ap:=aE (gT not) ((Bf h h (aB (ahg _ _) hd)).trans (aE aj (Tt v h)))
def qO:Nat->aa
 |0 | 1=>sX
 |_=>sY
def pL:Nat->aa
 |0 | 2=>sA
 |_=>sB
def Fi:Nat->List (aK×aK)
 |0=>[(uM,[49])]
 |1=>[]
 |2=>[(uN,[118]),(uM,[])]
 |_=>[(uN,[])]
def Tu:Nat->aK
 |0=>qL
 |1=>sX
 |_=>qL
theorem adk:∀i:Nat,i<4->dN MM (.int i)=aj (.tup ((dA i).map .str)):=by refine mG ?_;kernel_rfl
theorem adl:∀i:Nat,i<4->dN MN (.int i)=aj (.tup [.str (cT i),.lst (uO i)]):=by refine mG ?_;kernel_rfl
theorem adm:∀i:Nat,i<4->dN MO (.int i)=aj (.tup [.str (qO i),.str (pL i)]):=by refine mG ?_;kernel_rfl
theorem adn:∀i:Nat,i<4->dN MP (.int i)=aj (.tup (qM (Fi i))):=by refine mG ?_;kernel_rfl
theorem ado:∀i:Nat,i<3->dN (.tup [.str [100,111,99],.str [120],.str [100,111,99]]) (.int i)=aj (.str (Tu i)):=by refine mG ?_;kernel_rfl
def Fj(r:Nat):=(dN Dg (.int r)).getD .none
theorem adp(r c:Nat)(hr:r<2)(hc:c<12):∃row,dN Dg (.int r)=aj row/\dN row (.int c)=aj (.tup [.str (cW (r*12+c)).1,.str (cW (r*12+c)).2]):=
 ⟨Fj r,mG (f:=λr=>dN Dg (.int r)) (g:=λr=>aj (Fj r)) (n:=2) (by kernel_rfl) r hr,(match r with
   |0=>mG (f:=λc=>dN (Fj 0) (.int c)) (g:=λc=>aj (.tup [.str (cW (0 * 12 + c)).1,.str (cW (0 * 12 + c)).2])) (n:=12) (by kernel_rfl) c hc
   |1=>mG (f:=λc=>dN (Fj 1) (.int c)) (g:=λc=>aj (.tup [.str (cW (1 * 12 + c)).1,.str (cW (1 * 12 + c)).2])) (n:=12) (by kernel_rfl) c hc
   |U1 + 2=>Ar hr)⟩
theorem adq(j:Nat):(cW j).2.length<=20/\((cW j).1.isEmpty||(cW j).1==(cW j).2)=ap:=by
 by_cases h:j<23
 .have:∀j<23,(cW j).2.length<=20/\((cW j).1.isEmpty||(cW j).1==(cW j).2)=ap:=by decide
  exact this j h
 .have e:cW j=cW 23:=by
   obtain ⟨k,rfl⟩:∃k,j=k+23:=⟨j-23,(zP (fZ.1 h)).symm⟩;rfl
  rw[e];decide
theorem JT(i:Nat):(gL g6 (dA i)).length<=10/\(dA i).length<=2:=by
 match i with
 |0 | 1 | 2=>decide
 |U1+3=>exact (by decide:(gL g6 (dA 3)).length<=10/\(dA 3).length<=2)
theorem adr(i:Nat):(cT i).length<=40:=by
 match i with
 |0 | 1 | 2=>decide
 |U1+3=>exact (by decide:(cT 3).length<=40)
theorem wJ(i:Nat):(qO i=sX\/qO i=sY)/\(pL i=sA\/pL i=sB):=by
 match i with
 |0=>exact ⟨.inl rfl,.inl rfl⟩
 |1=>exact ⟨.inl rfl,.inr rfl⟩
 |2=>exact ⟨.inr rfl,.inl rfl⟩
 |U1+3=>exact ⟨.inr rfl,.inr rfl⟩
theorem ads(i:Nat):(Fi i).length<=2:=by
 match i with
 |0 | 1 | 2=>decide
 |U1+3=>exact (by decide:(Fi 3).length<=2)
theorem Tv(i:Nat):(wx i).length<=2:=by
 match i with
 |0 | 1 | 2=>decide
 |U1+3=>exact (by decide:(wx 3).length<=2)
noncomputable def Tw(st hd top one tag two name):=
 [115,116,97,114,116,32,61,32]++st++[10,82,48,32,61,32,101,108,101,109,101,110,116,32,100,111,99,32,123,32]++hd++top++[32,125,10,97,32,61,32,101,108,101,109,101,110,116,32,120,32,123,32]++one ++
  [32,32,125,10,98,55,32,61,32,101,108,101,109,101,110,116,32]++tag++[32,123,32]++two++[32,125,10]++name++[32,61,32,101,108,101,109,101,110,116,32,121,32,123,32,116,101,120,116,32,125,10]
theorem Tx(i h:Nat)(top one tag two name:aa):Tw (gL g6 (dA i)) (cT h) top one tag two name=dG i h top (y7 one tag two name):=by
 exact Ap.eq (.a (.a (.a (.a (.a (.a (.a (.a (.a (.a (.a (.a (.a (.l [115,116,97,114,116,32,61,32]) (.l (gL g6 (dA i)))) (.l [10,82,48,32,61,32,101,108,101,109,101,110,116,32,100,111,99,32,123,32])) (.l (cT h))) (.l top)) (.l [32,125,10,97,32,61,32,101,108,101,109,101,110,116,32,120,32,123,32])) (.l one)) (.l [32,32,125,10,98,55,32,61,32,101,108,101,109,101,110,116,32])) (.l tag)) (.l [32,123,32])) (.l two)) (.l [32,125,10])) (.l name)) (.l [32,61,32,101,108,101,109,101,110,116,32,121,32,123,32,116,101,120,116,32,125,10]))
  (.a (.a (.a (.l ki) (.l (gL g6 (dA i)))) (.a (.a (.l (10::kj)) (.a (.l (cT h)) (.a (.l top) (.l [32,125])))) (.a (.a (.l (10::E2)) (.a (.l one) (.l [32,32,125]))) (.a (.a (.l (10::wz)) (.a (.l tag) (.a (.l qH) (.a (.l two) (.l [32,125]))))) (.a (.l (10::name)) (.l uP)))))) (.l [10])) (by kernel_rfl)
def uU(sc:Nat->Int):=l8 (bh (sc 2) 3) (bh (sc 3) 3) (bh (sc 4) 3) (bh (sc 5) 4) (bQ (sc 6)) (bQ (sc 7)) (bQ (sc 8))
def Fk(sc:Nat->Int):=dl (bh (sc 2) 3) (bh (sc 3) 3) (bh (sc 4) 3) (bh (sc 5) 4) (aQ (sc 6)) (aQ (sc 7)) (aQ (sc 8))
def pM(sc:Nat->Int):=Tw (gL g6 (dA (bh (sc 0) 4))) (cT (bh (sc 1) 4)) (Fk sc) (aQ (sc 9)) (qO (bh (sc 11) 4)) (aQ (sc 10)) (pL (bh (sc 11) 4))
theorem JU(sc:Nat->Int):(pM sc).length<=1000:=by
 have f:(qO (bh (sc 11) 4)).length<=1:=by rcases (wJ (bh (sc 11) 4)).1 with h | h<;>rw[h]<;>decide
 have g:(pL (bh (sc 11) 4)).length<=2:=by rcases (wJ (bh (sc 11) 4)).2 with h | h<;>rw[h]<;>decide
 exact bD (jS (jS (jS (jS (jS (jS (jS (jS (jS (jS (jS (jS (jS (aV _) ((JT (bh (sc 0) 4)).1)) (aV _)) (adr (bh (sc 1) 4))) (aby (bh (sc 2) 3) (bh (sc 3) 3) (bh (sc 4) 3) (bh (sc 5) 4) (aQ (sc 6)) (aQ (sc 7)) (aQ (sc 8)) (uF _) (uF _) (uF _))) (aV _)) (uF (sc 9))) (aV _)) f) (aV _)) (uF (sc 10))) (aV _)) g) (aV _))
theorem oB{a b:aa}(h:(a++b).length<=m):a.length<=m:=aB (bJ▸dH _ _) h
def hj(sc:Nat->Int):=bh (sc 12) 2*12+bh (sc 13) 12
def Ty(sc:Nat->Int):V:=.tup [.str (cW (hj sc)).1,.str (cW (hj sc)).2]
def JV(l:List Int)(sc:Nat->Int)(rt r1 r2:af)(due:Bool):bj:=
 [.v (.lst (l.map .int)),.v (.lst ((dA (bh (sc 0) 4)).map .str)),.v (.tup [.str (cT (bh (sc 1) 4)),.lst (uO (bh (sc 1) 4))]),.v (iy (uU sc) (Fk sc) rt),.v (iy (bQ (sc 9)) (aQ (sc 9)) r1),.v (iy (bQ (sc 10)) (aQ (sc 10)) r2),
  .v (.str (qO (bh (sc 11) 4))),.v (.str (pL (bh (sc 11) 4))),.v (.str (pM sc)),.v (Ty sc),.v (.bool due)]++cU 20 .un
section
variable {l:List Int}{sc:Nat->Int}
theorem Ok.pk(eO:∀k:Nat,k<24->dN (.lst (l.map .int)) (.int k)=aj (.int (sc k)))(k c:Nat)(hk:k<24/\0<c/\c<=12){e:Prop}{q:Prop}(r:Ok n e t q) :
  Ok n e (.o (.int (sc k)) (.o (.int (bh (sc k) c)) t)) (dN (.lst (l.map .int)) (.int k)=aj (.int (sc k))/\jU .mod (.int (sc k)) (.int c)=aj (.int (bh (sc k) c))/\cz (.int (bh (sc k) c))=ak/\q):=
 ⟨eO k hk.1,EI (sc k) c hk.2.1,uC _ 12 (aB (gc (iS (sc k) hk.2.1)) hk.2.2),r⟩
theorem adt(eO:∀k:Nat,k<24->dN (.lst (l.map .int)) (.int k)=aj (.int (sc k)))(h24:24<=l.length){X:Prop}
  (hq:∀rt r1 r2,cv rt (L (uU sc))->cv r1 (L (bQ (sc 9)))->cv r2 (L (bQ (sc 10)))->cV (CW (n+4)) bB (jX.body.drop 10) (JV l sc rt r1 r2 ((bh (sc 14) 3:Int)==2)) am (iN λv U=>Q v am) λU=>X):CW (n+5) "law" [.lst (l.map .int)] am Q X:=by
 have hp:∀k,n7 (n+4) "_law_part" [.int (sc k)] (λr=>cv r (L (bQ (sc k)))) (λr=>iy (bQ (sc k)) (aQ (sc k)) r):=λk=>abx (sc k) (n+1);have r4:∀k,bh (sc k) 4<4:=λk=>iS _ aM;have r3:∀k,bh (sc k) 3<3:=λk=>iS _ aM;have aef:mL "join" [32,124,32] [.lst ((dA (bh (sc 0) 4)).map .str)]=aj (.str (gL g6 (dA (bh (sc 0) 4)))):=aE (gT _) (yM _);have f13:(pM sc).length<=100000:=aB (JU sc) aM;have f12:=oB f13;have f11:=oB f12;have f10:=oB f11;have f9:=oB f10;have f8:=oB f9;have f7:=oB f8;have f6:=oB f7;have f5:=oB f6;have f4:=oB f5;have f3:=oB f4;have f2:=oB f3;refine ar (adp (bh (sc 12) 2) (bh (sc 13) 12) (iS _ aM) (iS _ aM)) λrow hr1 hr2=>?_;exact bz (.o (ob .int l)<|.b (sz (a:=l.length) (b:=24) (λc=>fZ.2 h24 (iY.1 c)))<|.pk eO 0 4 aM<|.o (adk _ (r4 0))<|.c
 <|.pk eO 1 4 aM<|.o (adl _ (r4 1))<|.pk eO 2 3 aM<|.pk eO 3 3 aM<|.pk eO 4 3 aM<|.pk eO 5 4 aM
 <|.o (eO 6 aM)<|.a (hp 6) λra ha=>.o (eO 7 aM)<|.a (hp 7) λrb hb=>.o (eO 8 aM)<|.a (hp 8) λrc hc=>
  .a (S:=λrt=>cv rt (L (uU sc))) (φ:=iy (uU sc) (Fk sc)) (λQ X h=>abz ha hb hc (uF _) (uF _) (uF _) (r3 2) (r3 3) (r3 4) (r4 5) (n+1) Q X h) λrt ht=>
  .o (eO 9 aM)<|.a (hp 9) λr1 h1=>.o (eO 10 (by decide))<|.a (hp 10) λr2 h2=>.pk eO 11 4 (by decide)<|.o (adm _ (r4 11))
 <|.g aef (iR _ (aB (JT _).1 (by decide)))<|.g rfl (iR _ (oB f2))<|.g rfl (iR _ f2)<|.c<|.g rfl (iR _ f3)<|.c<|.g rfl (iR _ f4)<|.g rfl (iR _ f5)<|.c<|.g rfl (iR _ f6)<|.g rfl (iR _ f7)<|.g rfl (iR _ f8)<|.g rfl (iR _ f9)<|.c
 <|.g rfl (iR _ f10)<|.g rfl (iR _ f11)<|.g rfl (iR _ f12)<|.g rfl (iR _ f13)
 <|.pk eO 12 2 (by decide)<|.o hr1<|.pk eO 13 12 (by decide)<|.o hr2<|.pk eO 14 3 (by decide)<|.c<|.stop (hq rt r1 r2 ht h1 h2))
theorem adu{rt r1 r2:af}(hN:13<=N){Q:i4}{X:bj->Prop}(hq:Q (.bool ak) am):cV (CW N) bB (jX.body.drop 10) (JV l sc rt r1 r2 ak) am (iN λv U=>Q v am) X:=by
 refine a9 (Aq 13 hN) λn az=>?_;subst az
 have hb:eM (cK (cW (hj sc)).1 (cW (hj sc)).2 (pM sc))=_:=(aE (λw=>eM (cK (cW (hj sc)).1 (cW (hj sc)).2 w)) (Tx _ _ _ _ _ _ _)).trans
  (acG (bh (sc 0) 4) (bh (sc 1) 4) (bh (sc 2) 3) (bh (sc 3) 3) (bh (sc 4) 3) (bh (sc 5) 4) (sc 6) (sc 7) (sc 8) (sc 9) (sc 10) (qO (bh (sc 11) 4)) (pL (bh (sc 11) 4)) (wJ _).1 (wJ _).2 (hj sc) (b7 (CB (iS (sc 13) (k:=12) aM) _) (gD (s8 12 (pY (iS (sc 12) (k:=2) aM))) 12)))
 refine bm (adq (hj sc)) λh1 h2=>?_;have eb:(cK (cW (hj sc)).1 (cW (hj sc)).2 (pM sc)).length<=1020:=aB (Sq _ _ _) (jh (JU sc) h1);have u6:mL "replace" (pM sc) [.str (cW (hj sc)).1,.str (cW (hj sc)).2,.int 1]=aj (.str (cK (cW (hj sc)).1 (cW (hj sc)).2 (pM sc))):=if_neg (by rw[h2];decide);have hx:Eb (n+13) "read_schema" [.str (cK (cW (hj sc)).1 (cW (hj sc)).2 (pM sc))]:=λQ X h=>R0 _ (aB eb aM) n _ Q X (by rw[hb];exact h);exact run (.c<|.c<|.g u6 (iR _ (aB eb (by decide)))<|.x hx hq)
def sK(sc:Nat->Int)(rt r1 r2:af):List (Rl×af):=[(⟨om,qL,wx (bh (sc 1) 4),uU sc,ak⟩,rt),(⟨sA,sX,[],bQ (sc 9),ap⟩,r1),(⟨sB,qO (bh (sc 11) 4),[],bQ (sc 10),ap⟩,r2),(⟨pL (bh (sc 11) 4),sY,[],.tx,ap⟩,yP)]
def wK(sc:Nat->Int):lJ:=⟨Tu (bh (sc 21) 3),Fi (bh (sc 22) 4),bh (sc 20) 4,bh (sc 15) 6,bh (sc 16) 6,bh (sc 17) 9,bh (sc 18) 9,bh (sc 19) 9⟩
theorem adv{rt r1 r2:af}(ht:cv rt (L (uU sc)))(h1:cv r1 (L (bQ (sc 9))))(h2:cv r2 (L (bQ (sc 10)))):∀x∈sK sc rt r1 r2,jd x:=by
 have g0:jd (⟨om,qL,wx (bh (sc 1) 4),uU sc,ak⟩,rt):=⟨wG _ (JR (bh (sc 2) 3) (bh (sc 3) 3) (bh (sc 4) 3) (bh (sc 5) 4) (sc 6) (sc 7) (sc 8)).1,(JR _ _ _ _ _ _ _).2.1,ht,dh,Tv _⟩;have g1:=BX (sc 9);have g2:=BX (sc 10);have g3:pL (bh (sc 11) 4)∈fN:=by rcases (wJ (bh (sc 11) 4)).2 with h | h<;>rw[h]<;>decide
 exact gF.2 ⟨g0,gF.2 ⟨⟨wG _ g1.1,aB g1.2.1 aM,h1,show sA∈fN by decide,show 0<=2 by decide⟩,gF.2 ⟨⟨wG _ g2.1,aB g2.2.1 (by decide),h2,show sB∈fN by decide,show 0<=2 by decide⟩,
  gF.2 ⟨⟨trivial,show 1<=7 by decide,Rk,g3,show 0<=2 by decide⟩,λU h=>nomatch (h)⟩⟩⟩⟩
theorem Tz(sc:Nat->Int):JO (wK sc):=⟨ads _,iS _ aM,td (iS (sc 15) (k:=6) aM) aM,td (iS (sc 16) (k:=6) aM) aM,iS _ aM,iS _ aM,iS _ aM⟩
end
theorem adw(l:List (aK×Bool)):gW (uQ l)=ak/\i0 (uQ l)<=1:=by
 unfold uQ;induction l with
 |nil=>exact ⟨rfl,bW _⟩
 |cons a l ih=>exact ⟨ih.1,g9.2 ⟨aV 1,ih.2⟩⟩
theorem TA(bR:List aK)(cM:∀x∈rs,jd x):dj (eN bR rs)=ak/\dm (eN bR rs)<=20:=by
 have h:∀rs:List (Rl×af),(∀x∈rs,jd x)->gW (rs.map λx=>za x.1)=ak/\i0 (rs.map λx=>za x.1)<=10:=by
  intro rs;induction rs with
  |nil=>exact λU=>⟨rfl,bW _⟩
  |cons x rs ih=>
   intro h;have ih:=ih λy hy=>h y (cJ _ hy);have ha:=adw x.1.at_;have e1:dj (za x.1)=ak:=dM.2 ⟨ha.1,dM.2 ⟨aN.plain _,rfl⟩⟩;have e2:dm (za x.1)<=9:=cr (g9.2 ⟨bW _,g9.2 ⟨bW _,g9.2 ⟨cr (bD ha.2),g9.2 ⟨aB (ec (aN.depth _)) (bD ((h x dh).ht)),bW _⟩⟩⟩⟩);exact ⟨dM.2 ⟨e1,ih.1⟩,g9.2 ⟨eU e2,ih.2⟩⟩
 exact bm (h rs cM) λh1 h2=>⟨dM.2 ⟨qy _,dM.2 ⟨h1,rfl⟩⟩,cr (g9.2 ⟨cr (aB (ec (Bm _)) (bW _)),g9.2 ⟨cr (bD h2),bW _⟩⟩)⟩
theorem TB(hn:l.Nodup)(hm:∀s∈l,s∈hY):ik l=hY.filter λs=>l.contains s:=
 SR aM aM aM rfl rfl rfl rfl rfl rfl hn hm
def uV:Nat->List It
 |0=>[.tx]
 |1=>[.nm [sA]]
 |2=>[.nm [sA,sB]]
 |_=>[]
theorem adx:∀x:Nat,x<4->kL (.lst [.str [116,101,120,116],.lst [.str [97]],.lst [.str [97],.str [98,55]]]) (aj (x:Int)) (aj ((x:Int)+1))=aj (.lst ((uV x).map It.toV))
 |0=>λU=>rfl
 |1=>λU=>rfl
 |2=>λU=>rfl
 |3=>λU=>rfl
 |n+4=>λh=>absurd h (fZ.2 (ms 4 n))
theorem ady:∀x:Nat,(∀y∈uV x,y.good)/\(uV x).length<=1
 |0=>⟨λU h=>en.1 h▸trivial,aV _⟩
 |1=>⟨λU h=>en.1 h▸(by decide:cH∉[sA]),aV _⟩
 |2=>⟨λU h=>en.1 h▸(by decide:cH∉[sA,sB]),aV _⟩
 |U1+3=>⟨λU h=>absurd h gU,bW _⟩
theorem adz:∀x:Nat,dj (.lst ((uV x).map It.toV))=ak/\dm (.lst ((uV x).map It.toV))<=5
 |0=>by decide
 |1=>by decide
 |2=>by decide
 |U1+3=>(by decide:dj (.lst ((uV 3).map It.toV))=ak/\dm (.lst ((uV 3).map It.toV))<=5)
theorem TC{k:Nat}(h:w[k]?=aj s):dN (wV w) (.int k)=aj (.str s):=by
 show (w.map V.str)[k]?=_;rw[lQ,h];rfl
theorem adA(hd:d<=50)(h:BR d b):dj b=ak/\dm b<=5:=by
 (refine ar h λl av az=>?_;subst av;clear az)
 have:∀l:List Int,gW (l.map .int)=ak/\i0 (l.map .int)=0:=by
  intro l;induction l with
  |nil=>exact ⟨rfl,rfl⟩
  |cons a l ih=>exact ⟨ih.1,aE (max 0) ih.2⟩
 exact ⟨(this l).1,cr (aB (ec (this l).2) (bW _))⟩
theorem TD{α:Type}(l:List α):fX "all" [.lst (l.map λU=>.bool ak)]=aj (.bool ak):=by
 have:=JE (l.map λU=>ak);rw[ij] at this;exact this.trans (aE (λb=>aj (V.bool b)) (by rw[L2];exact eE.2 λU U=>rfl))
theorem adB(b:Bool):cy .ne (.bool b) (.bool b)=aj ap:=by cases b<;>rfl
def Fm(l:List Int)(s:Nat->V)(p:aN)(t:aa)(rt:af)(S tree:V):bj:=
 [.v (.lst (l.map .int)),.v (s 1),.v (s 2),.v (iy p t rt),.v (s 4),.v (s 5),.v (s 6),.v (s 7),.v (s 8),.v (s 9),.v (s 10),.v S,.v (s 12),.v S,.v (s 14),.v (s 15),.v tree,.v (s 17),.v (s 18),.v tree,.v (s 20),.v (s 21),.v (s 22),.v (s 23)]++cU 7 .un
theorem TF(h:∃w:List aK,v=wV w/\w.length<=4/\fx w)(hk:decide (k<kg v)=ak):∃s:aK,s∈hY/\dN v (.int k)=aj (.str s)/\∃w,v=wV w/\w[k]?=aj s:=by
 (refine bx h λw av az ho=>?_;subst av;clear az);have hk:k<w.length:=jp w▸eT hk;have e:=oM hk;exact ⟨w[k],ho _ (V8 hk),TC e,w,rfl,e⟩
def wL(k:Nat)(v:V):aK:=match dN v (.int k) with
 |some x=>jK x
 |none=>[]
theorem TG(h:∃w:List aK,v=wV w/\w.length<=4/\fx w):fX "len" [v]=aj (fg (kg v)):=SV (ar h λw h U=>⟨w,h⟩)
def BY(k:Nat)(ol:af):List aK:=(ol.filter λv=>decide (k<kg v)).map (wL k)
theorem adC(l:List aK)(h:∀s∈l,s∈hY):∃nx:List aK,eH (l.map V.str)=nx.map .str/\nx.Nodup/\(∀s,s∈nx<->s∈l)/\nx.length<=3:=by
 refine bx (SQ l) λnx e1 e2 e3=>⟨nx,e1,e2,e3,?_⟩
 have:=yC (l:=nx.map V.str) (m:=hY.map V.str) (e1▸qv _) λv hv=>by
  (refine ar (eV.1 hv) λs hs az=>?_;subst az);exact Mc (h s ((e3 s).1 hs))
 rwa [ed] at this
theorem adD(bR:List aK){rr:af}{rs:List (Rl×af)}(cM:∀x∈(x0,rr)::rs,jd x){tree:V}(hx0:x0.p=p)
  (htp:dj tree=ak) (htd:dm tree<=50) (hp:p.ab) (Cq:p.ht<=7) (zz:p.iZ<=60) (hb:Bd p 3 3 4) (gR:cv rt (L p))
  (v23:Int) (h23:dN (.lst (l.map .int)) (.int 23)=aj (.int v23)) (n:Nat) (hN:30<=n) (Q:i4) (X:bj->Prop) (hq:Q (.bool ak) am) :
  cV (CW (n+2)) bB (jX.body.drop 31) (Fm l s p t rt (eN bR ((x0,rr)::rs)) tree) am (iN λv U=>Q v am) X:=by
 subst hx0;refine bm (TA bR cM) λK2 K3=>?_;have r4:=iS v23 (k:=4) aM;have f4:cz (.int (bh v23 4:Int))=ak:=Q9 r4;have f5:cz (.int ((bh v23 4:Int)+1))=ak:=uC (bh v23 4+1) 4 r4;have wX:=adx (bh v23 4) r4;refine bm (ady (bh v23 4)) λCt qV=>bm (adz (bh v23 4)) λUu pS=>?_;generalize uV (bh v23 4)=xs at wX Ct qV Uu pS
 have hNX:∀ol:af,(∀v,v∈ol<->∃w,v=wV w/\w.length<=4/\L x0.p w/\gZ w xs=ak)->∀s,s∈BY xs.length ol<->s∈hY/\km x0.p xs s=ak:=λol jL s=>by
  unfold BY;rw[eV];constructor
  .rintro ⟨v,hv,rfl⟩
   refine bm (iH.1 hv) λh1 h2=>?_;(refine cm ((jL v).1 h1) λw av h3 h4 h5=>?_;subst av);(refine bx (TF ⟨w,rfl,h3,gR.al w h4⟩ h2) λs h6 h7 zr=>?_;obtain ⟨w',e,h8⟩:=zr);have e:w=w':=by have:=aE (λv=>match v with | .tup l=>jC l | _=>am) e;simpa[wV,yM] using this
   subst e;rw[wL,h7];exact ⟨h6,(JQ hp gR.al hb Ct qV h6).2 ⟨w,h4,h3,h5,h8⟩⟩
  ·(intro bu;(refine bm bu ?_;clear bu;intro h1 h2))
   exact cm ((JQ hp gR.al hb Ct qV h1).1 h2) λw h3 h4 h5 h6=>⟨wV w,iH.2 ⟨(jL _).2 ⟨w,rfl,h4,h3,h5⟩,eP ((jp w).symm▸(p4.1 h6).1)⟩,by rw[wL,TC h6];rfl⟩
 have UB:∀ol:af,(∀v,v∈ol<->∃w,v=wV w/\w.length<=4/\L x0.p w/\gZ w xs=ak)->fX "sorted" [.set (eH ((BY xs.length ol).map .str))]=aj (.lst ((hY.filter λs=>km x0.p xs s).map .str))/\dO ak ((BY xs.length ol).map .str)=ak:=λol jL=>by
  have h:=hNX ol jL;refine cm (adC (BY xs.length ol) λs hs=>((h s).1 hs).1) λnx e1 e2 e3 e4=>⟨?_,dM.2 ⟨?_,?_⟩⟩
  .rw[e1,JH (by lia),TB e2 λs hs=>((h s).1 ((e3 s).1 hs)).1]
   congr 3
   refine VB λs hs=>?_;rw[ii,gV,e3,h];exact ⟨Ww,λc=>⟨hs,c⟩⟩
  .rw[L2];exact eE.2 λU U=>rfl
  .rw[e1];exact eP (aB (by rw[ed];exact e4) (show 3<=kK by decide))
 have oG:cy .isIn (.str cH) (.lst ((hY.filter λs=>km x0.p xs s).map .str))=aj (km x0.p xs cH):=by
  refine (Bo _ _).trans (aE aj ?_);rw[ii,gV,iH];exact ⟨λh=>h.2,λh=>⟨by decide,h⟩⟩
 have aeJ:∀m:List aK,(m.Nodup/\∀s,s∈m<->(s=sA\/s=sB)/\V.str s∈x0.p.refs/\km x0.p xs s=ak)->ik m=(hY.filter λs=>km x0.p xs s).filter λs=>!(s==cH):=λm hm=>by
  rw[TB hm.1 λs hs=>by rcases ((hm.2 s).1 hs).1 with rfl | rfl<;>decide,List.filter_filter];refine VB λs hs=>?_;rw[ii,gV,hm.2,fM];constructor
  .rintro ⟨h1,-,h3⟩
   exact ⟨by rcases h1 with rfl | rfl<;>decide,h3⟩
  ·(intro bu;(refine bm bu ?_;clear bu;intro h1 h2))
   have fj:s≠cH:=by rintro rfl;cases h1
   (refine cm ((JQ hp gR.al hb Ct qV hs).1 h2) λw h3 av az h6=>?_;clear av;clear az);refine ⟨?_,(uT x0.p w h3 s (k8 h6)).resolve_left fj,h2⟩
   rcases cD.1 hs with h | hs
   .exact .inl h
   .rcases cD.1 hs with h | hs
    .exact .inr h
    .exact absurd (en.1 hs) fj
 have bA:∀m:List aK,(m.Nodup/\∀s,s∈m<->(s=sA\/s=sB)/\V.str s∈x0.p.refs/\km x0.p xs s=ak)->
   cy .ne (.tup [.lst ((ik m).map .str),.bool (km x0.p xs cH),.bool (x0.p.run xs).null]) (.tup [.lst (((hY.filter λs=>km x0.p xs s).filter λs=>!(s==cH)).map .str),.bool (km x0.p xs cH),.bool (x0.p.run xs).null])=aj ap:=λm hm=>by
  rw[aeJ m hm];exact wH (dM.2 ⟨qy _,rfl⟩) (cr (g9.2 ⟨cr (aB (ec (Bm _)) (bW _)),bW _⟩))
 have hT:∀ol:af,(∀v,v∈ol<->∃w,v=wV w/\w.length<=4/\L x0.p w/\gZ w xs=ak)->∀v∈ol,∃w,v=wV w/\w.length<=4/\fx w:=λol jL v hv=>cm ((jL v).1 hv) λw h1 h2 h3 U=>⟨w,h1,h2,gR.al w h3⟩;have cut:∀{e:Prop} {t:Tr} {q:Prop},Ok (n+2) e t q->Ok (n+2) e _ _:=λr=>.p f4<|.g (v:=.int ((bh v23 4:Int)+1)) rfl f5<|.p f5<|.o wX r
 exact run (.o h23<|.g (EI v23 4 aM) f4<|cut<|cut<|.c<|.a (SE gR xs (bD ‹_›) (n+1)) λol jL=>
  .ks id (λv=>gy (decide (xs.length<kg v)) (.str (wL xs.length v))) ol (xB ol).symm (UB ol jL.1).2 ((uv _ _ ol).trans (ij (f:=wL xs.length) (g:=V.str)).symm)
   (λv hv=>.o (TG (hT ol jL.1 v hv))<|.o (ob It.toV xs)<|.bs (o:=cy .gt (fg (kg v)) (fg xs.length)) (v:=decide (xs.length<kg v)) (aE aj (decide_eq_decide.2 iY)) (λh=>.o (ob It.toV xs)<|.o (v:=.str (wL xs.length v)) (o:=dN v (fg xs.length)) (by refine bx (TF (hT ol jL.1 v hv) h) λs U h U=>?_;exact h.trans (by rw[wL,h];rfl))<|.ft (n8 h)) λh=>.fn (n9 h))
 <|.o (UB ol jL.1).1
 <|.k .str (λs=>gy (!(s==cH)) (.str s)) (hY.filter λs=>km x0.p xs s) rfl (aB (vt _ _) aM) (uv _ _ _) (λs U=>.s (λh:(!(s==cH))=ak=>.ft (n8 h)) λh=>.fn (n9 h))
 <|.b oG<|.o (ob It.toV xs)<|.k id (λv=>aj (fg (kg v))) ol (xB ol).symm (aB jL.2 aM) ((fm _ ol).trans (SK ol)) (λv hv=>.o (TG (hT ol jL.1 v hv)) (.z rfl))
 <|.b ((SJ (ol.map kg) xs.length).trans (aE aj (SM (cM _ dh) [] [] xs Ct (bD ‹_›) jL.1)))
 <|.c<|.c<|.c<|.a (adi hp Cq zz xs qV n (tQ hN)) λm hm=>.b (bA m hm)<|.c<|.c<|.c<|.c<|.c<|.c<|.b (wH Uu (bD pS))<|.b (wH htp (bD htd))<|.b (wH K2 (bD K3))<|.fin hq)
theorem adE(fj:bR.length<=2)(cM:∀x∈(x0,rr)::rs,jd x)(hD:dK (eN bR ((x0,rr)::rs)) 3 D)(bN:D.it=aj (.nm ns))(ml:ns.length<=3)(hx0:x0.p=p)
  (hp:p.ab) (Cq:p.ht<=7) (zz:p.iZ<=60) (hb:Bd p 3 3 4) (gR:cv rt (L p))
  (v23:Int) (h23:dN (.lst (l.map .int)) (.int 23)=aj (.int v23)) (n:Nat) (hN:66<=n) (Q:i4) (X:bj->Prop) (hq:Q (.bool ak) am) (h22:s 22=qN bR ns D.eG) (Uk:s 23=qN bR ns D.eG) :
  cV (CW (n+2)) bB (jX.body.drop 28) ((Fm l s p t rt (eN bR ((x0,rr)::rs)) D.t).set 23 .un) am (iN λv U=>Q v am) X:=by
 have tl:=adD (s:=s) (t:=t) (tree:=D.t) bR cM hx0 hD.plain (aB hD.depth aM) hp Cq zz hb gR v23 h23 n (tQ hN) Q X hq;have hf:=adf fj aM hD bN ml n (tQ hN);rw[<- h22] at hf Uk
 have hc:s 22=.none\/∃pl:List Int,s 22=.lst (pl.map .int)/\pl.length<=50:=by
  rw[h22];unfold qN
  split
  .exact .inl rfl
  .right
   cases e:D.eG with
   |nil=>exact ⟨[],rfl,bW _⟩
   |cons b bs=>
    (refine ar (hD.Ao b (by rw[e];exact dh)) λpl av h=>?_;subst av);exact ⟨pl,rfl,aB h aM⟩
 unfold Fm at tl;rw[Uk] at tl;unfold Fm;generalize s 22=v at hf hc tl
 rcases hc with rfl | ⟨pl,rfl,hl⟩
 .exact run (.r hf<|.c<|.c<|.stop tl)
 .have df:=adA (aV 50) ⟨pl,rfl,hl⟩;exact run (.r hf<|.b (wH df.1 (bD df.2))<|.c<|.k .int (λU=>aj (.bool ak)) pl rfl (bD hl) (fm _ pl) (λU U=>.z rfl)<|.o (TD pl)<|.stop tl)
theorem adF(bR:List aK)(s:aK):cy .isIn (.str s) (.lst (bR.map .str))=aj (bR.contains s):=Bo bR s
theorem adG(bR ns:List aK):fX "any" [.lst (ns.map λs=>.bool (bR.contains s))]=aj (.bool (oA bR ns)):=by
 have:=acJ (ns.map λs=>bR.contains s);rw[ij,ahp] at this;exact this
def adH(sc:Nat->Int)(r1 r2:af)(rs:List (Rl×af))(ns:List aK)(eG:af)(v:V)(k:Nat):=
 [.none,.lst ((dA (bh (sc 0) 4)).map .str),.tup [.str (cT (bh (sc 1) 4)),.lst (uO (bh (sc 1) 4))],.none,iy (bQ (sc 9)) (aQ (sc 9)) r1,iy (bQ (sc 10)) (aQ (sc 10)) r2,.str (qO (bh (sc 11) 4)),.str (pL (bh (sc 11) 4)),.str (pM sc),Ty sc,.bool ap,.none,.bool ap,.none,
  .lst (rs.map zb),(wK sc).toV,.none,.lst (ns.map .str),.lst eG,.none,.bool (oA (dA (bh (sc 0) 4)) ns),.bool (oA (dA (bh (sc 0) 4)) ns),v,v].getD k .none
theorem adI(eO:∀k:Nat,k<24->dN (.lst (l.map .int)) (.int k)=aj (.int (sc k))){rt r1 r2:af}(ht:cv rt (L (uU sc)))(h1:cv r1 (L (bQ (sc 9))))(h2:cv r2 (L (bQ (sc 10))))
  {N:Nat} (hN:68<=N) {Q:i4} {X:bj->Prop} (hq:Q (.bool ak) am):cV (CW N) bB (jX.body.drop 10) (JV l sc rt r1 r2 ap) am (iN λv U=>Q v am) X:=by
 refine a9 (Aq 13 hN) λn az=>?_;subst az;have cM:=adv ht h1 h2;have fj:=(JT (bh (sc 0) 4)).2;have hD:=ada (bR:=dA (bh (sc 0) 4)) cM (aV 4) (Tz sc)
 have hb:eM (pM sc)=aj (aj (eN (dA (bh (sc 0) 4)) (sK sc rt r1 r2))):=(aE eM (Tx _ _ _ _ _ _ _)).trans
  (acd (bh (sc 0) 4) (bh (sc 1) 4) (bh (sc 2) 3) (bh (sc 3) 3) (bh (sc 4) 3) (bh (sc 5) 4) (sc 6) (sc 7) (sc 8) (sc 9) (sc 10) (qO (bh (sc 11) 4)) (pL (bh (sc 11) 4)) (wJ _).1 (wJ _).2)
 have hr:eg (n+13) "read_schema" [.str (pM sc)] (eN (dA (bh (sc 0) 4)) (sK sc rt r1 r2)):=λQ X h=>R0 _ (aB (JU sc) (by decide)) n _ Q X (by rw[hb];exact h);refine bm (TA (dA (bh (sc 0) 4)) cM) λK2 K3=>?_;obtain ⟨ns,bN,ml⟩:∃ns,((wK sc).doc (sK sc rt r1 r2)).it=aj (.nm ns)/\ns.length<=3:=⟨_,rfl,aB (vt _ _) (by decide)⟩;have KW:=adb (bR:=dA (bh (sc 0) 4)) cM (aV 4) (Tz sc) (n+9);have gR:fX "set" [.tup yP]=aj (.set yP):=rfl;have hfi:=adg hD bN (n+12) (by lia);have hva:=To fj hD bN ml (n+12) (by lia);refine fy (JR (bh (sc 2) 3) (bh (sc 3) 3) (bh (sc 4) 3) (bh (sc 5) 4) (sc 6) (sc 7) (sc 8)) λtp1 tp2 tp3 tp4=>?_;have tl:=λs h h'=>adE (s:=s) (t:=Fk sc) fj cM hD bN ml rfl tp1 tp2 tp3 tp4 ht (sc 23) (eO 23 (by decide)) (n+11) (by lia) Q X hq h h';have qT:cy .ne (.lst (ns.map .str)) (.lst (ns.map .str))=aj ap:=wH (v:=.lst (ns.map .str)) (qy ns) (cr (aB (ec (Bm ns)) (bW _)));have htv:((wK sc).doc (sK sc rt r1 r2)).toV=.tup [((wK sc).doc (sK sc rt r1 r2)).t,.lst (ns.map .str),.lst ((wK sc).doc (sK sc rt r1 r2)).eG]:=by unfold dQ.toV;rw[bN];rfl
 rw[htv] at KW;generalize (wK sc).doc (sK sc rt r1 r2)=D at *;have qU:(D.eG++[V.lst []]).length<=100000:=by rw[bJ];exact aB (gD hD.bl _) (by decide)
 have h0:(!oA (dA (bh (sc 0) 4)) ns)=ak->dN (.lst (D.eG++[.lst []])) (.int 0)=aj (qN (dA (bh (sc 0) 4)) ns D.eG):=λh=>by
  unfold qN;rw[(k9 _).mp h]
  cases e:D.eG with
  |nil=>rfl
  |cons b bs=>(refine ar (hD.Ao b (by rw[e];exact dh)) λpl av az=>?_;subst av;clear az);rfl
 have h0':(!oA (dA (bh (sc 0) 4)) ns)=ap->V.none=qN (dA (bh (sc 0) 4)) ns D.eG:=λh=>by unfold qN;rw[(Mf _).mp h];rfl
 have tl2:=λv h=>tl (adH sc r1 r2 (sK sc rt r1 r2) ns D.eG v) h h;exact run (.r hr<|.c<|.c<|.c<|.c<|.c<|.b (wH K2 (aB K3 (by decide)))<|.c<|.c<|.c
 <|.k (λa:aK×Bool=>.tup [.str a.1,.bool a.2]) (λU=>aj (.bool ak)) (wx (bh (sc 1) 4)) rfl (aB (Tv _) (by decide)) (fm _ _) (λU U=>.z rfl)<|.o (TD (wx (bh (sc 1) 4)))
 <|.c<|.c<|.c<|.c<|.c<|.c<|.o gR
 <|.pk eO 21 3 (by decide)<|.o (ado _ (iS (sc 21) (by decide)))<|.pk eO 22 4 (by decide)<|.o (adn _ (iS (sc 22) (by decide)))<|.pk eO 20 4 (by decide)<|.pk eO 15 6 (by decide)<|.pk eO 16 6 (by decide)<|.pk eO 17 9 (by decide)<|.pk eO 18 9 (by decide)<|.pk eO 19 9 (by decide)
 <|.r KW<|.r KW<|.c<|.r hfi<|.b qT
 <|.k .str (λs=>aj (.bool ((dA (bh (sc 0) 4)).contains s))) ns rfl (aB ml (by decide)) (fm _ ns) (λs U=>.b (adF (dA (bh (sc 0) 4)) s) (.z rfl))<|.o (adG (dA (bh (sc 0) 4)) ns)
 <|.r hva<|.c<|.c<|.b (adB (oA (dA (bh (sc 0) 4)) ns))
 <|.j<|.s (λh:(!oA (dA (bh (sc 0) 4)) ns)=ak=>.g (v:=.lst (D.eG++[.lst []])) rfl (l6 _ qU)<|.o (h0 h)<|.stop (tl2 (qN (dA (bh (sc 0) 4)) ns D.eG) rfl)) λh=>.stop (tl2 .none (h0' h)))
theorem adJ(l:List Int)(N:Nat)(hN:72<=N):CW N "law" [.lst (l.map .int)] am (λv U=>v=.bool ak) False:=by
 refine a9 (Aq 5 hN) λn az=>?_;subst az
 by_cases h:l.length<24
 .exact bz (.o (ob .int l)<|.b (pE (a:=l.length) (b:=24) (iY.2 h))<|.fin (show V.bool ak=V.bool ak from rfl))
 .obtain ⟨sc,eO⟩:∃sc:Nat->Int,∀k:Nat,k<24->dN (.lst (l.map .int)) (.int k)=aj (.int (sc k)):=⟨λk=>(l[k]?).getD 0,λk hk=>by
   show (l.map V.int)[k]?=aj (V.int ((l[k]?).getD 0));rw[lQ,oM (b7 hk (fZ.1 h))];rfl⟩
  have hM:71<=n+4:=g8 hN;refine adt (Q:=λv U=>v=.bool ak) eO (fZ.1 h) λrt r1 r2 ht h1 h2=>?_
  cases ((bh (sc 14) 3:Int)==2) with
  |true=>exact adu (Q:=λv U=>v=.bool ak) (tQ hM) rfl
  |false=>exact adI (Q:=λv U=>v=.bool ak) eO ht h1 h2 (tQ hM) rfl
section
set_option maxRecDepth 100000
theorem adL(r:aA w P u (.bool b)):u=.bool b:=by cases r;rfl
theorem adM(T:v7 an X)(hgl:X.gl=bB){l:List Int}(hP0:∀a,P0.obj a=s.heap.get? a)(G0:gw X P0)(hp:P0.on s)(bi:rV X)(hh:A.handled=am)(hu:A.units+260+60*72<dD)(hd:A.depth+6*72<xD)(hf:A.frames=aj [])
  (K0:X.mg (aP "law")=aj (.ref aL)) (r:aA X.w P0 v (.lst (l.map .int))) {QQ:ah} {E:ah}
  (hq:∀s',s.heap.StaysIn s'.heap->s'.gens=s.gens->s'.os=s.os->QQ (.bool ak) s'):aw (aH an X.w) A (call (.ref aL) [v]) QQ E s:=by
 have H:=aan T;refine ar (adJ l 72 (aV _)) λd hd1 hw=>?_;obtain rfl:d=jX:=by injection hd1.symm
 rw[if_neg (by decide)] at hw;refine bm hw λcc hw=>?_;refine ar (H.fn "law" jX rfl rfl) λa' qW hF=>?_;obtain rfl:=iG (aZ (K0.symm.trans qW));have hbs:∀a o,s.heap.get? a=aj o->P0.obj a=aj o:=λa o e=>by rw[hP0];exact e
 refine PO (n:=71) (ao:=s.heap) (pi:=am) (σ:=am) (sl:=[.v (.lst (l.map .int))]) (H.ok "law" jX rfl) (hF P0 G0) G0 hp bi hh hu hd hf hbs trivial (λe he=>by simp at he) trivial rfl rfl (λi u y h1 h2=>?_) λad aF S st cx iD=>?_
 .match i with
  |0=>simp at h1 h2;subst h1;exact .inl ⟨_,h2.symm,r⟩
  |i+1=>simp at h1
 have e1:((inf "law").ca++(inf "law").locs).map aj=pp AE:=Il AE jX.np (gN 47);rw[e1] at S;refine χ (F:=oZ eS X.gl 71) hP0 G0 (PT H s.heap 71) T.fns (hW _) (A.deeper ad) ad [ad] _ P0 aF _ _ _ (.refl P0) S.aG.cd S (by rw[hgl];exact hw) λf fe aS P' s' fF S' g o t ie hK=>?_
 cases ie with
 |next=>exact aY (aE ck (hK:V.none=.bool ak))
 |brk=>exact hK.elim
 |cont=>exact hK.elim
 |ret r1=>
  obtain rfl:=(show _=V.bool ak from hK);obtain rfl:=adL r1;exact hq s' (λa o e=>S'.aG.hp.obj _ _ (S'.aG.bs a o e)) (g.trans st.gens) (o.trans st.os)
end
section
set_option maxRecDepth 100000
open PySem PySem.W
def BZ(K:dg)(a:bc):Nat:=match (ek K a).data with
 |.dict U1 n=>n
 |_=>0
theorem TH(es)(n):Wc es n=eJ es.toList n:=by
 obtain ⟨l⟩:=es;simp only[Wc,findBy,eJ,List.find?_toArray]
def B1(w:dy)(K:dg):Cx where
 w:=w
 C:=jZ (ip K pW) "_P"
 gd:=pW
 bd:=xg
 mg:=eJ (ip K pW)
 mb:=eJ (ip K xg)
 gl:=bB
 N:=Hq K (jZ (ip K pW) "_P")
 mN:=eJ (ip K (Hq K (jZ (ip K pW) "_P")))
 h0:=λa=>K.lookup a
structure uW(K:dg)(a:bc):Prop where
 e1:K.lookup a=aj (ek K a)
 e2:(ek K a).data=.dict (ip K a).toArray (BZ K a)
 e3:(ip K a).all M1=ak
theorem uW.ns{K:dg}{a:bc}(d:uW K a){P:PH}(hP:∀b o,K.lookup b=aj o->P.obj b=aj o):qo P a (eJ (ip K a)):=by
 refine ⟨⟨_,_,_⟩,hP _ _ d.e1,d.e2,λe he=>?_,λn=>by rw[TH]⟩;have:=eE.mp d.e3 e (by simpa using he)
 replace this:(match e.key with
  |.str U1 U2=>ak
  |_=>ap)=ak:=this
 cases h:e.key with
 |str n t=>exact ⟨n,t,rfl⟩
 |_=>rw[h] at this;cases this
structure zh(K:dg)(a:bc)(st:dU):Prop where
 e1:K.lookup a=aj (ek K a)
 e2:(ek K a).cls=.type "function"
 e3:(ek K a).data=.func (eI K a)
 e4:(eI K a).body=.stmts (gu st)
 e5:(eI K a).closure=[]
 e6:(eI K a).globals=pW
 e7:(eI K a).builtins=xg
 e8:(eI K a).scope=mQ st
 e9:(eI K a).params=x5 st
 a9:(eI K a).defaults=.none
 ar:(eI K a).kwdefaults=.none
 bx:(eI K a).code=.ref (lp (eI K a).code)
 cm:K.lookup (lp (eI K a).code)=aj (ek K (lp (eI K a).code))
 lR:(ek K (lp (eI K a).code)).data=.fields (vL K (lp (eI K a).code))
 xL:(vL K (lp (eI K a).code))[1]?=aj (.str (eI K a).qualname (M0 (vL K (lp (eI K a).code))[1]?))
def B2(K:dg)(l:List oL)(f:aW)(st:dU):=eJ l f=aj (.ref (jZ l f))/\zh K (jZ l f) st
theorem zh.top{w:dy}{K:dg}{l:List oL}{f:aW}{st:dU}(h:B2 K l f st):Bb (B1 w K) (eJ l f) st:=
 ⟨_,_,_,h.1,h.2.e1,h.2.e2,h.2.e3,h.2.e4,h.2.e5,h.2.e6,h.2.e7,h.2.e8,h.2.e9,h.2.a9,h.2.ar,_,_,_,_,h.2.bx,h.2.cm,h.2.lR,h.2.xL⟩
theorem adN{d:Data}{p:Array aU×Nat}(h:M4 d=aj p):d=.seq p.1 p.2:=by
 cases d with
 |seq=>(replace h:=aZ h;cases h);rfl
 |_=>exact (by injection h)
theorem JW{α:Type}{o:Option α}{f:α->Bool}(h:Dj o f=ak):∃a,o=aj a/\f a=ak:=by
 cases o with
 |none=>exact (by injection h)
 |some a=>exact ⟨a,rfl,h⟩
theorem TJ{K:dg}{c:String}{g:jO->Bool}{v:aU}{f:List aU->Bool}(h:AF K c g v f=ak){P:PH}(hP:∀b o,K.lookup b=aj o->P.obj b=aj o) :
  ∃d,v=.ref d.a/\rP P c d/\g d.o=ak/\f d.vs.toList=ak:=by
 refine ar (JW (ax h)) λo h1 h2=>?_;refine ar (JW (ax (ax h2))) λp h3 h4=>?_;exact ⟨⟨lp v,o,p.1,p.2⟩,cq (aI h),⟨hP _ _ h1,cq (aI h2),adN h3,eT (aI h4)⟩,aI (ax h2),ax h4⟩
section
variable {w:dy}{K:dg}{tk:List (Nat×aa)}{P:PH}(hP:∀b o,K.lookup b=aj o->P.obj b=aj o)(ht:∀t,P.tok t=tk.lookup t)
include hP ht
mutual
theorem TK:∀x {v:aU},Dk tk K v x=ak->aA w P v x
 |.none,U1,h=>cq h
 |.bool U1,U2,h=>cq h
 |.int U1,v,h=>⟨M3 v,cq h⟩
 |.str U1,v,h=>⟨Hr v,cq (aI h),λc hc=>eT (eE.1 (aI (ax h)) c hc),(ht _).trans (cq (ax (ax h)))⟩
 |.ty U1,U2,h=>aY h
 |.set U1,U2,h=>aY h
 |.tup l,v,h=>(TJ (show AF K "tuple" (λo=>o.dict==am&&o.slots.toList.isEmpty) v (λvs=>x6 tk K vs l)=ak from h) hP).imp λd q=>⟨q.1,q.2.1,⟨cq (aI q.2.2.1),Array.toList_eq_nil_iff.1 (LB.1 (ax q.2.2.1))⟩,JX l q.2.2.2⟩
 |.lst l,v,h=>(TJ (show AF K "list" (λU=>ak) v (λvs=>x6 tk K vs l)=ak from h) hP).imp λd q=>⟨q.1,q.2.1,JX l q.2.2.2⟩
theorem JX:∀l {vs:List aU},x6 tk K vs l=ak->bp w P vs l
 |[],vs=>λh=>LB.1 h
 |x::l,[]=>λh=>aY h
 |x::l,v::vs=>λh=>⟨TK x (aI h),JX l (ax h)⟩
end
end
end
section
set_option maxRecDepth 100000
open PySem PySem.W
structure oC(w:dy)(K:dg):Prop where
 g:uW K pW
 b:uW K xg
 c:uW K FZ
 lim:eJ (ip K FZ) "sys.recursionlimit"=am
 nn:uW K (x7 K)
 cls:∃nm q bs sn sub col dd k0 k1 k2 k3 k5,K.lookup (nN K)=aj (UO nm q (nN K) (x7 K) bs [.type "object"] ak sn sub ap col dd k0 k1 k2 k3 k5 "object.__new__")
 ga:eJ (iq K) "__getattribute__"=am
 gh:eJ (iq K) "__getattr__"=am
 sa:eJ (iq K) "__setattr__"=am
 tt:eJ (iq K) "t"=am
 kk:eJ (iq K) "k"=am
 vE:eJ (lq K) (aP "_P")=aj (.ref (nN K))
 fn:∀f d,eS f=aj d->d.cj=ap->B2 K (lq K) (aP f) (v6 f)
 me:∀f d,eS f=aj d->d.cj=ak->B2 K (iq K) (aP f) (v6 f)
 G4:B2 K (iq K) (aP "__init__") (ub 0)
 GE:makesIn K (nN K)=ak
 GT:findIn K (.ref (nN K)) "__init__"=aj (aj (.ref (jZ (iq K) (aP "__init__"))))
 G5:typeIn K (.ref (jZ (iq K) (aP "__init__")))=aj (.type "function")
 k1:eJ (lq K) (aP "_KIND")=aj (.ref (iO K))
 k2:K.lookup (iO K)=aj (ek K (iO K))
 k3:(ek K (iO K)).cls=.type "dict"
 k4:(ek K (iO K)).dict=am
 k5:(ek K (iO K)).slots=#[]
 k6:(ek K (iO K)).data=.dict (ip K (iO K)).toArray (BZ K (iO K))
 k7:∃t1 t2 t3 u1 u2 u3,ip K (iO K)=[⟨Cw w.params (aJ [44]),.str (aJ [44]) t1,.str (aJ [103,114,111,117,112]) u1⟩,⟨Cw w.params (aJ [124]),.str (aJ [124]) t2,.str (aJ [99,104,111,105,99,101]) u2⟩,⟨Cw w.params (aJ [38]),.str (aJ [38]) t3,.str (aJ [105,110,116,101,114,108,101,97,118,101]) u3⟩]/\
  (nM K).lookup u1=aj [103,114,111,117,112]/\(nM K).lookup u2=aj [99,104,111,105,99,101]/\(nM K).lookup u3=aj [105,110,116,101,114,108,101,97,118,101]
 val:∀n v,bB n=aj v->∃u,eJ (lq K) (aP n)=aj u/\Dk (nM K) K u v=ak
 tk:(nM K).all (λp=>decide (0<p.1)&&decide (p.1<700)&&decide (p.2.length<=ci))=ak
 bi:lW.all (λp=>(eJ (lq K) (aP p.1)).isNone&&(eJ (ip K xg) (aP p.1)==aj p.2))=ak
theorem oC.ahy(H:oC w K):v7 an (B1 w K):=by
 refine ⟨λf d h hm=>zh.top (H.fn f d h hm),λf d h hm=>zh.top (H.me f d h hm),zh.top H.G4,λfI hI h oG=>?_,H.vE⟩
 have e:fI=jZ (iq K) (aP "__init__"):=by
  have:=H.G4.1;rw[show eJ (iq K) (aP "__init__")=aj (.ref fI) from hI] at this;replace this:=aZ this;injection this
 subst e;have X:K.In h:=oG;exact ⟨makes_of X H.GE,looks_findIn X H.GT,λself=>bind_fn X self H.G5⟩
set_option tactic.hygienic true in
theorem TL{β:Type}{x:β}:∀{l:List (Nat×β)},l.lookup t=aj x->(t,x)∈l
 |(a,b)::r,h=>by
  rw[mE] at h
  split at h
  .rename_i e;replace h:=aZ h;subst h;rw[cq e];exact .head _
  .exact .tail _ (TL h)
theorem oC.tok(H:oC w K)(h:(nM K).lookup t=aj x):(0<t/\t<700)/\x.length<=ci:=by
 have:=eE.mp H.tk _ (TL h);simpa only [fM,nz] using this
def pK(h:bK)(K:dg):PH:=⟨h.get?,λt=>(nM K).lookup t⟩
theorem oC.on(H:oC w K)(ht:700<=s.toks):(pK s.heap K).on s:=
 ⟨λa o e=>e,λt x e=>⟨(H.tok e).1.1,b7 (H.tok e).1.2 ht⟩,b7 (by decide) ht,⟨λt x e=>(H.tok e).2⟩⟩
theorem oC.bir(H:oC w K):rV (B1 w K):=λp hp=>by
 have:=eE.mp H.bi p hp;refine bm (dM.mp this) λa b=>?_;exact ⟨vr.mp a,cq b⟩
theorem adO(h:AA x=aj y):(x=[44]/\y=[103,114,111,117,112])\/(x=[124]/\y=[99,104,111,105,99,101])\/(x=[38]/\y=[105,110,116,101,114,108,101,97,118,101]):=by
 unfold AA at h
 by_cases e1:x=[44]
 .rw[bw e1] at h;exact .inl ⟨e1,(aZ h).symm⟩
 rw[if_neg e1] at h
 by_cases e2:x=[124]
 .rw[bw e2] at h;exact .inr (.inl ⟨e2,(aZ h).symm⟩)
 rw[if_neg e2] at h;refine bm (mK h) λe3 h=>?_;exact .inr (.inr ⟨e3,(aZ h).symm⟩)
theorem oC.glr(H:oC w K)(X:K.In h):gw (B1 w K) (pK h K):=by
 have hP:∀b o,K.lookup b=aj o->(pK h K).obj b=aj o:=λb o e=>X b o e;refine ⟨H.g.ns hP,H.b.ns hP,?_,⟨?_,H.nn.ns hP,H.ga,H.gh,H.sa,H.tt,H.kk⟩,⟨iO K,H.k1,λan s nk=>?_⟩,λn v e=>?_,hP⟩
 .exact ⟨_,H.lim,H.c.ns hP⟩
 ·(refine Mx H.cls λa1 a2 a3 a4 a5 a6 zr=>Mx zr λa7 b0 b1 b2 b3 b5 e=>?_);exact ⟨⟨a1,a2,a3,a4,a5,a6,a7,b0,b1,b2,b3,b5⟩,hP _ _ e⟩
 ·(refine WY H.k7 λt1 t2 t3 u1 u2 u3 e zr=>d5 zr λl1 l2 l3=>?_);refine ⟨_,⟨ek K (iO K),(ip K (iO K)).toArray,BZ K (iO K),nk.obj _ _ (hP _ _ H.k2),⟨H.k3,H.k4,H.k5⟩,H.k6,λq hq=>?_,λk=>rfl⟩,λx y hk=>?_⟩
  .rw[e] at hq;simp only[afs,cD,gU,or_false] at hq
   rcases hq with rfl | rfl | rfl
   .exact ⟨aJ [44],rfl,rfl⟩
   .exact ⟨aJ [124],rfl,rfl⟩
   .exact ⟨aJ [38],rfl,rfl⟩
  .rw[e]
   rcases adO hk with ⟨rfl,rfl⟩ | ⟨rfl,rfl⟩ | ⟨rfl,rfl⟩
   .exact ⟨.str (aJ [103,114,111,117,112]) u1,rfl,.str _ _ (by decide) l1⟩
   .exact ⟨.str (aJ [99,104,111,105,99,101]) u2,rfl,.str _ _ (by decide) l2⟩
   .exact ⟨.str (aJ [105,110,116,101,114,108,101,97,118,101]) u3,rfl,.str _ _ (by decide) l3⟩
 .refine ar (H.val n v e) λu h1 h2=>?_;exact ⟨u,h1,TK hP (λt=>rfl) _ h2⟩
end
section
set_option maxRecDepth 100000
open PySem PySem.W
theorem adP(h:ahs vs ns):bp w P vs (ns.map .int)/\vs.length=ns.length:=by
 induction h with
 |nil=>exact ⟨.nil,rfl⟩
 |cons n t U1 ih=>exact ⟨.cons (.int n t) ih.1,by simp[ih.2]⟩
theorem adQ(KX:K.In s.heap)(H:oC w K)(lK:700<=s.toks)(hL:s.heap.IsList a vals.toArray)(hI:ahs vals ns)(cc:ns.length<=63)(K0:eJ (lq K) (aP "law")=aj (.ref aL))
  (hq:∀s',s.heap.StaysIn s'.heap->s'.gens=s.gens->s'.os=s.os->QQ (.bool ak) s'):aw (aH an w) callerA (call (.ref aL) [.ref a]) QQ E s:=by
 refine bm (adP (w:=w) (P:=pK s.heap K) hI) λhr hn=>?_;(refine bx hL λo h1 h2 zr=>?_;obtain ⟨n,h3⟩:=zr);refine adM (X:=B1 w K) (P0:=pK s.heap K) (l:=ns) H.ahy rfl (λU=>rfl) (H.glr KX) (H.on lK) H.bir rfl (by decide +kernel) (by decide +kernel) rfl K0 (.lst h1 h2 h3 hr ?_) hq;rw[afW,hn];exact aB cc (by decide +kernel)
end
section
open PySem PySem.W PySem.W.X PyProof.Rows
theorem JY{h:bK}:∀l:List bc,(l.filterMap λa=>(h.get? a).map λo=>(a,o)).lookup a=aj o->h.get? a=aj o
 |[]=>λe=>no e
 |b::l=>λe=>by
  rw[CZ] at e
  cases g:h.get? b with
  |none=>rw[g] at e;exact JY l e
  |some p=>
   rw[g,Ae,mE] at e
   by_cases q:a=b
   .rw[q,f0] at e;rw[q,g];exact e
   .rw[beq_false_of_ne q] at e;exact JY l e
theorem adR(h):(M5 h).In h:=λU U e=>JY _ e
theorem Fo{K:dg}(h:x9 K a=ak):K.lookup a=aj (ek K a):=by
 unfold ek;unfold x9 at h
 cases e:K.lookup a with
 |none=>rw[e] at h;exact aY h
 |some o=>rfl
theorem TM{K:dg}(h:((ek K a).data.ctorIdx==3)=ak):(ek K a).data=.dict (ip K a).toArray (BZ K a):=by
 unfold ip BZ
 cases e:(ek K a).data<;>rw[e] at h<;>first | rfl | exact aY h
theorem Fp{K:dg}(h:dB K a=ak):uW K a:=⟨Fo (aI h),TM (aI (ax h)),ax (ax h)⟩
theorem adS{K:dg}(h:((ek K a).data.ctorIdx==7)=ak):(ek K a).data=.func (eI K a):=by
 unfold eI
 cases e:(ek K a).data<;>rw[e] at h<;>first | rfl | exact aY h
theorem adT{K:dg}(h:((ek K a).data.ctorIdx==9)=ak):(ek K a).data=.fields (vL K a):=by
 unfold vL
 cases e:(ek K a).data<;>rw[e] at h<;>first | rfl | exact aY h
theorem TN{K:dg}{st:dU}(h:M6 K a=ak)(e:Dl K a=Dm st):zh K a st:=
 have h2:=ax (ax (ax h));have h3:=ax (ax (ax (ax (ax h2))))
 ⟨Fo (aI h),cq (aI (ax h)),adS (aI (ax (ax h))),aE (·.1) e,LB.1 (aI h2),cq (aI (ax h2)),cq (aI (ax (ax h2))),aE (·.2.1) e,aE (·.2.2) e,
  cq (aI (ax (ax (ax h2)))),cq (aI (ax (ax (ax (ax h2))))),cq (aI h3),Fo (aI (ax h3)),adT (aI (ax (ax h3))),cq (ax (ax (ax h3)))⟩
theorem TP{K:dg}(h:(io.all λr=>nB K (Dn K r) (aP r.nm))=ak)(e:(io.map λr=>Dl K (jZ (Dn K r) (aP r.nm)))=io.map λr=>Dm (jY r.k))(g:eS f=aj d):B2 K (cond d.cj (iq K) (lq K)) (aP f) (v6 f):=
 cm (ua g) λr h1 h2 h3 h4=>by
  have q:=eE.1 h r h1;rw[Im h2,<- h3,<- h4];exact ⟨cq (aI q),TN (ax q) (K6.1 e r h1)⟩
theorem adU{w:dy}{K:dg}(y:kO K=kE a b w):oC w K:=by
 have h:kB K=ak:=aE (·.1) y;have e2:=aE (·.2.1) y;have e3:(nN K,x7 K)=(a,b):=aE (·.2.2.1) y;have e4:=aE (·.2.2.2.1) y;have e5:=aE (·.2.2.2.2.1) y;have e6:=aE (·.2.2.2.2.2) y;injection e3 with e3 e3'
 subst e3;subst e3';have h':(Hs K&&(Do K&&Dp K))=ak:=ax h;have xd:(Do K&&Dp K)=ak:=ax h';have i:M7 K=ak:=aI h;have j:Hs K=ak:=aI h';have k:Do K=ak:=aI xd;have l:Dp K=ak:=ax xd
 exact ⟨Fp (aI i),Fp (aI (ax i)),Fp (aI (ax (ax i))),vr.1 (aI (ax (ax (ax i)))),Fp (aI (ax (ax (ax (ax i))))),⟨_,_,_,_,_,_,_,_,_,_,_,_,e2⟩,vr.1 (aI (ax (ax (ax (ax (ax i)))))),vr.1 (ax (ax (ax (ax (ax (ax i)))))),vr.1 (aI j),vr.1 (aI (ax j)),vr.1 (aI (ax (ax j))),cq (aI (ax (ax (ax j)))),
  λf d g hm=>by have:=TP (aI (ax (ax (ax (ax j))))) e5 g;rw[hm] at this;exact this,λf d g hm=>by have:=TP (aI (ax (ax (ax (ax j))))) e5 g;rw[hm] at this;exact this,⟨cq (aI (aI (ax (ax (ax (ax (ax j))))))),TN (ax (aI (ax (ax (ax (ax (ax j))))))) e6⟩,(ax (ax (ax (ax (ax (ax j)))))),cq (aI k),cq (aI (ax k)),cq (aI (ax (ax k))),Fo (aI (ax (ax (ax k)))),cq (aI (ax (ax (ax (ax k))))),vr.1 (aI (ax (ax (ax (ax (ax k)))))),Array.isEmpty_iff.1 (ax (ax (ax (ax (ax (ax k)))))),TM (aI l),
  ⟨_,_,_,_,_,_,e4,cq (aI (ax l)),cq (aI (ax (ax l))),cq (aI (ax (ax (ax l))))⟩,λn v g=>JW (eE.1 (aI (ax (ax (ax (ax l))))) _ (ph g)),(aI (ax (ax (ax (ax (ax l)))))),(ax (ax (ax (ax (ax (ax l))))))⟩
theorem adV(hr:∀cls,c.raises args cls=ap)(hp:c.post args (.bool ak) args=ak)(hg:aF.gens=#[])(hk:aF.heap.StaysIn s'.heap)(g:s'.gens=aF.gens)(o:s'.os=aF.os) :
  GoodWG c cl mean args aF (.ok (.ret (.bool ak))) s':=
 ⟨.inl ⟨_,_,[],rfl,hr,ReadsW.bool ak,hp,λU=>⟨p9,λU hm=>(nomatch (hm))⟩⟩,OldK.of_keep hk,o,.of_eq (g.trans hg)⟩
theorem adW{K:dg}(KX:K.In h)(D:uW K pW)(G:h.Ns pW mg)(n):eJ (lq K) n=mg n:=
 xQ G λo es ep h1 h2 U h4=>by
  obtain rfl:=aZ (h1.symm.trans (KX _ _ D.e1));injection h2.symm.trans D.e2 with e
  rw[<- h4 n,TH,e]
end
set_option backward.match.sparseCases true
section
set_option maxRecDepth 100000
open PySem PySem.W PySem.W.X PySem.W.ZRun PyProof.Rows
set_option maxHeartbeats 0 in
theorem ahu:ahH.Holds:=by
 refine holds_law (by kernel_rfl) λsaid=>?_;refine holds_openX (q:=vw) (loose:=x8) (Xt:=Xt) (XP:=λU U=>True) (Yf:=Yf) (Ya:=Ya 77 76) (N:=3782) left (λU U=>trivial) (λU U U U U=>trivial) (by rfl) (by rfl) (by rfl) (λs e=>recFacts_of e) (by rfl) (by first | assumption | decide +kernel) (by decide +kernel) ⟨rfl,rfl,rfl,rfl,rfl,by decide +kernel⟩ ?hw ?hc
 case hw=>w_witness2
 case hc=>
  intro w wM aF mg mb G y fa o pm cd doc dV kV ho hd oI hD hmg hg args vals as L aeC aeG hrd hwl hlo;have KX:=dg.In.keeps (adR wM.heap) L.keeps;have H:=adU (aE Prod.fst y);have hL:=(adW KX H.g G.T.g (aP "law")).trans hmg;refine Ground.open G ?_;intro T B D TE TW
  wrow_args aeC aeG hrd hwl hlo
  have lK:=script_toks L (aE Ln y);exact adQ KX H lK (by assumption) (by assumption) (by lia) hL (λs' hk g o=>adV (λU=>by kernel_rfl) (by kernel_rfl) hg hk g o)
end
end
end Internal
theorem PySem.Challenge.cw_sx_r156_2_holds : PySem.Challenge.rw_sx_r156_2.Holds :=
 Internal.ahu
