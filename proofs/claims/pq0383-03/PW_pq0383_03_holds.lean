import PyProof.Rows.All
import Wide.All
import OpenK.AllK
import Wide.FinOn
import KE.KDictSum
import KE.KSortedM
import KE.KDictOf
import PyProof.LongRange
import KE.KSortTup
import KE.KUnpack
import Lean
import PySem.Challenge.RW_pq0383_03
set_option Elab.async false
set_option maxRecDepth 100000
set_option autoImplicit false
set_option linter.all false
set_option genSizeOf false
set_option genInjectivity false
set_option compiler.extract_closed false
section
open PySem renaming wpAny_bind->aa,PyData->ab,Value->ag,Addr->ai,wpAny_pure->aj,Shared->ak,wpAny_mono->au,Expr->aH,Str->aK,Around->aM,wpAny_holding->aO,Heap->aP,NameKind->aS,call_isinstance->bf,Comprehension->bm,wpAny_standAt->bx,ReadsAll->bL,Program->bR,wpAny_call_entry->bX,Scope->bZ,World->b4,mainGlobals->cu,sizeLine_eq->cx,wpAny_newObj_type->cB,Builtin->cE,sizeLine->cG,swappedStores->cM,wpAny_seqItems->cN,holding->cO,wpAny_callSpecial?_slot->cP,wpAny_field->cX,wpAny_pyIter_tuple->dk,isinstance_false_list->dw,wpAny_pyIter_list->dA,swapsWithSole->dL,Pos->dM,SetTable->dO,wpAny_askSetting->dP,DictEntry->dQ,FuncData->dS,wpAny_setField_rec->ec,Reads->eu,codeAny->ez,wpAny_truthy_bool->eA,eqIsQuiet_byValue->eE,sysModules->eM,wpAny_loadName_local->eO,Obj->fi,assignInOrder->fj,methodCallPos->fk,codeAny_builtin->fm,pyNext->fv,wpAny_Constant_str->fy,Stmt->fE,codeAny_mono->fG,bindName->fN,isinstance_false_none->fO,wpAny_rule->fP,builtinsNs->fR,standAt->fU,wpAny_release->fV,isinstance_false_str->fZ,letOwnedTupleGo->gc,bootBuiltins->gj,wpAny_setField->gn,assign->gv,IsRange->gD,hashInt->gH,wpAny_setState_of->gI,wpAny_of_eq->gK,wpAny_collect_seq->gL,slot_dict_getitem->gO,pyIter->gS,Params->gT,wpAny_assignInOrder_none->gY,wpAny_isInstance->g8,wpAny_Name->ic,isinstance_false_tuple->ii,wpAny_ite_split->iq,wpAny_specialOf->ir,firstArgMember->iG,isinstance_false_int->iK,IsPair->iM,wpAny_updateSeq_pair->iN,IsRangeIter->iO,Tok->iT,eqIsQuiet->iU,cellsFrom->iV,wpAny_setEntries_of->iY,plainId_quiet->i7,wpAny_attempt->i8,strKind->i9,wpAny_onRaise->kb,behindInMarks->kc,CmpOp->ku,slot_list_getitem->kG,callType_new->kI,Env->kO,Sem->kS,wpAny_getItem_of->kT,ClassData->kW,codeAny_of_tree->lh,arm_assign_Name->ll,wpAny_execs_nil->lr,importedModules->lw,Keyword->lA,Operator->lC,Result->lG,isSubtype_type->lH,call_meets->lI,dictSetDefault->lN,IsZip->lO,callWith->lQ,constantsAlone->lR,wpAny_newList->lX,foldedForSure->l8,wpAny_list_append_plain->ma,wpAny_pyNext_tuple_item->mc,field->mh,swapsWith->mw,markedBehindIn_of_false->my,wpAny_typeOf->mJ,truthy->mL,call_meetsIn->mN,wpAny_pyNext_tuple_end->mO,builtinLookup_eq_fast->mW,isinstance_false_bool->mY,wpAny_notOrdered_dict->mZ,entryFor->m6,contains->m9,binaryOp->nh,bindArgs->nu,wpAny_letGo->nv,compTurn->nx,arm_assign_Subscript->nA,interactive->nB,wpAny_loadName_free->nI,wpAny_Constant_none->nJ,wpAny_setItem_pairs->nO,arm_eval_Call_Name'->nP,wpAny_call->nS,setsByText->nT,reduceHash->nU,getattributeRaised->nY,ks_wpAt_execs_cons->oh,wpAny_pyIter_slot->oq,collect->ot,argBest->oy,typeIs_bool->oC,sub_zip->oE,getMethod_builtin->oH,wpAny_Return_some->oI,wpAny_pyHash_int->oQ,beq_builtin_none->oT,Fin->oU,seqItems?->oW,getMethod->oY,Data->o9,typeLookup_type->pe,wpAny_ret_mkInt->pg,argsOk->pr,entryFor_alias->pv,wpAny_fieldsOf->pw,newExc->pz,newTuple->pA,isSubtype_stop->pB,recursionLimit->pC,wpAny_newTuple->pG,stored->pI,wpAny_loadPart->pJ,compEnvC->pL,markedBehindIn->pM,wpAny_operateT->pN,Thread->pR,signature?_of->pU,wpAny_handled->pW,call_list_seq->p5,comprehension->p8,attributeBase->p9,arm_eval_Call->rc,wpAt_of_wpAny->rd
open PySem.Str renaming ofString->ae,empty_append->oV
open Nat renaming le_trans->af,le_of_ble_eq_true->aw,ne_of_lt->aB,le_add_right->aF,add_le_add_left->aL,le_refl->aQ,lt_succ_self->aU,beq->aZ,zero_le->bd,succ_le_succ->bp,ne_of_gt->br,le_of_not_lt->bu,lt_of_lt_of_le->bI,lt_of_le_of_lt->b5,le_add_left->b7,ble->cA,le_of_eq->cS,le_succ->cT,add_assoc->cU,min_le_right->de,add_le_add->dj,eq_of_beq_eq_true->du,le_antisymm->dz,lt_succ_of_lt->dD,blt->eR,le_of_lt->eT,add_comm->eU,zero_add->eV,sub_lt_left_of_lt_add->fh,le_succ_of_le->fK,pow_le_pow_right->f6,min_le_left->f9,sub_lt_sub_left->ge,lt_or_eq_of_le->gm,le_of_lt_succ->gE,lt_trichotomy->gF,lt_irrefl->gR,succ_ne_zero->g7,lt_trans->hZ,not_lt_zero->im,casesOn->iH,mul_le_mul_right->iR,not_lt->ki,pos_of_ne_zero->kn,sub_self->kz,beq_refl->kD,lt_succ_of_le->kK,zero_lt_succ->kP,not_le_of_lt->kQ,min_eq_left->lv,rec->lx,mod_lt->lE,max_le->lJ,lt_of_succ_lt_succ->mG,le_of_succ_le_succ->mI,gcd->mT,log2_lt->ng,lt_of_lt_of_eq->nZ,sub_add_cancel->n7,gcd_zero_right->oi,not_lt_of_le->oR,dvd_trans->re,lt_or_ge->rl,gcd_comm->ru,succ_mul->rx,not_le->rL
open List renaming length_map->ah,length_append->ao,getElem?_eq_some_iff->aq,mem_singleton->av,getElem?_eq_getElem->ay,mem_map->az,mem_cons->aA,getElem?_append_left->aC,length_singleton->aD,append_assoc->aI,size_toArray->aJ,mem_iff_getElem?->aN,append_nil->aR,map_append->aW,getD_eq_getElem?_getD->aX,all_eq_true->aY,getElem?_concat_length->a5,nil_append->a6,length_cons->a9,mem_append->bg,mem_append_right->bj,nodup_cons->bk,map_cons->bl,getElem?_map->bt,any_eq_true->bv,map_map->bz,casesOn->bE,replicate->bJ,mem_filter->bM,mem_append_left->bO,mem_cons_of_mem->bU,find?_cons->bV,not_mem_nil->bW,map_eq_nil_iff->bY,mem_filterMap->b6,length_nil->b8,filter_cons->ck,map_congr_left->cr,pairwise_cons->cv,lookup_cons->cy,getElem?_append_right->cC,take_append_drop->cF,length_filter_le->cH,map_singleton->cI,all_append->cQ,any_cons->cV,all_cons->c5,length_take->dc,isEmpty_iff->dh,mem_cons_self->di,getElem?_set_ne->dC,getElem?_take_of_lt->dK,find?->dY,any_map->ed,rec->ee,drop->eg,getElem?_eq_none->eh,getElem?_toArray->et,nodup_append->eH,forall_mem_cons->eQ,cons_append->eX,drop_eq_getElem_cons->fe,length_set->fq,forIn_cons->fu,any_eq_not_all_not->fD,getElem?_set_self->fJ,cons_ne_nil->fS,mem_reverse->fT,all_map->gh,filter_append->gz,take_sublist->gG,getElem?_inj->gN,range->ia,contains_iff_mem->iB,pairwise_append->iD,nodup_nil->iE,take_left->iQ,getElem_of_mem->iX,length_take_le->i5,set_comm->ke,map_nil->kC,any->kL,any_eq_false->kN,getElem_mem->kR,length->la,getElem?_replicate_of_lt->lc,of_mem_zip->lk,filter_nil->ls,mem_range->lF,forIn_nil->lP,mem_of_find?_eq_some->lT,getElem?_zip_eq_some->lU,take->mA,take_of_length_le->mM,filter_eq_nil_iff->mR,singleton_append->m3,set_append_right->m4,drop_eq_nil_iff->nq,lookup->ny,map->nD,append_toArray->nK,find?_eq_none->nX,findIdx?_cons->n6,length_range->on,ext_getElem?->ow,getElem?_nil->oM,find?_append->oN,perm_middle->oP,take_length->oS,any_toArray->oZ,map_fst_zip->o0,zipIdx_cons->o7,drop_length->o8,find?_some->ph,zipIdx_nil->pk,take_left'->po,map_take->pT,map_id->rE,filter->rG
open PySem.Heap renaming get?_push_of_some->am,get?_push_size->aG,lt_size->bb,SameBut->cj,get?_update_self->dv,get?_none_of_le->dB,size_push->dR,ExtBut->fY,get?_push_ne->gM,size_update->hJ,IsTuple->kH,IsList->lb,get?->rO,push->rP
open Exists renaming elim->aE
open Bool renaming false_ne_true->aT,noConfusion->a8,and_eq_true->bG,false_eq_true->cw,or_false->cW,and_true->cZ,or_eq_false_iff->dE,and_false->eJ,true_and->fW,or_eq_true->f8,eq_false_iff->gP,casesOn->ib,eq_iff_iff->iz,not_not->kM,false_or->l4,false_and->pD,and_assoc->pQ,not_true->pY,and_self->p6,or_assoc->rh,true_or->ro
open PySem.PyData renaming eqv->aV,strOk->bq,casesOn->bA,eqvAll->bB,depthAll->bC,int->bH,keyHash->bN,tuple->ch,canLayAll0->ew,list->iC,depth->mK,bool->rC
open PySem.SetTable renaming below->bc,bits->bQ,insertAt->bS,has->cR,runEnd->io,toList_insertAt->lW,insertAt_perm->mH,turns->pq,fill->pS
open Int renaming le_antisymm->be,le_trans->bh,natCast_nonneg->bn,le_refl->bF,toNat_natCast->bT,add_zero->b9,le_of_lt->cg,eq_ofNat_of_zero_le->cz,ofNat_lt->cK,lt_of_lt_of_le->dm,le_sub_right_of_add_le->dp,sub_right_le_of_le_add->dq,le_of_lt_add_one->dG,not_lt->dJ,toNat_of_nonneg->dN,mul_zero->dU,ofNat_le->dW,not_le->dZ,sub_nonpos_of_le->eI,zero_add->fF,le_of_sub_nonpos->fX,lt_of_le_of_lt->gw,le_add_of_nonneg_right->gx,fdiv_eq_ediv_of_nonneg->gy,mul_add->gC,add_assoc->gQ,mul_fdiv_cancel'->iS,le_of_eq->kE,one_mul->kX,neg_mul->kY,mul_le_mul_of_nonneg_left->lf,mul_le_mul_of_nonpos_left->lg,mul_assoc->lV,zero_mul->mD,ne_of_gt->mE,le_total->mU,le_ediv_iff_mul_le->mV,natAbs_dvd_natAbs->m5,mul_one->nE,negSucc_lt_zero->nH,add_le_add_left->nQ,sub_eq_add_neg->nR,add_sub_cancel->oj,add_left_comm->om,natCast_zero->pb,natCast_one->pn,add_nonpos->pp,add_le_add->pP,lt_irrefl->rf,sub_self->ri,mul_comm->ry,add_comm->rz,add_mul->rB
open PySem.Builtin.SmallTypes renaming nextOf->bD,ownedTupleIsFree->cY,ownedTupleHandOut->iZ
open Array renaming length_toList->bK,getElem?_eq_getElem->cq,getElem?_eq_none->fH,getD->gk,toList_push->gJ,getElem?_toList->mX,mk->nG,forIn_toList->nW
open Option renaming map_eq_some_iff->bP,getD_some->dg,casesOn->eN,bind_some->fc,isNone_iff_eq_none->gB,isSome_iff_exists->gW,map_eq_none_iff->ij,map_some->lu,any_eq_true->n9,getD_none->pc
open PySem.Heap.SameBut renaming update->cD,refl->rS
open PyProof.Rows renaming IntsAre->cJ,meta_tuple->gp,tail_any->gu,subscriptTail->gV,meta_list->hM,meta_bool->hO,slot_list_sort->iI,meta_int->iJ,IsTup->i6,entry_list_sort->lj,args_list_sort->lK,sortedHeap_old->lL,size_push'->lM,sortedHeap_at->lY,listUpdate_at->lZ,seqEpoch_at->ni,modules_low->nt,Assign_Tuple_swapped->nC,call_isinstance_yes->nN,Subscript_->n8,sub_list_tuple->pH,sub_list_list->pZ,sub_list_bool->p4,sub_int->rY,mul_int->rZ,mod_int->r0,len_tuple->r6,len_list->r7
open PySem.W.Fast renaming te8437177126325714943->dr,tw8437177126325714943->fA,tw11892475500146522536->kg,tw14364793385576792824->kh,tw6613529449190102663->ko,tw4187177175401517315->kt,te6613529449190102663->sq,te11892475500146522536->su,te14364793385576792824->sw,te4187177175401517315->sy
open PySem.Code renaming builtin->dF
open PySem.Value renaming none->dH,ref->eY,isInt->kZ,isStr->k9,isInt_shape->oo,str->oX,builtin->pX,isStrOf->p7,type->rI,bool->rK,int->rM
open List.cons renaming inj->dI,injEq->pj
open Prod.mk renaming inj->dT,injEq->l7
open PySem.Obj renaming data_mapFields->dX,mapSeq->ig,isFreed_of_fields->iA,cls_mapFields->kB,data_mapDictKeys->nj,mapFields->pV,putName->rF,putSet->rH
open ForInStep renaming yield->ef
open PySem.SetTable.below renaming go->ey
open PySem.Around renaming under_plainId->eK,frames_deeper->iL
open PySem.F renaming slot_tuple_iterator_next->eP,called_set->eW,slot_bool_hash->fM,args_object_init_3->f7,slot_dict_setdefault->gb,slot_tuple_getattribute->gA,args_tuple_add_2->gU,entry_tuple_add->hH,typeCall_zip_2->hU,slot_tuple_add->ie,newCall_zip_2->iu,entry_zip_new->iv,slot_zip_next->iw,called_zip->kJ,args_dict_setdefault_3->kU,entry_dict_setdefault->k8,args_tuple_iterator_next_1->lm,entry_tuple_iterator_next->lz,plainAttrs_dict->ml,slot_dict_get->m0,args_zip_next_1->oG,entry_zip_next->o6,plain_set_new->pd,slot_set_iter->pf
open PySem.Expr renaming casesOn->eZ
open PySem.Builtin.Tuple renaming tupleHashOf->ff,tupleItemsOf->r4
open PySem.Shared renaming heap->fC
open PySem.Txt renaming slice->fQ
open PySem.W renaming Frag->gf,ks_superIn->kj,kas_sort->kx,handedIn->lB,boot_drawn->lS,plainOver->me,hasDictIn->mf,emptyDict->mz,boot_heap->mB,boot_toks->mC,makesIn->mS,kat_yes->oz,clsIn->oJ,nsIn->pa,kat_cons->pF,codeIn->pK
open PySem.Arg renaming arg->gi
open PySem.NameKind renaming free->gZ,cell->l6
open PyProof.Rows.F renaming plain_set_update_loop->g0,entry_set_update_loop->l9
open PySem.Env renaming kindOf->ik
open Option.some renaming inj->il,injEq->sn
open Prod renaming fst->iP,ext->kA,snd->nF
open PySem.Builtin.Int renaming intBits->iW,intTooBig->rX
open PySem.SetTable.probe renaming go->ky
open PySem.Builtin renaming divisionGoesByPylong->li
open PySem.Builtin.List renaming listLengthHint->ly
open False renaming elim->lD
open PySem.Builtin.Dict renaming updateFrom->md,pairItems->mP,keyAndDefault->r8,addKeywords->sd,selfAndRest->se
open PySem.Builtin.Range renaming rangeSize->mj
open And renaming intro->mn
open Ne renaming symm->mQ
open PySem.Calls renaming Name_function_global->m8,call_function_entry->nM,loadGlobal_builtin->nV
open PySem.Heap.IsTuple renaming push->oF,extBut->sg
open PySem.Keeper renaming boundFrame->oK,machine->pO,frame->rt
open PySem.Step renaming go->oO
open PySem.Heap.IsList renaming push->o5,extBut->sh
open PySem.Heap.DictOf renaming new->pi
open PySem.SeqAt renaming eqBoolOverData->pE
open Iff renaming rfl->rj
open PySem.pickOrder renaming go->rk
open Decidable renaming em->rn
open Nat.succ renaming inj->rp
open PySem.Stmt renaming casesOn->rq
open PySem.Walks renaming tuple->rD,list->rJ
open PySem.W.Looks renaming now->rN
open PySem.SetTable.Probe renaming mk->rQ
open List.Nodup renaming length_le_of_subset->rR
open PySem.Builtin.Frozenset renaming newClass->rT,updateFrom->rU,sizeOf->rW
open PyProof.Rows.IntsAre renaming int_at->rV
open PySem.Reads renaming unique->r5
open PySem.Heap.IsSliceOf renaming new->r9
open PySem.Heap.IsTupleIter renaming extBut->sj
open PySem.Heap.IsListIter renaming extBut->sk
namespace Mine.Internal
variable {x:Int}
theorem tT9:true=true:=rfl
theorem nB9 {a b:Nat}(h:cA a b=true):a<=b:=aw h
theorem oD9 {p:Prop}[d:Decidable p](h:decide p=true):p:=of_decide_eq_true h
set_option tactic.hygienic false
@[elab_as_elim] theorem rwE {α:Sort _}{a b:α}{motive:α->Prop}(h:a=b)(x:motive b):motive a:=h▸x
@[elab_as_elim] theorem rwS {α:Sort _}{a b:α}{motive:α->Prop}(h:b=a)(x:motive b):motive a:=h▸x
inductive Nt where
 | v (i:Nat)
 | k (n:Nat)
 | a (x y:Nt)
 | m (n:Nat) (x:Nt)
inductive Zt where
 | v (i:Nat)
 | k (n:Int)
 | a (x y:Zt)
 | s (x y:Zt)
 | g (x:Zt)
 | m (n:Int) (x:Zt)
 | c (x:Nt)
inductive Ft where
 | l (x y:Nt)
 | e (x y:Nt)
 | L (x y:Zt)
 | E (x y:Zt)
noncomputable def nth {α:Type}(d:α):List α->Nat->α:=λ l=>ee (λ _=>d) (λ a _ r i=>lx a (λ j _=>r j) i) l
noncomputable def Nt.ev (c:List Nat)(t:Nt):Nat:=Nt.rec (λ i=>nth 0 c i) (λ n=>n) (λ _ _ x y=>x + y) (λ n _ x=>n * x) t
noncomputable def Zt.ev (c:List Nat)(d:List Int)(t:Zt):Int:=Zt.rec (λ i=>nth 0 d i) (λ n=>n) (λ _ _ x y=>x + y) (λ _ _ x y=>x - y) (λ _ x=>-x) (λ n _ x=>n * x) (λ x=>((x.ev c:Nat):Int)) t
def Ft.ev (c:List Nat)(d:List Int)(f:Ft):Prop:=Ft.rec (λ x y=>x.ev c<=y.ev c) (λ x y=>x.ev c=y.ev c) (λ x y=>x.ev c d<=y.ev c d) (λ x y=>x.ev c d=y.ev c d) f
structure Pl where
 k:Int
 n:List Int
 i:List Int
variable {p:Pl}
noncomputable def ZF (p:List Int):List Int->Int:=ee (λ _=>0) (λ a _ r c=>ee 0 (λ x c _=>a * x + r c) c) p
noncomputable def JL (p:List Int):List Int->List Int:=ee (λ q=>q) (λ a p r q=>ee (a::p) (λ b q _=>(a + b)::r q) q) p
noncomputable def unI (i:Nat):List Int:=lx [1] (λ _ r=>0::r) i
theorem zGB (p:List Int):ZF p []=0:=by cases p <;> rfl
theorem Uv (p:List Int):∀ q c,ZF (JL p q) c=ZF p c + ZF q c:=by
 induction p with
 | nil=>intro q c;exact (fF _).symm
 | cons a p ih =>
  intro q c
  cases q with
  | nil=>exact (b9 _).symm
  | cons b q =>
   cases c with
   | nil=>rfl
   | cons x c =>
    show (a + b) * x + ZF (JL p q) c=(a * x + ZF p c) + (b * x + ZF q c)
    rw [ih,rB,gQ,gQ,om (b * x)]
theorem Uy (k:Int)(p:List Int):∀ c,ZF (p.map (k * ·)) c=k * ZF p c:=by
 induction p with
 | nil=>intro c;exact (dU _).symm
 | cons a p ih =>
  intro c
  cases c with
  | nil=>exact (dU _).symm
  | cons x c =>
   show (k * a) * x + ZF (p.map (k * ·)) c=k * (a * x + ZF p c)
   rw [ih,gC,lV]
theorem Wt (i:Nat):∀ c,ZF (unI i) c=nth 0 c i:=by
 induction i with
 | zero =>
  intro c
  cases c with
  | nil=>rfl
  | cons x c=>show 1 * x + 0=x;rw [kX,b9]
 | succ i ih =>
  intro c
  cases c with
  | nil=>rfl
  | cons x c=>show 0 * x + ZF (unI i) c=nth 0 c i;rw [ih,mD,fF]
noncomputable def Pl.ev (c:List Nat)(d:List Int)(p:Pl):Int:=p.k + (ZF p.n (c.map λ (x:Nat)=>(x:Int)) + ZF p.i d)
noncomputable def Pl.add (p q:Pl):Pl:=⟨p.k + q.k,JL p.n q.n,JL p.i q.i⟩
noncomputable def Pl.mul (k:Int)(p:Pl):Pl:=⟨k * p.k,p.n.map (k * ·),p.i.map (k * ·)⟩
theorem i4 (a b c d:Int):a + b + (c + d)=a + c + (b + d):=by rw [gQ,gQ,om b]
theorem Pl.add_ev (c:List Nat)(d:List Int)(p q:Pl):(p.add q).ev c d=p.ev c d + q.ev c d:=by
 show (p.k + q.k) + (ZF (JL p.n q.n) _ + ZF (JL p.i q.i) d)=(p.k + (_ + _)) + (q.k + (_ + _))
 rw [Uv,Uv];exact (congrArg _ (i4 ..)).trans (i4 ..)
theorem Pl.mul_ev (c:List Nat)(d:List Int)(k:Int)(p:Pl):(p.mul k).ev c d=k * p.ev c d:=by
 show (k * p.k) + (ZF (p.n.map (k * ·)) _ + ZF (p.i.map (k * ·)) d)=k * (p.k + (_ + _))
 rw [Uy,Uy,gC,gC]
noncomputable def Nt.pl (t:Nt):Pl:=Nt.rec (λ i=>⟨0,unI i,[]⟩) (λ n=>⟨n,[],[]⟩) (λ _ _ x y=>x.add y) (λ n _ x=>x.mul n) t
noncomputable def Zt.pl (t:Zt):Pl:=Zt.rec (λ i=>⟨0,[],unI i⟩) (λ n=>⟨n,[],[]⟩) (λ _ _ x y=>x.add y) (λ _ _ x y=>x.add (y.mul (-1))) (λ _ x=>x.mul (-1)) (λ n _ x=>x.mul n) (λ x=>x.pl) t
theorem zBu (c:List Nat):∀ i,nth 0 (c.map λ (x:Nat)=>(x:Int)) i=((nth 0 c i:Nat):Int):=by
 induction c with
 | nil=>intro i;rfl
 | cons x c ih=>intro i;cases i with
  | zero=>rfl
  | succ i=>exact ih i
theorem Nt.pl_ev (c:List Nat)(d:List Int)(t:Nt):t.pl.ev c d=((t.ev c:Nat):Int):=by
 induction t with
 | v i=>show (0:Int) + (ZF (unI i) _ + 0)=((nth 0 c i:Nat):Int);rw [Wt,zBu,b9,fF]
 | k n=>exact b9 _
 | a x y hx hy=>show (x.pl.add y.pl).ev c d=((x.ev c + y.ev c:Nat):Int);rw [Pl.add_ev,hx,hy,Int.natCast_add]
 | m n x hx=>show (x.pl.mul n).ev c d=((n * x.ev c:Nat):Int);rw [Pl.mul_ev,hx,Int.natCast_mul]
theorem Zt.pl_ev (c:List Nat)(d:List Int)(t:Zt):t.pl.ev c d=t.ev c d:=by
 induction t with
 | v i=>show (0:Int) + (0 + ZF (unI i) d)=nth 0 d i;rw [Wt,fF,fF]
 | k n=>exact b9 _
 | a x y hx hy=>show (x.pl.add y.pl).ev c d=x.ev c d + y.ev c d;rw [Pl.add_ev,hx,hy]
 | s x y hx hy=>show (x.pl.add (y.pl.mul (-1))).ev c d=x.ev c d - y.ev c d;rw [Pl.add_ev,Pl.mul_ev,hx,hy,kY,kX];exact nR.symm
 | g x hx=>show (x.pl.mul (-1)).ev c d=-x.ev c d;rw [Pl.mul_ev,hx,kY,kX]
 | m n x hx=>show (x.pl.mul n).ev c d=n * x.ev c d;rw [Pl.mul_ev,hx]
 | c x=>exact x.pl_ev c d
noncomputable def Pl.sub (p q:Pl):Pl:=p.add (q.mul (-1))
noncomputable def Ft.pl (f:Ft):Pl:=Ft.rec (λ x y=>x.pl.sub y.pl) (λ x y=>x.pl.sub y.pl) (λ x y=>x.pl.sub y.pl) (λ x y=>x.pl.sub y.pl) f
noncomputable def Ft.isE (f:Ft):Bool:=Ft.rec (λ _ _=>false) (λ _ _=>true) (λ _ _=>false) (λ _ _=>true) f
theorem Pl.sub_ev (c:List Nat)(d:List Int)(p q:Pl):(p.sub q).ev c d=p.ev c d - q.ev c d:=by
 show (p.add (q.mul (-1))).ev c d=_
 rw [Pl.add_ev,Pl.mul_ev,kY,kX];exact nR.symm
theorem Ft.le_iff (c:List Nat)(d:List Int)(f:Ft)(h:f.isE=false):f.ev c d ↔ f.pl.ev c d<=0:=by
 cases f with
 | l x y=>show x.ev c<=y.ev c ↔ (x.pl.sub y.pl).ev c d<=0;rw [Pl.sub_ev,Nt.pl_ev,Nt.pl_ev];exact ⟨λ h=>eI (dW.mpr h),λ h=>dW.mp (fX h)⟩
 | L x y=>show x.ev c d<=y.ev c d ↔ (x.pl.sub y.pl).ev c d<=0;rw [Pl.sub_ev,Zt.pl_ev,Zt.pl_ev];exact ⟨eI,fX⟩
 | e x y=>exact a8 h
 | E x y=>exact a8 h
theorem Ft.eq_of (c:List Nat)(d:List Int)(f:Ft)(h:f.isE=true)(x:f.ev c d):f.pl.ev c d=0:=by
 cases f with
 | e a b=>replace x:a.ev c=b.ev c:=x;show (a.pl.sub b.pl).ev c d=0;rw [Pl.sub_ev,Nt.pl_ev,Nt.pl_ev,x];exact ri _
 | E a b=>replace x:a.ev c d=b.ev c d:=x;show (a.pl.sub b.pl).ev c d=0;rw [Pl.sub_ev,Zt.pl_ev,Zt.pl_ev,x];exact ri _
 | l a b=>exact a8 h
 | L a b=>exact a8 h
noncomputable def le0 (x:Int):Bool:=Int.rec (λ n=>aZ n 0) (λ _=>true) x
noncomputable def is0 (x:Int):Bool:=Int.rec (λ n=>aZ n 0) (λ _=>false) x
theorem Xu (h:le0 x=true):x<=0:=by
 cases x with
 | ofNat n=>cases du h;exact bF 0
 | negSucc n=>exact cg (nH n)
theorem zED (h:is0 x=true):x=0:=by
 cases x with
 | ofNat n=>cases du h;rfl
 | negSucc n=>exact a8 h
noncomputable def Pl.ok (p:Pl):Bool:=le0 p.k&&(p.n.all le0&&p.i.all is0)
theorem zD9 (p:List Int):p.all le0=true->∀ (c:List Nat),ZF p (c.map λ (x:Nat)=>(x:Int))<=0:=by
 induction p with
 | nil=>intro _ c;exact bF 0
 | cons a p ih =>
  intro h c
  have h:(le0 a&&p.all le0)=true:=h
  rw [bG] at h
  cases c with
  | nil=>exact bF 0
  | cons x c =>
   have h1:=ih h.2 c
   have h2:a * (x:Int)<=0:=Int.mul_nonpos_of_nonpos_of_nonneg (Xu h.1) (bn x)
   exact pp h2 h1
theorem zA1 (p:List Int):p.all is0=true->∀ c,ZF p c=0:=by
 induction p with
 | nil=>intro _ c;rfl
 | cons a p ih =>
  intro h c
  have h:(is0 a&&p.all is0)=true:=h
  rw [bG] at h
  cases c with
  | nil=>rfl
  | cons x c=>show a * x + ZF p c=0;rw [ih h.2 c,zED h.1,mD];rfl
theorem Pl.ok_ev (h:p.ok=true)(c:List Nat)(d:List Int):p.ev c d<=0:=by
 have h:(le0 p.k&&(p.n.all le0&&p.i.all is0))=true:=h
 rw [bG,bG] at h
 show p.k + (_ + ZF p.i d)<=0
 rw [zA1 p.i h.2.2,b9]
 exact pp (Xu h.1) (zD9 p.n h.2.1 c)
def hyL (c:List Nat)(d:List Int)(g:Prop)(fs:List (Int×Ft)):Prop:=ee g (λ f _ r=>f.2.ev c d->r) fs
noncomputable def chL (p:Pl)(fs:List (Int×Ft)):Pl->Bool:=ee (λ q=>(p.add q).ok) (λ f _ r q=>(f.2.isE || le0 (-f.1))&&r (q.add (f.2.pl.mul (-f.1)))) fs
theorem XZ {c:List Nat}{d:List Int}{g:Prop}(hg:p.ev c d<=0->g)(fs:List (Int×Ft)):∀ q,0<=q.ev c d->chL p fs q=true->hyL c d g fs:=by
 induction fs with
 | nil =>
  intro q hq h
  have:=Pl.ok_ev h c d
  rw [Pl.add_ev] at this
  exact hg (by omega)
 | cons f fs ih =>
  intro q hq h x
  have h:((f.2.isE || le0 (-f.1))&&chL p fs (q.add (f.2.pl.mul (-f.1))))=true:=h
  rw [bG,f8] at h
  refine ih _ ?_ h.2
  rw [Pl.add_ev,Pl.mul_ev]
  have hx:0<=-f.1 * f.2.pl.ev c d:=by
   cases e:f.2.isE with
   | true=>rw [Ft.eq_of c d _ e x,dU];exact bF 0
   | false =>
    have h1:=Xu (h.1.resolve_left (by rw [e];exact aT))
    exact Int.mul_nonneg_of_nonpos_of_nonpos h1 ((Ft.le_iff c d _ e).mp x)
  exact Int.add_nonneg hq hx
theorem lin (c:List Nat)(d:List Int)(x y:Nt)(fs:List (Int×Ft))(h:chL (Ft.l x y).pl fs ⟨0,[],[]⟩=true):hyL c d (x.ev c<=y.ev c) fs :=
 XZ (p:=(Ft.l x y).pl) (Ft.le_iff c d (.l x y) rfl).mpr fs ⟨0,[],[]⟩ (show (0:Int)<=0 + (0 + 0) from bF 0) h
theorem liZ (c:List Nat)(d:List Int)(x y:Zt)(fs:List (Int×Ft))(h:chL (Ft.L x y).pl fs ⟨0,[],[]⟩=true):hyL c d (x.ev c d<=y.ev c d) fs :=
 XZ (p:=(Ft.L x y).pl) (Ft.le_iff c d (.L x y) rfl).mpr fs ⟨0,[],[]⟩ (show (0:Int)<=0 + (0 + 0) from bF 0) h
theorem liF (c:List Nat)(d:List Int)(fs:List (Int×Ft))(h:chL ⟨1,[],[]⟩ fs ⟨0,[],[]⟩=true):hyL c d False fs :=
 XZ (p:=⟨1,[],[]⟩) (λ h=>absurd (show (1:Int) + (0 + 0)<=0 from h) (by decide)) fs ⟨0,[],[]⟩ (show (0:Int)<=0 + (0 + 0) from bF 0) h
end Mine.Internal
local macro_rules | `(tactic| erw [$t:term])=>`(tactic| refine Mine.Internal.rwE ($t ..) ?_)
namespace Mine.Internal
open PySem PySem.Calls PyProof.Rows PySem.W
set_option tactic.hygienic false
variable {A1 P A2 A3:Prop}{vs:Array ag}{h':aP}{φ j':ai->Prop}{i:Int}{motive:ag->Prop}
theorem Ea {A0:Prop}(h:A0/\A1)(k:A0->A1->P):P:=k h.1 h.2
theorem Ee.{u0}{sU:Sort u0}{A0:sU->Prop}(h:∃ x0,A0 x0)(k:∀ x0,A0 x0->P):P:=aE h λ x0 h=>k x0 h
theorem Eea.{u0}{sU:Sort u0}{A0:sU->Prop}{A1:sU->Prop}(h:∃ x0,A0 x0/\A1 x0)(k:∀ x0,A0 x0->A1 x0->P):P:=aE h λ x0 h=>k x0 h.1 h.2
theorem Eaa {A0:Prop}(h:A0/\A1/\A2)(k:A0->A1->A2->P):P:=k h.1 h.2.1 h.2.2
theorem Eee.{u0,u1}{sU:Sort u0}{s0:Sort u1}{A0:sU->s0->Prop}(h:∃ x0 x1,A0 x0 x1)(k:∀ x0 x1,A0 x0 x1->P):P:=aE h λ x0 h=>aE h λ x1 h=>k x0 x1 h
theorem Eeea.{u0,u1}{sU:Sort u0}{s0:Sort u1}{A0:sU->s0->Prop}{A1:sU->s0->Prop}(h:∃ x0 x1,A0 x0 x1/\A1 x0 x1)(k:∀ x0 x1,A0 x0 x1->A1 x0 x1->P):P:=aE h λ x0 h=>aE h λ x1 h=>k x0 x1 h.1 h.2
theorem Eeaa.{u0}{sU:Sort u0}{A0:sU->Prop}{A1:sU->Prop}{A2:sU->Prop}(h:∃ x0,A0 x0/\A1 x0/\A2 x0)(k:∀ x0,A0 x0->A1 x0->A2 x0->P):P:=aE h λ x0 h=>k x0 h.1 h.2.1 h.2.2
theorem qJ {A0:Prop}(h:A0/\A1/\A2/\A3)(k:A0->A1->A2->A3->P):P:=k h.1 h.2.1 h.2.2.1 h.2.2.2
theorem Eeee.{u0,u1,u2}{sU:Sort u0}{s0:Sort u1}{tm:Sort u2}{A0:sU->s0->tm->Prop}(h:∃ x0 x1 x2,A0 x0 x1 x2)(k:∀ x0 x1 x2,A0 x0 x1 x2->P):P:=aE h λ x0 h=>aE h λ x1 h=>aE h λ x2 h=>k x0 x1 x2 h
theorem Eeeaa.{u0,u1}{sU:Sort u0}{s0:Sort u1}{A0:sU->s0->Prop}{A1:sU->s0->Prop}{A2:sU->s0->Prop}(h:∃ x0 x1,A0 x0 x1/\A1 x0 x1/\A2 x0 x1)(k:∀ x0 x1,A0 x0 x1->A1 x0 x1->A2 x0 x1->P):P:=aE h λ x0 h=>aE h λ x1 h=>k x0 x1 h.1 h.2.1 h.2.2
theorem Eeaaa.{u0}{sU:Sort u0}{A0:sU->Prop}{A1:sU->Prop}{A2:sU->Prop}{A3:sU->Prop}(h:∃ x0,A0 x0/\A1 x0/\A2 x0/\A3 x0)(k:∀ x0,A0 x0->A1 x0->A2 x0->A3 x0->P):P:=aE h λ x0 h=>k x0 h.1 h.2.1 h.2.2.1 h.2.2.2
theorem Eeeea.{u0,u1,u2}{sU:Sort u0}{s0:Sort u1}{tm:Sort u2}{A0:sU->s0->tm->Prop}{A1:sU->s0->tm->Prop}(h:∃ x0 x1 x2,A0 x0 x1 x2/\A1 x0 x1 x2)(k:∀ x0 x1 x2,A0 x0 x1 x2->A1 x0 x1 x2->P):P:=aE h λ x0 h=>aE h λ x1 h=>aE h λ x2 h=>k x0 x1 x2 h.1 h.2
theorem zF6 {A0:Prop}{A4:Prop}(h:A0/\A1/\A2/\A3/\A4)(k:A0->A1->A2->A3->A4->P):P:=k h.1 h.2.1 h.2.2.1 h.2.2.2.1 h.2.2.2.2
theorem Eeeeaa.{u0,u1,u2}{sU:Sort u0}{s0:Sort u1}{tm:Sort u2}{A0:sU->s0->tm->Prop}{A1:sU->s0->tm->Prop}{A2:sU->s0->tm->Prop}(h:∃ x0 x1 x2,A0 x0 x1 x2/\A1 x0 x1 x2/\A2 x0 x1 x2)(k:∀ x0 x1 x2,A0 x0 x1 x2->A1 x0 x1 x2->A2 x0 x1 x2->P):P:=aE h λ x0 h=>aE h λ x1 h=>aE h λ x2 h=>k x0 x1 x2 h.1 h.2.1 h.2.2
theorem Eeeaaa.{u0,u1}{sU:Sort u0}{s0:Sort u1}{A0:sU->s0->Prop}{A1:sU->s0->Prop}{A2:sU->s0->Prop}{A3:sU->s0->Prop}(h:∃ x0 x1,A0 x0 x1/\A1 x0 x1/\A2 x0 x1/\A3 x0 x1)(k:∀ x0 x1,A0 x0 x1->A1 x0 x1->A2 x0 x1->A3 x0 x1->P):P:=aE h λ x0 h=>aE h λ x1 h=>k x0 x1 h.1 h.2.1 h.2.2.1 h.2.2.2
theorem Eeaaaa.{u0}{sU:Sort u0}{A0:sU->Prop}{A1:sU->Prop}{A2:sU->Prop}{A3:sU->Prop}{A4:sU->Prop}(h:∃ x0,A0 x0/\A1 x0/\A2 x0/\A3 x0/\A4 x0)(k:∀ x0,A0 x0->A1 x0->A2 x0->A3 x0->A4 x0->P):P:=aE h λ x0 h=>k x0 h.1 h.2.1 h.2.2.1 h.2.2.2.1 h.2.2.2.2
theorem Eeeeea.{u0,u1,u2,u3}{sU:Sort u0}{s0:Sort u1}{tm:Sort u2}{Ak:Sort u3}{A0:sU->s0->tm->Ak->Prop}{A1:sU->s0->tm->Ak->Prop}(h:∃ x0 x1 x2 x3,A0 x0 x1 x2 x3/\A1 x0 x1 x2 x3)(k:∀ x0 x1 x2 x3,A0 x0 x1 x2 x3->A1 x0 x1 x2 x3->P):P:=aE h λ x0 h=>aE h λ x1 h=>aE h λ x2 h=>aE h λ x3 h=>k x0 x1 x2 x3 h.1 h.2
theorem Eeeeaaa.{u0,u1,u2}{sU:Sort u0}{s0:Sort u1}{tm:Sort u2}{A0:sU->s0->tm->Prop}{A1:sU->s0->tm->Prop}{A2:sU->s0->tm->Prop}{A3:sU->s0->tm->Prop}(h:∃ x0 x1 x2,A0 x0 x1 x2/\A1 x0 x1 x2/\A2 x0 x1 x2/\A3 x0 x1 x2)(k:∀ x0 x1 x2,A0 x0 x1 x2->A1 x0 x1 x2->A2 x0 x1 x2->A3 x0 x1 x2->P):P:=aE h λ x0 h=>aE h λ x1 h=>aE h λ x2 h=>k x0 x1 x2 h.1 h.2.1 h.2.2.1 h.2.2.2
theorem Eeeaaaa.{u0,u1}{sU:Sort u0}{s0:Sort u1}{A0:sU->s0->Prop}{A1:sU->s0->Prop}{A2:sU->s0->Prop}{A3:sU->s0->Prop}{A4:sU->s0->Prop}(h:∃ x0 x1,A0 x0 x1/\A1 x0 x1/\A2 x0 x1/\A3 x0 x1/\A4 x0 x1)(k:∀ x0 x1,A0 x0 x1->A1 x0 x1->A2 x0 x1->A3 x0 x1->A4 x0 x1->P):P:=aE h λ x0 h=>aE h λ x1 h=>k x0 x1 h.1 h.2.1 h.2.2.1 h.2.2.2.1 h.2.2.2.2
theorem Eeeeeaa.{u0,u1,u2,u3}{sU:Sort u0}{s0:Sort u1}{tm:Sort u2}{Ak:Sort u3}{A0:sU->s0->tm->Ak->Prop}{A1:sU->s0->tm->Ak->Prop}{A2:sU->s0->tm->Ak->Prop}(h:∃ x0 x1 x2 x3,A0 x0 x1 x2 x3/\A1 x0 x1 x2 x3/\A2 x0 x1 x2 x3)(k:∀ x0 x1 x2 x3,A0 x0 x1 x2 x3->A1 x0 x1 x2 x3->A2 x0 x1 x2 x3->P):P:=aE h λ x0 h=>aE h λ x1 h=>aE h λ x2 h=>aE h λ x3 h=>k x0 x1 x2 x3 h.1 h.2.1 h.2.2
theorem Eeeeaaaa.{u0,u1,u2}{sU:Sort u0}{s0:Sort u1}{tm:Sort u2}{A0:sU->s0->tm->Prop}{A1:sU->s0->tm->Prop}{A2:sU->s0->tm->Prop}{A3:sU->s0->tm->Prop}{A4:sU->s0->tm->Prop}(h:∃ x0 x1 x2,A0 x0 x1 x2/\A1 x0 x1 x2/\A2 x0 x1 x2/\A3 x0 x1 x2/\A4 x0 x1 x2)(k:∀ x0 x1 x2,A0 x0 x1 x2->A1 x0 x1 x2->A2 x0 x1 x2->A3 x0 x1 x2->A4 x0 x1 x2->P):P:=aE h λ x0 h=>aE h λ x1 h=>aE h λ x2 h=>k x0 x1 x2 h.1 h.2.1 h.2.2.1 h.2.2.2.1 h.2.2.2.2
theorem Eeeeeaaa.{u0,u1,u2,u3}{sU:Sort u0}{s0:Sort u1}{tm:Sort u2}{Ak:Sort u3}{A0:sU->s0->tm->Ak->Prop}{A1:sU->s0->tm->Ak->Prop}{A2:sU->s0->tm->Ak->Prop}{A3:sU->s0->tm->Ak->Prop}(h:∃ x0 x1 x2 x3,A0 x0 x1 x2 x3/\A1 x0 x1 x2 x3/\A2 x0 x1 x2 x3/\A3 x0 x1 x2 x3)(k:∀ x0 x1 x2 x3,A0 x0 x1 x2 x3->A1 x0 x1 x2 x3->A2 x0 x1 x2 x3->A3 x0 x1 x2 x3->P):P:=aE h λ x0 h=>aE h λ x1 h=>aE h λ x2 h=>aE h λ x3 h=>k x0 x1 x2 x3 h.1 h.2.1 h.2.2.1 h.2.2.2
theorem Eeeeeeaa.{u0,u1,u2,u3,u4}{sU:Sort u0}{s0:Sort u1}{tm:Sort u2}{Ak:Sort u3}{F3:Sort u4}{A0:sU->s0->tm->Ak->F3->Prop}{A1:sU->s0->tm->Ak->F3->Prop}{A2:sU->s0->tm->Ak->F3->Prop}(h:∃ x0 x1 x2 x3 x4,A0 x0 x1 x2 x3 x4/\A1 x0 x1 x2 x3 x4/\A2 x0 x1 x2 x3 x4)(k:∀ x0 x1 x2 x3 x4,A0 x0 x1 x2 x3 x4->A1 x0 x1 x2 x3 x4->A2 x0 x1 x2 x3 x4->P):P:=aE h λ x0 h=>aE h λ x1 h=>aE h λ x2 h=>aE h λ x3 h=>aE h λ x4 h=>k x0 x1 x2 x3 x4 h.1 h.2.1 h.2.2
theorem Eeeeeaaaa.{u0,u1,u2,u3}{sU:Sort u0}{s0:Sort u1}{tm:Sort u2}{Ak:Sort u3}{A0:sU->s0->tm->Ak->Prop}{A1:sU->s0->tm->Ak->Prop}{A2:sU->s0->tm->Ak->Prop}{A3:sU->s0->tm->Ak->Prop}{A4:sU->s0->tm->Ak->Prop}(h:∃ x0 x1 x2 x3,A0 x0 x1 x2 x3/\A1 x0 x1 x2 x3/\A2 x0 x1 x2 x3/\A3 x0 x1 x2 x3/\A4 x0 x1 x2 x3)(k:∀ x0 x1 x2 x3,A0 x0 x1 x2 x3->A1 x0 x1 x2 x3->A2 x0 x1 x2 x3->A3 x0 x1 x2 x3->A4 x0 x1 x2 x3->P):P:=aE h λ x0 h=>aE h λ x1 h=>aE h λ x2 h=>aE h λ x3 h=>k x0 x1 x2 x3 h.1 h.2.1 h.2.2.1 h.2.2.2.1 h.2.2.2.2
theorem Eeeeaaaaa.{u0,u1,u2}{sU:Sort u0}{s0:Sort u1}{tm:Sort u2}{A0:sU->s0->tm->Prop}{A1:sU->s0->tm->Prop}{A2:sU->s0->tm->Prop}{A3:sU->s0->tm->Prop}{A4:sU->s0->tm->Prop}{A5:sU->s0->tm->Prop}(h:∃ x0 x1 x2,A0 x0 x1 x2/\A1 x0 x1 x2/\A2 x0 x1 x2/\A3 x0 x1 x2/\A4 x0 x1 x2/\A5 x0 x1 x2)(k:∀ x0 x1 x2,A0 x0 x1 x2->A1 x0 x1 x2->A2 x0 x1 x2->A3 x0 x1 x2->A4 x0 x1 x2->A5 x0 x1 x2->P):P:=aE h λ x0 h=>aE h λ x1 h=>aE h λ x2 h=>k x0 x1 x2 h.1 h.2.1 h.2.2.1 h.2.2.2.1 h.2.2.2.2.1 h.2.2.2.2.2
structure Tup (h:aP)(a:ai)(vs:Array ag):Prop where
 t:i6 h a vs
 p:∀ o,h.get? a=some o->o.dict=none
theorem Tup.new {h:aP}{a:ai}(g:h.get? a=some {cls:=.type "tuple",data:=.seq vs}):Tup h a vs :=
 ⟨⟨_,g,rfl,_,rfl⟩,λ o e=>by rw [g] at e;(injection e with y1y0;subst y1y0);rfl⟩
mutual
inductive VP (h:aP)(φ:ai->Prop):ag->ab->Prop
 | none:VP h φ .none .none
 | bool (b:Bool):VP h φ (.bool b) (.bool b)
 | int (i:Int) (t:iT):VP h φ (.int i t) (.int i)
 | str (x:aK) (t:iT):bq x=true->VP h φ (.str x t) (.str x)
 | tup {a:ai} {vs:List ag} {xs:List ab}:φ a->Tup h a vs.toArray->VPs h φ vs xs->VP h φ (.ref a) (.tuple xs)
 | lst {a:ai} {vs:List ag} {xs:List ab}:φ a->h.IsList a vs.toArray->VPs h φ vs xs->VP h φ (.ref a) (.list xs)
inductive VPs (h:aP)(φ:ai->Prop):List ag->List ab->Prop
 | nil:VPs h φ [] []
 | cons {v:ag} {vs:List ag} {x:ab} {xs:List ab}:VP h φ v x->VPs h φ vs xs->VPs h φ (v::vs) (x::xs)
end
theorem i6.eqAt {h:aP}{a:ai}(x:i6 h a vs)(e:h'.get? a=h.get? a):i6 h' a vs :=
 let ⟨o,ho,r⟩:=x;⟨o,e.trans ho,r⟩
theorem Tup.eqAt {h:aP}{a:ai}(x:Tup h a vs)(e:h'.get? a=h.get? a):Tup h' a vs :=
 ⟨i6.eqAt x.t e,λ o q=>x.p o (e▸q)⟩
theorem IsList.eqAt {h:aP}{a:ai}(x:h.IsList a vs)(e:h'.get? a=h.get? a):h'.IsList a vs :=
 let ⟨o,ho,r⟩:=x;⟨o,e.trans ho,r⟩
theorem VP.mono {h:aP}(k:∀ a,φ a->j' a/\h'.get? a=h.get? a){v:ag}{x:ab}(V:VP h φ v x):VP h' j' v x :=
 @VP.rec h φ (λ v x _=>VP h' j' v x) (λ vs xs _=>VPs h' j' vs xs) .none .bool .int .str (λ f ht _ r=>.tup (k _ f).1 (Tup.eqAt ht (k _ f).2) r) (λ f ht _ r=>.lst (k _ f).1 (IsList.eqAt ht (k _ f).2) r) .nil (λ _ _ p r=>.cons p r) v x V
theorem VPs.mono {h:aP}(k:∀ a,φ a->j' a/\h'.get? a=h.get? a){vs:List ag}{xs:List ab}(V:VPs h φ vs xs):VPs h' j' vs xs :=
 @VPs.rec h φ (λ v x _=>VP h' j' v x) (λ vs xs _=>VPs h' j' vs xs) .none .bool .int .str (λ f ht _ r=>.tup (k _ f).1 (Tup.eqAt ht (k _ f).2) r) (λ f ht _ r=>.lst (k _ f).1 (IsList.eqAt ht (k _ f).2) r) .nil (λ _ _ p r=>.cons p r) vs xs V
section
variable {h:aP}{φ:ai->Prop}{v:ag}{x:ab}{vs ws:List ag}{xs ys:List ab}
def VPI (h:aP)(φ:ai->Prop)(v:ag)(x:ab):Prop:=@bA (λ _=>Prop) x (v=.none) (λ b=>v=.bool b) (λ i=>∃ t,v=.int i t) (λ x=>∃ t,v=.str x t/\bq x=true)
 (λ xs=>∃ a vs,v=.ref a/\φ a/\h.IsList a vs.toArray/\VPs h φ vs xs) (λ xs=>∃ a vs,v=.ref a/\φ a/\Tup h a vs.toArray/\VPs h φ vs xs) (λ _=>False)
def zEf (h:aP)(φ:ai->Prop)(vs:List ag)(xs:List ab):Prop:=@bE ab (λ _=>Prop) xs (vs=[]) λ x xs=>∃ v r,vs=v::r/\VP h φ v x/\VPs h φ r xs
theorem VP.inv (V:VP h φ v x):VPI h φ v x :=
 @VP.rec h φ (λ v x _=>VPI h φ v x) (λ _ _ _=>True) rfl (λ _=>rfl) (λ _ t=>⟨t,rfl⟩) (λ _ t o=>⟨t,rfl,o⟩) (λ f t r _=>⟨_,_,rfl,f,t,r⟩) (λ f t r _=>⟨_,_,rfl,f,t,r⟩) trivial (λ _ _ _ _=>trivial) v x V
theorem VPs.inv (V:VPs h φ vs xs):zEf h φ vs xs :=
 @VPs.rec h φ (λ _ _ _=>True) (λ vs xs _=>zEf h φ vs xs) trivial (λ _=>trivial) (λ _ _=>trivial) (λ _ _ _=>trivial) (λ _ _ _ _=>trivial) (λ _ _ _ _=>trivial) rfl (λ p r _ _=>⟨_,_,rfl,p,r⟩) vs xs V
theorem VP.inone (V:VP h φ v .none):v=.none:=V.inv
theorem VP.ibool {b:Bool}(V:VP h φ v (.bool b)):v=.bool b:=V.inv
theorem VP.iint (V:VP h φ v (.int i)):∃ t,v=.int i t:=V.inv
theorem VP.istr {x:aK}(V:VP h φ v (.str x)):∃ t,v=.str x t/\bq x=true:=V.inv
theorem VP.itup (V:VP h φ v (.tuple xs)):∃ a vs,v=.ref a/\φ a/\Tup h a vs.toArray/\VPs h φ vs xs:=V.inv
theorem VP.ilst (V:VP h φ v (.list xs)):∃ a vs,v=.ref a/\φ a/\h.IsList a vs.toArray/\VPs h φ vs xs:=V.inv
theorem VP.idict {es:List (ab×ab)}(V:VP h φ v (.dict es)):False:=V.inv
theorem VPs.inil (V:VPs h φ vs []):vs=[]:=V.inv
theorem VPs.icons (V:VPs h φ vs (x::xs)):∃ v r,vs=v::r/\VP h φ v x/\VPs h φ r xs:=V.inv
@[elab_as_elim] theorem VP.mint (V:VP h φ v (.int i))(k:∀ t,motive (.int i t)):motive v:=Ee V.iint λ t e=>e▸k t
@[elab_as_elim] theorem VP.mstr {x:aK}(V:VP h φ v (.str x))(k:∀ t,bq x=true->motive (.str x t)):motive v:=Eea V.istr λ t e q=>e▸k t q
@[elab_as_elim] theorem VP.mtup (V:VP h φ v (.tuple xs))(k:∀ a vs,φ a->Tup h a vs.toArray->VPs h φ vs xs->motive (.ref a)):motive v:=Eeeaaa V.itup λ a vs e f t r=>e▸k a vs f t r
@[elab_as_elim] theorem VP.mlst (V:VP h φ v (.list xs))(k:∀ a vs,φ a->h.IsList a vs.toArray->VPs h φ vs xs->motive (.ref a)):motive v:=Eeeaaa V.ilst λ a vs e f t r=>e▸k a vs f t r
@[elab_as_elim] theorem VPs.mcons {motive:List ag->Prop}(V:VPs h φ vs (x::xs))(k:∀ v r,VP h φ v x->VPs h φ r xs->motive (v::r)):motive vs:=Eeeaa V.icons λ v r e p q=>e▸k v r p q
theorem VP.readT {a:ai}(ht:Tup h a vs.toArray)(r:∃ as,bL h vs xs as):∃ as,eu h (.ref a) (.tuple xs) as:=by
 obtain ⟨o,ho,hc,n,hd⟩:=ht.t
 exact Ee r λ as q=>⟨as,.tuple ho hc hd q⟩
theorem VP.readL {a:ai}(ht:h.IsList a vs.toArray)(r:∃ as,bL h vs xs as):∃ as,eu h (.ref a) (.list xs) as:=by
 obtain ⟨o,ho,hc,n,hd⟩:=ht
 exact Ee r λ as q=>⟨_,.list ho hc hd q⟩
theorem VP.reads (V:VP h φ v x):∃ as,eu h v x as :=
 @VP.rec h φ (λ v x _=>∃ as,eu h v x as) (λ vs xs _=>∃ as,bL h vs xs as) ⟨_,.none⟩ (λ b=>⟨_,.bool b⟩) (λ i t=>⟨_,.int i t⟩) (λ x t _=>⟨_,.str x t⟩) (λ _ t _ r=>VP.readT t r) (λ _ t _ r=>VP.readL t r) ⟨_,.nil⟩ (λ _ _ p r=>Ee p λ _ q=>Ee r λ _ q'=>⟨_,.cons q q'⟩) v x V
theorem VPs.reads (V:VPs h φ vs xs):∃ as,bL h vs xs as :=
 @VPs.rec h φ (λ v x _=>∃ as,eu h v x as) (λ vs xs _=>∃ as,bL h vs xs as) ⟨_,.none⟩ (λ b=>⟨_,.bool b⟩) (λ i t=>⟨_,.int i t⟩) (λ x t _=>⟨_,.str x t⟩) (λ _ t _ r=>VP.readT t r) (λ _ t _ r=>VP.readL t r) ⟨_,.nil⟩ (λ _ _ p r=>Ee p λ _ q=>Ee r λ _ q'=>⟨_,.cons q q'⟩) vs xs V
theorem uU {x:ab}{xs:List ab}(p:x.canLay0=true)(r:ew xs=true):ew (x::xs)=true:=(bG ..).mpr ⟨p,r⟩
theorem VP.canLay (V:VP h φ v x):x.canLay0=true :=
 @VP.rec h φ (λ _ x _=>x.canLay0=true) (λ _ xs _=>ew xs=true) rfl (λ _=>rfl) (λ _ _=>rfl) (λ _ _ o=>o) (λ _ _ _ r=>r) (λ _ _ _ r=>r) rfl (λ _ _ p r=>uU p r) v x V
theorem VPs.canLay (V:VPs h φ vs xs):ew xs=true :=
 @VPs.rec h φ (λ _ x _=>x.canLay0=true) (λ _ xs _=>ew xs=true) rfl (λ _=>rfl) (λ _ _=>rfl) (λ _ _ o=>o) (λ _ _ _ r=>r) (λ _ _ _ r=>r) rfl (λ _ _ p r=>uU p r) vs xs V
theorem VPs.ind {Q:List ag->List ab->Prop}(n:Q [] [])(c:∀ {v vs x xs},VP h φ v x->VPs h φ vs xs->Q vs xs->Q (v::vs) (x::xs))(V:VPs h φ vs xs):Q vs xs :=
 @VPs.rec h φ (λ _ _ _=>True) (λ vs xs _=>Q vs xs) trivial (λ _=>trivial) (λ _ _=>trivial) (λ _ _ _=>trivial) (λ _ _ _ _=>trivial) (λ _ _ _ _=>trivial) n (λ p r _ q=>c p r q) vs xs V
theorem VPs.length (p:VPs h φ vs xs):vs.length=xs.length:=p.ind (Q:=λ vs xs=>vs.length=xs.length) rfl λ _ _ ih=>congrArg (· + 1) ih
theorem VPs.append (p:VPs h φ vs xs)(q:VPs h φ ws ys):VPs h φ (vs++ws) (xs++ys):=p.ind (Q:=λ vs xs=>VPs h φ (vs++ws) (xs++ys)) q λ a _ ih=>.cons a ih
theorem Vc {α:Type}{a b:α}(e:some a=some b):a=b:=il e
theorem zCq {α:Type}{a:α}(e:none=some a):P:=Option.noConfusion rfl (heq_of_eq e)
theorem VPs.get (p:VPs h φ vs xs):∀ {k:Nat} {x:ab},xs[k]?=some x->∃ v,vs[k]?=some v/\VP h φ v x :=
 p.ind (Q:=λ vs xs=>∀ {k:Nat} {x:ab},xs[k]?=some x->∃ v,vs[k]?=some v/\VP h φ v x) (λ e=>zCq e) λ {v _ _ _} a _ ih k=>lx (λ e=>⟨v,rfl,Vc e▸a⟩) (λ k _ e=>ih (k:=k) e) k
theorem VPs.take (p:VPs h φ vs xs):∀ (n:Nat),VPs h φ (vs.take n) (xs.take n) :=
 p.ind (Q:=λ vs xs=>∀ (n:Nat),VPs h φ (vs.take n) (xs.take n)) (λ n=>lx .nil (λ _ _=>.nil) n) λ a _ ih n=>lx .nil (λ n _=>.cons a (ih n)) n
theorem VP.handed (V:VP h φ v x):lB v=true :=
 @VP.rec h φ (λ v _ _=>lB v=true) (λ _ _ _=>True) rfl (λ _=>rfl) (λ _ _=>rfl) (λ _ _ _=>rfl) (λ _ _ _ _=>rfl) (λ _ _ _ _=>rfl) trivial (λ _ _ _ _=>trivial) v x V
end
end Mine.Internal
namespace Mine.Internal
open PySem PySem.Calls PyProof.Rows PySem.W
set_option tactic.hygienic false
variable {x:ab}{i b:Int}{P Q:Prop}{n k j:Nat}{r:List Int}{φ j':ai->Prop}{μ sz:List ai}{v:ag}{h':aP}{motive:ag->Prop}{K:Int->Prop}
inductive Bi where
 | len | isinst | abs | max | min | sum | sorted | zip
 | tuple | list | int | bool | dict | set | range
 deriving DecidableEq
inductive D where
 | p (x:ab)
 | obj (i:Nat)
 | fn (a:ai)
 | bi (b:Bi)
 | tup (ds:List D)
 | rng (a b:Int)
 | zp (d e:D) (xs ys:List ab)
variable {d:D}
inductive Ky where
 | int (i:Int)
 | str (x:aK)
 | nil
 | cons (a r:Ky)
 deriving DecidableEq
mutual
noncomputable def Za:ab->Option Ky
 | .int i=>some (.int i)
 | .bool b=>some (.int (cond b 1 0))
 | .str x=>some (.str x)
 | .tuple xs=>keyDs xs
 | _=>none
noncomputable def keyDs:List ab->Option Ky
 | []=>some .nil
 | x::xs=>(Za x).bind λ a=>(keyDs xs).bind λ r=>some (.cons a r)
end
theorem zGU:keyDs []=some .nil:=rfl
theorem Zh {xs:List ab}:keyDs (x::xs)=(Za x).bind λ a=>(keyDs xs).bind λ r=>some (.cons a r):=rfl
theorem zI1 :Za (.int i)=some (.int i):=rfl
theorem zIl {b:Bool}:Za (.bool b)=some (.int (cond b 1 0)):=rfl
theorem zIg {x:aK}:Za (.str x)=some (.str x):=rfl
theorem J0 {xs:List ab}:Za (.tuple xs)=keyDs xs:=rfl
inductive MO where
 | lst (xs:List ab)
 | idict (es:List (Int×D))
 | rdict (es:List (Nat×D))
 | sdict (es:List (Nat×D))
 | tdict (es:List (Ky×D))
 | inst (C:ai) (ns:Nat)
 | dead
 | iset (l:List Int)
abbrev Rho:=List (Option D)
abbrev zA:=List MO
inductive Pt where
 | nm (i:Nat)
 | tup (ps:List Pt)
mutual
inductive Ex where
 | nm (i:Nat)
 | gl (g:Nat)
 | c (d:ab)
 | tup (es:List Ex)
 | lst (m:Bool) (es:List Ex)
 | dct (kind:Nat) (ks:List Nat) (es:List Ex)
 | bin (op:lC) (a b:Ex)
 | neg (a:Ex)
 | not (a:Ex)
 | and (es:List Ex)
 | or (es:List Ex)
 | cmp (a:Ex) (op:ku) (b:Ex)
 | cmp2 (a:Ex) (op:ku) (b:Ex) (t0:ku) (c:Ex)
 | ite (c a b:Ex)
 | call (m:Bool) (f:Ex) (args:List Ex)
 | meth (o:Ex) (k:Nat) (args:List Ex)
 | attr (o:Ex) (k:Nat)
 | sub (o i:Ex)
 | subk (o:Ex) (k:Nat)
 | upto (o hi:Ex)
 | comp (m:Bool) (n:Nat) (sT:Ex) (t:Pt) (it:Ex) (ifs:List Ex) (gens:List Gn)
 | zip (a b:Ex)
 | fstr (pre:aK) (e:Ex)
inductive Gn where
 | mk (t:Pt) (it:Ex) (ifs:List Ex)
end
inductive Tg where
 | pt (p:Pt)
 | attr (o:Ex) (k:Nat)
 | sub (o i:Ex)
 | subk (o:Ex) (k:Nat)
 | tup (ts:List Tg)
inductive St where
 | expr (e:Ex)
 | asg (t:Tg) (e:Ex)
 | ite (c:Ex) (a b:List St)
 | for (t:Pt) (it:Ex) (body:List St)
 | while (c:Ex) (body:List St)
 | ret (e:Ex)
 | retF (e:Ex)
 | retN
 | cont
 | raise
inductive Fl where
 | next
 | cont
 | ret (d:D)
structure Tabs where
 glob:List (aK×D)
 names:List aK
 meth:List ((ai×Nat)×ai)
 classes:List ai
 gds:List ((ai×aK)×aK)
noncomputable def zCt:Nat:=0
noncomputable def zFX:Nat:=1
noncomputable def Ur:Nat:=2
noncomputable def zEW:Nat:=3
noncomputable def zBN:Nat:=4
noncomputable def zE6:Nat:=5
def Br (b:Bool)(P Q:Prop):Prop:=match b with
 | true=>P
 | false=>Q
theorem Br.t {b:Bool}(x:Br b P Q)(h:b=true):P:=@Eq.mp (Br b P Q) (Br true P Q) (congrArg (λ b=>Br b P Q) h) x
theorem Br.f {b:Bool}(x:Br b P Q)(h:b=false):Q:=@Eq.mp (Br b P Q) (Br false P Q) (congrArg (λ b=>Br b P Q) h) x
def Is {α:Type}(o:Option α)(K:α->Prop):Prop:=match o with
 | some x=>K x
 | none=>False
theorem Is.h {α:Type}{o:Option α}{K:α->Prop}(h:Is o K):∃ x,o=some x/\K x:=by
 cases o with
 | none=>exact h.elim
 | some x=>exact ⟨x,rfl,h⟩
theorem Is.mk {α:Type}{o:Option α}{K:α->Prop}{x:α}(e:o=some x)(h:K x):Is o K:=by subst e;exact h
noncomputable def zA9 (x:ab):Bool:=@bA (λ _=>Bool) x true (λ _=>true) (λ _=>true) (λ _=>true) (λ _=>false) (λ _=>false) (λ _=>false)
def Sh (x y:ab):Prop:=min x.depth y.depth<=64
theorem Sh.h {y:ab}(h:Sh x y):min x.depth y.depth<=64:=h
def Fit (i:Int):Prop:=i.natAbs<2 ^ 100000
abbrev Few (n:Nat):Prop:=n<=100000
def Kd (x:ab):Prop:=x.depth<=6
def Nd (l:List Int):Prop:=l.Nodup
abbrev Lt64 (n:Nat):Prop:=n<64
structure Nz (i:Int):Prop where
 h:i≠0
 lo:i.natAbs<2 ^ 9000
structure Pw (a b:Int):Prop where
 h:0<=b
 fit:(iW a:Int) * b<=2 ^ 27
abbrev Rg (a b:Int):Prop:=-4611686018427387904<=a/\a<4611686018427387904/\-4611686018427387904<=b/\b<4611686018427387904
abbrev Sm (i:Int):Prop:=-9223372036854775808<=i/\i<9223372036854775808
theorem Few.h (h:Few n):n<=100000:=h
theorem Fit.h (h:Fit i):i.natAbs<2 ^ 100000:=h
theorem Kd.h (h:Kd x):x.depth<=6:=h
theorem Lt64.h (h:Lt64 n):n<64:=h
theorem Rg.h {a:Int}(h:Rg a b):-(2 ^ 62)<=a/\a<2 ^ 62/\-(2 ^ 62)<=b/\b<2 ^ 62:=h
theorem Sm.h (h:Sm i):-(2 ^ 63)<=i/\i<2 ^ 63:=h
theorem nn {α:Type}{x:α}(h:none=some x):P:=nomatch h
theorem ob {α β:Type}{o:Option α}{f:α->Option β}{c:β}(h:o.bind f=some c):∃ x,o=some x/\f x=some c:=by
 cases o with
 | none=>exact nn h
 | some x=>exact ⟨x,rfl,h⟩
noncomputable def gd {α:Type}(b:Bool)(o:Option α):Option α:=match b with
 | true=>o
 | false=>none
theorem og {α:Type}{b:Bool}{o:Option α}{c:α}(h:gd b o=some c):b=true/\o=some c:=by
 cases b with
 | true=>exact ⟨rfl,h⟩
 | false=>exact nn h
theorem so {α:Type}{x y:α}(h:some x=some y):x=y:=il h
noncomputable def look {α:Type}(k:Nat):List (Nat×α)->Option α
 | []=>none
 | (j,d)::r=>match aZ j k with
  | true=>some d
  | false=>look k r
theorem zCE {α:Type}:look k ([]:List (Nat×α))=none:=rfl
theorem zDP {α:Type}{d:α}{r:List (Nat×α)}:look k ((j,d)::r)=(match aZ j k with | true=>some d | false=>look k r):=rfl
noncomputable def put {α:Type}(k:Nat)(d:α):List (Nat×α)->List (Nat×α)
 | []=>[(k,d)]
 | (j,e)::r=>match aZ j k with
  | true=>(j,d)::r
  | false=>(j,e)::put k d r
theorem XS {α:Type}{d:α}:put k d []=[(k,d)]:=rfl
theorem Xq {α:Type}{d e:α}{r:List (Nat×α)}:put k d ((j,e)::r)=(match aZ j k with | true=>(j,d)::r | false=>(j,e)::put k d r):=rfl
noncomputable def za (k:Int)(es:List (Int×D)):Option D:=(es.find? λ e=>decide (e.1=k)).map (·.2)
noncomputable def QX (k:Int)(d:D):List (Int×D)->List (Int×D)
 | []=>[(k,d)]
 | e::r=>if e.1=k then (e.1,d)::r else e::QX k d r
theorem WZ {k:Int}:QX k d []=[(k,d)]:=rfl
theorem uP {k:Int}{e:Int×D}{r:List (Int×D)}:QX k d (e::r)=if e.1=k then (e.1,d)::r else e::QX k d r:=rfl
noncomputable def z5 (k:Ky)(es:List (Ky×D)):Option D:=(es.find? λ e=>decide (e.1=k)).map (·.2)
noncomputable def Zc (x:ab):Option (List ab):=@bA (λ _=>Option (List ab)) x none (λ _=>none) (λ _=>none) (λ _=>none) some some (λ _=>none)
noncomputable def ZQ (mo:MO):Option (List ab):=@MO.casesOn (λ _=>Option (List ab)) mo some (λ _=>none) (λ _=>none) (λ _=>none) (λ _=>none) (λ _ _=>none) none (λ _=>none)
noncomputable def zy (σ:zA)(d:D):Option (List ab):=@D.casesOn (λ _=>Option (List ab)) d Zc (λ i=>σ[i]?.bind ZQ) (λ _=>none) (λ _=>none) (λ _=>none) (λ _ _=>none) (λ _ _ _ _=>none)
mutual
noncomputable def QD (σ:zA):D->Option ab
 | .p x=>some x
 | .obj i=>(σ[i]?.bind ZQ).bind λ xs=>some (.list xs)
 | .tup ds=>(derefs σ ds).bind λ xs=>some (.tuple xs)
 | _=>none
noncomputable def derefs (σ:zA):List D->Option (List ab)
 | []=>some []
 | d::ds=>(QD σ d).bind λ x=>(derefs σ ds).bind λ xs=>some (x::xs)
end
noncomputable def isP (d:D):Option ab:=@D.casesOn (λ _=>Option ab) d some (λ _=>none) (λ _=>none) (λ _=>none) (λ _=>none) (λ _ _=>none) (λ _ _ _ _=>none)
noncomputable def Xk (d:D):Option Nat:=@D.casesOn (λ _=>Option Nat) d (λ _=>none) some (λ _=>none) (λ _=>none) (λ _=>none) (λ _ _=>none) (λ _ _ _ _=>none)
noncomputable def zEc:List D->Option (ab×Nat)
 | []=>none
 | d::r=>match r with
  | []=>none
  | e::r=>match r with
   | []=>(isP d).bind λ x=>(Xk e).bind λ i=>some (x,i)
   | _::_=>none
noncomputable def Yl (σ:zA):D->Option (ab×zA)
 | .p x=>some (x,σ)
 | .obj i=>(σ[i]?.bind ZQ).bind λ xs=>some (.list xs,σ.set i .dead)
 | .tup ds=>(zEc ds).bind λ p=>(σ[p.2]?.bind ZQ).bind λ xs=>some (.tuple [p.1,.list xs],σ.set p.2 .dead)
 | _=>none
noncomputable def QU:List D->Option (List ab)
 | []=>some []
 | d::ds=>(isP d).bind λ x=>(QU ds).bind λ xs=>some (x::xs)
noncomputable def jp (ds:List D):Option (List ab)->D
 | some xs=>.p (.tuple xs)
 | none=>.tup ds
noncomputable def YS (ds:List D):D:=jp ds (QU ds)
noncomputable def idx (n:Nat):Int->Option Nat
 | .ofNat k=>some k
 | .negSucc k=>match eR k n with
  | true=>some (n - (k + 1))
  | false=>none
noncomputable def isInt (x:ab):Option Int:=@bA (λ _=>Option Int) x none (λ _=>none) some (λ _=>none) (λ _=>none) (λ _=>none) (λ _=>none)
noncomputable def jS (x:ab):Option (List ab):=@bA (λ _=>Option (List ab)) x none (λ _=>none) (λ _=>none) (λ _=>none) (λ _=>none) some (λ _=>none)
noncomputable def ints?:List ab->Option (List Int)
 | []=>some []
 | x::r=>(isInt x).bind λ i=>(ints? r).bind λ l=>some (i::l)
theorem zGG:ints? []=some []:=rfl
theorem zCR {r:List ab}:ints? (x::r)=(isInt x).bind λ i=>(ints? r).bind λ l=>some (i::l):=rfl
noncomputable def YF {α:Type}(l:List α):Option (α×α):=@bE α (λ _=>Option (α×α)) l none λ x r=>@bE α (λ _=>Option (α×α)) r none λ y r=>@bE α (λ _=>Option (α×α)) r (some (x,y)) λ _ _=>none
noncomputable def Zx:List ab->Option (List (Int×D))
 | []=>some []
 | x::r=>(jS x).bind λ xs=>(YF xs).bind λ p=>(isInt p.1).bind λ k=>(Zx r).bind λ l=>some ((k,.p p.2)::l)
noncomputable def z8:Int->List Int->Int
 | a,[]=>a
 | a,b::r=>z8 (if a<b then b else a) r
theorem uB {a:Int}:z8 a []=a:=rfl
theorem jh {a:Int}:z8 a (b::r)=z8 (if a<b then b else a) r:=rfl
noncomputable def ZK:Int->List Int->Int
 | a,[]=>a
 | a,b::r=>ZK (if b<a then b else a) r
theorem uj {a:Int}:ZK a []=a:=rfl
theorem UZ {a:Int}:ZK a (b::r)=ZK (if b<a then b else a) r:=rfl
noncomputable def qN (a:Int):List Int->List Int
 | []=>[a]
 | b::r=>if a<=b then a::b::r else b::qN a r
theorem UV {a:Int}:qN a []=[a]:=rfl
theorem QW {a:Int}:qN a (b::r)=if a<=b then a::b::r else b::qN a r:=rfl
noncomputable def zg:List Int->List Int
 | []=>[]
 | a::r=>qN a (zg r)
theorem zGx:zg []=[]:=rfl
theorem YW {a:Int}:zg (a::r)=qN a (zg r):=rfl
noncomputable def zT {α:Type}(step:ab->α->(α->Prop)->Prop):List ab->α->(α->Prop)->Prop
 | [],a,Q=>Q a
 | x::xs,a,Q=>step x a λ a'=>zT step xs a' Q
theorem zH7 {α:Type}{step:ab->α->(α->Prop)->Prop}{a:α}{Q:α->Prop}:zT step [] a Q=Q a:=rfl
theorem zHq {α:Type}{step:ab->α->(α->Prop)->Prop}{xs:List ab}{a:α}{Q:α->Prop}:zT step (x::xs) a Q=step x a λ a'=>zT step xs a' Q:=rfl
mutual
noncomputable def Ze:Pt->ab->Rho->Option Rho
 | .nm i,x,ρ=>some (ρ.set i (some (.p x)))
 | .tup ps,x,ρ=>(jS x).bind λ xs=>bindPs ps xs ρ
noncomputable def bindPs:List Pt->List ab->Rho->Option Rho
 | [],xs,ρ=>match xs with
  | []=>some ρ
  | _::_=>none
 | p::ps,xs,ρ=>match xs with
  | []=>none
  | x::xs=>(Ze p x ρ).bind λ sB=>bindPs ps xs sB
end
structure Cx where
 prog:bR
 w:b4
 K:gf
 h₀:aP
 mg:aK->Option ag
 mb:aK->Option ag
noncomputable def qu:Bi->ag
 | .len=>.builtin "len"
 | .isinst=>.builtin "isinstance"
 | .abs=>.builtin "abs"
 | .max=>.builtin "max"
 | .min=>.builtin "min"
 | .sum=>.builtin "sum"
 | .sorted=>.builtin "sorted"
 | .zip=>.type "zip"
 | .tuple=>.type "tuple"
 | .list=>.type "list"
 | .int=>.type "int"
 | .bool=>.type "bool"
 | .dict=>.type "dict"
 | .set=>.type "set"
 | .range=>.type "range"
mutual
inductive VD (h:aP)(φ:ai->Prop)(μ:List ai):ag->D->Prop
 | p {v:ag} {x:ab}:VP h φ v x->VD h φ μ v (.p x)
 | obj {i:Nat} {a:ai}:μ[i]?=some a->VD h φ μ (.ref a) (.obj i)
 | fn (a:ai):VD h φ μ (.ref a) (.fn a)
 | bi (b:Bi):VD h φ μ (qu b) (.bi b)
 | tup {a:ai} {vs:List ag} {ds:List D}:φ a->Tup h a vs.toArray->VDs h φ μ vs ds->VD h φ μ (.ref a) (.tup ds)
 | rng {r:ai} {a b:Int} {t u v:iT}:φ r->gD h r a b 1 t u v->VD h φ μ (.ref r) (.rng a b)
inductive VDs (h:aP)(φ:ai->Prop)(μ:List ai):List ag->List D->Prop
 | nil:VDs h φ μ [] []
 | cons {v:ag} {vs:List ag} {d:D} {ds:List D}:VD h φ μ v d->VDs h φ μ vs ds->VDs h φ μ (v::vs) (d::ds)
end
theorem uY (b:Bi):lB (qu b)=true:=by cases b <;> rfl
theorem VD.handed {h:aP}(p:VD h φ μ v d):lB v=true :=
 @VD.rec h φ μ (λ v _ _=>lB v=true) (λ _ _ _=>True) (λ q=>q.handed) (λ _=>rfl) (λ _=>rfl) uY (λ _ _ _ _=>rfl) (λ _ _=>rfl) trivial (λ _ _ _ _=>trivial) v d p
theorem gD.eqAt {h:aP}{r:ai}{a:Int}{t u v:iT}(x:gD h r a b 1 t u v)(e:h'.get? r=h.get? r):gD h' r a b 1 t u v:=by
 unfold gD at x ⊢
 erw [e];exact x
theorem VD.mono {h:aP}(k:∀ a,φ a->j' a/\h'.get? a=h.get? a)(m:∀ (i:Nat) (a:ai),μ[i]?=some a->sz[i]?=some a)(V:VD h φ μ v d):VD h' j' sz v d :=
 @VD.rec h φ μ (λ v d _=>VD h' j' sz v d) (λ vs ds _=>VDs h' j' sz vs ds) (λ q=>.p (q.mono k)) (λ e=>.obj (m _ _ e)) .fn .bi (λ f ht _ r=>.tup (k _ f).1 (Tup.eqAt ht (k _ f).2) r) (λ f ht=>.rng (k _ f).1 (gD.eqAt ht (k _ f).2)) .nil (λ _ _ p r=>.cons p r) v d V
theorem VDs.mono {h:aP}(k:∀ a,φ a->j' a/\h'.get? a=h.get? a)(m:∀ (i:Nat) (a:ai),μ[i]?=some a->sz[i]?=some a){vs:List ag}{ds:List D}(V:VDs h φ μ vs ds):VDs h' j' sz vs ds :=
 @VDs.rec h φ μ (λ v d _=>VD h' j' sz v d) (λ vs ds _=>VDs h' j' sz vs ds) (λ q=>.p (q.mono k)) (λ e=>.obj (m _ _ e)) .fn .bi (λ f ht _ r=>.tup (k _ f).1 (Tup.eqAt ht (k _ f).2) r) (λ f ht=>.rng (k _ f).1 (gD.eqAt ht (k _ f).2)) .nil (λ _ _ p r=>.cons p r) vs ds V
section
variable {h:aP}{φ:ai->Prop}{μ:List ai}{v:ag}{vs:List ag}{d:D}{ds:List D}
def VDI (h:aP)(φ:ai->Prop)(μ:List ai)(v:ag)(d:D):Prop:=@D.casesOn (λ _=>Prop) d (λ x=>VP h φ v x) (λ i=>∃ a,v=.ref a/\μ[i]?=some a) (λ a=>v=.ref a) (λ b=>v=qu b)
 (λ ds=>∃ a vs,v=.ref a/\φ a/\Tup h a vs.toArray/\VDs h φ μ vs ds) (λ a b=>∃ r t u w,v=.ref r/\φ r/\gD h r a b 1 t u w) (λ _ _ _ _=>False)
def zDS (h:aP)(φ:ai->Prop)(μ:List ai)(vs:List ag)(ds:List D):Prop:=@bE D (λ _=>Prop) ds (vs=[]) λ d ds=>∃ v r,vs=v::r/\VD h φ μ v d/\VDs h φ μ r ds
theorem VD.inv (V:VD h φ μ v d):VDI h φ μ v d :=
 @VD.rec h φ μ (λ v d _=>VDI h φ μ v d) (λ _ _ _=>True) (λ q=>q) (λ e=>⟨_,rfl,e⟩) (λ _=>rfl) (λ _=>rfl) (λ f t r _=>⟨_,_,rfl,f,t,r⟩) (λ f t=>⟨_,_,_,_,rfl,f,t⟩) trivial (λ _ _ _ _=>trivial) v d V
theorem VDs.inv (V:VDs h φ μ vs ds):zDS h φ μ vs ds :=
 @VDs.rec h φ μ (λ _ _ _=>True) (λ vs ds _=>zDS h φ μ vs ds) (λ _=>trivial) (λ _=>trivial) (λ _=>trivial) (λ _=>trivial) (λ _ _ _ _=>trivial) (λ _ _=>trivial) rfl (λ p r _ _=>⟨_,_,rfl,p,r⟩) vs ds V
theorem VD.ip (V:VD h φ μ v (.p x)):VP h φ v x:=V.inv
theorem VD.iobj {i:Nat}(V:VD h φ μ v (.obj i)):∃ a,v=.ref a/\μ[i]?=some a:=V.inv
theorem VD.ifn {a:ai}(V:VD h φ μ v (.fn a)):v=.ref a:=V.inv
theorem VD.ibi {b:Bi}(V:VD h φ μ v (.bi b)):v=qu b:=V.inv
theorem VD.itup (V:VD h φ μ v (.tup ds)):∃ a vs,v=.ref a/\φ a/\Tup h a vs.toArray/\VDs h φ μ vs ds:=V.inv
theorem VD.irng {a:Int}(V:VD h φ μ v (.rng a b)):∃ r t u w,v=.ref r/\φ r/\gD h r a b 1 t u w:=V.inv
theorem VD.izp {d e:D}{xs ys:List ab}(V:VD h φ μ v (.zp d e xs ys)):P:=lD V.inv
theorem VDs.inil (V:VDs h φ μ vs []):vs=[]:=V.inv
theorem VDs.icons (V:VDs h φ μ vs (d::ds)):∃ v r,vs=v::r/\VD h φ μ v d/\VDs h φ μ r ds:=V.inv
@[elab_as_elim] theorem VD.mobj {i:Nat}(V:VD h φ μ v (.obj i))(k:∀ a,μ[i]?=some a->motive (.ref a)):motive v:=Eea V.iobj λ a e q=>e▸k a q
@[elab_as_elim] theorem VD.mtup (V:VD h φ μ v (.tup ds))(k:∀ a vs,φ a->Tup h a vs.toArray->VDs h φ μ vs ds->motive (.ref a)):motive v:=Eeeaaa V.itup λ a vs e f t r=>e▸k a vs f t r
@[elab_as_elim] theorem VD.mrng {a:Int}(V:VD h φ μ v (.rng a b))(k:∀ r t u w,φ r->gD h r a b 1 t u w->motive (.ref r)):motive v:=Eeeeeaa V.irng λ r t u w e f q=>e▸k r t u w f q
@[elab_as_elim] theorem VDs.mcons {motive:List ag->Prop}(V:VDs h φ μ vs (d::ds))(k:∀ v r,VD h φ μ v d->VDs h φ μ r ds->motive (v::r)):motive vs:=Eeeaa V.icons λ v r e p q=>e▸k v r p q
end
def onP (d:D)(K:ab->Prop):Prop:=@D.casesOn (λ _=>Prop) d K (λ _=>False) (λ _=>False) (λ _=>False) (λ _=>False) (λ _ _=>False) (λ _ _ _ _=>False)
def onI (d:D)(K:Int->Prop):Prop:=onP d λ x=>Is (isInt x) K
def onT (d:D)(K:List ab->Prop):Prop:=onP d λ x=>Is (jS x) K
noncomputable def asL (x:ab):Option (List ab):=@bA (λ _=>Option (List ab)) x none (λ _=>none) (λ _=>none) (λ _=>none) some (λ _=>none) (λ _=>none)
noncomputable def vH (x:ab):Option Bool:=@bA (λ _=>Option Bool) x none some (λ _=>none) (λ _=>none) (λ _=>none) (λ _=>none) (λ _=>none)
def onL (d:D)(K:List ab->Prop):Prop:=onP d λ x=>Is (asL x) K
def isB (d:D)(K:Bool->Prop):Prop:=onP d λ x=>Is (vH x) K
def onO (d:D)(K:Nat->Prop):Prop:=@D.casesOn (λ _=>Prop) d (λ _=>False) K (λ _=>False) (λ _=>False) (λ _=>False) (λ _ _=>False) (λ _ _ _ _=>False)
theorem JM (h:isInt x=some i):x=.int i :=
 @bA (λ x=>isInt x=some i->x=.int i) x nn (λ _=>nn) (λ _ e=>congrArg bH (so e)) (λ _=>nn) (λ _=>nn) (λ _=>nn) (λ _=>nn) h
theorem jz {xs:List ab}(h:jS x=some xs):x=.tuple xs :=
 @bA (λ x=>jS x=some xs->x=.tuple xs) x nn (λ _=>nn) (λ _=>nn) (λ _=>nn) (λ _=>nn) (λ _ e=>congrArg ch (so e)) (λ _=>nn) h
theorem zFj {xs:List ab}(h:asL x=some xs):x=.list xs :=
 @bA (λ x=>asL x=some xs->x=.list xs) x nn (λ _=>nn) (λ _=>nn) (λ _=>nn) (λ _ e=>congrArg iC (so e)) (λ _=>nn) (λ _=>nn) h
theorem zDY {b:Bool}(h:vH x=some b):x=.bool b :=
 @bA (λ x=>vH x=some b->x=.bool b) x nn (λ _ e=>congrArg rC (so e)) (λ _=>nn) (λ _=>nn) (λ _=>nn) (λ _=>nn) (λ _=>nn) h
theorem zBQ {mo:MO}{xs:List ab}(h:ZQ mo=some xs):mo=.lst xs :=
 @MO.casesOn (λ mo=>ZQ mo=some xs->mo=.lst xs) mo (λ _ e=>congrArg MO.lst (so e)) (λ _=>nn) (λ _=>nn) (λ _=>nn) (λ _=>nn) (λ _ _=>nn) nn (λ _=>nn) h
theorem Xn (h:isP d=some x):d=.p x :=
 @D.casesOn (λ d=>isP d=some x->d=.p x) d (λ _ e=>congrArg D.p (so e)) (λ _=>nn) (λ _=>nn) (λ _=>nn) (λ _=>nn) (λ _ _=>nn) (λ _ _ _ _=>nn) h
theorem zBS {i:Nat}(h:Xk d=some i):d=.obj i :=
 @D.casesOn (λ d=>Xk d=some i->d=.obj i) d (λ _=>nn) (λ _ e=>congrArg D.obj (so e)) (λ _=>nn) (λ _=>nn) (λ _=>nn) (λ _ _=>nn) (λ _ _ _ _=>nn) h
theorem ve {α:Type}{xs:List α}{p:α×α}(h:YF xs=some p):xs=[p.1,p.2] :=
 @bE α (λ xs=>YF xs=some p->xs=[p.1,p.2]) xs nn (λ x r=>@bE α (λ r=>YF (x::r)=some p->x::r=[p.1,p.2]) r nn λ y r=>@bE α (λ r=>YF (x::y::r)=some p->x::y::r=[p.1,p.2]) r (λ e=>congrArg (λ q:α×α=>[q.1,q.2]) (so e)) λ _ _=>nn) h
theorem QT {σ:zA}{i:Nat}{xs:List ab}(h:σ[i]?.bind ZQ=some xs):σ[i]?=some (.lst xs):=by
 refine Eea (ob h) λ mo e h=>?_
 (erw [e];erw [zBQ h];rfl)
section
variable {h:aP}{φ:ai->Prop}{μ:List ai}{v:ag}{d:D}
theorem yG {K:ab->Prop}(V:VD h φ μ v d)(k:onP d K):∃ x,d=.p x/\VP h φ v x/\K x :=
 @D.casesOn (λ d=>VD h φ μ v d->onP d K->∃ x,d=.p x/\VP h φ v x/\K x) d (λ x V k=>⟨x,rfl,V.ip,k⟩) (λ _ _ k=>k.elim) (λ _ _ k=>k.elim) (λ _ _ k=>k.elim) (λ _ _ k=>k.elim) (λ _ _ _ k=>k.elim) (λ _ _ _ _ _ k=>k.elim) V k
theorem Ju {α:Type}{f:ab->Option α}{g:α->ab}{K:α->Prop}(hf:∀ x i,f x=some i->x=g i)(V:VD h φ μ v d)(k:onP d λ x=>Is (f x) K):∃ i,d=.p (g i)/\VP h φ v (g i)/\K i:=by
 refine Eeaa (yG V k) λ x e V k=>?_
 refine Eea k.h λ i e' k=>?_
 exact ⟨i,e.trans (congrArg D.p (hf _ _ e')),hf _ _ e'▸V,k⟩
theorem Z9 (V:VD h φ μ v d)(k:onI d K):∃ i t,d=.p (.int i)/\v=.int i t/\K i :=
 Eeaa (Ju (g:=.int) (λ _ _=>JM) V k) λ i e V k=>Ee V.iint λ t q=>⟨i,t,e,q,k⟩
theorem js {K:List ab->Prop}(V:VD h φ μ v d)(k:onT d K):∃ xs,d=.p (.tuple xs)/\VP h φ v (.tuple xs)/\K xs:=Ju (g:=.tuple) (λ _ _=>jz) V k
theorem zAD {K:List ab->Prop}(V:VD h φ μ v d)(k:onL d K):∃ xs,d=.p (.list xs)/\VP h φ v (.list xs)/\K xs:=Ju (g:=.list) (λ _ _=>zFj) V k
theorem jY {K:Bool->Prop}(V:VD h φ μ v d)(k:isB d K):∃ b,d=.p (.bool b)/\v=.bool b/\K b :=
 Eeaa (Ju (g:=.bool) (λ _ _=>zDY) V k) λ b e V k=>⟨b,e,V.ibool,k⟩
theorem zAb {K:Nat->Prop}(V:VD h φ μ v d)(k:onO d K):∃ i a,d=.obj i/\v=.ref a/\μ[i]?=some a/\K i :=
 @D.casesOn (λ d=>VD h φ μ v d->onO d K->∃ i a,d=.obj i/\v=.ref a/\μ[i]?=some a/\K i) d (λ _ _ k=>k.elim) (λ i V k=>Eea V.iobj λ a e m=>⟨i,a,rfl,e,m,k⟩) (λ _ _ k=>k.elim) (λ _ _ k=>k.elim) (λ _ _ k=>k.elim) (λ _ _ _ k=>k.elim) (λ _ _ _ _ _ k=>k.elim) V k
@[elab_as_elim] theorem qC (V:VD h φ μ v d)(k:onI d K)(f:∀ i t,K i->motive (.int i t)):motive v:=Eeeaa (Z9 V k) λ i t _ e q=>e▸f i t q
@[elab_as_elim] theorem zEX {motive:D->ag->Prop}(V:VD h φ μ v d)(k:onI d K)(f:∀ i t,K i->motive (.p (.int i)) (.int i t)):motive d v:=Eeeaa (Z9 V k) λ i t e' e q=>e▸e'▸f i t q
@[elab_as_elim] theorem zAv {K:Bool->Prop}{motive:D->ag->Prop}(V:VD h φ μ v d)(k:isB d K)(f:∀ b,K b->motive (.p (.bool b)) (.bool b)):motive d v:=Eeaa (jY V k) λ b e' e q=>e▸e'▸f b q
@[elab_as_elim] theorem Xl {K:Nat->Prop}(V:VD h φ μ v d)(k:onO d K)(f:∀ i a,μ[i]?=some a->K i->motive (.ref a)):motive v:=Eeeaaa (zAb V k) λ i a _ e m q=>e▸f i a m q
@[elab_as_elim] theorem Xg {K:Nat->Prop}{motive:D->ag->Prop}(V:VD h φ μ v d)(k:onO d K)(f:∀ i a,μ[i]?=some a->K i->motive (.obj i) (.ref a)):motive d v:=Eeeaaa (zAb V k) λ i a e' e m q=>e▸e'▸f i a m q
end
end Mine.Internal
namespace Mine.Internal
open PySem PySem.Calls PyProof PyProof.Rows PySem.W
set_option tactic.hygienic false
noncomputable def zG (p:Int×Bool):ab:=.tuple [.str (ae "bit"),.int p.1,.bool p.2]
noncomputable def qo {α:Type}(lt:Nat->Nat->Bool):KasT α->α
 | .ret a=>a
 | .ask i j k=>qo lt (k (lt i j))
noncomputable def okT (n:Nat):KasT (Array Nat)->Bool
 | .ret p=>p.toList.all λ i=>eR i n
 | .ask i j k=>(eR i n&&eR j n)&&(okT n (k true)&&okT n (k false))
noncomputable def ltP (p q:Int×Bool):Bool:=bif decide (p.1=q.1) then (bif p.2 then false else q.2) else decide (p.1<q.1)
noncomputable def atB (l:List (Int×Bool))(i:Nat):Int×Bool:=l.getD i (0,false)
noncomputable def ltB (l:List (Int×Bool))(i j:Nat):Bool:=ltP (atB l i) (atB l j)
noncomputable def US (l:List (Int×Bool))(p:Array Nat):List (Int×Bool):=p.toList.map (atB l)
noncomputable def zb (l:List (Int×Bool)):List (Int×Bool):=bif eR l.length 2 then l else US l (qo (ltB l) (kx l.length))
structure BitsOk (l:List (Int×Bool)):Prop where
 few:l.length<64
 ok:okT l.length (kx l.length)=true
structure TabOk (t:dO)(n:Nat)(b:Bool):Prop where
 size:t.place.size=n
 mask:t.mask=7
 dum:t.dummies=#[]
 led:t.led=!b
 plain:t.plain=true
 up:t.place.toList.Pairwise (·<·)
 n4:n<=4
structure IsSet (prog:bR)(w:b4)(h:aP)(a:ai)(l:List Int):Prop where
 h:∃ o es ep t l',h.get? a=some o/\o.ExactSet/\o.data=.set es ep t/\ElemsOf (intKind prog w) es.toList/\cJ (es.toList.map (·.2)) l'/\l'.Perm l/\TabOk t es.size (w.params.followText "set-order")
noncomputable def dd:List Int->List Int
 | []=>[]
 | a::r=>if a∈r then dd r else a::dd r
end Mine.Internal
namespace Mine.Internal
open PySem PySem.Calls PyProof PyProof.Rows PySem.W PySem.SeqAt
set_option tactic.hygienic false
variable {i k j n ep:Nat}{b:Bool}{es:Array (Int×ag)}{x y slot:Int}{prog:bR}{w:b4}{h':aP}{vs:List ag}{it:ai}
abbrev Up (xs:Array Nat):Prop:=xs.toList.Pairwise (·<·)
theorem J7 {xs:Array Nat}{d:Nat}(h:Up xs)(Ez:i<k)(hk:k<xs.size):xs.getD i d<xs.getD k d:=by
 have h1:i<xs.size:=hZ Ez hk
 have:=List.pairwise_iff_getElem.mp h i k (by simpa using h1) (by simpa using hk) Ez
 simpa [gk,h1,hk] using this
theorem mid {lo hi:Nat}(h:lo<hi):lo<=(lo + hi) / 2/\(lo + hi) / 2<hi:=by omega
theorem zBU {xs:Array Nat}(h:Up xs)(f:Nat):∀ (lo hi:Nat),hi<=lo + f->lo<=hi->hi<=xs.size->(∀ k,k<lo->xs.getD k j<j)->(∀ k,hi<=k->k<xs.size->¬ xs.getD k j<j) ->
  ey xs j f lo hi<=xs.size/\(∀ k,k<ey xs j f lo hi->xs.getD k j<j)/\(∀ k,ey xs j f lo hi<=k->k<xs.size->¬ xs.getD k j<j):=by
 induction f with
 | zero =>
  intro lo hi hf hl hh h1 h2
  cases dz hl hf
  exact ⟨hh,h1,h2⟩
 | succ f ih =>
  intro lo hi hf hl hh h1 h2
  have e:ey xs j (f + 1) lo hi=if lo<hi then if xs.getD ((lo + hi) / 2) j<j then ey xs j f ((lo + hi) / 2 + 1) hi else ey xs j f lo ((lo + hi) / 2) else lo:=rfl
  erw [e]
  by_cases sW:lo<hi
  ·refine Ea (mid sW) λ m1 m2=>?_
   erw [if_pos sW]
   generalize (lo + hi) / 2=m at m1 m2
   by_cases hm:xs.getD m j<j
   ·erw [if_pos hm]
    refine ih _ hi (lin [_,_,_,_] [] (.v 0) (.a (.a (.v 1) (.k 1)) (.v 2)) [(1,.l (.v 0) (.a (.v 3) (.a (.v 2) (.k 1)))),(1,.l (.v 3) (.v 1))] tT9 hf m1) m2 hh (λ k hk=>?_) h2
    rcases gm (gE hk) with q | q
    ·exact hZ (J7 h q (bI m2 hh)) hm
    ·erw [q];exact hm
   ·erw [if_neg hm]
    refine ih lo _ (lin [_,_,_,_] [] (.v 0) (.a (.v 1) (.v 2)) [(1,.l (.v 3) (.a (.v 1) (.a (.v 2) (.k 1)))),(1,.l (.a (.v 0) (.k 1)) (.v 3))] tT9 hf m2) m1 (af (eT m2) hh) h1 (λ k hk tR=>?_)
    rcases gm hk with q | q
    ·intro c;exact hm (hZ (J7 h q tR) c)
    ·refine rwS q ?_;exact hm
  ·erw [if_neg sW]
   cases dz hl (bu sW)
   exact ⟨hh,h1,h2⟩
theorem qw {xs:Array Nat}(h:Up xs):bc xs j<=xs.size/\(∀ k,k<bc xs j->xs.getD k j<j)/\(∀ k,bc xs j<=k->k<xs.size->¬ xs.getD k j<j) :=
 zBU h xs.size 0 xs.size (b7 _ _) (bd _) (aQ _) (λ _ h=>absurd h (im _)) λ k h1 h2=>absurd h2 (ki.mpr h1)
theorem Vd {xs:Array Nat}(h:Up xs)(hk:k<xs.size):bc xs (xs[k] + 1)=k + 1:=by
 refine Eaa (qw (j:=xs[k] + 1) h) λ h1 h2 h3=>?_
 have ek:xs.getD k (xs[k] + 1)=xs[k]:=by simp [gk,hk]
 rcases gF (bc xs (xs[k] + 1)) (k + 1) with q | q | q
 ·exact absurd (by erw [ek];exact aU _) (h3 k (gE q) hk)
 ·exact q
 ·have sW:k + 1<xs.size:=by exact lin [k,xs.size,bc xs (xs[k] + 1)] [] (.a (.a (.v 0) (.k 1)) (.k 1)) (.v 1) [(1,.l (.v 2) (.v 1)),(1,.l (.a (.a (.v 0) (.k 1)) (.k 1)) (.v 2))] tT9 h1 q
  have h4:=h2 (k + 1) q
  have h5:=J7 (d:=xs[k] + 1) h (aU k) sW
  rw [ek] at h5;exact absurd h4 (ki.mpr h5)
theorem zBb {xs:Array Nat}(h:Up xs):bc xs 0=0:=by
 refine Eaa (qw (j:=0) h) λ h1 h2 h3=>?_
 cases e:bc xs 0 with
 | zero=>rfl
 | succ n=>rw [e] at h2;exact absurd (h2 0 (kP _)) (im _)
theorem xH {xs:Array Nat}(h:Up xs):cR xs j=true ↔ j∈xs.toList:=by
 refine Eaa (qw (j:=j) h) λ h1 h2 h3=>?_
 unfold cR
 constructor
 ·intro e
  have e:=eq_of_beq e
  refine Ee (Array.getElem?_eq_some_iff.mp e) λ hk e=>?_
  refine rwS e ?_;simp
 ·intro m
  (refine Ee (iX m) λ k tF=>?_;refine Ee tF λ hk e=>?_)
  have tR:k<xs.size:=by simpa using hk
  have ek:xs.getD k j=j:=by simp [gk,tR];simpa using e
  have Hs:bc xs j<=k:=ki.mp λ q=>by have:=h2 k q;rw [ek] at this;exact gR _ this
  have Dl:k=bc xs j:=by
   rcases gm Hs with q | q
   ·have h4:=h3 _ (aQ _) (hZ q tR)
    have h5:=J7 (d:=j) h q tR
    rw [ek] at h5;exact absurd h5 h4
   ·exact q.symm
  (refine rwS Dl ?_;erw [cq tR])
  have e':xs[k]=j:=by simpa using e
  erw [e'];exact beq_self_eq_true _
theorem Wm {xs:Array Nat}(h:Up xs)(hj:j∉xs.toList):Up (bS xs (bc xs j) j):=by
 refine Eaa (qw (j:=j) h) λ h1 h2 h3=>?_
 show (bS xs _ j).toList.Pairwise _
 erw [lW]
 have ht:∀ x,x∈xs.toList.take (bc xs j)->x<j:=λ x m=>by
  (refine Ee (iX m) λ k Ae=>?_;refine Ee Ae λ hk e=>?_)
  rw [dc,bK] at hk
  have tR:k<xs.size:=bI hk (de _ _)
  have:=h2 k (bI hk (f9 _ _))
  rw [List.getElem_take] at e
  have ek:xs.getD k j=x:=by simp [gk,tR];simpa using e
  rwa [ek] at this
 have hd:∀ x,x∈xs.toList.drop (bc xs j)->j<x:=λ x m=>by
  (refine Ee (iX m) λ k BD=>?_;refine Ee BD λ hk e=>?_)
  rw [List.length_drop,bK] at hk
  have tR:bc xs j + k<xs.size:=by erw [eU];exact Nat.add_lt_of_lt_sub hk
  have:=h3 (bc xs j + k) (aF _ _) tR
  rw [List.getElem_drop] at e
  have ek:xs.getD (bc xs j + k) j=x:=by simp [gk,tR];simpa using e
  rw [ek] at this
  have hx:x∈xs.toList:=List.mem_of_mem_drop m
  rcases gF x j with q | q | q
  ·exact absurd q this
  ·exact absurd (q▸hx) hj
  ·exact q
 refine iD.mpr ⟨h.sublist (gG ..),cv.mpr ⟨hd,h.sublist (List.drop_sublist ..)⟩,λ a ha b hb=>?_⟩
 rcases aA.mp hb with rfl | hb
 ·exact ht a ha
 ·exact hZ (ht a ha) (hd b hb)
noncomputable def orb:Nat->Nat×Nat->Nat×Nat
 | 0,p=>p
 | k + 1,p=>orb k ((p.1 * 5 + 1 + p.2 / 32) % 8,p.2 / 32)
theorem zCb (a b:Nat):∀ p,orb (a + b) p=orb b (orb a p):=by
 induction a with
 | zero=>intro p;erw [eV];rfl
 | succ a ih=>intro p;erw [Nat.succ_add];exact ih _
theorem xO:∀ (k:Nat) (p:Nat×Nat),(orb k p).2=p.2 / 32 ^ k
 | 0,p=>by show p.2=_;(erw [Nat.pow_zero];erw [Nat.div_one];rfl)
 | k + 1,p=>by
  show (orb k _).2=_
  (rewrite [xO k];erw [Nat.div_div_eq_div_mul])
  congr 1
  (erw [Nat.pow_succ];erw [Nat.mul_comm];rfl)
theorem zDs (k:Nat)(p:Nat×Nat):(orb (k + 1) p).1<8:=by
 induction k generalizing p with
 | zero=>exact lE _ (by decide)
 | succ k ih=>exact ih _
theorem zCa:∀ a,a<8->∀ r,r<8->∃ m,m<8/\(orb m (a,0)).1=r:=by
 unfold orb
 decide
theorem zCh {t:dO}(hd:t.dummies=#[])(j:Nat):(cR t.place j=true/\∃ i,t.slot j=.live i)∨(cR t.place j=false/\t.slot j=.empty):=by
 have h0:cR t.dummies j=false:=by erw [hd];rfl
 unfold SetTable.slot
 dsimp only
 cases e:cR t.place j with
 | true =>
  refine .inl ⟨rfl,bc t.place j,?_⟩
  unfold cR at e
  erw [e];rfl
 | false =>
  refine .inr ⟨rfl,?_⟩
  unfold cR at e
  (erw [e];erw [h0]);rfl
theorem vQ {t:dO}{h:Int}(hd:t.dummies=#[])(hm:t.mask=7):∀ (f:Nat) (p:SetTable.Probe),p.more=0->p.j=p.i->p.dummy=none ->
  (∃ j,ky t (λ _=>h + 1) h f p=some (.empty j none)/\cR t.place j=false)∨∀ k,k<f->cR t.place (orb k (p.i,p.perturb)).1=true:=by
 intro f
 induction f with
 | zero=>exact λ p _ _ _=>.inr λ k hk=>absurd hk (im _)
 | succ f ih =>
  intro p h1 h2 h3
  unfold ky
  rcases zCh hd p.j with ⟨ha,i,hs⟩ | ⟨ha,hs⟩
  ·erw [hs]
   have tj:(h + 1==h)=false:=beq_eq_false_iff_ne.mpr (mE (bF _))
   dsimp only
   erw [tj]
   have ea:t.advance p={j:=(p.i * 5 + 1 + p.perturb / 32) % 8,more:=0,i:=(p.i * 5 + 1 + p.perturb / 32) % 8,perturb:=p.perturb / 32,dummy:=none}:=by
    unfold SetTable.advance
    (erw [h1];erw [if_neg (by decide)];erw [hm];erw [h3])
    show rQ _ _ _ _ _=_
    have:io 7 ((p.i * 5 + 1 + p.perturb / 32) % (7 + 1)) - (p.i * 5 + 1 + p.perturb / 32) % (7 + 1)=0:=by
     unfold io
     erw [if_neg (by exact kQ (b7 _ _))];exact kz _
    (erw [this];rfl)
   show (∃ j,ky t (λ _=>h + 1) h f (t.advance p)=_/\_)∨_
   erw [ea]
   rcases ih {j:=(p.i * 5 + 1 + p.perturb / 32) % 8,more:=0,i:=(p.i * 5 + 1 + p.perturb / 32) % 8,perturb:=p.perturb / 32,dummy:=none} rfl rfl rfl with q | q
   ·exact .inl q
   ·refine .inr λ k hk=>?_
    cases k with
    | zero=>rw [h2] at ha;exact ha
    | succ k=>exact q k (mG hk)
  ·erw [hs]
   refine .inl ⟨p.j,?_,ha⟩
   dsimp only
   (erw [h3];rfl)
theorem Ww {t:dO}{h:Int}(hu:Up t.place)(hd:t.dummies=#[])(hm:t.mask=7)(hn:t.place.size<=7):∃ j,t.freeSlot h=some (j,false)/\j∉t.place.toList:=by
 unfold SetTable.freeSlot SetTable.probe
 have hi:bQ h % (t.mask + 1)<8:=by erw [hm];exact lE _ (by decide)
 have hs:t.probeStart h={j:=bQ h % (t.mask + 1),more:=0,i:=bQ h % (t.mask + 1),perturb:=bQ h,dummy:=none}:=by
  unfold SetTable.probeStart
  dsimp only
  have:io t.mask (bQ h % (t.mask + 1)) - bQ h % (t.mask + 1)=0:=by
   unfold io
   rw [hm] at hi ⊢
   erw [if_neg (by exact kQ (b7 _ _))];exact kz _
  (erw [this];rfl)
 erw [hs]
 rcases vQ (h:=h) hd hm (10 * pq t.mask) {j:=bQ h % (t.mask + 1),more:=0,i:=bQ h % (t.mask + 1),perturb:=bQ h,dummy:=none} rfl rfl rfl with ⟨j,e,hj⟩ | q
 ·erw [e]
  refine ⟨j,rfl,λ m=>?_⟩
  rw [(xH hu).mpr m] at hj
  exact a8 hj
 ·exfalso
  have hf:10 * pq t.mask=220:=by erw [hm];rfl
  rw [hf] at q
  have CZ:∀ r,r<8->r∈t.place.toList:=λ r hr=>by
   have h0:(orb 13 (bQ h % (t.mask + 1),bQ h)).2=0:=by
    erw [xO]
    apply Nat.div_eq_of_lt
    show (h % (2 ^ 64:Int)).toNat<_
    exact (Int.toNat_lt (Int.emod_nonneg _ (by decide))).mpr (Int.lt_trans (Int.emod_lt_of_pos _ (by decide)) (by decide))
   refine Eea (zCa _ (zDs 12 (bQ h % (t.mask + 1),bQ h)) r hr) λ m hm e=>?_
   have:=q (13 + m) (lin [_] [] (.a (.a (.k 13) (.v 0)) (.k 1)) (.k 220) [(1,.l (.a (.v 0) (.k 1)) (.k 8))] tT9 hm)
   rw [zCb] at this
   have e2:orb 13 (bQ h % (t.mask + 1),bQ h)=((orb 13 (bQ h % (t.mask + 1),bQ h)).1,0):=kA rfl h0
   rw [e2,e] at this
   exact (xH hu).mp this
  have tU:(ia 8).length<=t.place.toList.length:=rR List.nodup_range λ r m=>CZ r (lF.mp m)
  rw [on,bK] at tU
  exact liF [_] [] [(1,.l (.v 0) (.k 7)),(1,.l (.k 8) (.v 0))] tT9 hn tU
theorem TabOk.fits {t:dO}(h:TabOk t n b):t.fits n=true:=by
 have h4:=h.n4
 unfold SetTable.fits pS
 (erw [h.size];erw [h.mask];erw [h.dum])
 simp;exact af h4 (nB9 rfl)
theorem qa {α:Type}(xs:Array α)(p:Nat)(x:α):(bS xs p x).size=xs.size + 1:=by
 have:=(mH xs p x).length_eq
 simpa using this
theorem zAO {t:dO}{h:Int}{x:ag}(T:TabOk t es.size b)(h3:es.size<=3):∃ p t',layNew t es h x=(bS es p (h,x),t',false,false)/\TabOk t' (bS es p (h,x)).size b/\t'.tooFull=false:=by
 refine Eea (Ww (h:=h) T.up T.dum T.mask (by erw [T.size];exact af h3 (nB9 rfl))) λ j hj hn=>?_
 have T':TabOk {t with place:=bS t.place (bc t.place j) j} (es.size + 1) b:=⟨by (erw [qa];erw [T.size];rfl),T.mask,T.dum,T.led,T.plain,Wm T.up hn,bp h3⟩
 refine ⟨bc t.place j,{t with place:=bS t.place (bc t.place j) j},?_,by erw [qa];exact T',?_⟩
 ·unfold layNew
  erw [hj]
  have hp:t.put j=({t with place:=bS t.place (bc t.place j) j},bc t.place j):=by
   unfold SetTable.put
   dsimp only
   have h0:cR t.dummies j=false:=by erw [T.dum];rfl
   erw [h0];rfl
  dsimp only
  erw [hp]
  dsimp only
  have hf:=T'.fits
  rw [<- qa es (bc t.place j) (h,x)] at hf
  unfold SetTable.orStandIn
  (erw [if_pos hf];erw [hf]);rfl
 ·unfold SetTable.tooFull pS
  dsimp only
  (erw [qa];erw [T.size];erw [T.dum];erw [T.mask])
  simp;omega
noncomputable def Z2 (l:List Int)(x:Int):List Int:=if x∈l then l else x::l
section
variable {prog:bR}{w:b4}{A:aM}{E:ag->ak->Prop}{s:ak}
theorem UW {es:List (Int×ag)}{l:List Int}(h:cJ (es.map (·.2)) l)(x:Int):(∃ e,e∈es/\kZ x e.2=true) ↔ x∈l:=by
 induction es generalizing l with
 | nil=>cases h;simp
 | cons e es ih =>
  rw [bl] at h
  generalize hv:e.2=v at h
  cases h with
  | cons n t hr =>
   have ih:=ih hr
   constructor
   ·rintro ⟨e',m,q⟩
    rcases aA.mp m with rfl | m
    ·rw [hv] at q
     refine Ee (oo q) λ t' e=>?_
     (injection e with y2y0;subst y2y0);exact .head _
    ·exact .tail _ (ih.mp ⟨e',m,q⟩)
   ·intro m
    rcases aA.mp m with rfl | m
    ·exact ⟨e,.head _,by erw [hv];exact beq_self_eq_true _⟩
    ·refine Eea (ih.mpr m) λ e' m' q=>?_
     exact ⟨e',.tail _ m',q⟩
theorem Ud {l:List Int}(h:cJ (es.toList.map (·.2)) l)(p:Nat)(x:Int)(t:iT)(k:Int):∃ l',cJ ((bS es p (k,.int x t)).toList.map (·.2)) l'/\l'.Perm (x::l):=by
 (erw [lW];erw [aW];erw [bl];erw [pT];erw [List.map_drop])
 have:∀ {vs:List ag} {l:List Int} (p:Nat),cJ vs l->cJ (vs.take p++.int x t::vs.drop p) (l.take p++x::l.drop p):=λ {vs l} p h=>by
  induction h generalizing p with
  | nil=>simp;exact .cons x t .nil
  | cons n u hr ih=>cases p with
   | zero=>exact .cons x t (.cons n u hr)
   | succ p=>exact .cons n u (ih p)
 refine ⟨_,this p h,oP.trans (.cons _ ?_)⟩
 (erw [cF];rfl)
theorem zAP {a:ai}{l:List Int}{t:iT}{Q:Bool->ak->Prop}(X:IsSet prog w s.heap a l)(h4:(Z2 l x).length<=4)
  (h:∀ h' b,cj a s.heap h'->IsSet prog w h' a (Z2 l x)->Q b {s with heap:=h'}):wpAny (model prog w) A (setAddHashed a (.int x t) (gH x)) Q E s:=by
 obtain ⟨o,es,ep,tb,l',ho,F4,hd,E7,hI,hp,T⟩:=X.h
 have Ar:(intKind prog w).is x (.int x t)=true:=intKind_is _ _ _ _
 have hb:es.size<scanBound:=b5 T.n4 (by decide)
 have hlen:es.size=l.length:=by have:=hI.length;rw [ah,bK] at this;erw [this];exact hp.length_eq
 unfold setAddHashed setAddHashedIn
 refine aO (aa (gI ho hd T.fits ?_))
 dsimp only
 erw [byScan_of (knd:=intKind prog w) rfl hb E7]
 simp only [↓reduceIte]
 unfold setAddByScan
 refine aa ?_
 refine aa (fP ?_)
 refine aa (wpAny_setScan_of (knd:=intKind prog w) Ar ho hd T.fits E7 ?_)
 cases hr:List.findIdx? (λ e=>(intKind prog w).is x e.2) es.toList with
 | some j =>
  dsimp only
  refine Eea (List.findIdx?_eq_some_iff_getElem.mp hr) λ hj KP _=>?_
  have hm:x∈l:=hp.mem_iff.mp ((UW hI x).mp ⟨es.toList[j],kR hj,KP⟩)
  have e:Z2 l x=l:=if_pos hm
  refine aj (aj ?_)
  have:=h s.heap false (rS a s.heap)
  rw [e] at this
  exact this X
 | none =>
  dsimp only
  have hm:x∉l:=λ m=>by
   refine Eea ((UW hI x).mpr (hp.mem_iff.mpr m)) λ e he hi=>?_
   have:=List.findIdx?_eq_none_iff.mp hr e he
   rw [show (intKind prog w).is x e.2=kZ x e.2 from rfl,hi] at this
   exact a8 this
  have e:Z2 l x=x::l:=if_neg hm
  rw [e] at h h4
  refine Eeeaa (zAO (h:=gH x) (x:=.int x t) T (by erw [hlen];exact mI h4)) λ p t' hL T' EL=>?_
  have hh:(intKind prog w).hash x=gH x:=rfl
  erw [hL]
  dsimp only
  refine aa (aj ?_)
  erw [T'.plain]
  simp only [↓reduceIte]
  refine aa ?_
  erw [hashByValue_scannable 8 (x:=.int x t) rfl]
  refine aj ?_
  simp only [plainKind,↓reduceIte]
  refine aa (wpAny_storeSet_of ho hd ?_ (fits_of_scanBound (b5 T'.n4 (by decide))))
  erw [EL]
  simp only [eJ,cw,↓reduceIte]
  refine aj ?_
  dsimp only
  refine aj (h _ true (cD s.heap a _) ?_)
  have hg:(s.heap.update a (rH (bS es p (gH x,.int x t)) t')).get? a=some {o with data:=.set (bS es p (gH x,.int x t)) (ep + 1) t'}:=by
   have:=dv (rH (bS es p (gH x,.int x t)) t') ho (by erw [putSet_of _ t' hd];rfl)
   rw [putSet_of _ t' hd] at this;exact this
  refine Eea (Ud hI p x t (gH x)) λ l2 FI AL=>?_
  refine ⟨_,_,_,t',l2,hg,F4,rfl,(E7.push (k:=x) Ar rfl).perm ?_,FI,AL.trans (hp.cons x),T'⟩
  have:=mH es p (gH x,rM x t)
  rwa [gJ] at this
end
set_option tactic.hygienic true
theorem IsSet.perm {h:aP}{a:ai}{l l':List Int}(x:IsSet prog w h a l)(p:l.Perm l'):IsSet prog w h a l' :=
 by obtain ⟨o,es,ep,t,m,h1,h2,h3,h4,h5,h6,h7⟩:=x.h;exact ⟨o,es,ep,t,m,h1,h2,h3,h4,h5,h6.trans p,h7⟩
theorem IsSet.at {h:aP}{a:ai}{l:List Int}(x:IsSet prog w h a l)(e:∀ o,h.get? a=some o->h'.get? a=some o):IsSet prog w h' a l :=
 by (refine Ee (x.h) λ o tF=>?_;refine Eeeeea tF λ es ep t m h1 r=>?_);exact ⟨o,es,ep,t,m,e o h1,r⟩
theorem zAI (l:List Int)(x:Int):(Z2 l x).length<=l.length + 1:=by
 unfold Z2;split
 ·exact cT _
 ·exact aQ _
theorem zAX {l:List Int}:y∈Z2 l x ↔ y=x∨y∈l:=by
 unfold Z2;split
 ·rename_i h
  exact ⟨.inr,λ q=>q.elim (λ e=>e▸h) id⟩
 ·exact aA
theorem Vf {l:List Int}:∀ {acc:List Int} {y:Int},y∈l.foldl Z2 acc ↔ y∈l∨y∈acc:=by
 induction l with
 | nil=>intro acc y;simp
 | cons a r ih =>
  intro acc y
  (erw [List.foldl_cons];rewrite [ih];rewrite [zAX];rewrite [aA])
  constructor
  ·rintro (h | h | h) <;> simp [h]
  ·rintro ((h | h) | h) <;> simp [h]
theorem Wd {l:List Int}(h:l.Nodup):(Z2 l x).Nodup:=by
 unfold Z2;split
 ·exact h
 ·rename_i q;exact bk.mpr ⟨q,h⟩
theorem Xb {l:List Int}:∀ {acc:List Int},acc.Nodup->(l.foldl Z2 acc).Nodup:=by
 induction l with
 | nil=>exact λ h=>h
 | cons a r ih=>exact λ h=>ih (Wd h)
theorem mem_dd :∀ {l:List Int},y∈dd l ↔ y∈l
 | []=>rj
 | a::r=>by
  unfold dd;split
  ·rename_i h
   rw [mem_dd (l:=r),aA]
   exact ⟨.inr,λ q=>q.elim (λ e=>e▸h) id⟩
  ·rw [aA,mem_dd (l:=r),aA]
theorem Yw:∀ {l:List Int},(dd l).Nodup
 | []=>iE
 | a::r=>by
  unfold dd;split
  ·exact Yw
  ·rename_i h
   exact bk.mpr ⟨λ m=>h (mem_dd.mp m),Yw⟩
theorem zAL (l:List Int):(l.foldl Z2 []).Perm (dd l):=by
 refine (List.perm_ext_iff_of_nodup (Xb iE) Yw).mpr λ y=>?_
 rw [Vf,mem_dd];simp
section
variable {prog:bR}{w:b4}{A:aM}{R:lG->ak->Prop}{I:ai}{fp wr:List ai}{G:Array GenState->Array GenState->Prop}{n:Nat}{P:Nat->ag->Prop}{St:Nat->ak->Prop}
theorem vA (W:WalksS prog w A.in1 I fp wr G n P St)(S:ai)(E9:S∉fp)(l:List Int)(hl:l.length=n)(Dd:∀ i v,P i v->∃ t,v=.int (l.getD i 0) t)(h4:n<=4) :
  ∀ (k i:Nat) (s:ak) (acc:List Int),i + k=n->St i s->IsSet prog w s.heap S acc->acc.length<=i ->
   (∀ s',Moved (S::wr) G s s'->IsSet prog w s'.heap S ((l.drop i).foldl Z2 acc)->R (.ok (.ret .none)) s') ->
   ez (model prog w) A (.builtin "set.update.loop" ⟨[.ref S,.ref I],[]⟩) R s:=by
 have Hm:S∉wr:=λ h=>E9 (W.sub _ h)
 have tU:∀ b∈wr,b∈S::wr:=λ b hb=>bU _ hb
 intro k
 induction k with
 | zero =>
  intro i s acc hk tn hS ha hR
  have hk:i=n:=hk
  subst hk
  refine fm l9 ?_
  erw [eK g0 _]
  show wpAny _ A.in1 (fv (.ref I) >>= _) _ _ s
  refine aa (W.done s _ _ tn λ s' hm=>?_)
  show wpAny _ A.in1 (ret dH) _ _ s'
  refine aj (hR s' (hm.mono tU) ?_)
  erw [List.drop_of_length_le (cS hl)]
  exact hS.at λ o ho=>hm.heap S _ Hm ho
 | succ k ih =>
  intro i s acc hk tn hS ha hR
  have sW:i<n:=hk▸Nat.lt_add_of_pos_right (kP k)
  refine fm l9 ?_
  erw [eK g0 _]
  show wpAny _ A.in1 (fv (.ref I) >>= _) _ _ s
  refine aa (W.item i s _ _ sW tn λ v s' hP Bj hm=>?_)
  (refine Ee (Dd i v hP) λ t Dt=>?_;obtain rfl:=Dt)
  have GX:IsSet prog w s'.heap S acc:=hS.at λ o ho=>hm.heap S _ Hm ho
  show wpAny _ A.in1 (cO [rM (l.getD i 0) t] (setAdd S (.int (l.getD i 0) t)) >>= _) _ _ s'
  refine aa (aO ?_)
  unfold setAdd
  refine aO ?_
  refine aa (oQ ?_)
  have hlen:=zAI acc (l.getD i 0)
  refine zAP (s:={s' with toks:=s'.toks + 1}) GX (lin [_,_,_,_] [] (.v 0) (.k 4) [(1,.l (.v 1) (.k 4)),(1,.l (.v 2) (.v 3)),(1,.l (.a (.v 3) (.k 1)) (.v 1)),(1,.l (.v 0) (.a (.v 2) (.k 1)))] tT9 h4 ha sW hlen) λ h' b Hy Fk=>?_
  refine aj ⟨i7 g0 _,ih (i + 1) _ (Z2 acc (l.getD i 0)) (by (refine rwS hk ?_;erw [cU];rewrite [eU 1];rfl)) (W.frame _ s' _ _ Bj (cT _) λ b hb o e=>?_) Fk (lin [_,_,_] [] (.v 0) (.a (.v 1) (.k 1)) [(1,.l (.v 2) (.v 1)),(1,.l (.v 0) (.a (.v 2) (.k 1)))] tT9 ha hlen) λ s9 Ce F5=>?_⟩
  ·rw [Hy.2 b (λ h:b=S=>E9 (by rw [<- h];exact hb))];exact e
  ·have hd:l.drop i=l.getD i 0::l.drop (i + 1):=by
    have:i<l.length:=hl▸sW
    (erw [fe this];erw [aX];erw [ay this]);rfl
   refine hR s9 (Moved.trans W.gtrans ((hm.mono tU).then_heap (cT _) λ b o hb e=>?_) Ce) (by erw [hd];exact F5)
   rw [Hy.2 b (λ h:b=S=>hb (by rw [h];exact di))];exact e
end
section
variable {prog:bR}{w:b4}{A:aM}{E:ag->ak->Prop}{s:ak}
noncomputable def QK (w:b4):fi:={cls:=.type "set",dict:=none,data:=.set #[] 0 (.fresh 0 0 (!(w.params.followText "set-order")))}
theorem zBR (a:ag){Q₁:ag->ak->Prop}(h:Q₁ (.ref s.heap.objs.size) {s with heap:=s.heap.push (QK w)}) :
  ez (model prog w) A (.call (.builtin "set.__new__") ⟨[.type "set",a],[]⟩) (wants Q₁ E) s:=by
 refine lh ?_
 show wpAny _ A.in1 (do checkBuiltinCall "set.__new__" ⟨[.type "set",a],[]⟩;again (.builtin "set.__new__" ⟨[.type "set",a],[]⟩)) _ _ s
 refine aa (gK (F.newCall_set_1 a) (aj ⟨i7 pd _,fm F.entry_set_new ?_⟩))
 erw [eK pd _]
 unfold cE.«set.__new__» rT
 have tU:=sub_set_self
 obtain ⟨hp,g,d,tk,os⟩:=s
 dsimp only
 wp_walk
 refine dP (aj ?_)
 dsimp only
 simp only [newObj]
 refine aa (wpAny_alloc (aj ?_))
 exact aj h
theorem vf {h:aP}{a:ai}(e:h.get? a=some (QK w)):IsSet prog w h a [] :=
 ⟨_,#[],0,_,[],e,⟨rfl,rfl,rfl⟩,rfl,λ e he=>by simp at he,.nil,.refl _,⟨rfl,rfl,rfl,rfl,rfl,.nil,bd _⟩⟩
end
section
variable {prog:bR}{w:b4}{A:aM}{E:ag->ak->Prop}{s:ak}
set_option maxHeartbeats 3200000 in
theorem WH {v:ag}{Q:ag->ak->Prop}
  (hi:wpAny (model prog w) A.in1.in1 (cE.«set.__init__» ⟨[.ref s.heap.objs.size,v],[]⟩) (λ fin s'=>match fin with | .done f=>wants (λ r sF=>r=.none/\Q (.ref s.heap.objs.size) sF) E (.ok f) s' | .again c'=>c'.quiet=true/\ez (model prog w) A.in1 c' (wants (λ r sF=>r=.none/\Q (.ref s.heap.objs.size) sF) E) s')
   (λ e s'=>wants (λ r sF=>r=.none/\Q (.ref s.heap.objs.size) sF) E (.error e) s') {s with heap:=s.heap.push (QK w)}):wpAny (model prog w) A (call (.type "set") [v]) Q E s:=by
 refine Eee (eW.mro) λ c tl IJ=>?_
 have t7:=eW.made
 have tU:=eW.sub
 refine nS (lh ?_)
 show wpAny _ _ (callAny (.type "set") _) _ _ _
 refine aj ⟨Code.quiet_builtin _ (by decide +kernel),fm F.entry_type_call ?_⟩
 erw [Around.under_plain (weight_type_call_type "set" [v] []) rfl]
 have h1:=eW.notType
 have h2:=eW.canCreate
 have K3:=F.typeCall_set_1 v
 repeat (any_goals (first | assumption | wp_step))
 refine fG (zBR (w:=w) v (E:=E) (Q₁:=λ obj sC=>obj=.ref s.heap.objs.size/\sC={s with heap:=s.heap.push (QK w)}) ⟨rfl,rfl⟩) λ r sC hr=>?_
 cases r with
 | error e=>exact hr
 | ok fl =>
  cases fl with
  | ret obj =>
   (refine Ea (hr) λ Dt=>?_;try clear hr;obtain rfl:=Dt;intro A7;obtain rfl:=A7)
   have hT:Shared.TypeIs {s with heap:=s.heap.push (QK w)} (.ref s.heap.objs.size) "set":=⟨_,aG _ rfl,rfl⟩
   have E2:=eW.init.lookup
   have Ln:=eW.init.bind (.ref s.heap.objs.size)
   repeat (any_goals (first | assumption | wp_step))
   refine fG (codeAny_call_builtin eW.init.plain F.entry_set_init (check_set_init_1 hT hi)) λ FC sF AY=>?_
   cases FC with
   | error e=>exact AY
   | ok ER =>
    cases ER with
    | ret r =>
     (refine Ea (AY) λ BH=>?_;try clear AY;obtain rfl:=BH;intro hq)
     repeat (any_goals (first | assumption | wp_step))
    | _=>exact AY.elim
  | _=>exact hr.elim
theorem Vl {S a:ai}{l:List Int}{R:Fin->ak->Prop}(hS:s.heap.get? S=some (QK w))(hh:A.handled=none)(hl:s.heap.IsList a vs.toArray)(GN:a≠S)(hI:cJ vs l)(h4:l.length<=4)
  (h:∀ h' tk,(∀ b o,b≠S->s.heap.get? b=some o->h'.get? b=some o)->IsSet prog w h' S (dd l)->R (.done (.ret .none)) {s with heap:=h',toks:=tk}):wpAny (model prog w) A (cE.«set.__init__» ⟨[.ref S,.ref a],[]⟩) R E s:=by
 have hlen:=hI.length
 obtain ⟨ol,DA,Aw,nl,Cg⟩:=hl
 obtain ⟨IF,Hl,Ho,F0⟩:=ol
 simp only at Aw Cg
 subst Aw;subst Cg
 have Ih:=F.sub_list_set
 have IE:=F.sub_list_frozenset
 have tj:(rI "list"==rI "dict")=false:=by decide
 have t5:s.heap.IsList a vs.toArray:=⟨_,DA,rfl,nl,rfl⟩
 have sW:=bb DA
 unfold cE.«set.__init__» noKeywords rU
 generalize IU:gS=PI
 wp_walk
 subst IU
 refine dA t5 ?_
 refine aa (wpAny_runValue ?_)
 have E9:S∉[s.heap.objs.size,a]:=by
  simp only [aA,bW,or_false,not_or]
  exact ⟨aB (bb hS),GN.symm⟩
 have Dd:∀ (i:Nat) (v:ag),vs.toArray[i]?=some v->∃ t,v=.int (l.getD i 0) t:=λ i v hv =>
  rV hI i v (by simpa using hv)
 have sQ:vs.toArray.size=l.length:=by erw [aJ];exact hlen
 refine vA ((rJ (show A.in1.handled=none from hh) _ a (aB sW) vs.toArray).toS) S E9 l sQ.symm Dd (by erw [sQ];exact h4) vs.toArray.size 0 _ [] (eV _)
  ⟨⟨_,aG _ rfl,rfl,rfl⟩,(t5.push _)⟩ (vf (am _ hS)) (aQ _) λ s' hm GX=>?_
 obtain ⟨h',g',d',AC,Iw⟩:=s'
 obtain rfl:=(hm.gens:g'=s.gens);obtain rfl:=(hm.drawn:d'=s.drawn);obtain rfl:=(hm.os:Iw=s.os)
 show wpAny _ _ _ _ _ _
 refine aj ?_
 show wpAny _ _ (ret dH) _ _ _
 refine aj (h h' AC (λ b o hb e=>?_) (GX.perm (zAL l)))
 exact hm.heap b o (by simp only [aA,bW,or_false,not_or];exact ⟨hb,aB (bb e)⟩) (am _ e)
theorem vh {a:ai}{l:List Int}{Q:ag->ak->Prop}(hh:A.handled=none)(hl:s.heap.IsList a vs.toArray)(hI:cJ vs l)(h4:l.length<=4)
  (h:∀ D h' tk,(∀ b o,s.heap.get? b=some o->h'.get? b=some o)->s.heap.get? D=none->IsSet prog w h' D (dd l)->Q (.ref D) {s with heap:=h',toks:=tk}):wpAny (model prog w) A (call (.type "set") [.ref a]) Q E s:=by
 have GN:a<s.heap.objs.size:=let ⟨_,ho,_⟩:=hl;bb ho
 refine WH (Vl (s:={s with heap:=s.heap.push (QK w)}) (aG _ rfl) hh (hl.push _) (aB GN) hI h4 λ h' tk hk hx=>⟨rfl,h _ h' tk (λ b o e=>hk b o (aB (bb e)) (am _ e)) (dB (aQ _)) hx⟩)
end
theorem slot_si_next:Slot "set_iterator" "__next__" "set_iterator.__next__" :=
 .of (owner:="set_iterator") (n:="__next__") (by (erw [pe];erw [mW]);kernel_rfl) (by decide +kernel) (by decide +kernel) (by decide +kernel)
  (by first | exact .inl (by decide +kernel) | exact .inr (by decide +kernel)) (by erw [lH];kernel_rfl)
theorem yo:m6 table "set_iterator.__next__"=some cE.«set_iterator.__next__»:=entryFor_of_tree (by kernel_rfl)
theorem UB:Manifest.owners.lookup (String.ofList ['r','o','t','a','r','e','t','i','_','t','e','s'].reverse)=some Manifest.sig_set_iterator:=by kernel_rfl
theorem YC (a:ag):pr "set_iterator.__next__" ⟨[a],[]⟩:=by
 unfold pr;erw [pU (id:="set_iterator.__next__") (n:=['_','_','t','x','e','n','_','_']) (o:=['r','o','t','a','r','e','t','i','_','t','e','s']) (by kernel_rfl) UB];kernel_rfl
theorem yv:Slot "set_iterator" "__iter__" "set_iterator.__iter__" :=
 .of (owner:="set_iterator") (n:="__iter__") (by (erw [pe];erw [mW]);kernel_rfl) (by decide +kernel) (by decide +kernel) (by decide +kernel)
  (by first | exact .inl (by decide +kernel) | exact .inr (by decide +kernel)) (by erw [lH];kernel_rfl)
theorem Js:m6 table "set_iterator.__iter__"=some cE.«dict_keyiterator.__iter__» :=
 pv (id':="dict_keyiterator.__iter__") (by kernel_rfl) rfl (by decide +kernel) (by kernel_rfl)
theorem ui (a:ag):pr "set_iterator.__iter__" ⟨[a],[]⟩:=by
 unfold pr;erw [pU (id:="set_iterator.__iter__") (n:=['_','_','r','e','t','i','_','_']) (o:=['r','o','t','a','r','e','t','i','_','t','e','s']) (by kernel_rfl) UB];kernel_rfl
theorem UE:m6 table "set.__iter__"=some cE.«frozenset.__iter__» :=
 pv (id':="frozenset.__iter__") (by kernel_rfl) rfl (by decide +kernel) (by kernel_rfl)
noncomputable def Zm (w:b4)(a:ai)(ep:Nat)(es:Array (Int×ag)):Array (Int×ag) :=
 if w.params.followText "set-order"=true then pickOrder (w.params.setOrder a ep) es else es
theorem xq {α:Type}{l:List α}(h:i<l.length):(l[i]::l.eraseIdx i).Perm l:=by
 erw [List.eraseIdx_eq_take_drop_succ]
 refine oP.symm.trans ?_
 (refine rwS (fe h) ?_;erw [cF];rfl)
theorem xj {α:Type}(next:Nat->Nat):∀ (f k:Nat) (l:List α) (out:Array α),l.length=f->(rk next f k l out).toList.Perm (out.toList++l)
 | 0,k,l,out,h=>by (erw [List.length_eq_zero_iff.mp h];erw [aR]);exact .refl _
 | f + 1,k,l,out,h=>by
  have x9:0<l.length:=h▸kP f
  have sW:next k % l.length<l.length:=lE _ x9
  unfold rk
  erw [ay sW]
  dsimp only
  refine (xj next f (k + 1) _ _ (by (erw [List.length_eraseIdx_of_lt sW];erw [h]);rfl)).trans ?_
  (erw [gJ];erw [aI])
  refine List.Perm.append_left _ ?_
  exact xq sW
theorem y3 (w:b4)(a:ai)(ep:Nat)(es:Array (Int×ag)):(Zm w a ep es).toList.Perm es.toList:=by
 unfold Zm
 split
 ·unfold pickOrder
  exact (xj _ _ _ _ _ (bK)).trans (.refl _)
 ·exact .refl _
structure ZIt (h:aP)(it a:ai)(i n ep:Nat)(slot:Int):Prop where
 h:∃ o,h.get? it=some o/\o.cls=.type "set_iterator"/\o.data=.fields #[.int slot 0,.int i 0,.ref a,.int n 0,.int ep 0]
theorem ZIt.typeIs {s:ak}{a:ai}(x:ZIt s.heap it a i n ep slot):s.TypeIs (.ref it) "set_iterator":=let ⟨o,ho,hc,_⟩:=x.h;⟨o,ho,hc⟩
theorem ZIt.at {h:aP}{a:ai}(x:ZIt h it a i n ep slot)(e:∀ o,h.get? it=some o->h'.get? it=some o):ZIt h' it a i n ep slot:=let ⟨o,ho,r⟩:=x.h;⟨o,e o ho,r⟩
noncomputable def ZR (w:b4)(t:dO)(i:Nat):Int:=if w.params.followText "set-order"=true then 0 else (if i=0 then 0 else ((t.place.getD (i - 1) 0 + 1:Nat):Int))
structure ZAt (w:b4)(h:aP)(a:ai)(es:Array (Int×ag))(ep:Nat)(t:dO):Prop where
 h:∃ o,h.get? a=some o/\o.cls=.type "set"/\o.data=.set es ep t
 ok:TabOk t es.size (w.params.followText "set-order")
theorem ZAt.at {h:aP}{a:ai}{t:dO}(x:ZAt w h a es ep t)(e:∀ o,h.get? a=some o->h'.get? a=some o):ZAt w h' a es ep t:=⟨let ⟨o,ho,r⟩:=x.h;⟨o,e o ho,r⟩,x.ok⟩
section
variable {prog:bR}{w:b4}{A:aM}{E:ag->ak->Prop}{s:ak}
theorem uI {a:ai}{t:dO}{Q:Option (ag×Nat)->ak->Prop}(x:ZAt w s.heap a es ep t)(hi:i<=es.size)
  (h:Q (((Zm w a ep es)[i]?).map λ e=>(e.2,(ZR w t (i + 1)).toNat)) s):wpAny (model prog w) A (setNext a (ZR w t i).toNat i ep) Q E s:=by
 obtain ⟨⟨o,ho,hc,hd⟩,T⟩:=x
 have sQ:t.place.size=es.size:=T.size
 unfold setNext
 refine aa (gI ho hd T.fits ?_)
 dsimp only
 refine aa ?_
 unfold nT
 refine aa (dP (aj ?_))
 have em:(model prog w).w.params=w.params:=rfl
 erw [em]
 unfold Zm ZR at *
 by_cases hb:w.params.followText "set-order"=true
 ·rw [if_pos hb,if_pos hb] at h
  (erw [if_pos hb];erw [if_pos hb];erw [if_neg (by simp)])
  refine aa ?_
  unfold setWalk nT
  refine aa (gI ho hd T.fits ?_)
  dsimp only
  refine aa (aa (dP (aj ?_)))
  (erw [em];erw [if_pos hb])
  refine aa (dP (aj ?_))
  exact aj h
 ·rw [if_neg hb,if_neg hb] at h
  (erw [if_neg hb];erw [if_neg hb])
  have EI:t.plain=true:=T.plain
  have GV:t.led=true:=by erw [T.led];simpa using hb
  refine iq (λ Ay=>?_) λ _=>?_
  ·have Ay:(!t.plain&&decide (es.size > 1))=true:=Ay
   rw [EI] at Ay;exact a8 Ay
  ·refine aa ?_
   show wpAny (model prog w) A (if (!t.led&&!es.isEmpty)=true then unsupported "set:maker-not-led" else pure ()) _ _ _
   (erw [GV];erw [if_neg (by simp)])
   refine aj (aj ?_)
   have FD:bc t.place (if i=0 then 0 else ((t.place.getD (i - 1) 0 + 1:Nat):Int)).toNat=i:=by
    cases i with
    | zero=>exact zBb T.up
    | succ k =>
     have hk:k<t.place.size:=by rw [sQ];exact hi
     erw [if_neg (g7 k)]
     show bc t.place (t.place.getD k 0 + 1)=k + 1
     have e:t.place.getD k 0=t.place[k]:=by simp [gk,hk]
     erw [e];exact Vd T.up hk
   erw [FD]
   cases gm hi with
   | inl sW =>
    have DY:i<t.place.size:=by rw [sQ];exact sW
    (erw [cq sW];erw [cq DY])
    rw [cq sW,if_neg (g7 i)] at h
    have e:t.place.getD i 0=t.place[i]:=by simp [gk,DY]
    have h':Q (some (es[i].2,t.place.getD i 0 + 1)) s:=h
    rw [e] at h';exact h'
   | inr he =>
    (erw [fH (cS he.symm)];erw [fH (by rw [sQ];exact cS he.symm)])
    rw [fH (cS he.symm)] at h
    exact h
theorem Vg {a:ai}{t:dO}{Q:ag->ak->Prop}(x:ZAt w s.heap a es ep t)
  (hQ:Q (.ref s.heap.objs.size) {s with heap:=s.heap.push {cls:=.type "set_iterator",data:=.fields #[.int 0 0,.int 0 0,.ref a,.int es.size 0,.int ep 0]}}):wpAny (model prog w) A (gS (.ref a)) Q E s:=by
 obtain ⟨⟨o,ho,hc,hd⟩,T⟩:=x
 have hT:s.TypeIs (.ref a) "set":=⟨o,ho,hc⟩
 refine oq hT pf (bX pf hT UE ?_ (F.args_set_iter_1 _))
 unfold cE.«frozenset.__iter__»
 refine aa (aj ?_)
 refine aa ?_
 unfold rW
 refine aa (iY ho hd T.fits (aj ?_))
 refine aa ?_
 unfold setDrawn
 refine aa (gI ho hd T.fits ?_)
 dsimp only
 unfold nT
 refine aa (aa (dP (aj ?_)))
 refine aj ?_
 dsimp only
 refine iq (λ Ay=>?_) λ _=>?_
 ·have Ay:(!(model prog w).w.params.followText "set-order"&&(!t.plain&&decide (es.size > 1)))=true:=Ay
  rw [T.plain] at Ay;simp at Ay
 ·refine aa (aj ?_)
  refine aa (wpAny_setEpoch_of ho hd T.fits ?_)
  refine aa (cB (aj ⟨_,rfl,"set_iterator",_,⟨_,aG _ rfl,rfl⟩,slot_si_next.lookup,?_⟩))
  exact hQ
theorem zB6 {a:ai}{Q:ag->ak->Prop}(s7:ZIt s.heap it a i n ep slot)(h:Q (.ref it) s):wpAny (model prog w) A (gS (.ref it)) Q E s:=by
 refine oq s7.typeIs yv (bX yv s7.typeIs Js ?_ (ui _))
 show wpAny _ _ (ret (.ref it)) _ _ s
 exact aj ⟨_,rfl,"set_iterator",_,s7.typeIs,slot_si_next.lookup,h⟩
theorem zC6 {a:ai}{t:dO}{Q:Option ag->ak->Prop}(tj:a≠it)(x:ZAt w s.heap a es ep t)(s7:ZIt s.heap it a i es.size ep (ZR w t i))(hi:i<es.size)
  (h:∀ h' e,(Zm w a ep es)[i]?=some e->cj it s.heap h'->ZIt h' it a (i + 1) es.size ep (ZR w t (i + 1))->Q (some e.2) {s with heap:=h'}):wpAny (model prog w) A (fv (.ref it)) Q E s:=by
 refine Eeaa (s7.h) λ o ho hc hd=>?_
 obtain ⟨⟨oa,Hi,IT,Fy⟩,T⟩:=id x
 have hw:i<(Zm w a ep es).size:=by
  have:=(y3 w a ep es).length_eq
  rw [bK,bK] at this;rw [this];assumption
 have x9:∀ k,0<=ZR w t k:=λ k=>by
  unfold ZR;split
  ·exact bF _
  ·split
   ·exact bF _
   ·exact bn _
 unfold fv
 refine aa (i8 (cP (name:=ae "__next__") s7.typeIs slot_si_next (bX slot_si_next s7.typeIs yo ?_ (YC _))))
 unfold cE.«set_iterator.__next__»
 refine aa (aj ?_)
 refine aa (pw ho hd ?_)
 show wpAny _ _ (setEntries a >>= _) _ _ s
 refine aa (iY Hi Fy T.fits ?_)
 erw [if_neg (by simp)]
 dsimp only
 refine aa (uI (ep:=ep) (i:=i) x (eT hi) ?_)
 erw [cq hw]
 show wpAny _ _ (setField (.ref it) 0 (rawInt ((ZR w t (i + 1)).toNat:Nat)) >>= _) _ _ s
 refine aa (gn ho hd (by simp) ?_)
 have BY:=dv (pV (·.setIfInBounds 0 (rawInt ((ZR w t (i + 1)).toNat:Nat)))) ho (iA (dX hd _))
 have FH:=dX hd (·.setIfInBounds 0 (rawInt ((ZR w t (i + 1)).toNat:Nat)))
 refine aa (gn (s:={s with heap:=s.heap.update it _}) BY FH (by simp) ?_)
 have Bm:=dv (pV (·.setIfInBounds 1 (rawInt ((i:Int) + 1)))) BY (iA (dX FH _))
 have D3:=dX FH (·.setIfInBounds 1 (rawInt ((i:Int) + 1)))
 refine aj ⟨_,rfl,aj (h _ _ (cq hw) ((cD ..).trans (cD ..)) ⟨_,Bm,?_,?_⟩)⟩
 ·exact (kB ..).trans ((kB ..).trans hc)
 ·erw [D3]
  have:=x9 (i + 1)
  simp [rawInt,dN this]
theorem zDQ {a:ai}{t:dO}{Q:Option ag->ak->Prop}(hh:A.handled=none)(x:ZAt w s.heap a es ep t)(s7:ZIt s.heap it a es.size es.size ep (ZR w t es.size))
  (hQ:∀ h',fY it s.heap h'->Q none {s with heap:=h'}):wpAny (model prog w) A (fv (.ref it)) Q E s:=by
 refine Eeaa (s7.h) λ o ho hc hd=>?_
 obtain ⟨⟨oa,Hi,IT,Fy⟩,T⟩:=id x
 have hw:(Zm w a ep es).size=es.size:=by
  have:=(y3 w a ep es).length_eq
  rwa [bK,bK] at this
 unfold fv
 refine aa (i8 (cP (name:=ae "__next__") s7.typeIs slot_si_next (bX slot_si_next s7.typeIs yo ?_ (YC _))))
 unfold cE.«set_iterator.__next__»
 refine aa (aj ?_)
 refine aa (pw ho hd ?_)
 show wpAny _ _ (setEntries a >>= _) _ _ s
 refine aa (iY Hi Fy T.fits ?_)
 erw [if_neg (by simp)]
 dsimp only
 refine aa (uI (ep:=ep) (i:=es.size) x (aQ _) ?_)
 erw [fH (cS hw)]
 show wpAny _ _ (setField (.ref it) 2 .none >>= _) _ _ s
 refine aa (gn ho hd (by simp) ?_)
 show wpAny _ _ (pz (.type "StopIteration") [] >>= _) _ _ _
 refine aa ?_
 simp only [pz,pA]
 refine aa (cB ?_ (by size_fits))
 refine aa (m:=iG _ _) (gK (a:=dH) (by first | rfl | (simp only [iG];rfl)) ?_)
 refine cB ?_ (by size_fits)
 simp only [raiseNew]
 refine aa (pW ?_)
 refine rwE (show A.in1.handled=none from hh) ?_
 refine aa (aj (wpAny_throw ?_))
 refine aa (g8 (T:="StopIteration") (b:=true) ⟨_,aG _ rfl,rfl⟩ pB ?_)
 exact aj (hQ _ (((cD ..).extBut.push _).push _))
theorem vG (hh:A.handled=none)(I a:ai)(tj:a≠I)(es:Array (Int×ag))(ep:Nat)(t:dO) :
  Walks prog w A I [I,a] [I] es.size (λ i v=>((Zm w a ep es).toList.map (·.2))[i]?=some v) (λ i h=>ZIt h I a i es.size ep (ZR w t i)/\ZAt w h a es ep t) where
 sub:=λ b hb=>by simp at hb;simp [hb]
 frame:=λ _ _ _ st hk=>⟨st.1.at λ o e=>hk I (by simp) o e,st.2.at λ o e=>hk a (by simp) o e⟩
 item:=λ i s Q E hi st hQ=>by
  refine zC6 tj st.2 st.1 hi λ h' e he AK tZ=>?_
  exact hQ _ h' s.toks (by (erw [bt];erw [mX];erw [he]);rfl) ⟨tZ,st.2.at λ o e=>AK.extBut a o tj e⟩ λ b o hb e=>AK.extBut b o (λ h=>hb (by simp [h])) e
 done:=λ s Q E st hQ=>zDQ hh st.2 st.1 λ h' Fw=>hQ h' s.toks λ b o hb e=>Fw b o (λ h=>hb (by simp [h])) e
 self:=λ _ _ _ _ st hQ=>zB6 st.1 hQ
theorem VF {r:ai}{Q:Bool->ak->Prop}(hT:s.TypeIs (.ref r) "set")(h:Q false s):wpAny (model prog w) A (ly (.ref r)) Q E s:=by
 unfold ly
 refine aa (ir hT PySem.F.slot_set_len.lookup ?_)
 generalize AG:("set.__len__":String)=id0
 wp_delta
 refine rwE (show splitId id0=some ("set","__len__") from by subst AG;decide +kernel) ?_
 subst AG
 refine aa (g8 (T:="set") (b:=true) hT (by erw [lH];kernel_rfl) ?_)
 refine iq (λ Ay=>absurd Ay (by decide)) (λ _=>?_)
 refine iq (λ _=>?_) (λ Ay=>absurd (by decide +kernel) Ay)
 refine aa (mJ hT ?_)
 exact aj h
theorem zB8 {a:ai}{t:dO}:KdlSrc prog w "set" a a es.size (λ i v=>((Zm w a ep es).toList.map (·.2))[i]?=some v) (λ h=>ZAt w h a es ep t) where
 type:=λ _ x=>let ⟨o,ho,hc,_⟩:=x.h;⟨o,ho,hc⟩
 there:=λ _ x=>let ⟨o,ho,_⟩:=x.h;⟨bb ho,bb ho⟩
 keep:=λ _ _ x hk=>x.at λ o e=>hk a (.inl rfl) o e
 notList:=by decide
 notTuple:=by decide
 hint:=λ _ _ _ _ x hq=>VF (let ⟨o,ho,hc,_⟩:=x.h;⟨o,ho,hc⟩) hq
 iter:=λ A s hh x=>⟨_,_,(λ _ _ hq=>Vg x hq),vG hh _ a (aB (let ⟨_,ho,_⟩:=x.h;bb ho)) es ep t,⟨⟨_,aG _ rfl,rfl,by unfold ZR;split <;> rfl⟩,x.at λ o e=>am _ e⟩⟩
theorem wV {ws:List ag}{l:List Int}(h:cJ vs l)(p:ws.Perm vs):∃ l',cJ ws l'/\l'.Perm l:=by
 have all:∀ {vs:List ag} {l:List Int},cJ vs l->l=vs.map λ v=>match v with | .int i _=>i | _=>0:=λ {vs l} h=>by
  induction h with
  | nil=>rfl
  | cons n t _ ih=>erw [ih];rfl
 have back:∀ {ws:List ag},(∀ v,v∈ws->∃ i t,v=.int i t)->cJ ws (ws.map λ v=>match v with | .int i _=>i | _=>0):=λ {ws}=>by
  induction ws with
  | nil=>exact λ _=>.nil
  | cons v r ih=>intro q;(refine Eee (q v (.head _)) λ i t Ap=>?_;obtain rfl:=Ap);exact .cons i t (ih λ x m=>q x (.tail _ m))
 have IV:∀ {vs:List ag} {l:List Int},cJ vs l->∀ v,v∈vs->∃ i t,v=.int i t:=λ {vs l} h=>by
  induction h with
  | nil=>exact λ _ m=>nomatch m
  | cons n t _ ih=>intro v m;rcases aA.mp m with rfl | m;exact ⟨n,t,rfl⟩;exact ih v m
 exact ⟨_,back λ v m=>IV h v (p.mem_iff.mp m),by erw [all h];exact p.map _⟩
theorem Un {a:ai}{l:List Int}{Q:List ag->ak->Prop}(hh:A.handled=none)(x:IsSet prog w s.heap a l)(h:∀ h' tk vs l',(∀ b o,s.heap.get? b=some o->h'.get? b=some o)->l'.Perm l->cJ vs l'->Q vs {s with heap:=h',toks:=tk}) :
  wpAny (model prog w) A (ot (.ref a)) Q E s:=by
 obtain ⟨o,es,ep,t,l',ho,F4,hd,E7,hI,hp,T⟩:=x.h
 have hA:ZAt w s.heap a es ep t:=⟨⟨o,ho,F4.1,hd⟩,T⟩
 refine kdu_collect zB8 hh hA (by erw [cx];have:=T.n4;exact af this (nB9 rfl)) λ h' tk acc hk tL=>?_
 have hw:=(y3 w a ep es).map (·.2)
 refine Eea (wV hI hw) λ l2 FI AL=>?_
 have e:acc.toList=(Zm w a ep es).toList.map (·.2):=by
  have hl:acc.toList.length=es.size:=by erw [bK];exact tL.1
  have Am:((Zm w a ep es).toList.map (·.2)).length=es.size:=by have:=hw.length_eq;rw [ah,ah] at this;(erw [ah];erw [this];erw [bK];rfl)
  refine ow λ i=>?_
  rcases rl i es.size with q | q
  ·have hq:i<acc.toList.length:=by rw [hl];exact q
   have:=tL.2 i acc.toList[i] (by refine rwS mX ?_;exact ay hq)
   erw [ay hq];exact this.symm
  ·(erw [eh (by exact lin [_,_,_] [] (.v 0) (.v 1) [(1,.e (.v 0) (.v 2)),(1,.l (.v 2) (.v 1))] tT9 hl q)];erw [eh (by exact lin [_,_,_] [] (.v 0) (.v 1) [(1,.e (.v 0) (.v 2)),(1,.l (.v 2) (.v 1))] tT9 Am q)];rfl)
 erw [e]
 exact h h' tk _ l2 hk (AL.trans hp) FI
end
end Mine.Internal
namespace Mine.Internal
open PySem PySem.Calls PyProof PyProof.Rows PySem.W
set_option tactic.hygienic false
variable {fr:List ai}{b:ai}{o:fi}{x:Option fi}{v:ag}{vs:List ag}{ds:List D}{A:aM}{C:Cx}{n m:Nat}{σ:zA}{Q:D->zA->Prop}{P:Prop}{mo:MO}{es:List (Nat×D)}{K:D->Prop}{motive:List ag->Prop}
mutual
noncomputable def hashK (P:gT):Ky->Int
 | .int i=>gH i
 | .str x=>bN P x
 | .nil=>nU (ff [])
 | .cons a r=>nU (ff (hashK P a::hashesK P r))
noncomputable def hashesK (P:gT):Ky->List Int
 | .cons a r=>hashK P a::hashesK P r
 | _=>[]
end
section
variable (T:Tabs)(P:gT)(h:aP)(φ:ai->Prop)(μ:List ai)
inductive IEs:List (Int×ag)->List (Int×D)->Prop
 | nil:IEs [] []
 | cons {k:Int} {v:ag} {d:D} {r:List (Int×ag)} {es:List (Int×D)}:VD h φ μ v d->IEs r es->IEs ((k,v)::r) ((k,d)::es)
inductive REs:List (aK×ag)->List (Nat×D)->Prop
 | nil:REs [] []
 | cons {k:Nat} {x:aK} {v:ag} {d:D} {r:List (aK×ag)} {es:List (Nat×D)}:T.names[k]?=some x->VD h φ μ v d->REs r es->REs ((x,v)::r) ((k,d)::es)
inductive SEs:List dQ->List (Nat×D)->Prop
 | nil:SEs [] []
 | cons {k:Nat} {x:aK} {t:iT} {v:ag} {d:D} {r:List dQ} {es:List (Nat×D)}:T.names[k]?=some x->VD h φ μ v d->SEs r es->SEs (⟨bN P x,.str x t,v⟩::r) ((k,d)::es)
inductive TEs:List (Ky×ai×ag)->List (Ky×D)->Prop
 | nil:TEs [] []
 | cons {k:Ky} {xs:List ab} {a:ai} {v:ag} {d:D} {r:List (Ky×ai×ag)} {es:List (Ky×D)}:VP h φ (.ref a) (.tuple xs)->keyDs xs=some k->(ch xs).depth<=6->VD h φ μ v d->TEs r es ->
   TEs ((k,a,v)::r) ((k,d)::es)
end
def qA (T:Tabs)(prog:bR)(w:b4)(h:aP)(φ:ai->Prop)(μ:List ai)(a:ai)(zz:MO):Prop:=@MO.casesOn (λ _=>Prop) zz (λ xs=>∃ vs n,h.get? a=some (listOf vs.toArray n)/\VPs h φ vs xs) (λ es=>(a==eM)=false/\∃ kvs,h.DictOf (intKind prog w) a kvs/\IEs h φ μ kvs es) (λ es=>(a==eM)=false/\∃ kvs,h.DictOf (strKind prog w) a kvs/\REs T h φ μ kvs es) (λ es=>∃ ds n,h.get? a=some (dictOf ds n)/\SEs T w.params h φ μ ds es) (λ es=>(a==eM)=false/\∃ xs,(∃ o ds ep,h.get? a=some o/\o.ExactDict/\o.data=.dict ds ep/\ds.toList=xs.map (λ x=>(⟨hashK w.params x.1,.ref x.2.1,x.2.2⟩:dQ))/\(xs.map (·.1)).Nodup)/\TEs h φ μ xs es) (λ C j=>C∈T.classes/\∃ d,μ[j]?=some d/\h.get? a=some (instObj C d)) True (λ l=>IsSet prog w h a l)
structure Rel (C:Cx)(T:Tabs)(h:aP)(φ:ai->Prop)(μ:List ai)(σ:zA):Prop where
 keep:∀ b o,C.h₀.get? b=some o->h.get? b=some o
 base:∀ b o,C.h₀.get? b=some o->φ b
 frz:∀ a,φ a->∃ o,h.get? a=some o
 len:μ.length=σ.length
 nodup:∀ (i j:Nat) (a:ai),μ[i]?=some a->μ[j]?=some a->i=j
 lt:∀ (i:Nat) (a:ai),μ[i]?=some a->∃ o,h.get? a=some o
 apart:∀ (i:Nat) (a:ai),μ[i]?=some a->φ a->σ[i]?=some .dead
 at_:∀ (i:Nat) (a:ai) (mo:MO),μ[i]?=some a->σ[i]?=some mo->qA T C.prog C.w h φ μ a mo
def FrO (o:fi):Prop:=∃ es n,o.data=.dict es n
def Kept (fr:List ai)(b:ai)(o:fi)(x:Option fi):Prop:=x=some o∨(b∈fr/\∃ sl,x=some {o with slots:=sl})
structure Ext (h:aP)(φ:ai->Prop)(μ:List ai)(h':aP)(j':ai->Prop)(sz:List ai)(wr:List ai)(fr:List ai:=[]):Prop where
 frz:∀ a,φ a->j' a/\h'.get? a=h.get? a
 new:∀ a,j' a->φ a∨h.get? a=none∨a∈μ
 pre:∀ (i:Nat) (a:ai),μ[i]?=some a->sz[i]?=some a
 fresh:∀ (i:Nat) (a:ai),sz[i]?=some a->μ[i]?=some a∨h.get? a=none
 ex:∀ b o,h.get? b=some o->∃ o',h'.get? b=some o'
 oth:∀ b o,h.get? b=some o->b∉μ->b∉wr->Kept fr b o (h'.get? b)
theorem Kept.refl (o:fi):Kept fr b o (some o):=.inl rfl
theorem Kept.trans {y:Option fi}(p:Kept fr b o x)(q:∀ o',x=some o'->Kept fr b o' y):Kept fr b o y:=by
 refine p.elim (λ e=>q _ e) λ p=>.inr ⟨p.1,Ee p.2 λ sl e=>(q _ e).elim (λ e'=>⟨sl,e'⟩) λ p'=>Ee p'.2 λ H' e'=>⟨H',e'⟩⟩
theorem Kept.exact (p:Kept fr b o x)(hc:b∉fr):x=some o:=by
 rcases p with h | ⟨h,_⟩
 ·exact h
 ·exact absurd h hc
section
variable {h h' AJ:aP}{φ j' sY:ai->Prop}{μ sz sV wr CT fr:List ai}
theorem Ext.refl:Ext h φ μ h φ μ wr fr:=⟨λ _ f=>⟨f,rfl⟩,λ _ f=>.inl f,λ _ _ e=>e,λ _ _ e=>.inl e,λ _ o e=>⟨o,e⟩,λ _ _ e _ _=>e▸Kept.refl _⟩
theorem Ext.back (x:Ext h φ μ h' j' sz wr fr)(hb:h'.get? b=none):h.get? b=none:=by
 cases e:h.get? b with
 | none=>rfl
 | some o=>refine Ee (x.ex b o e) λ o' e'=>?_;rw [hb] at e';cases e'
theorem Ext.notin (x:Ext h φ μ h' j' sz wr fr)(hb:h.get? b=some o)(n:b∉μ):b∉sz:=λ m=>by
 refine Ee (aN.mp m) λ i hi=>?_
 rcases x.fresh i b hi with e | e
 ·exact n (aN.mpr ⟨i,e⟩)
 ·rw [hb] at e;cases e
theorem Ext.notfrz (x:Ext h φ μ h' j' sz wr fr)(hb:h.get? b=some o)(n:b∉μ)(f:¬ φ b):¬ j' b:=λ m=>by
 rcases x.new b m with e | e | e
 ·exact f e
 ·rw [hb] at e;cases e
 ·exact n e
theorem Ext.trans (x:Ext h φ μ h' j' sz wr fr)(y:Ext h' j' sz AJ sY sV wr fr):Ext h φ μ AJ sY sV wr fr:=by
 refine ⟨λ a f=>⟨(y.frz a (x.frz a f).1).1,(y.frz a (x.frz a f).1).2.trans (x.frz a f).2⟩,λ a f=>?_,λ i a e=>y.pre i a (x.pre i a e),λ i a e=>?_,λ b o e=>?_,λ b o e n w=>?_⟩
 ·rcases y.new a f with e | e | e
  ·exact x.new a e
  ·exact .inr (.inl (x.back e))
  ·refine Ee (aN.mp e) λ i hi=>?_
   rcases x.fresh i a hi with q | q
   ·exact .inr (.inr (aN.mpr ⟨i,q⟩))
   ·exact .inr (.inl q)
 ·rcases y.fresh i a e with q | q
  ·exact x.fresh i a q
  ·exact .inr (x.back q)
 ·refine Ee (x.ex b o e) λ o' e'=>?_
  exact y.ex b o' e'
 ·exact (x.oth b o e n w).trans λ o' e'=>y.oth b o' e' (x.notin e n) w
theorem Ext.wider (x:Ext h φ μ h' j' sz wr fr)(s:∀ b o,b∈wr->h.get? b=some o->b∈CT):Ext h φ μ h' j' sz CT fr :=
 ⟨x.frz,x.new,x.pre,x.fresh,x.ex,λ b o e n w=>x.oth b o e n λ m=>w (s b o m e)⟩
theorem Ext.wid {Hv:List ai}(x:Ext h φ μ h' j' sz wr fr)(s:∀ b o,b∈wr->h.get? b=some o->b∈CT)(t:∀ b o,b∈fr->h.get? b=some o->b∈Hv):Ext h φ μ h' j' sz CT Hv :=
 ⟨x.frz,x.new,x.pre,x.fresh,x.ex,λ b o e n w=>(x.oth b o e n λ m=>w (s b o m e)).imp id λ q=>⟨t b o q.1 e,q.2⟩⟩
theorem Ext.slack (x:Ext h φ μ h' j' sz wr):Ext h φ μ h' j' sz wr fr :=
 ⟨x.frz,x.new,x.pre,x.fresh,x.ex,λ b o e n w=>.inl ((x.oth b o e n w).exact λ h=>nomatch h)⟩
theorem Ext.vd (x:Ext h φ μ h' j' sz wr fr){d:D}(p:VD h φ μ v d):VD h' j' sz v d:=p.mono x.frz x.pre
theorem Ext.vds (x:Ext h φ μ h' j' sz wr fr)(p:VDs h φ μ vs ds):VDs h' j' sz vs ds:=p.mono x.frz x.pre
theorem Ext.vp (x:Ext h φ μ h' j' sz wr fr){d:ab}(p:VP h φ v d):VP h' j' v d:=p.mono x.frz
theorem Ext.vps (x:Ext h φ μ h' j' sz wr fr){ds:List ab}(p:VPs h φ vs ds):VPs h' j' vs ds:=p.mono x.frz
end
structure Room (n:Nat)(A:aM):Prop where
 hd:A.handled=none
 depth:A.depth + 2 * n + 10<pC
 units:A.units + 20 * n + 400<cLine
noncomputable def frL (fs:List kO):List ai:=fs.filterMap (·.frame)
noncomputable def frA (A:aM):List ai:=frL (A.frames.getD [])
structure Out (A:aM)(h:aP)(φ:ai->Prop)(μ:List ai):Prop where
 h:∃ fs,A.frames=some fs/\∀ e,e∈fs->e.scope.kind≠.module/\∃ L o,e.frame=some L/\h.get? L=some o/\FrO o/\L∉μ/\¬ φ L
theorem Kept.dat (p:Kept fr b o x):∃ o',x=some o'/\o'.data=o.data:=by
 rcases p with h | ⟨_,sl,h⟩
 ·exact ⟨o,h,rfl⟩
 ·exact ⟨_,h,rfl⟩
theorem Out.ext {h h':aP}{φ j':ai->Prop}{μ sz:List ai}(x:Out A h φ μ)(e:Ext h φ μ h' j' sz [] fr):Out A h' j' sz:=by
 refine Eea (x.h) λ fs hf k=>?_
 refine ⟨fs,hf,λ v hv=>?_⟩
 refine Ea (k v hv) λ k1 k=>?_
 refine Eeeaaaa k λ L o k2 k3 k4 k5 k6=>?_
 refine Eea ((e.oth L o k3 k5 bW).dat) λ o' h1 h2=>?_
 exact ⟨k1,L,o',k2,h1,Eee k4 λ es n q=>⟨es,n,h2.trans q⟩,e.notin k3 k5,e.notfrz k3 k5 k6⟩
structure SatCall (C:Cx)(T:Tabs)(n:Nat)(f:ai)(ds:List D)(σ:zA)(Q:D->zA->Prop):Prop where
 keep:keepIn C.K (.ref f)=true
 code:∀ (A:aM) (s:ak) (φ:ai->Prop) (μ:List ai) (vs:List ag),Room n A->Out A s.heap φ μ->Rel C T s.heap φ μ σ->VDs s.heap φ μ vs ds ->
  ez (model C.prog C.w) A (.call (.ref f) ⟨vs,[]⟩) (λ r s'=>match r with
   | .ok (.ret v)=>∃ h' tk j' sz d σ',s'={s with heap:=h',toks:=tk}/\Rel C T h' j' sz σ'/\Ext s.heap φ μ h' j' sz [] (frA A)/\VD h' j' sz v d/\Q d σ'
   | _=>False) s
theorem SatCall.run {T:Tabs}{f:ai}(x:SatCall C T n f ds σ Q)(A:aM)(s:ak)(φ:ai->Prop)(μ:List ai)(vs:List ag)(r:Room n A)(ou:Out A s.heap φ μ)(R:Rel C T s.heap φ μ σ)(V:VDs s.heap φ μ vs ds) :
  wpAny (model C.prog C.w) A (call (.ref f) vs) (λ v s'=>∃ h' tk j' sz d σ',s'={s with heap:=h',toks:=tk}/\Rel C T h' j' sz σ'/\Ext s.heap φ μ h' j' sz [] (frA A)/\VD h' j' sz v d/\Q d σ')
   (λ _ _=>False) s:=nS (fG (x.code A s φ μ vs r ou R V) λ r s' h=>by
 cases r with
 | error e=>exact h
 | ok fl=>cases fl <;> exact h)
theorem Room.le (r:Room m A)(h:n<=m):Room n A:=⟨r.hd,by have:=r.depth;exact lin [_,_,_,_] [] (.a (.a (.a (.v 0) (.m 2 (.v 1))) (.k 10)) (.k 1)) (.v 2) [(2,.l (.v 1) (.v 3)),(1,.l (.a (.a (.a (.v 0) (.m 2 (.v 3))) (.k 10)) (.k 1)) (.v 2))] tT9 h this,by have:=r.units;exact lin [_,_,_,_] [] (.a (.a (.a (.v 0) (.m 20 (.v 1))) (.k 400)) (.k 1)) (.v 2) [(20,.l (.v 1) (.v 3)),(1,.l (.a (.a (.a (.v 0) (.m 20 (.v 3))) (.k 400)) (.k 1)) (.v 2))] tT9 h this⟩
theorem SatCall.up {T:Tabs}{f:ai}(x:SatCall C T n f ds σ Q)(h:n<=m):SatCall C T m f ds σ Q :=
 ⟨x.keep,λ A s φ μ vs r ou R v=>x.code A s φ μ vs (r.le h) ou R v⟩
def ifT (b:Bool)(P:Prop):Prop:=@ib (λ _=>Prop) b False P
theorem J2 {b:Bool}(h:ifT b P):b=true/\P:=by
 cases b with
 | true=>exact ⟨rfl,h⟩
 | false=>exact h.elim
abbrev Get (σ:zA) (i:Nat) (K:MO->Prop):Prop:=Is σ[i]? K
abbrev Yf (σ:zA) (d:D) (K:ab->Prop):Prop:=Is (QD σ d) K
abbrev qU (σ:zA) (d:D) (K:List ab->Prop):Prop:=Is (zy σ d) K
noncomputable def JE (zz:MO):Option (List (Nat×D)):=@MO.casesOn (λ _=>Option (List (Nat×D))) zz (λ _=>none) (λ _=>none) (λ es=>some es) (λ _=>none) (λ _=>none) (λ _ _=>none) none (λ _=>none)
noncomputable def jJ (zz:MO):Option (List (Nat×D)):=@MO.casesOn (λ _=>Option (List (Nat×D))) zz (λ _=>none) (λ _=>none) (λ _=>none) (λ es=>some es) (λ _=>none) (λ _ _=>none) none (λ _=>none)
theorem wn (h:JE mo=some es):mo=.rdict es:=by cases mo with | rdict j=>(erw [so h];rfl) | _=>exact nn h
theorem WD (h:jJ mo=some es):mo=.sdict es:=by cases mo with | sdict j=>(erw [so h];rfl) | _=>exact nn h
def Yh (xs:List ab)(x:D)(K:Bool->Prop):Prop:=onP x λ y=>Sh (.tuple xs) y/\K (xs.any λ z=>aV z y)
def J8 (x:D)(K:Bool->Prop)(mo:MO):Prop:=@MO.casesOn (λ _=>Prop) mo (λ xs=>Yh xs x K) (λ _=>False) (λ _=>False) (λ _=>False) (λ es=>onT x λ k=>Kd (.tuple k)/\Is (keyDs k) λ q=>K (z5 q es).isSome) (λ _ _=>False) False (λ _=>False)
def jE (σ:zA)(x:D)(c:D)(K:Bool->Prop):Prop:=@D.casesOn (λ _=>Prop) c (λ y=>Is (Zc y) λ xs=>Yh xs x K) (λ i=>Get σ i (J8 x K)) (λ _=>False) (λ _=>False) (λ _=>False) (λ _ _=>False) (λ _ _ _ _=>False)
noncomputable def XE (zz:ab):Option Bool:=@bA (λ _=>Option Bool) zz (some true) (λ _=>some false) (λ _=>some false) (λ _=>some false) (λ _=>some false) (λ _=>some false) (λ _=>none)
noncomputable def isNone (zz:D):Option Bool:=@D.casesOn (λ _=>Option Bool) zz (λ x=>XE x) (λ _=>some false) (λ _=>none) (λ _=>none) (λ _=>some false) (λ _ _=>some false) (λ _ _ _ _=>none)
noncomputable def Qy (zz:D):Option Unit:=@D.casesOn (λ _=>Option Unit) zz (λ x=>@bA (λ _=>Option Unit) x (some ()) (λ _=>none) (λ _=>none) (λ _=>none) (λ _=>none) (λ _=>none) (λ _=>none)) (λ _=>none) (λ _=>none) (λ _=>none) (λ _=>none) (λ _ _=>none) (λ _ _ _ _=>none)
def wpC (op:ku)(σ:zA)(x y:D)(K:Bool->Prop):Prop:=@CmpOp.casesOn (λ _=>Prop) op (Yf σ x λ a=>Yf σ y λ b=>Sh a b/\K (aV a b)) (Yf σ x λ a=>Yf σ y λ b=>Sh a b/\K (!PyData.eqv a b)) (onI x λ a=>onI y λ b=>K (decide (a<b))) (onI x λ a=>onI y λ b=>K (decide (a<=b))) (onI x λ a=>onI y λ b=>K (decide (b<a))) (onI x λ a=>onI y λ b=>K (decide (b<=a))) (Is (Qy y) λ _=>Is (isNone x) K) (Is (Qy y) λ _=>Is (isNone x) λ b=>K (!b)) (jE σ x y K) (jE σ x y λ b=>K (!b))
def yy (a:List ab)(y:D)(K:D->Prop):Prop:=onL y λ b=>Few (a.length + b.length)/\K (.p (.list (a++b)))
def jK (σ:zA)(x y:D)(K:D->Prop):Prop:=@D.casesOn (λ _=>Prop) x (λ x=>@bA (λ _=>Prop) x False (λ _=>False) (λ a=>onI y λ b=>K (.p (.int (a + b)))) (λ _=>False) (λ a=>yy a y K) (λ a=>onT y λ b=>Few (a.length + b.length)/\K (.p (.tuple (a++b)))) (λ _=>False)) (λ i=>Is (σ[i]?.bind ZQ) λ a=>yy a y K) (λ _=>False) (λ _=>False) (λ _=>False) (λ _ _=>False) (λ _ _ _ _=>False)
def qv (σ:zA)(op:lC)(x y:D)(K:D->Prop):Prop:=@Operator.casesOn (λ _=>Prop) op (jK σ x y K) (onI x λ a=>onI y λ b=>K (.p (.int (a - b)))) (onI x λ a=>onI y λ b=>Fit a/\Fit b/\K (.p (.int (a * b)))) False False (onI x λ a=>onI y λ b=>Nz b/\K (.p (.int (Int.fmod a b)))) (onI x λ a=>onI y λ b=>Pw a b/\K (.p (.int (a ^ b.toNat)))) False False False False False (onI x λ a=>onI y λ b=>Nz b/\K (.p (.int (Int.fdiv a b))))
noncomputable def yF (zz:MO):Option (List Int):=@MO.casesOn (λ _=>Option (List Int)) zz (λ xs=>ints? xs) (λ es=>some (es.map (·.1))) (λ _=>none) (λ _=>none) (λ _=>none) (λ _ _=>none) none (λ l=>some l)
noncomputable def QF (σ:zA)(zz:D):Option (List Int):=@D.casesOn (λ _=>Option (List Int)) zz (λ x=>(Zc x).bind ints?) (λ i=>σ[i]?.bind yF) (λ _=>none) (λ _=>none) (λ _=>none) (λ _ _=>none) (λ _ _ _ _=>none)
noncomputable def jH (zz:Bi):Option Nat:=@Bi.casesOn (λ _=>Option Nat) zz none none none none none none none none (some 0) (some 1) (some 2) (some 3) none none none
noncomputable def Zd:ab->Nat->Option Bool
 | .none,_=>some false
 | .bool _,k=>some (aZ k 2 || aZ k 3)
 | .int _,k=>some (aZ k 2)
 | .str _,_=>some false
 | .list _,k=>some (aZ k 1)
 | .tuple _,k=>some (aZ k 0)
 | .dict _,_=>none
noncomputable def ut (zz:D):Option Bi:=@D.casesOn (λ _=>Option Bi) zz (λ _=>none) (λ _=>none) (λ _=>none) (λ b=>some b) (λ _=>none) (λ _ _=>none) (λ _ _ _ _=>none)
def on1 (ds:List D)(K:D->Prop):Prop:=@bE _ (λ _=>Prop) ds False (λ d r=>@bE _ (λ _=>Prop) r (K d) (λ _ _=>False))
def on2 (ds:List D)(K:D->D->Prop):Prop:=@bE _ (λ _=>Prop) ds False (λ d r=>on1 r λ e=>K d e)
def yZ (ds:List D)(K:D->Prop)(K2:D->D->Prop):Prop:=@bE _ (λ _=>Prop) ds False (λ d r=>@bE _ (λ _=>Prop) r (K d) (λ e r=>@bE _ (λ _=>Prop) r (K2 d e) (λ _ _=>False)))
def Zn (m:Bool)(xs:List ab)(σ:zA)(Q:D->zA->Prop):Prop:=@ib (λ _=>Prop) m (Q (.p (.list xs)) σ) (Q (.obj σ.length) (σ++[.lst xs]))
def hdL (l:List Int)(K:Int->List Int->Prop):Prop:=@bE _ (λ _=>Prop) l False (λ a r=>K a r)
def Xj (d:D)(t:Nat)(σ:zA)(Q:D->zA->Prop):Prop:=@D.casesOn (λ _=>Prop) d (λ x=>Is (Zd x t) λ r=>Q (.p (.bool r)) σ) (λ i=>Is (σ[i]?.bind ZQ) λ _=>Q (.p (.bool (aZ t 1))) σ) (λ _=>False) (λ _=>False) (λ _=>False) (λ _ _=>False) (λ _ _ _ _=>False)
noncomputable def b2i (b:Bool):Int:=@ib (λ _=>Int) b 0 1
noncomputable def J6 (zz:ab):Option Int:=@bA (λ _=>Option Int) zz none (λ b=>some (b2i b)) (λ a=>some a) (λ _=>none) (λ _=>none) (λ _=>none) (λ _=>none)
def Zj (m:Bool)(b:Bi)(ds:List D)(σ:zA)(Q:D->zA->Prop):Prop:=@Bi.casesOn (λ _=>Prop) b (on1 ds λ d=>qU σ d λ xs=>Few xs.length/\Q (.p (.int xs.length)) σ) (on2 ds λ d t=>Is ((ut t).bind jH) λ t=>Xj d t σ Q) (on1 ds λ d=>onI d λ a=>Q (.p (.int a.natAbs)) σ) (yZ ds (λ d=>qU σ d λ xs=>Is (ints? xs) λ l=>hdL l λ a r=>Q (.p (.int (z8 a r))) σ) λ d e=>onI d λ a=>onI e λ b=>Q (.p (.int (z8 a [b]))) σ) (yZ ds (λ d=>qU σ d λ xs=>Is (ints? xs) λ l=>hdL l λ a r=>Q (.p (.int (ZK a r))) σ) λ d e=>onI d λ a=>onI e λ b=>Q (.p (.int (ZK a [b]))) σ) (on1 ds λ d=>qU σ d λ xs=>Is (ints? xs) λ l=>Q (.p (.int l.sum)) σ) (on1 ds λ d=>(Is (QF σ d) λ l=>Lt64 l.length/\Zn m ((zg l).map .int) σ Q)∨∃ l,zy σ d=some (l.map zG)/\BitsOk l/\Zn m ((zb l).map zG) σ Q) False (on1 ds λ d=>qU σ d λ xs=>Few xs.length/\Q (.p (.tuple xs)) σ) (on1 ds λ d=>qU σ d λ xs=>Few xs.length/\Zn m xs σ Q) (on1 ds λ d=>onP d λ x=>Is (J6 x) λ a=>Q (.p (.int a)) σ) False (on1 ds λ d=>onT d λ xs=>Is (Zx xs) λ es=>Nd (es.map (·.1))/\Few xs.length/\Q (.obj σ.length) (σ++[.idict es])) (on1 ds λ d=>onL d λ xs=>Is (ints? xs) λ l=>l.length<=4/\Q (.obj σ.length) (σ++[.iset (dd l)])) (yZ ds (λ e=>onI e λ b=>Q (.rng 0 b) σ) λ d e=>onI d λ a=>onI e λ b=>Q (.rng a b) σ)
def jO (i:Nat)(es:List (Int×D))(k:Int)(d:D)(σ:zA)(Q:D->zA->Prop)(zz:Option D):Prop:=@eN _ (λ _=>Prop) zz (Q d (σ.set i (.idict (es++[(k,d)])))) (λ d'=>Q d' σ)
noncomputable def yY (mo:MO)(k:Nat):Bool:=@MO.casesOn (λ _=>Bool) mo (λ _=>aZ k 0 || aZ k 3) (λ _=>aZ k 1 || aZ k 2) (λ _=>false) (λ _=>false) (λ _=>false) (λ _ _=>false) false (λ _=>false)
def yO (i:Nat)(mo:MO)(k:Nat)(ds:List D)(σ:zA)(Q:D->zA->Prop):Prop:=match mo with
 | .lst xs=>match aZ k 0 with
  | true=>on1 ds λ d=>onP d λ x=>Few xs.length/\Q (.p .none) (σ.set i (.lst (xs++[x])))
  | false=>ifT (aZ k 3) (ds=[]/\∃ l,xs=l.map zG/\BitsOk l/\Q (.p .none) (σ.set i (.lst ((zb l).map zG))))
 | .idict es=>ifT (aZ k 1 || aZ k 2) (on2 ds λ e d=>onI e λ q=>match aZ k 1 with
  | true=>Q ((za q es).getD d) σ
  | false=>Few es.length/\jO i es q d σ Q (za q es))
 | _=>False
noncomputable def zS (C:ai)(k:Nat):List ((ai×Nat)×ai)->Option ai
 | []=>none
 | ((a,j),f)::r=>match aZ a C&&aZ j k with
  | true=>some f
  | false=>zS C k r
def YB (xs:List ab)(i:D)(Q:D->Prop):Prop:=onI i λ k=>Sm k/\Is ((idx xs.length k).bind λ j=>xs[j]?) λ x=>Q (.p x)
def YL (i:D)(Q:D->Prop)(mo:MO):Prop:=@MO.casesOn (λ _=>Prop) mo (λ xs=>YB xs i Q) (λ es=>onI i λ k=>Is (za k es) Q) (λ _=>False) (λ _=>False) (λ es=>onT i λ k=>Kd (.tuple k)/\Is (keyDs k) λ q=>Is (z5 q es) Q) (λ _ _=>False) False (λ _=>False)
noncomputable def J4 (x:ab):Option aK:=@bA (λ _=>Option aK) x none (λ _=>none) (λ _=>none) some (λ _=>none) (λ _=>none) (λ _=>none)
theorem zAY {x:ab}{k:aK}(h:J4 x=some k):x=.str k :=
 @bA (λ x=>J4 x=some k->x=.str k) x nn (λ _=>nn) (λ _=>nn) (λ _ e=>congrArg PyData.str (so e)) (λ _=>nn) (λ _=>nn) (λ _=>nn) h
noncomputable def Zy (a:ai)(k:aK):List ((ai×aK)×aK)->Option aK
 | []=>none
 | p::r=>match aZ p.1.1 a&&p.1.2==k with
  | true=>some p.2
  | false=>Zy a k r
def YV (G:List ((ai×aK)×aK))(σ:zA)(o i:D)(Q:D->Prop):Prop:=@D.casesOn (λ _=>Prop) o (λ x=>Is (Zc x) λ xs=>YB xs i Q) (λ j=>Get σ j (YL i Q)) (λ a=>onP i λ k=>Is (J4 k) λ k=>Is (Zy a k G) λ z=>Q (.p (.str z))) (λ _=>False) (λ _=>False) (λ _ _=>False) (λ _ _ _ _=>False)
def zCn (o:Option (List ab))(k:Int)(Q:D->Prop):Prop:=Is o λ xs=>Sm k/\0<=k/\Few xs.length/\Q (.p (.list (xs.take k.toNat)))
def YJ (σ:zA)(o hi:D)(Q:D->Prop):Prop:=onI hi λ k=>match o with
 | .p x=>match x with
  | .str x=>Sm k/\Few x.cps.size/\bq (fQ x none (some k))=true/\Q (.p (.str (fQ x none (some k))))
  | .list xs=>zCn (some xs) k Q
  | _=>False
 | _=>False
def Q0 (T:Tabs)(σ:zA)(i:Nat)(K:ai->Nat->List (Nat×D)->Prop):Prop:=Get σ i λ mo=>match mo with
 | .inst C j=>Is (σ[j]?.bind jJ) λ fs=>K C j fs
 | _=>False
def noO {α:Type}(o:Option α)(P:Prop):Prop:=@eN _ (λ _=>Prop) o P (λ _=>False)
def jV (T:Tabs)(σ:zA)(o:D)(k:Nat)(Q:D->Prop):Prop:=onO o λ i=>Q0 T σ i λ K _ fs=>noO (zS K k T.meth) (Is (look k fs) Q)
noncomputable def ZE (a b:Int):List ab:=(ia (b - a).toNat).map λ (j:Nat)=>bH (a + j)
noncomputable def W8 (xs ys:List ab):List ab:=(xs.zip ys).map λ p=>.tuple [p.1,p.2]
noncomputable def zpO (d e:D):Option (Option Nat):=(isP e).bind λ _=>match d with
 | .p _=>some none
 | .obj i=>some (some i)
 | _=>none
def zf (σ:zA)(d:D)(Q:List ab->Option (Nat×List ab)->Prop):Prop:=@D.casesOn (λ _=>Prop) d (λ x=>Is (Zc x) λ xs=>Q xs none) (λ i=>Is (σ[i]?.bind ZQ) λ xs=>Q xs (some (i,xs))) (λ _=>False) (λ _=>False) (λ _=>False) (λ a b=>Rg a b/\Q (ZE a b) none) (λ d e xs ys=>Is (zpO d e) λ o=>Q (W8 xs ys) (o.map λ i=>(i,xs)))
def zU (i:Option (Nat×List ab))(σ:zA)(K:Prop):Prop:=match i with
 | none=>K
 | some (i,xs)=>σ[i]?=some (.lst xs)/\K
noncomputable def mkD (kind:Nat)(ks:List Nat)(ds:List D):Option MO:=@iH (λ _=>Option MO) kind (gd (aZ ks.length ds.length) (some (.rdict (ks.zip ds)))) (λ k=>@iH (λ _=>Option MO) k (some (.idict [])) (λ _=>some (.tdict [])))
def onN (ρ:Rho)(i:Nat)(K:D->Prop):Prop:=Is (ρ[i]?.bind id) K
def XI (m:Bool)(P:Prop):Prop:=@ib (λ _=>Prop) m P False
def XL (d:D)(acc:List ab)(K:List ab->Prop):Prop:=onP d λ x=>Few acc.length/\K (acc++[x])
noncomputable def zEB (zz:ab):Bool:=@bA (λ _=>Bool) zz true (λ _=>true) (λ _=>true) (λ _=>false) (λ _=>false) (λ _=>false) (λ _=>false)
def yC (d:D)(P:Prop):Prop:=onP d λ x=>ifT (zEB x) P
section
variable (C:Cx)(T:Tabs)(n:Nat)
mutual
noncomputable def wpE:Ex->Rho->zA->(D->zA->Prop)->Prop
 | .nm i,ρ,σ,Q=>onN ρ i λ d=>Q d σ
 | .gl g,_,σ,Q=>Is T.glob[g]? λ p=>Q p.2 σ
 | .c d,_,σ,Q=>Q (.p d) σ
 | .tup es,ρ,σ,Q=>wpEs es ρ σ λ ds σ'=>Q (YS ds) σ'
 | .lst m es,ρ,σ,Q=>wpEs es ρ σ λ ds σ'=>Is (QU ds) λ xs=>Zn m xs σ' Q
 | .dct kind ks es,ρ,σ,Q=>wpEs es ρ σ λ ds σ'=>Is (mkD kind ks ds) λ mo=>Q (.obj σ'.length) (σ'++[mo])
 | .bin op a b,ρ,σ,Q=>wpE a ρ σ λ x σ'=>wpE b ρ σ' λ y sA=>qv sA op x y λ d=>Q d sA
 | .neg a,ρ,σ,Q=>wpE a ρ σ λ x σ'=>onI x λ i=>Q (.p (.int (-i))) σ'
 | .not a,ρ,σ,Q=>wpE a ρ σ λ x σ'=>isB x λ b=>Q (.p (.bool (!b))) σ'
 | .and es,ρ,σ,Q=>wpAnd es ρ σ Q
 | .or es,ρ,σ,Q=>wpOr es ρ σ Q
 | .cmp a op b,ρ,σ,Q=>wpE a ρ σ λ x σ'=>wpE b ρ σ' λ y sA=>wpC op sA x y λ r=>Q (.p (.bool r)) sA
 | .cmp2 a op b t0 c,ρ,σ,Q=>wpE a ρ σ λ x σ'=>wpE b ρ σ' λ y sA=>wpC op sA x y λ r =>
   Br r (wpE c ρ sA λ z sD=>wpC t0 sD y z λ r'=>Q (.p (.bool r')) sD) (Q (.p (.bool false)) sA)
 | .ite c a b,ρ,σ,Q=>wpE c ρ σ λ x σ'=>isB x λ r=>Br r (wpE a ρ σ' Q) (wpE b ρ σ' Q)
 | .call m f args,ρ,σ,Q=>wpE f ρ σ λ g σ'=>wpEs args ρ σ' λ ds sA=>match g with
  | .fn a=>XI m (SatCall C T n a ds sA Q)
  | .bi b=>Zj m b ds sA Q
  | _=>False
 | .meth o k args,ρ,σ,Q=>wpE o ρ σ λ x σ'=>onO x λ i=>Get σ' i λ mo=>match mo with
  | .inst K j=>Is (σ'[j]?.bind jJ) λ fs=>noO (look k fs) (Is (zS K k T.meth) λ f=>wpEs args ρ σ' λ ds sA=>SatCall C T n f (.obj i::ds) sA Q)
  | mo=>ifT (yY mo k) (wpEs args ρ σ' λ ds sA=>Get sA i λ mo'=>yO i mo' k ds sA Q)
 | .attr o k,ρ,σ,Q=>wpE o ρ σ λ x σ'=>jV T σ' x k λ d=>Q d σ'
 | .sub o i,ρ,σ,Q=>wpE o ρ σ λ x σ'=>wpE i ρ σ' λ y sA=>YV T.gds sA x y λ d=>Q d sA
 | .subk o k,ρ,σ,Q=>wpE o ρ σ λ x σ'=>onO x λ i=>Is (σ'[i]?.bind JE) λ fs=>Is (look k fs) λ d=>Q d σ'
 | .upto o hi,ρ,σ,Q=>wpE o ρ σ λ x σ'=>wpE hi ρ σ' λ y sA=>YJ sA x y λ d=>Q d sA
 | .comp m k sT t it ifs gens,ρ,σ,Q=>wpE it ρ σ λ d σ'=>zf σ' d λ xs i=>Few xs.length /\
   zT (λ x (a:List ab×zA) K=>Is (Ze t x (ρ++bJ k none)) λ sB=>wpIfs ifs sB a.2 λ b sM =>
    Br b (wpG (λ ρ σ K=>wpE sT ρ σ K) gens sB sM a.1 λ s3 sD=>zU i sD (K (s3,sD))) (zU i sM (K (a.1,sM)))) xs ([],σ') λ a=>Zn m a.1 a.2 Q
 | .zip a b,ρ,σ,Q=>wpE a ρ σ λ x σ'=>wpE b ρ σ' λ y sA=>qU sA x λ xs=>qU sA y λ ys=>Q (.zp x y xs ys) sA
 | .fstr pre e,ρ,σ,Q=>wpE e ρ σ λ x σ'=>onI x λ i=>Sm i/\Q (.p (.str (pre++ae (toString i)))) σ'
noncomputable def wpEs:List Ex->Rho->zA->(List D->zA->Prop)->Prop
 | [],_,σ,Q=>Q [] σ
 | e::es,ρ,σ,Q=>wpE e ρ σ λ d σ'=>wpEs es ρ σ' λ ds sA=>Q (d::ds) sA
noncomputable def wpAnd:List Ex->Rho->zA->(D->zA->Prop)->Prop
 | [],_,_,_=>False
 | e::es,ρ,σ,Q=>match es with
  | []=>wpE e ρ σ Q
  | e'::r=>wpE e ρ σ λ x σ'=>isB x λ b=>Br b (wpAnd (e'::r) ρ σ' Q) (Q (.p (.bool false)) σ')
noncomputable def wpOr:List Ex->Rho->zA->(D->zA->Prop)->Prop
 | [],_,_,_=>False
 | e::es,ρ,σ,Q=>match es with
  | []=>wpE e ρ σ Q
  | e'::r=>wpE e ρ σ λ x σ'=>isB x λ b=>Br b (Q (.p (.bool true)) σ') (wpOr (e'::r) ρ σ' Q)
noncomputable def wpIfs:List Ex->Rho->zA->(Bool->zA->Prop)->Prop
 | [],_,σ,K=>K true σ
 | e::es,ρ,σ,K=>wpE e ρ σ λ x σ'=>isB x λ b=>Br b (wpIfs es ρ σ' K) (K false σ')
noncomputable def wpG (W:Rho->zA->(D->zA->Prop)->Prop):List Gn->Rho->zA->List ab->(List ab->zA->Prop)->Prop
 | [],ρ,σ,acc,Q=>W ρ σ λ d σ'=>XL d acc λ s3=>Q s3 σ'
 | .mk t it ifs::gs,ρ,σ,acc,Q=>wpE it ρ σ λ d σ'=>zf σ' d λ xs i=>Few xs.length /\
   zT (λ x (a:List ab×zA) K=>Is (Ze t x ρ) λ sB=>wpIfs ifs sB a.2 λ b sM =>
    Br b (wpG W gs sB sM a.1 λ s3 sD=>zU i sD (K (s3,sD))) (zU i sM (K (a.1,sM)))) xs (acc,σ') λ a=>Q a.1 a.2
end
def VZ (p:Pt)(d:D)(ρ:Rho)(K:Rho->Prop):Prop:=match p with
 | .nm i=>K (ρ.set i (some d))
 | .tup ps=>onP d λ x=>Is (Ze (.tup ps) x ρ) K
def W9 (i:Nat)(es:List (Ky×D))(q:Ky)(d:D)(σ:zA)(K:zA->Prop)(zz:Option D):Prop:=@eN _ (λ _=>Prop) zz (K (σ.set i (.tdict (es++[(q,d)])))) (λ _=>False)
def UN (σ:zA)(i:Nat)(y d:D)(K:zA->Prop):Prop:=Get σ i λ mo=>match mo with
 | .idict es=>onI y λ k=>Few es.length/\K (σ.set i (.idict (QX k d es)))
 | .tdict es=>onT y λ k=>Kd (.tuple k)/\Is (keyDs k) λ q=>Few es.length/\W9 i es q d σ K (z5 q es)
 | _=>False
noncomputable def Q8 (zz:D):Option (List D):=@D.casesOn (λ _=>Option (List D)) zz (λ x=>(Zc x).bind λ xs=>some (xs.map .p)) (λ _=>none) (λ _=>none) (λ _=>none) (λ ds=>some ds) (λ _ _=>none) (λ _ _ _ _=>none)
mutual
noncomputable def wpT:Tg->D->Rho->zA->(Rho->zA->Prop)->Prop
 | .pt p,d,ρ,σ,Q=>VZ p d ρ λ sB=>Q sB σ
 | .attr o k,d,ρ,σ,Q=>wpE C T n o ρ σ λ x σ'=>onO x λ i=>Q0 T σ' i λ K j fs=>noO (zS K k T.meth) (Lt64 fs.length/\Q ρ (σ'.set j (.sdict (put k d fs))))
 | .sub o i,d,ρ,σ,Q=>wpE C T n o ρ σ λ x σ'=>wpE C T n i ρ σ' λ y sA=>onO x λ i=>UN sA i y d λ sD=>Q ρ sD
 | .subk o k,d,ρ,σ,Q=>wpE C T n o ρ σ λ x σ'=>onO x λ i=>Is (σ'[i]?.bind JE) λ fs=>Few fs.length/\Q ρ (σ'.set i (.rdict (put k d fs)))
 | .tup ts,d,ρ,σ,Q=>Is (Q8 d) λ ds=>ifT (aZ ts.length ds.length) (wpTs ts ds ρ σ Q)
noncomputable def wpTs:List Tg->List D->Rho->zA->(Rho->zA->Prop)->Prop
 | [],ds,ρ,σ,Q=>match ds with
  | []=>Q ρ σ
  | _::_=>False
 | t::ts,ds,ρ,σ,Q=>match ds with
  | []=>False
  | d::ds=>wpT t d ρ σ λ sB σ'=>wpTs ts ds sB σ' Q
end
def yi (fl:Fl)(P X:Prop):Prop:=@Fl.casesOn (λ _=>Prop) fl P X (λ _=>X)
def qt (fl:Fl)(X:D->Prop)(P:Prop):Prop:=@Fl.casesOn (λ _=>Prop) fl P P (λ d=>X d)
mutual
noncomputable def wpS:St->Rho->zA->(Fl->Rho->zA->Prop)->Prop
 | .expr e,ρ,σ,Q=>wpE C T n e ρ σ λ d σ'=>yC d (Q .next ρ σ')
 | .asg t e,ρ,σ,Q=>wpE C T n e ρ σ λ d σ'=>wpT C T n t d ρ σ' λ sB sA=>Q .next sB sA
 | .ite c a b,ρ,σ,Q=>wpE C T n c ρ σ λ x σ'=>isB x λ r=>Br r (wpSs a ρ σ' Q) (wpSs b ρ σ' Q)
 | .for t it body,ρ,σ,Q=>wpE C T n it ρ σ λ d σ'=>zf σ' d λ xs i=>Few xs.length /\
   zT (λ x (a:Rho×zA) K=>Is (Ze t x a.1) λ sB=>wpSs body sB a.2 λ fl tC sA=>qt fl (λ d=>Q (.ret d) tC sA) (zU i sA (K (tC,sA)))) xs (ρ,σ') λ a=>Q .next a.1 a.2
 | .while c body,ρ,σ,Q=>∃ (I:Rho->zA->Prop) (m:Rho->zA->Nat),I ρ σ/\∀ ρ σ,I ρ σ->wpE C T n c ρ σ λ x σ'=>isB x λ r=>Br r (wpSs body ρ σ' λ fl sB sA=>yi fl (I sB sA/\m sB sA<m ρ σ) False) (Q .next ρ σ')
 | .ret e,ρ,σ,Q=>wpE C T n e ρ σ λ d σ'=>Q (.ret d) ρ σ'
 | .retF e,ρ,σ,Q=>wpE C T n e ρ σ λ d σ'=>Is (Yl σ' d) λ x=>Q (.ret (.p x.1)) ρ x.2
 | .retN,ρ,σ,Q=>Q (.ret (.p .none)) ρ σ
 | .cont,ρ,σ,Q=>Q .cont ρ σ
 | .raise,_,_,_=>False
noncomputable def wpSs:List St->Rho->zA->(Fl->Rho->zA->Prop)->Prop
 | [],ρ,σ,Q=>Q .next ρ σ
 | s::ss,ρ,σ,Q=>wpS s ρ σ λ fl sB σ'=>yi fl (wpSs ss sB σ' Q) (Q fl sB σ')
end
end
section
variable {h:aP}{φ:ai->Prop}{μ:List ai}{vs:List ag}{ds:List D}
theorem XC (sZ:VDs h φ μ vs ds)(k:on1 ds K):∃ v d,vs=[v]/\ds=[d]/\VD h φ μ v d/\K d :=
 @bE D (λ ds=>VDs h φ μ vs ds->on1 ds K->∃ v d,vs=[v]/\ds=[d]/\VD h φ μ v d/\K d) ds (λ _ k=>k.elim) (λ d r=>@bE D (λ r=>VDs h φ μ vs (d::r)->on1 (d::r) K->∃ v d',vs=[v]/\d::r=[d']/\VD h φ μ v d'/\K d') r
  (λ sZ k=>Eeeaa sZ.icons λ v w e V W=>⟨v,d,e.trans (congrArg (v::·) W.inil),rfl,V,k⟩) λ _ _ _ k=>k.elim) sZ k
theorem zAp {K:D->D->Prop}(sZ:VDs h φ μ vs ds)(k:on2 ds K):∃ v w d e,vs=[v,w]/\ds=[d,e]/\VD h φ μ v d/\VD h φ μ w e/\K d e :=
 @bE D (λ ds=>VDs h φ μ vs ds->on2 ds K->∃ v w d e,vs=[v,w]/\ds=[d,e]/\VD h φ μ v d/\VD h φ μ w e/\K d e) ds (λ _ k=>k.elim)
  (λ d r sZ k=>Eeeaa sZ.icons λ v w e1 V s6=>Eeeaaa (XC s6 k) λ w' e e2 e3 W k=>⟨v,w',d,e,e1.trans (congrArg (v::·) e2),congrArg (d::·) e3,V,W,k⟩) sZ k
@[elab_as_elim] theorem qc (V:VDs h φ μ vs ds)(k:on1 ds K)(f:∀ v d,VD h φ μ v d->K d->motive [v]):motive vs:=Eeeaaa (XC V k) λ v d e _ p q=>e▸f v d p q
@[elab_as_elim] theorem zAs {K:D->D->Prop}(V:VDs h φ μ vs ds)(k:on2 ds K)(f:∀ v w d e,VD h φ μ v d->VD h φ μ w e->K d e->motive [v,w]):motive vs:=Eeeeeaaaa (zAp V k) λ v w d e q _ a b c=>q▸f v w d e a b c
theorem uJ {K2:D->D->Prop}(sZ:VDs h φ μ vs ds)(k:yZ ds K K2):(∃ v d,vs=[v]/\VD h φ μ v d/\K d)∨∃ v w d e,vs=[v,w]/\VD h φ μ v d/\VD h φ μ w e/\K2 d e:=by
 cases ds with
 | nil=>exact k.elim
 | cons d r =>
  refine Eeeaa sZ.icons λ v w e1 V s6=>?_
  cases r with
  | nil=>exact .inl ⟨v,d,e1.trans (congrArg (v::·) s6.inil),V,k⟩
  | cons e r=>exact .inr (Eeeaaa (XC (K:=K2 d) s6 k) λ w' e' e2 e3 W k=>⟨v,w',d,e',e1.trans (congrArg (v::·) e2),V,W,k⟩)
end
theorem XA {α:Type}{o:Option α}(h:noO o P):o=none/\P:=by
 cases o with
 | none=>exact ⟨rfl,h⟩
 | some _=>exact h.elim
theorem UC {T:Tabs}{i:Nat}{K:ai->Nat->List (Nat×D)->Prop}(h:Q0 T σ i K):∃ C j fs,σ[i]?=some (.inst C j)/\σ[j]?=some (.sdict fs)/\K C j fs:=by
 refine Eea (Is.h h) λ mo e h=>?_
 cases mo with
 | inst C j =>
  refine Eea (Is.h h) λ fs e' h=>?_
  refine Eea (ob e') λ mo e2 e3=>?_
  obtain rfl:=WD e3
  exact ⟨C,j,fs,e,e2,h⟩
 | _=>exact h.elim
end Mine.Internal
namespace Mine.Internal
open PySem PySem.Calls PyProof.Rows PySem.W
set_option tactic.hygienic false
variable {h':aP}{φ j':ai->Prop}{μ sz fr:List ai}{b B:ai}{ρ sP:Rho}{A:aM}{C:Cx}{s s9:ak}{mo:MO}{prog:bR}{w:b4}{i:Nat}{o:fi}{v:ag}{vs:List ag}{x:aK}
structure Fm where
 env:kO
 ks:List (aK×aS)
 own:List ai
 fs:List kO
variable {F:Fm}
inductive OptV (h:aP)(φ:ai->Prop)(μ:List ai):Option ag->Option (Option D)->Prop
 | no (o:Option ag):OptV h φ μ o (some none)
 | is {v:ag} {d:D}:VD h φ μ v d->OptV h φ μ (some v) (some (some d))
def acc (k:aS):Prop:=k=.local∨k=.cell∨k=.free
structure FrI (F:Fm)(h:aP)(φ:ai->Prop)(μ:List ai)(ρ:Rho):Prop where
 kind:F.env.scope.kind=.function
 glob:F.env.globals=cu
 blt:F.env.builtins=fR
 len:ρ.length=F.ks.length
 loc:∃ m,h.Ns F.env.locals m/\∀ (i:Nat) (x:aK),F.ks[i]?=some (x,NameKind.local)->F.env.kindOf x=some .local/\OptV h φ μ (m x) ρ[i]?
 cell:∀ (i:Nat) (x:aK) (k:aS),F.ks[i]?=some (x,k)->(k=.cell∨k=.free)->(F.env.kindOf x=some .cell∨(k=.free/\F.env.kindOf x=some .free))/\∃ c v,F.env.cells.lookup x=some c/\h.IsCell c v/\OptV h φ μ v ρ[i]?/\(k=.cell->c∈F.own)
 uniq:∀ (i j:Nat) (x:aK) (k k':aS),F.ks[i]?=some (x,k)->F.ks[j]?=some (x,k')->acc k->acc k'->i=j
 Lμ:F.env.locals∉μ
 Lφ:¬ φ F.env.locals
 cμ:∀ x c,F.env.cells.lookup x=some c->(∃ o,h.get? c=some o)/\c∉μ/\¬ φ c/\c≠F.env.locals
 cinj:∀ x y c,F.env.cells.lookup x=some c->F.env.cells.lookup y=some c->x=y
 own:∀ c,c∈F.own->∃ o,h.get? c=some o
 outs:∀ v,v∈F.fs->v.scope.kind≠.module/\∃ L,v.frame=some L/\(L=F.env.locals∨∃ o,h.get? L=some o/\FrO o/\L∉μ/\¬ φ L/\L∉F.own/\L≠F.env.locals)
theorem OptV.mono {h:aP}(k:∀ a,φ a->j' a/\h'.get? a=h.get? a)(m:∀ (i:Nat) (a:ai),μ[i]?=some a->sz[i]?=some a)
  {o:Option ag} {d:Option (Option D)} (p:OptV h φ μ o d):OptV h' j' sz o d:=by
 cases p with
 | no o=>exact .no o
 | is q=>exact .is (q.mono k m)
theorem JF {h:aP}{a:ai}{m:aK->Option ag}(n:h.Ns a m)(k:∀ o,h.get? a=some o->Kept fr b o (h'.get? a)):h'.Ns a m:=by
 (refine Eeeeaa (n) λ o es ep ho hd r=>?_;try clear n)
 rcases k o ho with e | ⟨_,sl,e⟩
 ·exact ⟨o,es,ep,e,hd,r⟩
 ·exact ⟨_,es,ep,e,hd,r⟩
theorem wh {h:aP}{a:ai}{v:Option ag}(n:h.IsCell a v)(k:∀ o,h.get? a=some o->Kept fr b o (h'.get? a)):h'.IsCell a v:=by
 (refine Eea (n) λ o ho hd=>?_;try clear n)
 rcases k o ho with e | ⟨_,sl,e⟩
 ·exact ⟨o,e,hd⟩
 ·exact ⟨_,e,hd⟩
theorem FrI.outsK {h:aP}(x:FrI F h φ μ ρ)(k:∀ v L o,v∈F.fs->v.frame=some L->h.get? L=some o->L∉μ->¬ φ L->L∉F.own->L≠F.env.locals->(∃ o',h'.get? L=some o'/\o'.data=o.data)/\L∉sz/\¬ j' L) :
  ∀ v,v∈F.fs->v.scope.kind≠.module/\∃ L,v.frame=some L/\(L=F.env.locals∨∃ o,h'.get? L=some o/\FrO o/\L∉sz/\¬ j' L/\L∉F.own/\L≠F.env.locals):=λ v hv=>by
 (refine Ea (x.outs v hv) λ h1 tF=>?_;refine Eea tF λ L h2 h3=>?_)
 refine ⟨h1,L,h2,h3.imp id λ ⟨o,a,b,c,f,d,e⟩=>?_⟩
 refine Eaa (k v L o hv h2 a c f d e) λ BH e3 e4=>?_
 refine Eea BH λ o' e1 e2=>?_
 exact ⟨o',e1,let ⟨es,n,q⟩:=b;⟨es,n,e2.trans q⟩,e3,e4,d,e⟩
theorem FrI.ne_out {h:aP}(x:FrI F h φ μ ρ)(hB:h.get? B=none){v:kO}{L:ai}(hv:v∈F.fs)(hL:v.frame=some L):L≠B:=λ e=>by
 subst e
 (refine Ea (x.outs v hv) λ _ Ae=>?_;refine Eea Ae λ L' h2 h3=>?_)
 rw [hL] at h2;(injection h2 with y1y0;subst y1y0)
 rcases h3 with h3 | ⟨o,h3,_⟩
 ·(refine Eea (x.loc) λ m Bw=>?_;(refine Eeeea (Bw) λ o _ _ ho _=>?_;try clear Bw);intro _)
  rw [<- h3,hB] at ho;cases ho
 ·rw [hB] at h3;cases h3
theorem jk {fs:List kO}(h:A.frames=some fs):frA A=frL fs:=by
 unfold frA;erw [h];rfl
theorem FrI.ne_fr {h:aP}(x:FrI F h φ μ ρ)(hB:h.get? B=none):B∉frL F.fs:=λ m=>by
 refine Eea (b6.mp m) λ v hv hL=>?_
 exact x.ne_out hB hv hL rfl
theorem FrI.out {h:aP}(x:FrI F h φ μ ρ)(hF:A.frames=some F.fs):Out A h φ μ:=⟨F.fs,hF,λ v hv=>by
 (refine Ea (x.outs v hv) λ h1 BD=>?_;refine Eea BD λ L h2 h3=>?_)
 rcases h3 with h3 | ⟨o,h3,h4,h5,h6,_⟩
 ·(refine Eea (x.loc) λ m Bk=>?_;(refine Eeeeaa (Bk) λ o es ep ho hd _=>?_;try clear Bk);intro _)
  exact ⟨h1,L,o,h2,h3▸ho,⟨es,ep,hd⟩,h3▸x.Lμ,h3▸x.Lφ⟩
 ·exact ⟨h1,L,o,h2,h3,h4,h5,h6⟩⟩
theorem FrI.ext {h:aP}{wr:List ai}(x:FrI F h φ μ ρ)(e:Ext h φ μ h' j' sz wr fr)
  (hL:F.env.locals∉wr) (hc:∀ y c,F.env.cells.lookup y=some c->c∉wr) (ho:∀ v L,v∈F.fs->v.frame=some L->L≠F.env.locals->L∉wr):FrI F h' j' sz ρ:=by
 refine Eea (x.loc) λ m hn hm=>?_
 refine ⟨x.kind,x.glob,x.blt,x.len,⟨m,JF hn λ o ho=>e.oth _ o ho x.Lμ hL,λ i y hi=>⟨(hm i y hi).1,(hm i y hi).2.mono e.frz e.pre⟩⟩,λ i y k hi hk=>?_,x.uniq,
  (by (refine Eeeea (hn) λ o _ _ ho _=>?_;try clear hn);exact e.notin ho x.Lμ),(by (refine Eeeea (hn) λ o _ _ ho _=>?_;try clear hn);exact e.notfrz ho x.Lμ x.Lφ),λ y c hy=>?_,x.cinj,λ c hc=>let ⟨o,ho⟩:=x.own c hc;e.ex c o ho,x.outsK λ v L o hv hf h1 h2 h3 _ h4=>⟨(e.oth L o h1 h2 (ho v L hv hf h4)).dat,e.notin h1 h2,e.notfrz h1 h2 h3⟩⟩
 ·(refine Ea (x.cell i y k hi hk) λ h1 BB=>?_;refine Eeeaaa BB λ c v t6 x7 Bp Bh=>?_)
  exact ⟨h1,c,v,t6,wh x7 λ o ho=>e.oth _ o ho (x.cμ y c t6).2.1 (hc y c t6),Bp.mono e.frz e.pre,Bh⟩
 ·(refine qJ (x.cμ y c hy) λ AQ=>?_;(refine Ee (AQ) λ o h0=>?_;try clear AQ);intro h1 h2 h3)
  exact ⟨e.ex c o h0,e.notin h0 h1,e.notfrz h0 h1 h2,h3⟩
structure Go (C:Cx)(T:Tabs)(F:Fm)(s:ak)(φ:ai->Prop)(μ:List ai)(s':ak)(j':ai->Prop)(sz:List ai)(sB:Rho)(σ':zA):Prop where
 st:∃ h tk,s'={s with heap:=h,toks:=tk}
 rel:Rel C T s'.heap j' sz σ'
 fr:FrI F s'.heap j' sz sB
 ext:Ext s.heap φ μ s'.heap j' sz (F.env.locals::F.own) (frL F.fs)
@[elab_as_elim] theorem Go.mst {T:Tabs}{s':ak}{sB:Rho}{σ':zA}{motive:ak->Prop}(G:Go C T F s φ μ s' j' sz sB σ')(k:∀ h tk,motive {s with heap:=h,toks:=tk}):motive s':=Eee G.st λ h tk e=>e▸k h tk
theorem Go.refl {T:Tabs}{σ:zA}(R:Rel C T s.heap φ μ σ)(I:FrI F s.heap φ μ ρ):Go C T F s φ μ s φ μ ρ σ :=
 ⟨⟨s.heap,s.toks,rfl⟩,R,I,.refl⟩
theorem Go.trans {C:Cx}{T:Tabs}{F:Fm}{s s' s9:ak}{φ j' sY:ai->Prop}{μ sz sV:List ai}{sB tC:Rho}{σ' sA:zA}
  (x:Go C T F s φ μ s' j' sz sB σ') (y:Go C T F s' j' sz s9 sY sV tC sA):Go C T F s φ μ s9 sY sV tC sA:=by
 (refine Eee (x.st) λ h tk Aj=>?_;obtain rfl:=Aj)
 (refine Eee (y.st) λ h' AC AR=>?_;obtain rfl:=AR)
 exact ⟨⟨h',AC,rfl⟩,y.rel,y.fr,x.ext.trans y.ext⟩
theorem Go.tok {C:Cx}{T:Tabs}{F:Fm}{s s':ak}{φ j':ai->Prop}{μ sz:List ai}{sB:Rho}{σ':zA}
  (x:Go C T F s φ μ s' j' sz sB σ') (tk:Nat):Go C T F s φ μ {s' with toks:=tk} j' sz sB σ':=by
 (refine Eee (x.st) λ h AC Dn=>?_;obtain rfl:=Dn)
 exact ⟨⟨h,tk,rfl⟩,x.rel,x.fr,x.ext⟩
section
variable {C:Cx}{T:Tabs}{F:Fm}{s s':ak}{φ j':ai->Prop}{μ sz:List ai}{ρ sB:Rho}{σ σ':zA}
theorem Go.of_extF {tk:Nat}(I:FrI F s.heap φ μ ρ)(R':Rel C T h' j' sz σ')(e:Ext s.heap φ μ h' j' sz [] (frL F.fs)) :
  Go C T F s φ μ {s with heap:=h',toks:=tk} j' sz ρ σ' :=
 ⟨⟨h',tk,rfl⟩,R',I.ext e (λ h=>nomatch h) (λ _ _ _ h=>nomatch h) (λ _ _ _ _ _ h=>nomatch h),e.wider λ _ _ h=>nomatch h⟩
theorem Go.of_ext {tk:Nat}(I:FrI F s.heap φ μ ρ)(R':Rel C T h' j' sz σ')(e:Ext s.heap φ μ h' j' sz []) :
  Go C T F s φ μ {s with heap:=h',toks:=tk} j' sz ρ σ':=Go.of_extF I R' e.slack
theorem zd (h:aP):h.get? h.objs.size=none:=dB (aQ _)
noncomputable def WQ (mo:MO):Bool:=@MO.casesOn (λ _=>Bool) mo (λ _=>false) (λ _=>false) (λ _=>false) (λ _=>false) (λ _=>false) (λ _ _=>false) true (λ _=>false)
theorem Rel.notin_none (R:Rel C T s.heap φ μ σ)(hb:s.heap.get? b=none):b∉μ:=λ h=>Ee (aN.mp h) λ i hi=>Ee (R.lt i _ hi) λ _ e=>nn (hb.symm.trans e)
theorem Rel.notfrz_none (R:Rel C T s.heap φ μ σ)(hb:s.heap.get? b=none):¬ φ b:=λ h=>Ee (R.frz _ h) λ _ e=>nn (hb.symm.trans e)
theorem yJ {P:Prop}(e:mo=.dead∨P)(h:WQ mo=false):P:=e.resolve_left λ q=>aT (h.symm.trans (congrArg WQ q))
theorem DictOf.eqAt {K:Type}[DecidableEq K]{kd:KeyKind prog w K}{h:aP}{a:ai}{kvs:List (K×ag)}(x:h.DictOf kd a kvs)(e:h'.get? a=h.get? a):h'.DictOf kd a kvs :=
 Eeeea x λ o es ep ho r=>⟨o,es,ep,e.trans ho,r⟩
section
variable {h h':aP}{μ sz:List ai}{P:gT}
theorem IEs.mono {kvs:List (Int×ag)}{es:List (Int×D)}(q:IEs h φ μ kvs es)(k:∀ a,φ a->j' a/\h'.get? a=h.get? a)(m:∀ (i:Nat) (a:ai),μ[i]?=some a->sz[i]?=some a):IEs h' j' sz kvs es:=@IEs.rec h φ μ (λ kvs es _=>IEs h' j' sz kvs es) .nil (λ p _ ih=>.cons (p.mono k m) ih) kvs es q
theorem REs.mono {kvs:List (aK×ag)}{es:List (Nat×D)}(q:REs T h φ μ kvs es)(k:∀ a,φ a->j' a/\h'.get? a=h.get? a)(m:∀ (i:Nat) (a:ai),μ[i]?=some a->sz[i]?=some a):REs T h' j' sz kvs es:=@REs.rec T h φ μ (λ kvs es _=>REs T h' j' sz kvs es) .nil (λ n p _ ih=>.cons n (p.mono k m) ih) kvs es q
theorem SEs.mono {kvs:List dQ}{es:List (Nat×D)}(q:SEs T P h φ μ kvs es)(k:∀ a,φ a->j' a/\h'.get? a=h.get? a)(m:∀ (i:Nat) (a:ai),μ[i]?=some a->sz[i]?=some a):SEs T P h' j' sz kvs es:=@SEs.rec T P h φ μ (λ kvs es _=>SEs T P h' j' sz kvs es) .nil (λ n p _ ih=>.cons n (p.mono k m) ih) kvs es q
theorem TEs.mono {kvs:List (Ky×ai×ag)}{es:List (Ky×D)}(q:TEs h φ μ kvs es)(k:∀ a,φ a->j' a/\h'.get? a=h.get? a)(m:∀ (i:Nat) (a:ai),μ[i]?=some a->sz[i]?=some a):TEs h' j' sz kvs es:=@TEs.rec h φ μ (λ kvs es _=>TEs h' j' sz kvs es) .nil (λ p hk hd v _ ih=>.cons (p.mono k) hk hd (v.mono k m) ih) kvs es q
end
theorem Zr {h:aP}{μ sz:List ai}{a:ai}(x:qA T prog w h φ μ a mo)(k:∀ a,φ a->j' a/\h'.get? a=h.get? a)(m:∀ (i:Nat) (a:ai),μ[i]?=some a->sz[i]?=some a)
  (e:mo=.dead∨h'.get? a=h.get? a):qA T prog w h' j' sz a mo :=
 @MO.casesOn (λ mo=>qA T prog w h φ μ a mo->(mo=.dead∨h'.get? a=h.get? a)->qA T prog w h' j' sz a mo) mo
  (λ _ x e=>Eeea x λ vs n ho r=>⟨vs,n,(yJ e rfl).trans ho,r.mono k⟩)
  (λ _ x e=>⟨x.1,Eea x.2 λ kvs p q=>⟨kvs,DictOf.eqAt p (yJ e rfl),q.mono k m⟩⟩)
  (λ _ x e=>⟨x.1,Eea x.2 λ kvs p q=>⟨kvs,DictOf.eqAt p (yJ e rfl),q.mono k m⟩⟩)
  (λ _ x e=>Eeea x λ ds n ho r=>⟨ds,n,(yJ e rfl).trans ho,r.mono k m⟩)
  (λ _ x e=>⟨x.1,Eea x.2 λ xs p q=>⟨xs,Eeeea p λ o ds ep ho r=>⟨o,ds,ep,(yJ e rfl).trans ho,r⟩,q.mono k m⟩⟩)
  (λ _ _ x e=>⟨x.1,Eea x.2 λ d h1 h2=>⟨d,m _ _ h1,(yJ e rfl).trans h2⟩⟩)
  (λ _ _=>trivial) (λ _ x e=>⟨Eeee x.h λ o es ep r=>Ee r λ t r=>Eea r λ l' ho r=>⟨o,es,ep,t,l',(yJ e rfl).trans ho,r⟩⟩) x e
theorem jR {α:Type}{l:List α}{a:α}(e:l[i]?=some a):a∈l:=aN.mpr ⟨i,e⟩
theorem qY {α:Type}{l:List α}{a:α}(e:l[i]?=some a):i<l.length:=(aq.mp e).1
theorem xh {α:Type}{l:List α}{x:α}{a:α}(e:l[i]?=some a):(l++[x])[i]?=some a:=(aC (qY e)).trans e
theorem Zl {α:Type}{x:α}(l:List α):∀ {i:Nat} {a:α},(l++[x])[i]?=some a->l[i]?=some a∨(i=l.length/\a=x) :=
 @ee α (λ l=>∀ {i:Nat} {a:α},(l++[x])[i]?=some a->l[i]?=some a∨(i=l.length/\a=x)) (λ {i _}=>@iH (λ i=>[x][i]?=some _->([]:List α)[i]?=some _∨(i=0/\_=x)) i (λ e=>.inr ⟨rfl,(so e).symm⟩) λ _ e=>nn e)
  (λ b l ih {i _}=>@iH (λ i=>(b::l++[x])[i]?=some _->(b::l)[i]?=some _∨(i=l.length + 1/\_=x)) i (λ e=>.inl e) λ _ e=>(ih e).imp id λ q=>⟨congrArg (· + 1) q.1,q.2⟩) l
theorem zAe {α:Type}{l:List α}{j:Nat}{x a:α}(e:(l.set i x)[j]?=some a):(i=j/\a=x)∨(i≠j/\l[j]?=some a):=by
 by_cases h:i=j
 ·subst h
  have hl:i<l.length:=by have:=qY e;rw [fq] at this;exact this
  rw [fJ hl] at e
  exact .inl ⟨rfl,(so e).symm⟩
 ·rw [dC h] at e;exact .inr ⟨h,e⟩
theorem Rel.grow (R:Rel C T s.heap φ μ σ)(k:∀ b o,s.heap.get? b=some o->h'.get? b=some o):Rel C T h' φ μ σ/\Ext s.heap φ μ h' φ μ []:=by
 have kf:∀ a,φ a->φ a/\h'.get? a=s.heap.get? a:=λ a f=>⟨f,by refine Ee (R.frz a f) λ o e=>?_;erw [e];exact k a o e⟩
 have X:Ext s.heap φ μ h' φ μ []:=⟨kf,λ a f=>.inl f,λ _ _ e=>e,λ _ _ e=>.inl e,λ b o e=>⟨o,k b o e⟩,λ b o e _ _=>(k b o e)▸Kept.refl _⟩
 refine ⟨⟨λ b o e=>k b o (R.keep b o e),R.base,λ a f=>let ⟨o,e⟩:=R.frz a f;⟨o,k a o e⟩,R.len,R.nodup,λ i a e=>let ⟨o,e'⟩:=R.lt i a e;⟨o,k a o e'⟩,R.apart,λ i a mo e e'=>?_⟩,X⟩
 refine Ee (R.lt i a e) λ o eo=>?_
 exact Zr (R.at_ i a mo e e') kf (λ _ _ e=>e) (.inr ((k a o eo).trans eo.symm))
theorem Rel.more {D:ai}{h:aP}(R:Rel C T h φ μ σ)(hD:h.get? D=some o)(hm:D∉μ):Rel C T h (λ a=>φ a∨a=D) μ σ:=by
 have kf:∀ a,φ a->(φ a∨a=D)/\h.get? a=h.get? a:=λ a f=>⟨.inl f,rfl⟩
 refine ⟨R.keep,λ b o e=>.inl (R.base b o e),λ a f=>f.elim (R.frz a) λ e=>⟨o,e▸hD⟩,R.len,R.nodup,R.lt,λ i a e f=>f.elim (R.apart i a e) λ q=>absurd (aN.mpr ⟨i,q▸e⟩) hm,λ i a mo e e'=>?_⟩
 exact Zr (R.at_ i a mo e e') kf (λ _ _ e=>e) (.inr rfl)
theorem Rel.newF {D:ai}(R:Rel C T s.heap φ μ σ)(k:∀ b o,s.heap.get? b=some o->h'.get? b=some o)(hD:s.heap.get? D=none)(BW:h'.get? D=some o) :
  Rel C T h' (λ a=>φ a∨a=D) μ σ/\Ext s.heap φ μ h' (λ a=>φ a∨a=D) μ []:=by
 refine Ea (R.grow k) λ R' X=>?_
 refine ⟨R'.more BW (R.notin_none hD),⟨λ a f=>⟨.inl f,(X.frz a f).2⟩,λ a f=>f.elim .inl λ e=>.inr (.inl (e▸hD)),X.pre,X.fresh,X.ex,X.oth⟩⟩
theorem Rel.pushF (R:Rel C T s.heap φ μ σ)(o:fi)(hf:o.isFreed=false):Rel C T (s.heap.push o) (λ a=>φ a∨a=s.heap.objs.size) μ σ /\
  Ext s.heap φ μ (s.heap.push o) (λ a=>φ a∨a=s.heap.objs.size) μ []/\(s.heap.push o).get? s.heap.objs.size=some o:=by
 have g:=aG s.heap hf
 refine Ea (R.newF (λ b o' e=>am o e) (zd _) g) λ R' X=>?_
 exact ⟨R',X,g⟩
theorem Rel.newM {D:ai}(R:Rel C T s.heap φ μ σ)(k:∀ b o,s.heap.get? b=some o->h'.get? b=some o)(hD:s.heap.get? D=none)(o:fi)(BW:h'.get? D=some o)(mo:MO)
  (hm:(∀ a,φ a->φ a/\h'.get? a=s.heap.get? a)->qA T C.prog C.w h' φ (μ++[D]) D mo) :
  Rel C T h' φ (μ++[D]) (σ++[mo])/\Ext s.heap φ μ h' φ (μ++[D]) []/\(μ++[D])[σ.length]?=some D:=by
 refine Ea (R.grow k) λ R' X'=>?_
 have nm:=R.notin_none hD
 have X:Ext s.heap φ μ h' φ (μ++[D]) []:=⟨X'.frz,λ _ f=>.inl f,λ _ _ e=>xh e,λ i a e=>(Zl μ e).imp id λ (q:i=μ.length/\a=D)=>q.2▸hD,X'.ex,X'.oth⟩
 refine ⟨⟨R'.keep,R'.base,R'.frz,?_,λ i j a ei ej=>?_,λ i a e=>?_,λ i a e f=>?_,λ i a mo' e e'=>?_⟩,X,R.len▸a5⟩
 ·(erw [ao];erw [ao];erw [R.len]);rfl
 ·exact (Zl μ ei).elim (λ h=>(Zl μ ej).elim (λ h'=>R.nodup i j a h h') λ h'=>absurd (h'.2▸jR h) nm) λ h=>(Zl μ ej).elim (λ h'=>absurd (h.2▸jR h') nm) λ h'=>h.1.trans h'.1.symm
 ·exact (Zl μ e).elim (λ h=>R'.lt i a h) λ h=>⟨o,h.2▸BW⟩
 ·exact (Zl μ e).elim (λ h=>xh (R.apart i a h f)) λ h=>absurd (h.2▸f) (R.notfrz_none hD)
 ·refine (Zl μ e).elim (λ h=>?_) λ h=>?_
  ·refine (Zl σ e').elim (λ e'=>Ee (R.lt i a h) λ o2 e2=>Zr (R.at_ i a mo' h e') X'.frz X.pre (.inr ((k a o2 e2).trans e2.symm))) λ q=>absurd (qY h) (oR (R.len▸q.1▸aQ _))
  ·refine (Zl σ e').elim (λ e'=>absurd (qY e') (oR (R.len▸h.1▸aQ _))) λ q=>?_
   (erw [h.2];erw [q.2]);exact hm X'.frz
theorem Rel.pushM (R:Rel C T s.heap φ μ σ)(o:fi)(mo:MO)(hf:o.isFreed=false)(hm:∀ h',h'.get? s.heap.objs.size=some o->(∀ a,φ a->φ a/\h'.get? a=s.heap.get? a)->qA T C.prog C.w h' φ (μ++[s.heap.objs.size]) s.heap.objs.size mo) :
  Rel C T (s.heap.push o) φ (μ++[s.heap.objs.size]) (σ++[mo])/\Ext s.heap φ μ (s.heap.push o) φ (μ++[s.heap.objs.size]) []/\(μ++[s.heap.objs.size])[σ.length]?=some s.heap.objs.size:=by
 have g:=aG s.heap hf
 exact R.newM (λ b o' e=>am o e) (zd _) o g mo (hm _ g)
theorem Rel.updG {a:ai}{mo':MO}(R:Rel C T s.heap φ μ σ)(ha:μ[i]?=some a)(hi:σ[i]?=some mo)(hd:mo≠.dead)(hs:∀ b o,b≠a->s.heap.get? b=some o->h'.get? b=some o)(hx:∃ o,h'.get? a=some o)
  (hm:(∀ a,φ a->φ a/\h'.get? a=s.heap.get? a)->qA T C.prog C.w h' φ μ a mo'):Rel C T h' φ μ (σ.set i mo')/\Ext s.heap φ μ h' φ μ []:=by
 have na:¬ φ a:=λ f=>hd (so (hi.symm.trans (R.apart i a ha f)))
 have Ht:∀ b,b≠a->(∃ o,s.heap.get? b=some o)->h'.get? b=s.heap.get? b:=λ b hb h=>Ee h λ o e=>(hs b o hb e).trans e.symm
 have k:∀ b,φ b->φ b/\h'.get? b=s.heap.get? b:=λ b f=>⟨f,Ht b (λ e=>na (e▸f)) (R.frz b f)⟩
 have ex:∀ b o,s.heap.get? b=some o->∃ o',h'.get? b=some o':=λ b o e=>(rn (b=a)).elim (λ q=>q▸hx) λ q=>⟨o,hs b o q e⟩
 refine ⟨⟨λ b o e=>hs b o (λ q=>na (q▸R.base b o e)) (R.keep b o e),R.base,λ b f=>Ee (R.frz b f) λ o e=>ex b o e,by erw [fq];exact R.len,R.nodup,
  λ j b e=>Ee (R.lt j b e) λ o e'=>ex b o e',λ j b e f=>?_,λ j b BP e e'=>?_⟩,⟨k,λ _ f=>.inl f,λ _ _ e=>e,λ _ _ e=>.inl e,ex,λ b o e nb _=>.inl (hs b o (λ q=>nb (q▸jR ha)) e)⟩⟩
 ·exact (dC λ (h:i=j)=>na (so (ha.symm.trans (h▸e))▸f)).trans (R.apart j b e f)
 ·refine (zAe e').elim (λ (q:i=j/\BP=mo')=>?_) λ q=>Zr (R.at_ j b BP e q.2) k (λ _ _ e=>e) (.inr (Ht b (λ x=>q.1 (R.nodup i j a ha (x▸e))) (R.lt j b e)))
  (erw [q.2];erw [so ((show μ[i]?=some b from q.1.symm▸e).symm.trans ha)])
  exact hm k
theorem Rel.upd {a:ai}{mo':MO}(R:Rel C T s.heap φ μ σ)(ha:μ[i]?=some a)(hi:σ[i]?=some mo)(hd:mo≠.dead)(hs:cj a s.heap h')(hx:∃ o,h'.get? a=some o)
  (hm:(∀ a,φ a->φ a/\h'.get? a=s.heap.get? a)->qA T C.prog C.w h' φ μ a mo'):Rel C T h' φ μ (σ.set i mo')/\Ext s.heap φ μ h' φ μ []:=R.updG ha hi hd (λ b _ hb e=>(hs.2 b hb).trans e) hx hm
theorem Rel.freeze {a:ai}{xs:List ab}(R:Rel C T s.heap φ μ σ)(ha:μ[i]?=some a)(hi:σ[i]?=some (.lst xs)) :
  Rel C T s.heap (λ b=>φ b∨b=a) μ (σ.set i .dead)/\Ext s.heap φ μ s.heap (λ b=>φ b∨b=a) μ []/\VP s.heap (λ b=>φ b∨b=a) (.ref a) (.list xs):=by
 have k:∀ b,φ b->(φ b∨b=a)/\s.heap.get? b=s.heap.get? b:=λ b f=>⟨.inl f,rfl⟩
 refine Eeea (R.at_ i a _ ha hi) λ vs n ho hp=>?_
 refine ⟨⟨R.keep,λ b o e=>.inl (R.base b o e),λ b f=>f.elim (R.frz b) λ e=>e▸R.lt i a ha,by erw [fq];exact R.len,R.nodup,R.lt,λ j b e f=>?_,λ j b BP e e'=>?_⟩,
  ⟨k,λ b f=>f.elim .inl λ e=>.inr (.inr (e▸jR ha)),λ _ _ e=>e,λ _ _ e=>.inl e,λ b o e=>⟨o,e⟩,λ b o e _ _=>.inl e⟩,.lst (.inr rfl) ⟨_,ho,rfl,_,rfl⟩ (hp.mono k)⟩
 ·refine (rn (i=j)).elim (λ q=>q▸fJ (qY hi)) λ q=>(dC q).trans (f.elim (R.apart j b e) λ x=>absurd (R.nodup i j b (x▸ha) e) q)
 ·exact (zAe e').elim (λ (q:i=j/\BP=.dead)=>q.2▸trivial) λ q=>Zr (R.at_ j b BP e q.2) k (λ _ _ e=>e) (.inr rfl)
end
def NoE:ag->ak->Prop:=λ _ _=>False
def PV (C:Cx)(T:Tabs)(F:Fm)(s:ak)(φ:ai->Prop)(μ:List ai)(ρ:Rho)(Q:D->zA->Prop):ag->ak->Prop:=λ v s' =>
 ∃ j' sz d σ',Go C T F s φ μ s' j' sz ρ σ'/\VD s'.heap j' sz v d/\Q d σ'
def PVs (C:Cx)(T:Tabs)(F:Fm)(s:ak)(φ:ai->Prop)(μ:List ai)(ρ:Rho)(Q:List D->zA->Prop):List ag->ak->Prop:=λ vs s' =>
 ∃ j' sz ds σ',Go C T F s φ μ s' j' sz ρ σ'/\VDs s'.heap j' sz vs ds/\Q ds σ'
def PB (C:Cx)(T:Tabs)(F:Fm)(s:ak)(φ:ai->Prop)(μ:List ai)(ρ:Rho)(K:Bool->zA->Prop):Bool->ak->Prop:=λ b s' =>
 ∃ j' sz σ',Go C T F s φ μ s' j' sz ρ σ'/\K b σ'
section
variable {C:Cx}{T:Tabs}{F:Fm}{s s':ak}{φ j':ai->Prop}{μ sz:List ai}{ρ sB:Rho}{σ σ':zA}{A:aM}
theorem pvI {Q:D->zA->Prop}{d:D}(G:Go C T F s φ μ s' j' sz ρ σ')(V:VD s'.heap j' sz v d)(q:Q d σ'):PV C T F s φ μ ρ Q v s':=⟨j',sz,d,σ',G,V,q⟩
theorem pbI {K:Bool->zA->Prop}{b:Bool}(G:Go C T F s φ μ s' j' sz ρ σ')(q:K b σ'):PB C T F s φ μ ρ K b s':=⟨j',sz,σ',G,q⟩
theorem PV.up {Q:D->zA->Prop}(G:Go C T F s φ μ s' j' sz sP σ')(h:PV C T F s' j' sz ρ Q v s9):PV C T F s φ μ ρ Q v s9:=by
 (refine Eeeeeaa (h) λ s4 s5 d sM tB V q=>?_;try clear h)
 exact pvI (G.trans tB) V q
theorem PB.up {Q:Bool->zA->Prop}{v:Bool}(G:Go C T F s φ μ s' j' sz sP σ')(h:PB C T F s' j' sz ρ Q v s9):PB C T F s φ μ ρ Q v s9:=by
 (refine Eeeea (h) λ s4 s5 sM tB q=>?_;try clear h)
 exact pbI (G.trans tB) q
noncomputable def DX (C:Cx)(T:Tabs)(F:Fm)(A:aM)(t:kS ag)(ρ:Rho)(σ:zA)(Q:D->zA->Prop):Prop :=
 ∀ (s:ak) (φ:ai->Prop) (μ:List ai),Rel C T s.heap φ μ σ->FrI F s.heap φ μ ρ->wpAny (model C.prog C.w) A t (PV C T F s φ μ ρ Q) NoE s
noncomputable def DXs (C:Cx)(T:Tabs)(F:Fm)(A:aM)(t:kS (List ag))(ρ:Rho)(σ:zA)(Q:List D->zA->Prop):Prop :=
 ∀ (s:ak) (φ:ai->Prop) (μ:List ai),Rel C T s.heap φ μ σ->FrI F s.heap φ μ ρ->wpAny (model C.prog C.w) A t (PVs C T F s φ μ ρ Q) NoE s
noncomputable def DB (C:Cx)(T:Tabs)(F:Fm)(A:aM)(t:kS Bool)(ρ:Rho)(σ:zA)(K:Bool->zA->Prop):Prop :=
 ∀ (s:ak) (φ:ai->Prop) (μ:List ai),Rel C T s.heap φ μ σ->FrI F s.heap φ μ ρ->wpAny (model C.prog C.w) A t (PB C T F s φ μ ρ K) NoE s
theorem DX.seq {t:kS ag}{W:D->zA->Prop}{E:ag->ak->Prop}{X:ag->ak->Prop}(hx:DX C T F A t ρ σ W)(R:Rel C T s.heap φ μ σ)(I:FrI F s.heap φ μ ρ)
  (k:∀ s' j' sz v d σ',Go C T F s φ μ s' j' sz ρ σ'->VD s'.heap j' sz v d->W d σ'->X v s'):wpAny (model C.prog C.w) A t X E s :=
 au (hx s φ μ R I) (λ v s' h=>Eeeeeaa h λ j' sz d σ' G V q=>k s' j' sz v d σ' G V q) λ _ _ e=>lD e
theorem DXs.seq {t:kS (List ag)}{W:List D->zA->Prop}{E:ag->ak->Prop}{X:List ag->ak->Prop}(hx:DXs C T F A t ρ σ W)(R:Rel C T s.heap φ μ σ)(I:FrI F s.heap φ μ ρ)
  (k:∀ s' j' sz v d σ',Go C T F s φ μ s' j' sz ρ σ'->VDs s'.heap j' sz v d->W d σ'->X v s'):wpAny (model C.prog C.w) A t X E s :=
 au (hx s φ μ R I) (λ v s' h=>Eeeeeaa h λ j' sz d σ' G V q=>k s' j' sz v d σ' G V q) λ _ _ e=>lD e
theorem DB.seq {t:kS Bool}{W:Bool->zA->Prop}{E:ag->ak->Prop}{X:Bool->ak->Prop}(hx:DB C T F A t ρ σ W)(R:Rel C T s.heap φ μ σ)(I:FrI F s.heap φ μ ρ)
  (k:∀ s' j' sz b σ',Go C T F s φ μ s' j' sz ρ σ'->W b σ'->X b s'):wpAny (model C.prog C.w) A t X E s :=
 au (hx s φ μ R I) (λ b s' h=>Eeeea h λ j' sz σ' G q=>k s' j' sz b σ' G q) λ _ _ e=>lD e
theorem zY {Q:D->zA->Prop}{d:D}(R:Rel C T s.heap φ μ σ)(I:FrI F s.heap φ μ ρ)(V:VD s.heap φ μ v d)(q:Q d σ)(tk:Nat) :
  PV C T F s φ μ ρ Q v {s with toks:=tk}:=pvI ((Go.refl R I).tok tk) V q
theorem zr {Q:D->zA->Prop}{d:D}(R:Rel C T s.heap φ μ σ)(I:FrI F s.heap φ μ ρ)(V:VD s.heap φ μ v d)(q:Q d σ) :
  PV C T F s φ μ ρ Q v s:=pvI (Go.refl R I) V q
theorem QA {h:aP}:∀ {vs:List ag} {ds:List D} {xs:List ab},VDs h φ μ vs ds->QU ds=some xs->VPs h φ vs xs
 | _,[],_,V,e=>by cases V.inil;obtain rfl:=so e;exact .nil
 | _,_::_,_,sZ,e=>by
  refine sZ.mcons λ v w V W=>?_
  refine Eea (ob e) λ x e1 e3=>?_
  refine Eea (ob e3) λ ys e2 e4=>?_
  obtain rfl:=Xn e1
  obtain rfl:=so e4
  exact .cons V.ip (QA W e2)
theorem Zs {h:aP}:∀ {vs:List ag} {ds:List D},VDs h φ μ vs ds->vs.length=ds.length
 | _,[],V=>by cases V.inil;rfl
 | _,_::_,sZ=>by refine sZ.mcons λ v w V W=>?_;exact congrArg (· + 1) (Zs W)
theorem VJ {h:aP}{a:ai}{ds:List D}(f:φ a)(t:Tup h a vs.toArray)(V:VDs h φ μ vs ds):VD h φ μ (.ref a) (YS ds):=by
 show VD h φ μ (.ref a) (jp ds (QU ds))
 cases e:QU ds with
 | some xs=>exact .p (.tup f t (QA V e))
 | none=>exact .tup f t V
theorem WF {Q:D->zA->Prop}{ds:List D}(R:Rel C T s.heap φ μ σ)(I:FrI F s.heap φ μ ρ)(V:VDs s.heap φ μ vs ds)(hn:vs.length<=cG)(q:Q (YS ds) σ) :
  wpAny (model C.prog C.w) A (pA vs) (PV C T F s φ μ ρ Q) NoE s:=by
 refine Eaa (R.pushF {cls:=.type "tuple",data:=.seq vs.toArray} rfl) λ R' X g=>?_
 refine cB ?_ (by show vs.toArray.size<=cG;erw [aJ];exact hn)
 exact ⟨_,μ,YS ds,σ,Go.of_ext (tk:=s.toks) I R' X,VJ (.inr rfl) (Tup.new g) (X.vds V),q⟩
theorem wW {Q:D->zA->Prop}{xs:List ab}(R:Rel C T s.heap φ μ σ)(I:FrI F s.heap φ μ ρ)(V:VPs s.heap φ vs xs)(hn:vs.length<=cG)(q:Q (.p (.list xs)) σ) :
  wpAny (model C.prog C.w) A (newList vs) (PV C T F s φ μ ρ Q) NoE s:=by
 refine Eaa (R.pushF {cls:=.type "list",data:=.seq vs.toArray} rfl) λ R' X g=>?_
 refine cB ?_ (by show vs.toArray.size<=cG;erw [aJ];exact hn)
 exact pvI (Go.of_ext (tk:=s.toks) I R' X) (.p (.lst (.inr rfl) ⟨_,g,rfl,_,rfl⟩ (X.vps V))) q
theorem WE {Q:D->zA->Prop}{xs:List ab}(R:Rel C T s.heap φ μ σ)(I:FrI F s.heap φ μ ρ)(V:VPs s.heap φ vs xs)(hn:vs.length<=cG)
  (q:Q (.obj σ.length) (σ++[.lst xs])):wpAny (model C.prog C.w) A (newList vs) (PV C T F s φ μ ρ Q) NoE s:=by
 refine Eaa (R.pushM {cls:=.type "list",data:=.seq vs.toArray} (.lst xs) rfl λ h' e k=>⟨vs,_,e,V.mono k⟩) λ R' X g=>?_
 refine cB ?_ (by show vs.toArray.size<=cG;erw [aJ];exact hn)
 exact pvI (Go.of_ext (tk:=s.toks) I R' X) (.obj g) q
theorem OptV.iis {h:aP}{o:Option ag}{d:D}(x:OptV h φ μ o (some (some d))):∃ v,o=some v/\VD h φ μ v d:=by cases x with | is V=>exact ⟨_,rfl,V⟩
theorem zBm {Q:D->zA->Prop}{k:aS}{pos:dM}{d:D}(R:Rel C T s.heap φ μ σ)(I:FrI F s.heap φ μ ρ)(hk:F.ks[i]?=some (x,k))(ha:k=.local∨k=.cell∨k=.free)
  (hd:ρ[i]?=some (some d)) (hx:(x==("__debug__":aK))=false) (hc:(x==("__classdict__":aK))=false) (q:Q d σ) :
  wpAny (model C.prog C.w) A (eval (.Name x pos) F.env) (PV C T F s φ μ ρ Q) NoE s:=by
 rcases ha with rfl | ha
 ·refine Eea (I.loc) λ m hn hm=>?_
  refine Ea (hm i x hk) λ h1 h2=>?_
  rw [hd] at h2
  refine Eea (h2.iis) λ v hv V=>?_
  exact ic (eO I.kind h1 hn hv (zr R I V q)) hx
 ·(refine Ea (I.cell i x k hk ha) λ h1 tF=>?_;refine Eeeaaa tF λ c v h2 h3 h4 _=>?_)
  rw [hd] at h4
  (refine Eea (h4.iis) λ v AI=>?_;obtain rfl:=AI;intro V)
  rcases h1 with h1 | ⟨_,h1⟩
  ·exact ic (wpAny_loadName_cell I.kind h1 h2 h3 (zr R I V q)) hx
  ·exact ic (nI I.kind h1 h2 h3 (zr R I V q) hc) hx
def jL (C:Cx)(x:aK)(d:D):Prop:=∃ v,(C.mg x=some v∨(C.mg x=none/\C.mb x=some v))/\(∀ (h:aP) (φ:ai->Prop) (μ:List ai),(∀ b o,C.h₀.get? b=some o->h.get? b=some o)->(∀ b o,C.h₀.get? b=some o->φ b)->VD h φ μ v d)
structure Cx.Good (C:Cx):Prop where
 X:C.K.In C.h₀
 g:C.h₀.Ns cu C.mg
 b:C.h₀.Ns fR C.mb
 lim:C.h₀.NoLimit
theorem zBl {X:ag->ak->Prop}{E:ag->ak->Prop}{pos:dM}{d:D}(Y:C.Good)(R:Rel C T s.heap φ μ σ)(I:FrI F s.heap φ μ ρ)(hk:F.env.kindOf x=some .globalImplicit)(hg:jL C x d)
  (hx:(x==("__debug__":aK))=false) (q:∀ v,VD s.heap φ μ v d->X v s):wpAny (model C.prog C.w) A (eval (.Name x pos) F.env) X E s:=by
 (refine Eea (hg) λ v hv V=>?_;try clear hg)
 have n1:s.heap.Ns F.env.globals C.mg:=by erw [I.glob];exact Y.g.keeps R.keep
 have n2:s.heap.Ns F.env.builtins C.mb:=by erw [I.blt];exact Y.b.keeps R.keep
 have q:=q v (V _ _ _ R.keep R.base)
 rcases hv with hv | ⟨hm,hv⟩
 ·exact m8 I.kind hk (loadGlobal_global n1 hv q) hx
 ·exact m8 I.kind hk (nV n1 hm n2 hv q) hx
theorem xB {Q:D->zA->Prop}{pos:dM}{d:D}(Y:C.Good)(R:Rel C T s.heap φ μ σ)(I:FrI F s.heap φ μ ρ)(hk:F.env.kindOf x=some .globalImplicit)(hg:jL C x d)
  (hx:(x==("__debug__":aK))=false) (q:Q d σ):wpAny (model C.prog C.w) A (eval (.Name x pos) F.env) (PV C T F s φ μ ρ Q) NoE s :=
 zBl Y R I hk hg hx λ _ V=>zr R I V q
noncomputable def XU:Const->Option ab
 | .none=>some .none
 | .bool b=>some (.bool b)
 | .int i=>some (.int i)
 | .str x=>gd (bq x) (some (.str x))
 | _=>none
theorem W6 {Q:D->zA->Prop}{c:Const}{k:Nat}{pos:dM}{x:ab}(R:Rel C T s.heap φ μ σ)(I:FrI F s.heap φ μ ρ)(h:XU c=some x)(q:Q (.p x) σ) :
  wpAny (model C.prog C.w) A (eval (.Constant c k pos) F.env) (PV C T F s φ μ ρ Q) NoE s:=by
 cases c with
 | none=>obtain rfl:=so h;exact nJ (zr R I (.p .none) q)
 | bool b=>obtain rfl:=so h;exact wpAny_Constant_bool (zr R I (.p (.bool _)) q)
 | int i=>obtain rfl:=so h;exact wpAny_Constant_int (zY R I (.p (.int _ _)) q _)
 | str y=>refine Ea (og h) λ o h'=>?_;obtain rfl:=so h';exact fy (zY R I (.p (.str _ _ o)) q _)
 | _=>exact nn h
end
end Mine.Internal
namespace Mine.Internal
open PySem PySem.Calls PyProof.Rows PySem.W PySem.SeqAt
set_option tactic.hygienic false
section
variable {C:Cx}{T:Tabs}{F:Fm}{s s':ak}{φ j':ai->Prop}{μ sz:List ai}{ρ sB:Rho}{σ σ':zA}{A:aM}{n:Nat}
theorem jT (R:Rel C T s.heap φ μ σ){i:Nat}{a:ai}{xs:List ab}(m:μ[i]?=some a)(h:σ[i]?.bind ZQ=some xs):∃ vs k,s.heap.get? a=some (listOf vs.toArray k)/\VPs s.heap φ vs xs:=R.at_ i a _ m (QT h)
mutual
theorem Qm (R:Rel C T s.heap φ μ σ):∀ (d:D) {v:ag} {x:ab},VD s.heap φ μ v d->QD σ d=some x->(∃ as,eu s.heap v x as)/\x.canLay0=true
 | .p y,v,x,V,e=>by obtain rfl:=so e;exact ⟨V.ip.reads,V.ip.canLay⟩
 | .obj i,v,x,V,e=>by
  refine V.mobj λ a ha=>?_
  refine Eea (ob e) λ xs hi e1=>?_
  obtain rfl:=so e1
  refine Eeea (jT R ha hi) λ vs k ho hp=>?_
  refine Ee (hp.reads) λ as r=>?_
  exact ⟨⟨_,.list ho rfl rfl r⟩,hp.canLay⟩
 | .tup ds,v,x,V,e=>by
  refine V.mtup λ a vs f ht r=>?_
  refine Eea (ob e) λ xs H6 e1=>?_
  obtain rfl:=so e1
  (refine Ea (derefs_reads R ds r H6) λ Bw=>?_;(refine Ee (Bw) λ as q=>?_;try clear Bw);intro c)
  (refine Eeaa (ht.t) λ o ho hc tF=>?_;refine Ee tF λ k hd=>?_)
  exact ⟨⟨as,.tuple ho hc hd q⟩,c⟩
 | .fn _,_,_,_,e=>nn e
 | .bi _,_,_,_,e=>nn e
 | .rng _ _,_,_,_,e=>nn e
 | .zp _ _ _ _,_,_,_,e=>nn e
theorem derefs_reads (R:Rel C T s.heap φ μ σ):∀ (ds:List D) {vs:List ag} {xs:List ab},VDs s.heap φ μ vs ds->derefs σ ds=some xs->(∃ as,bL s.heap vs xs as)/\ew xs=true
 | [],vs,xs,V,e=>by
  cases V.inil;obtain rfl:=so e
  exact ⟨⟨_,.nil⟩,rfl⟩
 | d::ds,vs,xs,V,e=>by
  refine V.mcons λ v w p r=>?_
  refine Eea (ob e) λ x hx e1=>?_
  refine Eea (ob e1) λ ys Ko e2=>?_
  obtain rfl:=so e2
  (refine Ea (Qm R d p hx) λ AI=>?_;(refine Ee (AI) λ as q=>?_;try clear AI);intro c)
  (refine Ea (derefs_reads R ds r Ko) λ AQ=>?_;(refine Ee (AQ) λ bs q'=>?_;try clear AQ);intro c')
  exact ⟨⟨_,.cons q q'⟩,(bG ..).mpr ⟨c,c'⟩⟩
end
theorem zBt {x y:ab}(hA:Room n A)(h:Sh x y):A.units + min x.depth y.depth<cLine :=
 b5 (af (aL h.h _) (dj (aF _ (20 * n)) (of_decide_eq_true rfl:64<=400))) hA.units
theorem uH (xs:List ab):(ch xs).depth=bC xs + 1:=by simp [mK]
theorem zEr (xs:List ab):(iC xs).depth=bC xs + 1:=by simp [mK]
theorem QE {xs:List ab}{y:ab}(hA:Room n A)(h:Sh (.tuple xs) y):A.units + 1 + min (bC xs) y.depth<cLine :=
 b5 (af (aL (af (Nat.le_min.mpr ⟨af (f9 _ _) (cT _),de _ _⟩) (uH xs▸h.h)) _) (show A.units + 65<=A.units + 20 * n + 400 from dj (aF _ (20 * n)) (oD9 rfl))) hA.units
theorem QN {h:aP}{v:ag}{x:ab}{xs:List ab}(V:VP h φ v x)(e:Zc x=some xs):∃ a vs,v=.ref a/\φ a/\VPs h φ vs xs/\((x=.tuple xs/\Tup h a vs.toArray)∨(x=.list xs/\h.IsList a vs.toArray)):=by
 cases x with
 | tuple ys=>obtain rfl:=so e;refine V.mtup λ a vs f t r=>?_;exact ⟨a,vs,rfl,f,r,.inl ⟨rfl,t⟩⟩
 | list ys=>obtain rfl:=so e;refine V.mlst λ a vs f t r=>?_;exact ⟨a,vs,rfl,f,r,.inr ⟨rfl,t⟩⟩
 | _=>exact nn e
theorem uK (R:Rel C T s.heap φ μ σ){d:D}{v:ag}{xs:List ab}(V:VD s.heap φ μ v d)(e:zy σ d=some xs) :
  ∃ a vs,v=.ref a/\(i6 s.heap a vs.toArray∨s.heap.IsList a vs.toArray)/\VPs s.heap φ vs xs:=by
 cases d with
 | p x =>
  refine Eeeaaa (QN V.ip e) λ a vs e1 _ r h=>?_
  exact ⟨a,vs,e1,h.imp (·.2.t) (·.2),r⟩
 | obj i =>
  refine Eea (V.iobj) λ a e1 m=>?_
  refine Eeea (jT R m e) λ vs k ho hp=>?_
  exact ⟨a,vs,e1,.inr ⟨_,ho,rfl,_,rfl⟩,hp⟩
 | _=>exact nn e
@[elab_as_elim] theorem Qx (R:Rel C T s.heap φ μ σ){d:D}{v:ag}{xs:List ab}{motive:ag->Prop}(V:VD s.heap φ μ v d)(e:zy σ d=some xs)(k:∀ a vs,i6 s.heap a vs.toArray∨s.heap.IsList a vs.toArray->VPs s.heap φ vs xs->motive (.ref a)):motive v:=Eeeaa (uK R V e) λ a vs e p q=>e▸k a vs p q
theorem uw {v:ag}{d:D}{b:Bool}(V:VD s.heap φ μ v d)(e:isNone d=some b):(v==.none)=b:=by
 cases d with
 | p x=>cases x with
  | none=>cases V.ip.inone;exact so e
  | bool _=>cases V.ip.ibool;exact so e
  | int _=>refine V.ip.mint λ _=>?_;exact so e
  | str _=>refine V.ip.mstr λ _ _=>?_;exact so e
  | list _=>(refine Eeea (V.ip.ilst) λ _ _ FJ=>?_;obtain rfl:=FJ;intro _);exact so e
  | tuple _=>(refine Eeea (V.ip.itup) λ _ _ Do=>?_;obtain rfl:=Do;intro _);exact so e
  | dict _=>exact nn e
 | obj i=>refine V.mobj λ _ _=>?_;exact so e
 | tup ds=>(refine Eeea (V.itup) λ _ _ GD=>?_;obtain rfl:=GD;intro _);exact so e
 | rng _ _=>(refine Eeeeea (V.irng) λ _ _ _ _ Hj=>?_;obtain rfl:=Hj;intro _);exact so e
 | _=>exact nn e
theorem Jd {v:ag}{d:D}{u:Unit}(V:VD s.heap φ μ v d)(e:Qy d=some u):v=.none:=by
 cases d with
 | p x=>cases x with
  | none=>exact V.ip.inone
  | _=>exact nn e
 | _=>exact nn e
theorem Wr {K:Bool->Prop}{v:ag}{a:ai}{x:D}{y:ab}{xs:List ab}{vs:List ag}{bs:List ai}(hA:Room n A)(V:VD s.heap φ μ v x)(rb:eu s.heap (.ref a) y bs)(cb:y.canLay0=true)(hy:y=.tuple xs∨y=.list xs)(h:Yh xs x K) :
  wpAny (model C.prog C.w) A (compareOp .In v (.ref a)) (λ r s'=>∃ b,r=.bool b/\s'=s/\K b) NoE s/\wpAny (model C.prog C.w) A (compareOp .NotIn v (.ref a)) (λ r s'=>∃ b,r=.bool (!b)/\s'=s/\K b) NoE s:=by
 (refine Eeaaa (yG V h) λ z B5=>?_;obtain rfl:=B5;intro V hs h)
 refine Ee (V.reads) λ as ra=>?_
 rcases hy with rfl | rfl
 ·exact ⟨in_tuple_reads rb ra cb V.canLay (QE hA hs) ⟨_,rfl,rfl,h⟩,notIn_tuple_reads rb ra cb V.canLay (QE hA hs) ⟨_,rfl,rfl,h⟩⟩
 ·exact ⟨in_list_reads rb ra cb V.canLay (QE hA hs) ⟨_,rfl,rfl,h⟩,notIn_list_reads rb ra cb V.canLay (QE hA hs) ⟨_,rfl,rfl,h⟩⟩
def zAA (C:Cx)(A:aM)(s:ak)(φ:ai->Prop)(μ:List ai)(σ:zA):Prop:=∀ (i:Nat) (es:List (Ky×D)) (k:List ab) (q:Ky) (a b:ai) (P:Bool->Prop),σ[i]?=some (.tdict es)->μ[i]?=some a->VP s.heap φ (.ref b) (.tuple k)->Kd (.tuple k)->keyDs k=some q->P (z5 q es).isSome ->
   wpAny (model C.prog C.w) A (m9 (.ref a) (.ref b)) (λ r s'=>∃ tk,s'={s with toks:=tk}/\P r) NoE s
theorem zAk {K:Bool->Prop}{v w:ag}{x y:D}(hA:Room n A)(R:Rel C T s.heap φ μ σ)(V:VD s.heap φ μ v x)(W:VD s.heap φ μ w y)(hin:zAA C A s φ μ σ)(h:jE σ x y K) :
  wpAny (model C.prog C.w) A (compareOp .In v w) (λ r s'=>∃ b tk,r=.bool b/\s'={s with toks:=tk}/\K b) NoE s/\wpAny (model C.prog C.w) A (compareOp .NotIn v w) (λ r s'=>∃ b tk,r=.bool (!b)/\s'={s with toks:=tk}/\K b) NoE s:=by
 have fin:∀ {X Y:kS ag} ,wpAny (model C.prog C.w) A X (λ r s'=>∃ b,r=.bool b/\s'=s/\K b) NoE s/\wpAny (model C.prog C.w) A Y (λ r s'=>∃ b,r=.bool (!b)/\s'=s/\K b) NoE s ->
   wpAny (model C.prog C.w) A X (λ r s'=>∃ b tk,r=.bool b/\s'={s with toks:=tk}/\K b) NoE s/\wpAny (model C.prog C.w) A Y (λ r s'=>∃ b tk,r=.bool (!b)/\s'={s with toks:=tk}/\K b) NoE s :=
  λ h=>⟨au h.1 (λ r s' ⟨b,e1,e2,k⟩=>⟨b,s.toks,e1,e2,k⟩) λ _ _ e=>e,au h.2 (λ r s' ⟨b,e1,e2,k⟩=>⟨b,s.toks,e1,e2,k⟩) λ _ _ e=>e⟩
 cases y with
 | p y =>
  refine Eea (Is.h h) λ xs e h=>?_
  refine Ee (W.ip.reads) λ bs rb=>?_
  (refine Eeeaaa (QN W.ip e) λ a vs Bu=>?_;obtain rfl:=Bu;intro _ _ hy)
  exact fin (Wr (vs:=vs) hA V rb W.ip.canLay (hy.imp (·.1) (·.1)) h)
 | obj i =>
  refine Eea (Is.h h) λ mo hi h=>?_
  refine W.mobj λ a ha=>?_
  cases mo with
  | lst xs =>
   refine Eeea (R.at_ i a _ ha hi) λ vs k ho hp=>?_
   refine Ee (hp.reads) λ bs r=>?_
   exact fin (Wr (vs:=vs) hA V (.list ho rfl rfl r) hp.canLay (.inr rfl) h)
  | tdict es =>
   (refine Eeaaa (js V h) λ k G8=>?_;obtain rfl:=G8;intro V hk h)
   refine Eea (Is.h h) λ q hq h=>?_
   (refine Eeea (V.itup) λ b vs Gi=>?_;obtain rfl:=Gi;intro _)
   exact ⟨aa (au (hin _ _ _ _ _ _ K hi ha V hk hq h) (λ r s' ⟨tk,e,hr⟩=>aj ⟨r,tk,rfl,e,hr⟩) λ _ _ e=>e),aa (au (hin _ _ _ _ _ _ K hi ha V hk hq h) (λ r s' ⟨tk,e,hr⟩=>aj ⟨r,tk,rfl,e,hr⟩) λ _ _ e=>e)⟩
  | _=>exact h.elim
 | _=>exact h.elim
theorem Zq {Q:D->zA->Prop}{op:ku}{v w:ag}{x y:D}(hA:Room n A)(R:Rel C T s.heap φ μ σ)(I:FrI F s.heap φ μ ρ)(V:VD s.heap φ μ v x)(W:VD s.heap φ μ w y)
  (hin:zAA C A s φ μ σ) (h:wpC op σ x y λ r=>Q (.p (.bool r)) σ):wpAny (model C.prog C.w) A (compareOp op v w) (PV C T F s φ μ ρ Q) NoE s:=by
 have fin:∀ r,Q (.p (.bool r)) σ->PV C T F s φ μ ρ Q (.bool r) s:=λ r hk=>zr R I (.p (.bool _)) hk
 have HD:∀ {K:Bool->Prop},(Yf σ x λ a=>Yf σ y λ b=>Sh a b/\K (aV a b))->∃ a b as bs,eu s.heap v a as/\eu s.heap w b bs/\a.canLay0=true/\b.canLay0=true/\A.units + min a.depth b.depth<cLine/\K (aV a b):=λ h=>by
  refine Eea (Is.h h) λ a ea h=>?_
  refine Eeaa (Is.h h) λ b eb hs hk=>?_
  (refine Ea (Qm R x V ea) λ DN=>?_;(refine Ee (DN) λ as ra=>?_;try clear DN);intro ca)
  (refine Ea (Qm R y W eb) λ DV=>?_;(refine Ee (DV) λ bs rb=>?_;try clear DV);intro cb)
  exact ⟨a,b,as,bs,ra,rb,ca,cb,zBt hA hs,hk⟩
 have Ai:∀ {K:Int->Int->Prop},(onI x λ a=>onI y λ b=>K a b)->∃ a t b u,v=.int a t/\w=.int b u/\K a b:=λ h=>by
  refine Eeeaa (Z9 V h) λ a t _ e h=>?_
  refine Eeeaa (Z9 W h) λ b u _ e' h=>?_
  exact ⟨a,t,b,u,e,e',h⟩
 cases op with
 | Eq=>obtain ⟨a,b,as,bs,ra,rb,ca,cb,hr,hk⟩:=HD (K:=λ r=>Q (.p (.bool r)) σ) h;exact compareEq_reads ra rb ca cb hr (fin _ hk)
 | NotEq=>obtain ⟨a,b,as,bs,ra,rb,ca,cb,hr,hk⟩:=HD (K:=λ r=>Q (.p (.bool (!r))) σ) h;exact compareNe_reads ra rb ca cb hr (fin _ hk)
 | Lt=>(refine Eeeeeaa (Ai h) λ a t b u Ds=>?_;obtain rfl:=Ds;intro GY;obtain rfl:=GY;intro h);exact lt_int (fin _ h)
 | LtE=>(refine Eeeeeaa (Ai h) λ a t b u FF=>?_;obtain rfl:=FF;intro FS;obtain rfl:=FS;intro h);exact le_int (fin _ h)
 | Gt=>(refine Eeeeeaa (Ai h) λ a t b u GH=>?_;obtain rfl:=GH;intro FA;obtain rfl:=FA;intro h);exact gt_int (fin _ h)
 | GtE=>(refine Eeeeeaa (Ai h) λ a t b u CN=>?_;obtain rfl:=CN;intro FQ;obtain rfl:=FQ;intro h);exact ge_int (fin _ h)
 | Is =>
  refine Eea (Mine.Internal.Is.h h) λ u e h=>?_
  refine Eea (Mine.Internal.Is.h h) λ b e' h=>?_
  obtain rfl:=Jd W e
  exact is_none (uw V e'▸fin _ h)
 | IsNot =>
  refine Eea (Mine.Internal.Is.h h) λ u e h=>?_
  refine Eea (Mine.Internal.Is.h h) λ b e' h=>?_
  obtain rfl:=Jd W e
  exact isNot_none (uw V e'▸fin _ h)
 | In=>exact au (zAk hA R V W hin h).1 (λ r s' ⟨b,tk,e1,e2,k⟩=>by subst e1 e2;exact zY R I (.p (.bool _)) k tk) λ _ _ e=>e
 | NotIn=>exact au (zAk hA R V W hin (K:=λ b=>Q (.p (.bool (!b))) σ) h).2 (λ r s' ⟨b,tk,e1,e2,k⟩=>by subst e1 e2;exact zY R I (.p (.bool _)) k tk) λ _ _ e=>e
end
section
variable {C:Cx}{T:Tabs}{F:Fm}{s s':ak}{φ j':ai->Prop}{μ sz:List ai}{ρ sB:Rho}{σ σ':zA}{A:aM}{n:Nat}
theorem zv {k:Nat}(h:Few k):k<=cG:=by have:=h.h;erw [cx];exact af h (nB9 rfl)
theorem uE {i:Int}(h:Fit i):iW i<=100000:=by
 have:=h.h
 unfold iW
 split
 ·lia
 ·rename_i hz
  have hn:i.natAbs≠0:=by simpa using hz
  have:=(ng hn).mpr this
  exact this
theorem zBT {a b:Int}(ha:Fit a)(hb:Fit b):IntMulOk a b:=by
 have h1:=uE ha
 have h2:=uE hb
 unfold IntMulOk rX bitsLine
 simp only [bG,decide_eq_true_eq,not_and,ki]
 intro _ _
 lia
theorem WO {a b:Int}(h:Nz b):li a b=false:=by
 unfold li
 have hl:=h.lo
 have hz:(b==0)=false:=by simpa using h.h
 simp only [hz,cw,if_false,Bool.and_eq_false_iff,decide_eq_false_iff_not]
 left
 have hn:b.natAbs≠0:=by simpa using h.h
 have:=(ng hn).mpr hl
 lia
theorem UR {vs ws:List ag}{xs ys:List ab}(r:VPs s.heap φ vs xs)(r':VPs s.heap φ ws ys)(hf:Few (xs.length + ys.length)):vs.toArray.size + ws.toArray.size<=cG:=by
 (erw [aJ];erw [aJ];erw [r.length];erw [r'.length]);exact zv hf
theorem Uu {Q:D->zA->Prop}{t b:ai}{vs ws:List ag}{xs ys:List ab}(R:Rel C T s.heap φ μ σ)(I:FrI F s.heap φ μ ρ)(ht:s.heap.IsList t vs.toArray)(r:VPs s.heap φ vs xs)
  (AS:s.heap.IsList b ws.toArray) (r':VPs s.heap φ ws ys) (hf:Few (xs.length + ys.length)) (hq:Q (.p (.list (xs++ys))) σ):wpAny (model C.prog C.w) A (nh .Add (.ref t) (.ref b)) (PV C T F s φ μ ρ Q) NoE s:=by
 obtain ⟨⟨cls,dd,data,sl⟩,ho,hc,n,hd⟩:=ht
 obtain ⟨⟨Gd,EY,data2,EO⟩,Bm,x7,n2,D3⟩:=AS
 obtain rfl:=hc;obtain rfl:=hd;obtain rfl:=x7;obtain rfl:=D3
 refine concat_meets ⟨_,ho,rfl⟩ ⟨_,Bm,rfl⟩ noFill_list_add seq_list_add PySem.F.slot_list_add PySem.F.entry_list_add (PySem.F.args_list_add_2 _ _) (list_addW t b vs.toArray ws.toArray n n2 dd EY sl EO (UR r r' hf)) ⟨ho,Bm,?_⟩
 erw [nK]
 refine Eaa (R.pushF {cls:=.type "list",data:=.seq (vs++ws).toArray} rfl) λ R' X g=>?_
 exact pvI (Go.of_ext (tk:=s.toks) I R' X) (.p (.lst (.inr rfl) ⟨_,g,rfl,_,rfl⟩ ((X.vps r).append (X.vps r')))) hq
theorem Xo {Q:D->zA->Prop}{v w:ag}{xs ys:List ab}(R:Rel C T s.heap φ μ σ)(I:FrI F s.heap φ μ ρ)(V:VP s.heap φ v (.tuple xs))(W:VP s.heap φ w (.tuple ys))(hf:Few (xs.length + ys.length))(hq:Q (.p (.tuple (xs++ys))) σ) :
  wpAny (model C.prog C.w) A (nh .Add v w) (PV C T F s φ μ ρ Q) NoE s:=by
 refine V.mtup λ t vs f ht r=>?_
 refine W.mtup λ b ws f' AS r'=>?_
 obtain ⟨⟨cls,dd,data,sl⟩,ho,hc,n,hd⟩:=ht.t
 obtain ⟨⟨Gd,EY,data2,EO⟩,Bm,x7,n2,D3⟩:=AS.t
 obtain rfl:=hc;obtain rfl:=hd;obtain rfl:=x7;obtain rfl:=D3
 refine wpAny_binaryOp_concat ⟨_,ho,rfl⟩ ⟨_,Bm,rfl⟩ noFill_tuple_add seq_tuple_add ?_
 cases vs with
 | nil =>
  cases xs with
  | nil=>exact lI ie ⟨_,ho,rfl⟩ hH (gU _ _) (tuple_addW0 t b #[] ws.toArray n n2 dd EY sl EO rfl) ⟨ho,Bm,zr R I (.p (.tup f' AS r')) hq⟩
  | cons _ _=>exact nomatch r
 | cons v vs=>cases ws with
  | nil =>
   cases ys with
   | nil=>exact lI ie ⟨_,ho,rfl⟩ hH (gU _ _) (tuple_addW1 t b (v::vs).toArray #[] n n2 dd EY sl EO aT rfl) ⟨ho,Bm,zr R I (.p (.tup f ht r)) (by rw [aR] at hq;exact hq)⟩
   | cons _ _=>exact nomatch r'
  | cons w ws =>
   refine lI ie ⟨_,ho,rfl⟩ hH (gU _ _) (tuple_addW2 t b (v::vs).toArray (w::ws).toArray n n2 dd EY sl EO aT aT (UR r r' hf)) ⟨ho,Bm,?_⟩
   erw [nK]
   refine Eaa (R.pushF {cls:=.type "tuple",data:=.seq ((v::vs)++(w::ws)).toArray} rfl) λ R' X g=>?_
   exact pvI (Go.of_ext (tk:=s.toks) I R' X) (.p (.tup (.inr rfl) (Tup.new g) ((X.vps r).append (X.vps r')))) hq
theorem zDl {Q:D->zA->Prop}{op:lC}{v w:ag}{x y:D}(R:Rel C T s.heap φ μ σ)(I:FrI F s.heap φ μ ρ)(V:VD s.heap φ μ v x)(W:VD s.heap φ μ w y)
  (h:qv σ op x y λ d=>Q d σ):wpAny (model C.prog C.w) A (nh op v w) (PV C T F s φ μ ρ Q) NoE s:=by
 have Ai:∀ {K:Int->Int->Prop},(onI x λ a=>onI y λ b=>K a b)->∃ a t b u,v=.int a t/\w=.int b u/\K a b:=λ h=>by
  refine Eeeaa (Z9 V h) λ a t _ e h=>?_
  refine Eeeaa (Z9 W h) λ b u _ e' h=>?_
  exact ⟨a,t,b,u,e,e',h⟩
 have fin:∀ {i:Int} {t:iT} {tk:Nat},Q (.p (.int i)) σ->PV C T F s φ μ ρ Q (.int i t) {s with toks:=tk}:=λ h=>zY R I (.p (.int _ _)) h _
 have lst:∀ {t:ai} {vs:List ag} {xs:List ab},s.heap.IsList t vs.toArray->VPs s.heap φ vs xs->yy xs y (λ d=>Q d σ)->wpAny (model C.prog C.w) A (nh .Add (.ref t) w) (PV C T F s φ μ ρ Q) NoE s:=λ ht r h=>by
  refine Eeaaa (zAD W h) λ ys _ W hf h=>?_
  refine W.mlst λ b ws f' AS r'=>?_
  exact Uu R I ht r AS r' hf h
 cases op with
 | Add =>
  cases x with
  | p x=>cases x with
   | int a=>refine V.ip.mint λ t=>?_;refine qC W h λ b u h=>?_;exact add_int (fin h)
   | tuple xs=>(refine Eeaaa (js W h) λ ys CQ=>?_;obtain rfl:=CQ;intro W hf h);exact Xo R I V.ip W hf h
   | list xs=>refine V.ip.mlst λ t vs f ht r=>?_;exact lst ht r h
   | _=>exact h.elim
  | obj i =>
   refine Eea (Is.h h) λ xs e h=>?_
   refine V.mobj λ a m=>?_
   refine Eeea (jT R m e) λ vs k ho hp=>?_
   exact lst ⟨_,ho,rfl,_,rfl⟩ hp h
  | _=>exact h.elim
 | Sub=>(refine Eeeeeaa (Ai h) λ a t b u Do=>?_;obtain rfl:=Do;intro Dm;obtain rfl:=Dm;intro h);exact rY (fin h)
 | Mult=>obtain ⟨a,t,b,u,rfl,rfl,h1,h2,h⟩:=Ai h;exact rZ (fin h) (zBT h1 h2)
 | Mod=>obtain ⟨a,t,b,u,rfl,rfl,h1,h⟩:=Ai h;exact r0 h1.h (fin h)
 | Pow=>obtain ⟨a,t,b,u,rfl,rfl,h1,h⟩:=Ai h;exact pow_int h1.h h1.fit (fin h)
 | FloorDiv=>obtain ⟨a,t,b,u,rfl,rfl,h1,h⟩:=Ai h;exact floordiv_int h1.h (fin h) (.inl (WO h1))
 | _=>exact h.elim
theorem zCL {Q:D->zA->Prop}{v:ag}{x:D}(R:Rel C T s.heap φ μ σ)(I:FrI F s.heap φ μ ρ)(V:VD s.heap φ μ v x)
  (h:onI x λ i=>Q (.p (.int (-i))) σ):wpAny (model C.prog C.w) A (unaryOp .USub v) (PV C T F s φ μ ρ Q) NoE s:=by
 refine zEX V h λ a t h=>?_
 exact neg_int (zY R I (.p (.int _ _)) h _)
theorem yz {K:Bool->zA->Prop}{v:ag}{x:D}(R:Rel C T s.heap φ μ σ)(I:FrI F s.heap φ μ ρ)(V:VD s.heap φ μ v x)
  (h:isB x λ b=>K b σ):wpAny (model C.prog C.w) A (mL v) (PB C T F s φ μ ρ K) NoE s:=by
 refine zAv V h λ b h=>?_
 exact eA (pbI (Go.refl R I) h)
theorem zCZ {Q:D->zA->Prop}{v:ag}{x:D}(R:Rel C T s.heap φ μ σ)(I:FrI F s.heap φ μ ρ)(V:VD s.heap φ μ v x)
  (h:isB x λ b=>Q (.p (.bool (!b))) σ):wpAny (model C.prog C.w) A (unaryOp .Not v) (PV C T F s φ μ ρ Q) NoE s:=by
 refine zAv V h λ b h=>?_
 exact not_value (eA (zr R I (.p (.bool _)) h))
end
theorem Zz {h:aP}{φ:ai->Prop}:∀ {vs:List ag} {xs:List ab} {l:List Int},VPs h φ vs xs->ints? xs=some l->cJ vs l
 | _,[],_,V,e=>by cases V.inil;obtain rfl:=so e;exact .nil
 | _,_::_,_,sZ,e=>by
  refine sZ.mcons λ v r V W=>?_
  refine Eea (ob e) λ i e1 e2=>?_
  refine Eea (ob e2) λ l e3 e4=>?_
  obtain rfl:=JM e1
  obtain rfl:=so e4
  refine V.mint λ t=>?_
  exact .cons _ _ (Zz W e3)
theorem yB {vs:List ag}{l:List Int}(H:cJ vs l){i:Nat}{v:ag}(e:vs[i]?=some v):∃ t,v=.int (l.getD i 0) t:=by
 induction H generalizing i with
 | nil=>simp at e
 | cons n t _ ih =>
  cases i with
  | zero=>simp at e;subst e;exact ⟨t,by simp⟩
  | succ i=>refine Ee (ih (i:=i) (by simpa using e)) λ u hu=>?_;exact ⟨u,by simpa using hu⟩
theorem jc {vs:List ag}{i:Nat}{v:ag}(h:vs.toArray[i]?=some v):vs[i]?=some v:=by simpa using h
theorem VC (r:List Int):∀ a,z8 a r∈a::r/\∀ x∈a::r,x<=z8 a r:=by
 induction r with
 | nil=>intro a;simp [uB,jh]
 | cons b r ih =>
  intro a
  refine Ea (ih (if a<b then b else a)) λ h1 h2=>?_
  simp only [uB,jh]
  generalize hm:(if a<b then b else a)=m at h1 h2 ⊢
  have Cb:(m=a∨m=b)/\a<=m/\b<=m:=by refine rwS hm ?_;split <;> constructor <;> first | lia | simp
  have hb:=h2 _ (di)
  refine ⟨?_,λ x hx=>?_⟩
  ·rcases aA.mp h1 with h | h
   ·erw [h];rcases Cb.1 with e | e <;> erw [e] <;> simp
   ·simp [h]
  ·rcases aA.mp hx with rfl | hx
   ·exact liZ [] [_,_,_] (.v 0) (.v 1) [(1,.L (.v 2) (.v 1)),(1,.L (.v 0) (.v 2))] tT9 hb Cb.2.1
   ·rcases aA.mp hx with rfl | hx
    ·exact liZ [] [_,_,_] (.v 0) (.v 1) [(1,.L (.v 2) (.v 1)),(1,.L (.v 0) (.v 2))] tT9 hb Cb.2.2
    ·exact h2 x (bU _ hx)
theorem Vi (r:List Int):∀ a,ZK a r∈a::r/\∀ x∈a::r,ZK a r<=x:=by
 induction r with
 | nil=>intro a;simp [uj,UZ]
 | cons b r ih =>
  intro a
  refine Ea (ih (if b<a then b else a)) λ h1 h2=>?_
  simp only [uj,UZ]
  generalize hm:(if b<a then b else a)=m at h1 h2 ⊢
  have Cb:(m=a∨m=b)/\m<=a/\m<=b:=by refine rwS hm ?_;split <;> constructor <;> first | lia | simp
  have hb:=h2 _ (di)
  refine ⟨?_,λ x hx=>?_⟩
  ·rcases aA.mp h1 with h | h
   ·erw [h];rcases Cb.1 with e | e <;> erw [e] <;> simp
   ·simp [h]
  ·rcases aA.mp hx with rfl | hx
   ·exact liZ [] [_,_,_] (.v 0) (.v 1) [(1,.L (.v 0) (.v 2)),(1,.L (.v 2) (.v 1))] tT9 hb Cb.2.1
   ·rcases aA.mp hx with rfl | hx
    ·exact liZ [] [_,_,_] (.v 0) (.v 1) [(1,.L (.v 0) (.v 2)),(1,.L (.v 2) (.v 1))] tT9 hb Cb.2.2
    ·exact h2 x (bU _ hx)
theorem Jc {l:List Int}{i:Nat}(h:i<l.length):l.getD i 0∈l:=by
 (erw [aX];erw [ay h]);simp
theorem Jo {l:List Int}{x:Int}(h:x∈l):∃ i,i<l.length/\l.getD i 0=x:=by
 (refine Ee (List.mem_iff_getElem.mp h) λ i tF=>?_;refine Ee tF λ hi e=>?_)
 exact ⟨i,hi,by (erw [aX];erw [ay hi]);simpa using e⟩
theorem v8 (a:Int)(r:List Int):(a::r).getD (oy (λ i j=>decide ((a::r).getD i 0 > (a::r).getD j 0)) ((a::r).length - 1)) 0=z8 a r:=by
 refine Ea (argBest_gt (λ i=>(a::r).getD i 0) ((a::r).length - 1)) λ h1 h2=>?_
 refine Ea (VC r a) λ m1 m2=>?_
 generalize hk:oy (λ i j=>decide ((a::r).getD i 0 > (a::r).getD j 0)) ((a::r).length - 1)=k at h1 h2
 have sW:k<(a::r).length:=by simp only [a9] at h1 ⊢;exact bp h1
 refine be (m2 _ (Jc sW)) ?_
 refine Eea (Jo m1) λ i hi e=>?_
 refine rwS e ?_
 exact h2 i (gE hi)
theorem W7 (a:Int)(r:List Int):(a::r).getD (oy (λ i j=>decide ((a::r).getD i 0<(a::r).getD j 0)) ((a::r).length - 1)) 0=ZK a r:=by
 refine Ea (argBest_lt (λ i=>(a::r).getD i 0) ((a::r).length - 1)) λ h1 h2=>?_
 refine Ea (Vi r a) λ m1 m2=>?_
 generalize hk:oy (λ i j=>decide ((a::r).getD i 0<(a::r).getD j 0)) ((a::r).length - 1)=k at h1 h2
 have sW:k<(a::r).length:=by simp only [a9] at h1 ⊢;exact bp h1
 refine be ?_ (m2 _ (Jc sW))
 refine Eea (Jo m1) λ i hi e=>?_
 refine rwS e ?_
 exact h2 i (gE hi)
theorem Yp (l:List Int):∀ j,preSum (λ i=>l.getD i 0) j=(l.take j).sum
 | 0=>by simp [preSum]
 | j + 1=>by
  (rewrite [preSum];erw [Yp l j])
  by_cases h:j<l.length
  ·(erw [List.take_add_one];erw [ay h];erw [List.sum_append]);simp [aX,ay h]
  ·(erw [mM (by exact (bu h))];erw [mM (by exact fK (bu h))];erw [aX];erw [eh (by exact (bu h))]);simp
section
variable {prog:bR}{w:b4}{A:aM}{E:ag->ak->Prop}{s:ak}
theorem Y9 {a:ai}{items:Array ag}{Q:ag->ak->Prop}(hh:A.handled=none)(ht:i6 s.heap a items∨s.heap.IsList a items)
  (h:∀ sF I fp wr St,(∃ ob,sF={s with heap:=s.heap.push ob})->Walks prog w A I fp wr items.size (λ i v=>items[i]?=some v) St->St 0 sF.heap->(∀ b∈fp,b<sF.heap.objs.size)->(∀ b∈wr,s.heap.get? b=none) ->
   (∀ b o,s.heap.get? b=some o->sF.heap.get? b=some o)->Q (.ref I) sF):wpAny (model prog w) A (gS (.ref a)) Q E s:=by
 have top:∀ b∈[s.heap.objs.size],s.heap.get? b=none:=λ b hb=>by
  simp at hb;subst hb;exact zd _
 rcases ht with ht | ht
 ·have sW:a<s.heap.objs.size:=by (refine Eea (ht) λ _ e _=>?_;try clear ht);exact bb e
  refine dk ht (h _ _ _ _ _ ⟨_,rfl⟩ (rD hh _ a (aB sW) items) ⟨⟨_,aG _ rfl,rfl,rfl⟩,?_⟩ (λ b hb=>?_) top λ b o e=>am _ e)
  ·(refine Eea (ht) λ o ho r=>?_;try clear ht);exact ⟨o,am _ ho,r⟩
  ·show b<(s.heap.push _).objs.size
   erw [dR]
   simp at hb
   rcases hb with rfl | rfl
   ·exact aU _
   ·exact dD sW
 ·have sW:a<s.heap.objs.size:=by (refine Eea (ht) λ _ e _=>?_;try clear ht);exact bb e
  refine dA ht (h _ _ _ _ _ ⟨_,rfl⟩ (rJ hh _ a (aB sW) items) ⟨⟨_,aG _ rfl,rfl,rfl⟩,?_⟩ (λ b hb=>?_) top λ b o e=>am _ e)
  ·(refine Eea (ht) λ o ho r=>?_;try clear ht);exact ⟨o,am _ ho,r⟩
  ·show b<(s.heap.push _).objs.size
   erw [dR]
   simp at hb
   rcases hb with rfl | rfl
   ·exact aU _
   ·exact dD sW
end
section
variable {C:Cx}{T:Tabs}{F:Fm}{s s':ak}{φ j':ai->Prop}{μ sz:List ai}{ρ sB:Rho}{σ σ':zA}{A:aM}{n:Nat}
theorem qR {Q:D->zA->Prop}{v:ag}{d:D}{h':aP}{tk:Nat}(R:Rel C T s.heap φ μ σ)(I:FrI F s.heap φ μ ρ)(k:∀ b o,s.heap.get? b=some o->h'.get? b=some o)(V:VD s.heap φ μ v d)(q:Q d σ) :
  PV C T F s φ μ ρ Q v {s with heap:=h',toks:=tk} :=
 let ⟨R',X⟩:=R.grow k
 (pvI (Go.of_ext I R' X) (X.vd V) q)
theorem XD {h Az h':aP}{wr:List ai}(hw:∀ b∈wr,h.get? b=none)(k:∀ b o,h.get? b=some o->Az.get? b=some o)(k':∀ b o,b∉wr->Az.get? b=some o->h'.get? b=some o):∀ b o,h.get? b=some o->h'.get? b=some o :=
 λ b o e=>k' b o (λ m=>by rw [hw b m] at e;cases e) (k b o e)
theorem zEo {Q:D->zA->Prop}{v:ag}{d:D}{xs:List ab}{a:Int}{r:List Int}(hA:A.handled=none)(R:Rel C T s.heap φ μ σ)(I:FrI F s.heap φ μ ρ)(V:VD s.heap φ μ v d)
  (e:zy σ d=some xs) (hi:ints? xs=some (a::r)) (q:Q (.p (.int (z8 a r))) σ):wpAny (model C.prog C.w) A (call (.builtin "max") [v]) (PV C T F s φ μ ρ Q) NoE s:=by
 refine Qx R V e λ ad vs hs vp=>?_
 have H:=Zz vp hi
 have hl:=H.length
 refine call_max_walk (Y9 (A:=A.in1) hA hs λ sF BO fp wr St he W st EB D4 hk=>?_)
 (refine Ee (he) λ ob Aj=>?_;try clear he;obtain rfl:=Aj)
 refine ⟨BO,fp,wr,_,_,St,_,rfl,W,st,EB,?_,CmpOf.ints_gt (λ i=>(a::r).getD i 0) (λ i v hv=>yB H (jc hv)),λ v h' tk hP tR=>?_⟩
 ·(erw [aJ];erw [hl]);simp
 ·rw [aJ,hl] at hP
  (refine Ee (yB H (jc hP)) λ t AR=>?_;obtain rfl:=AR)
  erw [v8]
  exact qR R I (XD D4 hk tR) (.p (.int _ _)) q
theorem zDE {Q:D->zA->Prop}{v:ag}{d:D}{xs:List ab}{a:Int}{r:List Int}(hA:A.handled=none)(R:Rel C T s.heap φ μ σ)(I:FrI F s.heap φ μ ρ)(V:VD s.heap φ μ v d)
  (e:zy σ d=some xs) (hi:ints? xs=some (a::r)) (q:Q (.p (.int (ZK a r))) σ):wpAny (model C.prog C.w) A (call (.builtin "min") [v]) (PV C T F s φ μ ρ Q) NoE s:=by
 refine Qx R V e λ ad vs hs vp=>?_
 have H:=Zz vp hi
 have hl:=H.length
 refine call_min_walk (Y9 (A:=A.in1) hA hs λ sF BO fp wr St he W st EB D4 hk=>?_)
 (refine Ee (he) λ ob GU=>?_;try clear he;obtain rfl:=GU)
 refine ⟨BO,fp,wr,_,_,St,_,rfl,W,st,EB,?_,CmpOf.ints_lt (λ i=>(a::r).getD i 0) (λ i v hv=>yB H (jc hv)),λ v h' tk hP tR=>?_⟩
 ·(erw [aJ];erw [hl]);simp
 ·rw [aJ,hl] at hP
  (refine Ee (yB H (jc hP)) λ t G5=>?_;obtain rfl:=G5)
  erw [W7]
  exact qR R I (XD D4 hk tR) (.p (.int _ _)) q
theorem zCH {Q:D->zA->Prop}{v:ag}{d:D}{xs:List ab}{l:List Int}(hA:A.handled=none)(R:Rel C T s.heap φ μ σ)(I:FrI F s.heap φ μ ρ)(V:VD s.heap φ μ v d)
  (e:zy σ d=some xs) (hi:ints? xs=some l) (q:Q (.p (.int l.sum)) σ):wpAny (model C.prog C.w) A (call (.builtin "sum") [v]) (PV C T F s φ μ ρ Q) NoE s:=by
 refine Qx R V e λ ad vs hs vp=>?_
 have H:=Zz vp hi
 have hl:=H.length
 refine call_sum_walkG (Y9 (A:=A.in1) hA hs λ sF BO fp wr St he W st EB D4 hk=>?_)
 (refine Ee (he) λ ob CS=>?_;try clear he;obtain rfl:=CS)
 refine ⟨BO,fp,wr,_,_,St,(λ i=>l.getD i 0),rfl,W,st,EB,(λ i v hv=>yB H (jc hv)),λ h' tk t' tR=>?_⟩
 (erw [aJ];erw [hl];erw [Yp];erw [oS])
 exact qR R I (XD D4 hk tR) (.p (.int _ _)) q
end
set_option tactic.hygienic true
theorem ZB {x:ab}{xs:List ab}{k:Ky}(e:keyDs (x::xs)=some k):∃ a r,k=.cons a r/\Za x=some a/\keyDs xs=some r:=by
 refine Eea (ob e) λ a e1 e2=>?_
 refine Eea (ob e2) λ r e3 e4=>?_
 exact ⟨a,r,(so e4).symm,e1,e3⟩
theorem ZI {xs:List ab}{k:Ky}(e:keyDs xs=some k):k=.nil∨∃ a r,k=.cons a r:=by
 cases xs with
 | nil=>exact .inl (so e).symm
 | cons x xs=>refine Eeea (ZB e) λ a r h _=>?_;exact .inr ⟨a,r,h⟩
def XQ (a:ab)(i:Int):Prop:=a=.int i∨∃ b,a=.bool b/\i=cond b 1 0
theorem QR {a:ab}{x:Ky}(e:Za a=some x):(∃ i,XQ a i/\x=.int i)∨(∃ s,a=.str s/\x=.str s)∨∃ xs,a=.tuple xs/\keyDs xs=some x:=by
 cases a with
 | int i=>exact .inl ⟨i,.inl rfl,(so e).symm⟩
 | bool b=>exact .inl ⟨_,.inr ⟨b,rfl,rfl⟩,(so e).symm⟩
 | str i=>exact .inr (.inl ⟨i,rfl,(so e).symm⟩)
 | tuple xs=>exact .inr (.inr ⟨xs,rfl,e⟩)
 | _=>exact nn e
theorem ZV {x y:Ky}(h:x=y->False):false=decide (x=y):=(decide_eq_false h).symm
theorem zBp {a b:ab}{i j:Int}(ha:XQ a i)(hb:XQ b j):aV a b=(i==j):=by
 rcases ha with rfl | ⟨x,rfl,rfl⟩ <;> rcases hb with rfl | ⟨y,rfl,rfl⟩
 ·rfl
 ·cases y <;> rfl
 ·cases x <;> rfl
 ·cases x <;> cases y <;> rfl
theorem jb {a:ab}{i:Int}{s:aK}{xs:List ab}(ha:XQ a i):aV a (.str s)=false/\aV a (.tuple xs)=false/\aV (.str s) a=false/\aV (.tuple xs) a=false:=by
 rcases ha with rfl | ⟨x,rfl,rfl⟩ <;> exact ⟨rfl,rfl,rfl,rfl⟩
theorem zAQ:∀ (x:Ky),(∀ (a b:ab) (y:Ky),Za a=some x->Za b=some y->aV a b=decide (x=y))/\(∀ (as bs:List ab) (y:Ky),keyDs as=some x->keyDs bs=some y->bB as bs=decide (x=y)):=by
 have tup:∀ (x:Ky),(x=.nil∨∃ p r,x=.cons p r)->(∀ (as bs:List ab) (y:Ky),keyDs as=some x->keyDs bs=some y->bB as bs=decide (x=y))->∀ (a b:ab) (y:Ky),Za a=some x->Za b=some y->aV a b=decide (x=y):=λ x hx ih a b y ha hb=>by
  rcases QR ha with ⟨i,_,rfl⟩ | ⟨i,_,rfl⟩ | ⟨as,rfl,ha⟩
  ·rcases hx with h | ⟨_,_,h⟩ <;> cases h
  ·rcases hx with h | ⟨_,_,h⟩ <;> cases h
  ·rcases QR hb with ⟨j,hj,rfl⟩ | ⟨j,rfl,rfl⟩ | ⟨bs,rfl,hb⟩
   ·refine (jb (s:=default) hj).2.2.2.trans (ZV λ h=>by subst h;rcases hx with h | ⟨_,_,h⟩ <;> cases h)
   ·exact ZV λ h=>by subst h;rcases hx with h | ⟨_,_,h⟩ <;> cases h
   ·exact ih as bs y ha hb
 have seq:∀ {as:List ab} {x:Ky} {P:Prop},keyDs as=some x->(∀ p r,x≠.cons p r)->x≠.nil->P:=λ e h1 h2=>by
  rcases ZI e with rfl | ⟨p,r,rfl⟩
  ·exact absurd rfl h2
  ·exact absurd rfl (h1 p r)
 intro x
 induction x with
 | int i =>
  refine ⟨λ a b y ha hb=>?_,λ as bs y ha _=>seq ha (λ _ _ h=>nomatch h) (λ h=>nomatch h)⟩
  rcases QR ha with ⟨k,hi,e⟩ | ⟨k,_,e⟩ | ⟨as,_,ha⟩
  ·(injection e with y5y0;subst y5y0)
   rcases QR hb with ⟨j,hj,rfl⟩ | ⟨j,rfl,rfl⟩ | ⟨bs,rfl,hb⟩
   ·erw [zBp hi hj]
    by_cases e:i=j
    ·subst e;erw [decide_eq_true rfl];exact beq_self_eq_true i
    ·refine rwS (ZV λ h=>e (by cases h;rfl)) ?_;exact beq_eq_false_iff_ne.mpr e
   ·exact (jb (xs:=[]) hi).1.trans (ZV λ h=>nomatch h)
   ·exact (jb (s:=default) hi).2.1.trans (ZV λ h=>by rcases ZI hb with rfl | ⟨_,_,rfl⟩ <;> cases h)
  ·cases e
  ·exact seq ha (λ _ _ h=>nomatch h) (λ h=>nomatch h)
 | str i =>
  refine ⟨λ a b y ha hb=>?_,λ as bs y ha _=>seq ha (λ _ _ h=>nomatch h) (λ h=>nomatch h)⟩
  rcases QR ha with ⟨k,_,e⟩ | ⟨k,rfl,e⟩ | ⟨as,_,ha⟩
  ·cases e
  ·(injection e with y10y0;subst y10y0)
   rcases QR hb with ⟨j,hj,rfl⟩ | ⟨j,rfl,rfl⟩ | ⟨bs,rfl,hb⟩
   ·exact (jb (xs:=[]) hj).2.2.1.trans (ZV λ h=>nomatch h)
   ·show (i==j)=_
    by_cases e:i=j
    ·subst e;erw [decide_eq_true rfl];exact beq_self_eq_true i
    ·refine rwS (ZV λ h=>e (by cases h;rfl)) ?_;exact beq_eq_false_iff_ne.mpr e
   ·exact ZV λ h=>by rcases ZI hb with rfl | ⟨_,_,rfl⟩ <;> cases h
  ·exact seq ha (λ _ _ h=>nomatch h) (λ h=>nomatch h)
 | nil =>
  have h2:∀ (as bs:List ab) (y:Ky),keyDs as=some .nil->keyDs bs=some y->bB as bs=decide (Ky.nil=y):=λ as bs y ha hb=>by
   cases as with
   | cons a as=>refine Eeea (ZB ha) λ _ _ h _=>?_;cases h
   | nil=>cases bs with
    | nil=>obtain rfl:=so hb;rfl
    | cons b bs=>(refine Eeea (ZB hb) λ _ _ BH=>?_;obtain rfl:=BH;intro _);exact ZV λ h=>nomatch h
  exact ⟨tup _ (.inl rfl) h2,h2⟩
 | cons p r DZ DL =>
  have h2:∀ (as bs:List ab) (y:Ky),keyDs as=some (.cons p r)->keyDs bs=some y->bB as bs=decide (Ky.cons p r=y):=λ as bs y ha hb=>by
   cases as with
   | nil=>cases so ha
   | cons a as =>
    refine Eeeaa (ZB ha) λ p' r' e KD H8=>?_
    cases e
    cases bs with
    | nil=>obtain rfl:=so hb;exact ZV λ h=>nomatch h
    | cons b bs =>
     (refine Eeeaa (ZB hb) λ q t Ct=>?_;obtain rfl:=Ct;intro Hp AM)
     show (aV a b&&bB as bs)=_
     (erw [DZ.1 a b q KD Hp];erw [DL.2 as bs t H8 AM])
     by_cases e1:p=q
     ·by_cases e2:r=t
      ·rw [decide_eq_true e1,decide_eq_true e2,decide_eq_true (by rw [e1,e2])];rfl
      ·(erw [decide_eq_false e2];erw [eJ];refine rwS (ZV λ h=>e2 (by cases h;rfl)) ?_;rfl)
     ·(erw [decide_eq_false e1];erw [pD];refine rwS (ZV λ h=>e1 (by cases h;rfl)) ?_;rfl)
  exact ⟨tup _ (.inr ⟨_,_,rfl⟩) h2,h2⟩
section
variable {h:aP}{v:ag}{as:List ai}{vs:List ag}
def zD8 (h:aP)(v:ag)(as:List ai)(x:ab):Prop:=@bA (λ _=>Prop) x True (λ b=>v=.bool b/\as=[]) (λ i=>∃ t,v=.int i t/\as=[]) (λ x=>∃ t,v=.str x t/\as=[]) (λ _=>True)
 (λ xs=>∃ a o vs n,v=.ref a/\h.get? a=some o/\o.cls=.type "tuple"/\o.data=.seq vs n/\bL h vs.toList xs as) (λ _=>True)
theorem Qa {x:ab}(r:eu h v x as):zD8 h v as x:=by
 cases r with
 | bool b=>exact ⟨rfl,rfl⟩
 | int i t=>exact ⟨_,rfl,rfl⟩
 | str x t=>exact ⟨_,rfl,rfl⟩
 | tuple h1 h2 h3 h4=>exact ⟨_,_,_,_,rfl,h1,h2,h3,h4⟩
 | _=>trivial
theorem zFQ {i:Int}(r:eu h v (.int i) as):∃ t,v=.int i t/\as=[]:=Qa r
theorem zEK {b:Bool}(r:eu h v (.bool b) as):v=.bool b/\as=[]:=Qa r
theorem zGn {x:aK}(r:eu h v (.str x) as):∃ t,v=.str x t/\as=[]:=Qa r
theorem zFR {xs:List ab}(r:eu h v (.tuple xs) as):∃ a o vs n,v=.ref a/\h.get? a=some o/\o.cls=.type "tuple"/\o.data=.seq vs n/\bL h vs.toList xs as:=Qa r
def wl (h:aP)(vs:List ag)(xs:List ab)(as:List ai):Prop:=@bE ag (λ _=>Prop) vs (xs=[]/\as=[]) λ v vs=>∃ x ys bs cs,xs=x::ys/\as=bs++cs/\eu h v x bs/\bL h vs ys cs
theorem y1 {xs:List ab}(r:bL h vs xs as):wl h vs xs as:=by
 cases r with
 | nil=>exact ⟨rfl,rfl⟩
 | cons p q=>exact ⟨_,_,_,_,rfl,rfl,p,q⟩
theorem zEx {xs:List ab}(r:bL h [] xs as):xs=[]:=And.left (y1 r)
theorem uC {v:ag}{xs:List ab}(r:bL h (v::vs) xs as):∃ x ys bs cs,xs=x::ys/\as=bs++cs/\eu h v x bs/\bL h vs ys cs:=y1 r
theorem zAt {x:ab}{xs:List ab}(r:bL h vs (x::xs) as):∃ v ws bs cs,vs=v::ws/\as=bs++cs/\eu h v x bs/\bL h ws xs cs:=by
 cases vs with
 | nil=>exact absurd (zEx r) (fS _ _)
 | cons v ws=>exact Eeeeeaaa (uC r) λ x' ys bs cs e e' p q=>⟨v,ws,bs,cs,rfl,e',(dI e).1▸p,(dI e).2▸q⟩
theorem xx {x:ab}{k:Ky}{P:ag->ab->Ky->List ai->Prop}(hk:Za x=some k)(hr:eu h v x as)(ci:∀ i t,P (.int i t) (.int i) (.int i) [])(cb:∀ b,P (.bool b) (.bool b) (.int (cond b 1 0)) [])(cs:∀ s t,P (.str s t) (.str s) (.str s) [])
  (ct:∀ a o vs n xs,h.get? a=some o->o.cls=.type "tuple"->o.data=.seq vs n->bL h vs.toList xs as->keyDs xs=some k->P (.ref a) (.tuple xs) k as):P v x k as:=by
 rcases QR hk with ⟨i,rfl | ⟨b,rfl,rfl⟩,rfl⟩ | ⟨i,rfl,rfl⟩ | ⟨xs,rfl,hk⟩
 ·refine Eea (zFQ hr) λ t e e'=>?_;(erw [e];erw [e']);exact ci i t
 ·refine Ea (zEK hr) λ e e'=>?_;(erw [e];erw [e']);exact cb b
 ·refine Eea (zGn hr) λ t e e'=>?_;(erw [e];erw [e']);exact cs i t
 ·refine Eeeeeaaaa (zFR hr) λ a o vs n e ho hc hd hi=>?_;erw [e];exact ct a o vs n xs ho hc hd hi hk
end
noncomputable def Q2:Ky->Nat
 | .int _=>1
 | .str _=>1
 | .nil=>1
 | .cons a r=>Q2 a + Q2 r
theorem Ul {P:gT}{xs:List ab}{k:Ky}(e:keyDs xs=some k):hashK P k=nU (ff (hashesK P k)):=by
 rcases ZI e with rfl | ⟨_,_,rfl⟩ <;> rfl
theorem wE {x:ab}{xs:List ab}{n:Nat}(h:bC (x::xs)<=n):x.depth<=n/\bC xs<=n:=by
 exact lJ.mp h
section
variable {prog:bR}{w:b4}
theorem JT {xs:List ab}{i:Int}{P:Prop}(e:keyDs xs=some (.int i)):P:=(ZI e).elim (λ h=>Ky.noConfusion h) λ h=>Eee h λ _ _ h=>Ky.noConfusion h
theorem JW {xs:List ab}{i:aK}{P:Prop}(e:keyDs xs=some (.str i)):P:=(ZI e).elim (λ h=>Ky.noConfusion h) λ h=>Eee h λ _ _ h=>Ky.noConfusion h
theorem w8 {b:Bool}{A:aM}{E:ag->ak->Prop}{s:ak}{Q:Int->ak->Prop}(h:Q (gH (cond b 1 0)) {s with toks:=s.toks + 1}):wpAny (model prog w) A (pyHash (.bool b)) Q E s:=by
 have hT:s.TypeIs (.bool b) "bool":=rfl
 unfold pyHash
 have hv:[rK b].any Value.onHeap=false:=rfl
 refine aa ?_
 rw [cRoomFor,if_neg (by rw [hv];exact aT)];refine aj ?_
 refine aa (ir hT fM.lookup ?_)
 show wpAny _ _ (if (some (pX "int.__hash__")==some dH)=true then _ else _) Q E s
 rw [if_neg (by rw [oT];exact aT)]
 refine aa (ir hT fM.lookup ?_)
 show wpAny _ _ (callSpecialIfBoundUnlessNone? (.bool b) "__hash__" _ >>= _) Q E s
 refine aa (wpAny_callSpecialIfBoundUnlessNone?_slot hT fM (bX fM hT entry_int_hash ?_ (args_int_hash _)))
 cases b with
 | true=>exact (show wpAny _ _ (do ret (<- mkInt (rawHash 1))) _ _ s from pg (aj h))
 | false=>exact (show wpAny _ _ (do ret (<- mkInt (rawHash 0))) _ _ s from pg (aj h))
def zAo (prog:bR)(w:b4)(k:Ky):Prop:=∀ (x:ab) (v:ag) (as:List ai) (A:aM) (E:ag->ak->Prop) (s:ak) (Q:Int->ak->Prop),Za x=some k->eu s.heap v x as->A.units + x.depth<cLine ->
 Q (hashK w.params k) {s with toks:=s.toks + Q2 k}->wpAny (model prog w) A (pyHash v) Q E s
def jM (prog:bR)(w:b4)(k:Ky):Prop:=∀ (xs:List ab) (vs:List ag) (as:List ai) (A:aM) (E:ag->ak->Prop) (s:ak) (b:Array Int) (Q:Array Int->ak->Prop),keyDs xs=some k->bL s.heap vs xs as->A.units + bC xs<cLine ->
 (∀ tk b',tk + 1=s.toks + Q2 k->b'.toList=b.toList++hashesK w.params k->Q b' {s with toks:=tk})->wpAny (model prog w) A (forIn vs b λ x r=>do let h<-pyHash x;pure PUnit.unit;pure (ef (r.push h))) Q E s
theorem yP {k:Ky}(ih:jM prog w k):zAo prog w k:=λ x v as A E s Q hk hr hu h=>by
 refine xx (P:=λ v x k _=>A.units + x.depth<cLine->Q (hashK w.params k) {s with toks:=s.toks + Q2 k}->jM prog w k->wpAny (model prog w) A (pyHash v) Q E s)
  hk hr (λ _ _ _ h _=>oQ h) (λ _ _ h _=>w8 h) (λ _ _ _ h _=>wpAny_pyHash_str h) (λ a o items n' xs ho hc tN hi hk hu h ih=>?_) hu h ih
 have hT:s.TypeIs (.ref a) "tuple":=⟨o,ho,hc⟩
 have hu:A.units + (bC xs + 1)<cLine:=hu
 refine (show wpAny _ _ (pyHashByItsType (.ref a)) Q E s from pyHash_slot hT F.slot_tuple_hash F.entry_tuple_hash (F.args_tuple_hash_1 _) (oT _) (.inr (b5 (aF _ _) hu)) ?_)
 show wpAny _ _ (r4 (.ref a) >>= _) _ _ s
 refine aa (wpAny_tupleItemsOf ho tN ?_)
 refine aa ?_
 refine rwS nW ?_
 refine ih _ _ _ _ _ _ _ _ hk hi (lin [_,_,_] [] (.a (.a (.a (.v 0) (.k 1)) (.v 1)) (.k 1)) (.v 2) [(1,.l (.a (.a (.v 0) (.a (.v 1) (.k 1))) (.k 1)) (.v 2))] tT9 hu) λ tk b' ht hb=>?_
 rw [Ul hk,<- ht] at h
 show wpAny _ _ (retInt (ff b'.toList)) _ _ _
 erw [hb]
 exact aa (wpAny_mkInt (aj ⟨_,_,rfl,h⟩))
theorem vn (k:Ky):zAo prog w k/\jM prog w k:=by
 induction k with
 | int i=>exact ⟨yP λ _ _ _ _ _ _ _ _ e=>JT e,λ _ _ _ _ _ _ _ _ e=>JT e⟩
 | str i=>exact ⟨yP λ _ _ _ _ _ _ _ _ e=>JW e,λ _ _ _ _ _ _ _ _ e=>JW e⟩
 | nil =>
  have AD:jM prog w .nil:=λ xs vs as A E s b Q e r _ h=>by
   cases xs with
   | cons _ _=>exact Eeea (ZB e) λ _ _ e _=>Ky.noConfusion e
   | nil =>
    cases vs with
    | nil=>exact aj (h s.toks b rfl (aR _).symm)
    | cons _ _=>exact Eeeeea (uC r) λ _ _ _ _ e _=>List.noConfusion rfl (heq_of_eq e)
  exact ⟨yP AD,AD⟩
 | cons p r DZ DL =>
  have AD:jM prog w (.cons p r):=λ xs vs as A E s b Q e q hu h=>by
   cases xs with
   | nil=>exact Ky.noConfusion (so e)
   | cons x xs =>
    refine Eeeaa (ZB e) λ p' r' e' e1 e2=>?_
    cases e'
    refine Eeeeeaaa (zAt q) λ v ws bs cs ev _ q1 q2=>?_
    (erw [ev];erw [fu])
    refine aa (aa (DZ.1 _ _ _ _ _ _ _ e1 q1 (b5 (aL (Nat.le_max_left _ _) _) hu) ?_))
    refine aa (aj (aj ?_))
    refine DL.2 _ _ _ _ _ _ _ _ e2 q2 (b5 (aL (Nat.le_max_right _ _) _) hu) λ tk b' ht hb=>h tk b' (ht.trans (cU _ _ _)) ?_
    (erw [hb];erw [gJ];erw [aI]);rfl
  exact ⟨yP AD,AD⟩
theorem Uj:∀ (n:Nat) (x:ab) (k:Ky) (v:ag) (as:List ai) (A:aM) (E:ag->ak->Prop) (s:ak) (Q:Bool->ak->Prop),x.depth<=n->Za x=some k->eu s.heap v x as ->
  Q true s->wpAny (model prog w) A (iU n v) Q E s:=by
 intro n
 have one:∀ (n:Nat) (v:ag) (A:aM) (E:ag->ak->Prop) (s:ak) (Q:Bool->ak->Prop),Q true s->(iU n v=pure true)->wpAny (model prog w) A (iU n v) Q E s:=λ n v A E s Q h e=>by erw [e];exact aj h
 induction n with
 | zero =>
  intro x k v as A E s Q hd hk hr h
  exact xx (P:=λ v x k _=>x.depth<=0->wpAny (model prog w) A (iU 0 v) Q E s) hk hr (λ _ _ _=>one _ _ _ _ _ _ h (eE _ rfl)) (λ _ _=>one _ _ _ _ _ _ h (eE _ rfl)) (λ _ _ _=>one _ _ _ _ _ _ h (eE _ rfl)) (λ _ _ _ _ _ _ _ _ _ _ hd=>absurd hd (Nat.not_succ_le_zero _)) hd
 | succ n ih =>
  intro x k v as A E s Q hd hk hr h
  ·refine xx (P:=λ v x k _=>x.depth<=n + 1->wpAny (model prog w) A (iU (n + 1) v) Q E s) hk hr (λ _ _ _=>one _ _ _ _ _ _ h (eE _ rfl)) (λ _ _=>one _ _ _ _ _ _ h (eE _ rfl)) (λ _ _ _=>one _ _ _ _ _ _ h (eE _ rfl)) (λ a o items n' xs ho hc tN hi hk hd=>?_) hd
   have B9:bC xs<=n:=mI hd
   have hT:s.TypeIs (.ref a) "tuple":=⟨o,ho,hc⟩
   unfold iU
   refine aa (ir hT PySem.F.slot_tuple_eq.lookup ?_)
   show wpAny _ _ (isInstance (.ref a) (.type "tuple") >>= _) _ _ s
   refine aa (g8 hT isSubtype_tuple_tuple ?_)
   simp only [pY,cw,if_false]
   refine aa (cN ho tN ?_)
   refine aa ?_
   show wpAny _ _ (forIn items _ _) _ _ s
   refine rwS nW ?_
   refine wpAny_forIn_list _ (λ rest r s'=>r.1=none/\s'=s/\∃ (left:List ab) (kl:Ky) (al:List ai),bL s.heap rest left al/\keyDs left=some kl/\bC left<=n) _ ?_ ?_ _ _ ⟨rfl,rfl,xs,k,_,hi,hk,B9⟩
   ·rintro v rest r s' ⟨hr,rfl,left,kl,al,hl,Dl,Cg⟩
    ·(refine Eeeeeaaa (uC hl) λ d ds bs ES CS=>?_;obtain rfl:=CS;intro _ p r')
     (refine Eeeaa (ZB Dl) λ ka kr Dm=>?_;obtain rfl:=Dm;intro h1 h2)
     refine Ea (wE Cg) λ d1 d2=>?_
     refine aa (ih d ka v _ _ E s' _ d1 h1 p ?_)
     simp only [pY,cw,if_false]
     exact aj ⟨rfl,rfl,ds,kr,_,r',h2,d2⟩
   ·rintro ⟨r1,r2⟩ s' ⟨Iz,rfl,_⟩
    have Kh:r1=none:=Iz
    subst Kh
    exact aj h
end
theorem Wi {h h':aP}{d:ai}{od:fi}{es:Array dQ}{ep:Nat}(hd:h.get? d=some od)(DG:od.data=.dict es ep)(hs:cj d h h'):∀ (k:Ky),(∀ {v:ag} {x:ab} {as:List ai},Za x=some k->eu h v x as->eu h' v x as) /\
  (∀ {vs:List ag} {xs:List ab} {as:List ai},keyDs xs=some k->bL h vs xs as->bL h' vs xs as):=by
 have one:∀ (k:Ky),(∀ {vs:List ag} {xs:List ab} {as:List ai},keyDs xs=some k->bL h vs xs as->bL h' vs xs as)->∀ {v:ag} {x:ab} {as:List ai},Za x=some k->eu h v x as->eu h' v x as:=λ k ih v x as e r=>by
  refine xx (P:=λ v x k as=>(∀ {vs:List ag} {xs:List ab} {as:List ai},keyDs xs=some k->bL h vs xs as->bL h' vs xs as)->eu h' v x as) e r (λ i t _=>.int i t) (λ b _=>.bool b) (λ i t _=>.str i t) (λ a o vs n xs ho hc tN hi e ih=>?_) ih
  have tj:a≠d:=λ q=>by
   rw [<- q,ho] at hd
   rw [so hd] at tN
   exact Data.noConfusion (DG.symm.trans tN)
  exact .tuple ((hs.2 a tj).trans ho) hc tN (ih e hi)
 intro k
 induction k with
 | cons p r DZ DL =>
  have AD:∀ {vs:List ag} {xs:List ab} {as:List ai},keyDs xs=some (.cons p r)->bL h vs xs as->bL h' vs xs as:=λ {vs xs as} e q=>by
   cases xs with
   | nil=>cases so e
   | cons x xs =>
    refine Eeeaa (ZB e) λ p' r' e' e1 e2=>?_
    cases e'
    (refine Eeeeeaaa (zAt q) λ v ws bs cs Bu=>?_;obtain rfl:=Bu;intro FO;obtain rfl:=FO;intro q1 q2)
    exact .cons (DZ.1 e1 q1) (DL.2 e2 q2)
  exact ⟨one _ AD,AD⟩
 | int i =>
  have AD:∀ {vs:List ag} {xs:List ab} {as:List ai},keyDs xs=some (.int i)->bL h vs xs as->bL h' vs xs as:=λ e q=>by rcases ZI e with h | ⟨_,_,h⟩ <;> cases h
  exact ⟨one _ AD,AD⟩
 | str i =>
  have AD:∀ {vs:List ag} {xs:List ab} {as:List ai},keyDs xs=some (.str i)->bL h vs xs as->bL h' vs xs as:=λ e q=>by rcases ZI e with h | ⟨_,_,h⟩ <;> cases h
  exact ⟨one _ AD,AD⟩
 | nil =>
  have AD:∀ {vs:List ag} {xs:List ab} {as:List ai},keyDs xs=some .nil->bL h vs xs as->bL h' vs xs as:=λ {vs xs as} e q=>by
   cases xs with
   | nil=>cases q;exact .nil
   | cons x xs=>refine Eeea (ZB e) λ p' r' e' _=>?_;cases e'
  exact ⟨one _ AD,AD⟩
def vV (h:aP)(k:Ky)(a:ai):Prop:=∃ xs as,eu h (.ref a) (.tuple xs) as/\keyDs xs=some k/\(ch xs).depth<=6/\(ch xs).canLay0=true
noncomputable def jm (prog:bR)(w:b4):HeapKind prog w Ky where
 is:=vV
 hash:=hashK w.params
 draws:=Q2
 room:=λ A=>A.units + 20<cLine
 inj:=λ {h a x y} ⟨xs,as,r,k,d,c⟩ ⟨ys,bs,r',k',d',c'⟩=>by
  refine Ea (r5 r _ _ r') λ e _=>?_
  (injection e with y25y0;subst y25y0)
  rw [k] at k';cases k';rfl
 keeps:=λ {h h' k a d o es ep} ⟨xs,as,r,e,dd,c⟩ ho hd hs=>⟨xs,as,(Wi ho hd hs k).1 e r,e,dd,c⟩
 pyHash:=λ {A E s k a Q} hu ⟨xs,as,r,e,dd,c⟩ h=>(vn k).1 (.tuple xs) _ _ _ _ _ _ e r (lin [_,_,_] [] (.a (.a (.v 0) (.v 1)) (.k 1)) (.v 2) [(1,.l (.a (.a (.v 0) (.k 20)) (.k 1)) (.v 2)),(1,.l (.v 1) (.k 6))] tT9 hu dd) h
 eqBool:=λ {A E s x y a b Q} hu ⟨xs,as,r,e,dd,c⟩ ⟨ys,bs,r',e',K8,c'⟩ h=>pE prog w A E s _ _ _ _ _ _ Q r r' c c' (by lia)
  (by erw [(zAQ x).1 (.tuple xs) (.tuple ys) y e e'];exact h)
 quiet:=λ {A E s k a Q} ⟨xs,as,r,e,dd,c⟩ h=>Uj 8 (.tuple xs) k _ _ A E s Q (af dd (nB9 rfl)) e r h
section
variable {C:Cx}{T:Tabs}{F:Fm}{s s':ak}{φ j':ai->Prop}{μ sz:List ai}{ρ sB:Rho}{σ σ':zA}{A:aM}{n:Nat}
theorem Yj {h:aP}{a:ai}{xs:List ab}{k:Ky}(v:VP h φ (.ref a) (.tuple xs))(e:keyDs xs=some k)(d:(ch xs).depth<=6):vV h k a:=by
 refine Ee (v.reads) λ as r=>?_
 exact ⟨xs,as,r,e,d,v.canLay⟩
theorem VK {h:aP}{xs:List (Ky×ai×ag)}{es:List (Ky×D)}(t:TEs h φ μ xs es):∀ x∈xs,vV h x.1 x.2.1:=by
 induction t with
 | nil=>exact λ x hx=>nomatch hx
 | cons v e d _ _ ih =>
  intro x hx
  rcases aA.mp hx with rfl | hx
  ·exact Yj v e d
  ·exact ih x hx
theorem jC {h:aP}{xs:List (Ky×ai×ag)}{es:List (Ky×D)}(t:TEs h φ μ xs es)(k:Ky) :
  (∃ d p,z5 k es=some d/\atKey xs k=some p/\VD h φ μ p.2 d)∨(z5 k es=none/\atKey xs k=none):=by
 induction t with
 | nil=>exact .inr ⟨rfl,rfl⟩
 | cons v e d w _ ih =>
  rename_i k' xs' a v' d' r es' t'
  by_cases hk:k'=k
  ·refine .inl ⟨d',(a,v'),?_,?_,w⟩
   ·show (dY _ _).map _=_
    (erw [bV];erw [decide_eq_true hk]);rfl
   ·show (dY _ _).map _=_
    (erw [bV];erw [decide_eq_true hk]);rfl
  ·have e1:z5 k ((k',d')::es')=z5 k es':=by
    show (dY _ _).map _=_
    (erw [bV];erw [decide_eq_false hk]);rfl
   have e2:atKey ((k',a,v')::r) k=atKey r k:=by
    show (dY _ _).map _=_
    (erw [bV];erw [decide_eq_false hk]);rfl
   (erw [e1];erw [e2])
   exact ih
theorem yW (R:Rel C T s.heap φ μ σ){i:Nat}{a:ai}{es:List (Ky×D)}(ha:μ[i]?=some a)(hi:σ[i]?=some (.tdict es)) :
  (a==eM)=false/\∃ xs,s.heap.DictOfH (jm C.prog C.w) a xs/\TEs s.heap φ μ xs es:=by
 obtain ⟨h1,xs,⟨o,ds,ep,ho,hx,hd,he,hn⟩,t⟩:=R.at_ i a _ ha hi
 exact ⟨h1,xs,⟨o,ds,ep,ho,hx,hd,he,VK t,hn⟩,t⟩
theorem jI (hA:Room n A):(jm C.prog C.w).room A.in1:=by
 show A.units + 1 + 20<cLine
 have:=hA.units;exact lin [_,_,_] [] (.a (.a (.a (.v 0) (.k 1)) (.k 20)) (.k 1)) (.v 1) [(1,.l (.a (.a (.a (.v 0) (.m 20 (.v 2))) (.k 400)) (.k 1)) (.v 1))] tT9 this
theorem j8 {M:Model}{E:ag->ak->Prop}{c x:ag}{P:Bool->ak->Prop}(h:wpAny M A (compareOp .In x c) (λ v s'=>∃ r,v=.bool r/\P r s') E s):wpAny M A (m9 c x) P E s:=λ Γ p IL=>by
 have:=h Γ p IL
 rw [show compareOp .In x c=(m9 c x >>= λ b=>pure (.bool b)) from rfl,Sem.wp_bind'] at this
 refine Sem.wp_mono M Γ _ (λ a p' s' h'=>?_) (λ _ _ _ h'=>h') p s this
 obtain ⟨r,e,hp⟩:∃ r,rK a=.bool r/\P r s':=h'
 (injection e with y27y0;subst y27y0);exact hp
theorem Qt (hA:Room n A)(R:Rel C T s.heap φ μ σ)(i:Nat)(es:List (Ky×D))(k:List ab)(q:Ky)(a b:ai)(P:Bool->Prop)(hi:σ[i]?=some (.tdict es))(ha:μ[i]?=some a)(v:VP s.heap φ (.ref b) (.tuple k))
  (hd:Kd (.tuple k)) (hq:keyDs k=some q) (p:P (z5 q es).isSome):wpAny (model C.prog C.w) A (m9 (.ref a) (.ref b)) (λ r s'=>∃ tk,s'={s with toks:=tk}/\P r) NoE s:=by
 (refine Ea (yW R ha hi) λ h1 BB=>?_;refine Eea BB λ xs hm t=>?_)
 have e:(atKey xs q).isSome=(z5 q es).isSome:=by
  rcases jC t q with ⟨d,p,hd,hp,_⟩ | ⟨hd,hp⟩
  ·(erw [hp];erw [hd]);rfl
  ·(erw [hp];erw [hd]);rfl
 have key:=wpAny_in_heap (E:=NoE) (Q:=λ v s'=>∃ r,v=.bool r/\∃ tk,s'={s with toks:=tk}/\P r) (knd:=jm C.prog C.w) (jI hA) (Yj v hq hd.h) h1 hm ⟨_,rfl,_,rfl,by erw [e];exact p⟩
 exact j8 key
end
set_option tactic.hygienic false
variable {i n j:Nat}{vs:List ag}{kvs:List (Int×ag)}{p:Int×Bool}{key:ag}{slice:aH}
theorem YH (a:Int):∀ l:List Int,(qN a l).Perm (a::l)
 | []=>.refl _
 | b::r=>by
  simp only [UV,QW]
  split
  ·exact .refl _
  ·exact ((YH a r).cons b).trans (.swap a b r)
theorem jw:∀ l:List Int,(zg l).Perm l
 | []=>.refl _
 | a::r=>(YH a (zg r)).trans ((jw r).cons a)
theorem Yt (a:Int):∀ l:List Int,l.Pairwise (·<=·)->(qN a l).Pairwise (·<=·)
 | [],_=>by simp [UV,QW]
 | b::r,h=>by
  simp only [UV,QW]
  rw [cv] at h
  split
  ·rename_i Ay
   exact cv.mpr ⟨λ x hx=>by rcases aA.mp hx with rfl | hx;exact Ay;exact bh Ay (h.1 x hx),cv.mpr h⟩
  ·rename_i Ay
   refine cv.mpr ⟨λ x hx=>?_,Yt a r h.2⟩
   rcases aA.mp ((YH a r).mem_iff.mp hx) with rfl | hx
   ·exact cg (dZ.mp Ay)
   ·exact h.1 x hx
theorem y7:∀ l:List Int,(zg l).Pairwise (·<=·)
 | []=>.nil
 | a::r=>Yt a _ (y7 r)
section
variable {prog:bR}{w:b4}{A:aM}{E:ag->ak->Prop}{s:ak}
theorem Xp {x:ag}{l:List Int}{Q:ag->ak->Prop}(hc:∀ (Q':List ag->ak->Prop),(∀ h' tk vs l',(∀ b o,s.heap.get? b=some o->h'.get? b=some o)->l'.Perm l->cJ vs l'->Q' vs {s with heap:=h',toks:=tk})->wpAny (model prog w) A.in1 (ot x) Q' E s)
  (CB:l.length<64) (h:∀ D h' tk vs e,(∀ b o,s.heap.get? b=some o->h'.get? b=some o)->s.heap.get? D=none->h'.get? D=some (seqObj "list" vs.toArray e)->cJ vs (zg l)->Q (.ref D) {s with heap:=h',toks:=tk}) :
  wpAny (model prog w) A (call (.builtin "sorted") [x]) Q E s:=by
 refine nM kind_sorted plain_sorted entry_sorted (args_sorted1 _) ?_
 unfold cE.«sorted»
 refine aa (m:=checkCount "sorted" 1 1 _) (aj ?_)
 refine aa (hc _ λ h' tk vs l' hk hp hI=>?_)
 have hl:=hI.length.trans hp.length_eq
 refine aa (lX ?_ (by erw [cx];exact lin [_,_] [] (.v 0) (.k 16777216) [(1,.l (.a (.v 1) (.k 1)) (.k 64)),(1,.e (.v 0) (.v 1))] tT9 CB hl))
 have Ba:(h'.push (seqObj "list" vs.toArray 0)).get? h'.objs.size=some (seqObj "list" vs.toArray 0):=aG _ rfl
 refine aa (aO (bX iI ⟨_,Ba,rfl⟩ lj (list_sort_tree Ba hI (lin [_,_] [] (.a (.v 0) (.k 1)) (.k 64) [(1,.l (.a (.v 1) (.k 1)) (.k 64)),(1,.e (.v 0) (.v 1))] tT9 CB hl) λ out I9 a1 a2 a3=>⟨_,rfl,?_⟩) (lK _)))
 have e:I9=zg l:=ksm_same (a2.trans (hp.trans (jw l).symm)) a3 (y7 l)
 subst e
 refine Ee (lY (vs:=vs) (out:=out) Ba) λ e he=>?_
 have hD:s.heap.get? h'.objs.size=none:=by
  cases q:s.heap.get? h'.objs.size with
  | none=>rfl
  | some o=>exact absurd (bb (hk _ _ q)) (gR _)
 refine aj ⟨_,rfl,h _ _ tk out.toList e (λ b o q=>?_) hD (by simpa using he) a1⟩
 have hb:=hk _ _ q
 have sW:=bb hb
 exact (lL (aB sW) (by erw [lM];exact dD sW)).trans (am _ hb)
end
section
variable {C:Cx}{T:Tabs}{F:Fm}{s s':ak}{φ j':ai->Prop}{μ sz:List ai}{ρ sB:Rho}{σ σ':zA}{A:aM}{n:Nat}
theorem V9 {h:aP}{es:List (Int×D)}(t:IEs h φ μ kvs es):kvs.map (·.1)=es.map (·.1):=by
 induction t with
 | nil=>rfl
 | cons _ _ ih=>simp [ih]
theorem ux :∀ {vs:List ag},vs.length=kvs.length->(∀ (j:Nat) (v:ag),vs[j]?=some v->∃ k x,kvs[j]?=some (k,x)/\kZ k v=true)->cJ vs (kvs.map (·.1)):=by
 induction kvs with
 | nil=>intro vs h _;cases vs with | nil=>exact .nil | cons _ _=>simp at h
 | cons p r ih =>
  intro vs h hk
  cases vs with
  | nil=>simp at h
  | cons v vs =>
   refine Eeea (hk 0 v rfl) λ k x e hv=>?_
   (refine Ee (oo hv) λ t A7=>?_;obtain rfl:=A7)
   simp at e
   subst e
   exact .cons _ _ (ih (by simpa using h) λ j v' e'=>by simpa using hk (j + 1) v' (by simpa using e'))
theorem uQ (hA:Room n A)(R:Rel C T s.heap φ μ σ){v:ag}{d:D}{l:List Int}(V:VD s.heap φ μ v d)(e:QF σ d=some l)(hl:l.length<64)(E:ag->ak->Prop)(Q':List ag->ak->Prop)
  (h:∀ h' tk vs l',(∀ b o,s.heap.get? b=some o->h'.get? b=some o)->l'.Perm l->cJ vs l'->Q' vs {s with heap:=h',toks:=tk}):wpAny (model C.prog C.w) A.in1 (ot v) Q' E s:=by
 have fromList:∀ {a:ai} {vs:List ag} {xs:List ab},s.heap.IsList a vs.toArray->VPs s.heap φ vs xs->ints? xs=some l->wpAny (model C.prog C.w) A.in1 (ot (.ref a)) Q' E s:=by
  rintro a vs xs ⟨o,ho,hc,n,hd⟩ hp hx
  have H:=Zz hp hx
  have hn:=H.length
  exact gL a (.inl rfl) ho hc hd (λ h' hk=>h h' s.toks _ _ hk (.refl _) H) (by (erw [aJ];erw [cx]);exact lin [_,_] [] (.v 0) (.k 16777216) [(1,.l (.a (.v 1) (.k 1)) (.k 64)),(1,.e (.v 0) (.v 1))] tT9 hl hn)
 cases d with
 | p x =>
  refine Eea (ob e) λ xs e1 e2=>?_
  cases x with
  | list ys =>
   obtain rfl:=so e1
   refine V.ip.mlst λ a vs f ht r=>?_
   exact fromList ht r e2
  | tuple ys =>
   obtain rfl:=so e1
   refine V.ip.mtup λ a vs f ht r=>?_
   (refine Eeaa (ht.t) λ o ho hc tF=>?_;refine Ee tF λ n hd=>?_)
   have H:=Zz r e2
   have hn:=H.length
   exact gL a (.inr rfl) ho hc hd (λ h' hk=>h h' s.toks _ _ hk (.refl _) H) (by (erw [aJ];erw [hn];erw [cx]);exact lin [_] [] (.v 0) (.k 16777216) [(1,.l (.a (.v 0) (.k 1)) (.k 64))] tT9 hl)
  | _=>exact nn e1
 | obj i =>
  refine Eea (ob e) λ mo hi e=>?_
  refine V.mobj λ a ha=>?_
  cases mo with
  | lst xs =>
   refine Eeea (R.at_ _ _ _ ha hi) λ vs k ho hp=>?_
   exact fromList ⟨_,ho,rfl,_,rfl⟩ hp e
  | idict es =>
   obtain rfl:=so e
   (refine Ea (R.at_ _ _ _ ha hi) λ h1 Ae=>?_;refine Eea Ae λ kvs hm t=>?_)
   have CF:=V9 t
   refine Ee (hm.dictAt) λ ep Kf=>?_
   have hn:kvs.length<64:=by (refine rwS (ah (f:=(·.1))) ?_;erw [CF]);exact hl
   exact kdu_collect (kdl_dict (knd:=intKind C.prog C.w) h1) hA.hd Kf (by erw [cx];exact lin [_] [] (.v 0) (.k 16777216) [(1,.l (.a (.v 0) (.k 1)) (.k 64))] tT9 hn) λ h' tk acc hk tL =>
    h h' tk _ _ hk (.refl _) (by refine rwS CF ?_;exact ux (by simpa using tL.1) λ j v e=>tL.2 j v (by simpa using e))
  | iset l' =>
   obtain rfl:=so e
   exact Un hA.hd (R.at_ _ _ _ ha hi) h
  | _=>exact nn e
 | _=>exact nn e
theorem V4 {h:aP}{l:List Int}(H:cJ vs l):VPs h φ vs (l.map .int):=by
 induction H with
 | nil=>exact .nil
 | cons k t _ ih=>exact .cons (.int k t) ih
theorem Yk {Q:D->zA->Prop}{m:Bool}{D:ai}{h':aP}{tk:Nat}{vs:List ag}{xs:List ab}{e:Nat}(R:Rel C T s.heap φ μ σ)(I:FrI F s.heap φ μ ρ)(k:∀ b o,s.heap.get? b=some o->h'.get? b=some o)
  (hD:s.heap.get? D=none) (BW:h'.get? D=some (listOf vs.toArray e)) (V:VPs s.heap φ vs xs) (q:Zn m xs σ Q) :
  PV C T F s φ μ ρ Q (.ref D) {s with heap:=h',toks:=tk}:=by
 cases m with
 | true =>
  have x:=R.newM k hD _ BW (.lst xs) λ kk=>⟨vs,e,BW,V.mono kk⟩
  exact pvI (Go.of_ext I x.1 x.2.1) (.obj x.2.2) q
 | false =>
  refine Ea (R.newF k hD BW) λ R' X=>?_
  exact pvI (Go.of_ext I R' X) (.p (.lst (.inr rfl) ⟨_,BW,rfl,_,rfl⟩ (X.vps V))) q
theorem WA {Q:D->zA->Prop}{m:Bool}{v:ag}{d:D}{l:List Int}(hA:Room n A)(R:Rel C T s.heap φ μ σ)(I:FrI F s.heap φ μ ρ)(V:VD s.heap φ μ v d)(e:QF σ d=some l)(hl:l.length<64)
  (q:Zn m ((zg l).map .int) σ Q) :
  wpAny (model C.prog C.w) A (call (.builtin "sorted") [v]) (PV C T F s φ μ ρ Q) NoE s :=
 Xp (λ Q' h=>uQ hA R V e hl NoE Q' h) hl λ D h' tk vs e hk hD BW hI=>Yk R I hk hD BW (V4 hI) q
end
theorem vi {l:List (Int×Bool)}(h:l.length=2):BitsOk l:=⟨by erw [h];decide,by erw [h];rfl⟩
theorem Vt {l:List (Int×Bool)}(h:l.length=3):BitsOk l:=⟨by erw [h];decide,by erw [h];rfl⟩
section
variable {prog:bR}{w:b4}{A:aM}{E:ag->ak->Prop}{s:ak}{φ:ai->Prop}
theorem jy {h:aP}{v:ag}(V:VP h φ v (zG p)):∃ a t u o n,v=.ref a/\φ a/\h.get? a=some o/\o.cls=.type "tuple"/\o.data=.seq #[.str (ae "bit") t,.int p.1 u,.bool p.2] n:=by
 refine Eeeaaa V.itup λ a vs e f ht r=>?_
 refine Eeeaa r.icons λ v1 r1 e1 q1 r=>?_
 refine Eeeaa r.icons λ v2 r2 e2 q2 r=>?_
 refine Eeeaa r.icons λ v3 r3 e3 q3 r=>?_
 (refine Eeaa (ht.t) λ o ho hc tF=>?_;refine Ee tF λ n hd=>?_)
 refine Eea q1.istr λ t e4 _=>?_
 refine Ee q2.iint λ u e5=>?_
 have e6:=q3.ibool
 rw [e1,e2,e3,r.inil,e4,e5,e6] at hd
 exact ⟨a,t,u,o,n,e,f,ho,hc,hd⟩
theorem zBq {v u:ag}{q:Int×Bool}{Q:Bool->ak->Prop}(V:VP s.heap φ v (zG p))(U:VP s.heap φ u (zG q))(hu:A.units<cLine)(h:Q (ltP p q) s):wpAny (model prog w) A (keyLt' (tuples' true) v u) Q E s:=by
 obtain ⟨a,t1,t2,o,n,rfl,_,ho,_,hd⟩:=jy V
 obtain ⟨b,u1,u2,o',m,rfl,_,tV,_,A6⟩:=jy U
 refine kat_lt ho hd tV A6 ?_
 refine pF (wpAny_eqBool_str ?_)
 erw [decide_eq_true rfl]
 refine oz (pF (wpAny_eqBool_int ?_))
 unfold ltP at h
 by_cases e:p.1=q.1
 ·rw [decide_eq_true e] at h
  refine rwE (show (p.1==q.1)=true from beq_iff_eq.mpr e) ?_
  refine oz (pF (pE prog w A _ _ _ _ _ _ _ _ _ (.bool p.2) (.bool q.2) rfl rfl hu ?_))
  show KatGo prog w A true _ _ _ _ [] _ (p.2==q.2) s
  cases e1:p.2 <;> cases e2:q.2 <;> rw [e1,e2] at h
  ·exact oz (kat_nil h)
  ·exact kat_no (kat_one _ _ (lt_bool h))
  ·exact kat_no (kat_one _ _ (lt_bool h))
  ·exact oz (kat_nil h)
 ·rw [decide_eq_false e] at h
  refine rwE (show (p.1==q.1)=false from beq_eq_false_iff_ne.mpr e) ?_
  exact kat_no (kat_one _ _ (lt_int h))
theorem zDm {a b c d:Bool}(h:((a&&b)&&(c&&d))=true):(a=true/\b=true)/\c=true/\d=true:=by cases a <;> cases b <;> cases c <;> cases d <;> first | exact ⟨⟨rfl,rfl⟩,rfl,rfl⟩ | exact a8 h
theorem wY {h:aP}{l:List (Int×Bool)}(V:VPs h φ vs (l.map zG))(sW:i<l.length):VP h φ (vs.getD i dH) (zG (atB l i)):=by
 refine Eea (V.get (k:=i) (x:=zG (atB l i)) (by unfold atB;(erw [bt];erw [ay sW];erw [aX];erw [ay sW]);rfl)) λ v e q=>?_
 (erw [aX];erw [e]);exact q
theorem xi {lt:Nat->Nat->Bool}:∀ {t:KasT (Array Nat)},okT n t=true->∀ i,i∈(qo lt t).toList->i<n
 | .ret _,h,i,m=>aw (aY.mp h i m)
 | .ask i j k,h,x,m=>by
  refine Eaa (zDm h) λ _ h1 h2=>?_
  have hn:okT n (k (lt i j))=true:=by cases lt i j;exact h2;exact h1
  exact xi (t:=k (lt i j)) hn x m
theorem UM {l:List (Int×Bool)}{G:Array Nat->ak->Prop}(V:VPs s.heap φ vs (l.map zG))(hu:A.units<cLine):∀ (t:KasT (Array Nat)),okT l.length t=true->G (qo (ltB l) t) s->t.kasWp (kas_ask prog w A (tuples' true) vs) G s
 | .ret _,_,h=>h
 | .ask i j k,ho,h=>by
  (refine Eaa (zDm ho) λ A7=>?_;(refine Ea (A7) λ hi hj=>?_;try clear A7);intro h1 h2)
  have at_:∀ {i:Nat},eR i l.length=true->VP s.heap φ (vs.getD i dH) (zG (atB l i)):=λ {i} hi=>wY V (aw hi)
  have hn:okT l.length (k (ltB l i j))=true:=by cases ltB l i j;exact h2;exact h1
  exact zBq (at_ hi) (at_ hj) hu (UM V hu (k (ltB l i j)) hn h)
theorem Wp {h:aP}{l:List (Int×Bool)}:∀ {vs:List ag},VPs h φ vs (l.map zG)->∃ fs:List ag,KatTups h vs fs/\fs.length=l.length/\∀ v,v∈fs->∃ t,v=.str (ae "bit") t:=by
 induction l with
 | nil=>exact λ {vs} V=>⟨[],by erw [V.inil];exact .nil,rfl,λ _ h=>nomatch h⟩
 | cons p l ih =>
  intro vs V
  refine Eeeaa V.icons λ v r e q r'=>?_
  refine Eeaa (ih r') λ fs h1 h2 h3=>?_
  obtain ⟨a,t,u,o,n,e',_,ho,hc,hd⟩:=jy q
  (erw [e];erw [e'])
  exact ⟨.str (ae "bit") t::fs,.cons ho hc hd rfl h1,congrArg (· + 1) h2,λ x hx=>by
   rcases aA.mp hx with e | h
   ·exact ⟨t,e⟩
   ·exact h3 x h⟩
theorem uc {h:aP}{l:List (Int×Bool)}(V:VPs h φ vs (l.map zG)):∀ {p:List Nat},(∀ i,i∈p->i<l.length)->VPs h φ (p.map λ i=>vs.getD i dH) ((p.map (atB l)).map zG)
 | [],_=>.nil
 | i::p,hp=>.cons (wY V (hp i (.head _))) (uc V λ j m=>hp j (.tail _ m))
theorem Jk {a:ai}{l:List (Int×Bool)}{P:oU->ak->Prop}(ho:s.heap.get? a=some (seqObj "list" vs.toArray n))(V:VPs s.heap φ vs (l.map zG))(Kg:∀ b,φ b->b≠a/\∃ o,s.heap.get? b=some o)(hb:BitsOk l)(hu:A.units<cLine)
  (h:∀ out,(∀ (h:aP) (φ:ai->Prop),VPs h φ vs (l.map zG)->VPs h φ out ((zb l).map zG))->P (.done (.ret .none)) {s with heap:=sortedHeap s.heap a vs out.toArray}):wpAny (model prog w) A (cE.«list.sort» ⟨[.ref a],[]⟩) P E s:=by
 have hl:vs.length=l.length:=V.length.trans (ah ..)
 have CB:vs.length<64:=hl▸hb.few
 erw [list_sort_plain]
 have ha:a<s.heap.objs.size:=bb ho
 refine aa (listItems_at ho rfl ?_)
 refine aa (lZ ho rfl ?_ (by (erw [aJ];erw [cx]);exact lin [_] [] (.v 0) (.k 16777216) [(1,.l (.a (.v 0) (.k 1)) (.k 64))] tT9 CB) (bd _))
 obtain ⟨e1,BY⟩:∃ e1,(s.heap.update a (ig λ _=>#[])).get? a=some (seqObj "list" #[] e1):=⟨_,get?_update_seq ho (λ _=>#[])⟩
 refine aa (ni BY rfl ?_)
 refine aa (pG ?_ (by show vs.length<=_;erw [cx];exact lin [_] [] (.v 0) (.k 16777216) [(1,.l (.a (.v 0) (.k 1)) (.k 64))] tT9 CB))
 refine aa (lX ?_ (bd _))
 refine aO ?_
 have Ff:(((s.heap.update a (ig λ _=>#[])).push (seqObj "tuple" vs.toArray 0)).push (seqObj "list" #[] 0)).get? a=some (seqObj "list" #[] e1):=by
  rw [gM _ _ _ (by rw [lM,hJ];exact aB (dD ha)),gM _ _ _ (by rw [hJ];exact aB ha)]
  exact BY
 show wpAny (model prog w) A _ P E {s with heap:=((s.heap.update a (ig λ _=>#[])).push (seqObj "tuple" vs.toArray 0)).push (seqObj "list" #[] 0)}
 dsimp only
 have sQ:vs.toArray.size=vs.length:=aJ
 have hV:VPs (((s.heap.update a (ig λ _=>#[])).push (seqObj "tuple" vs.toArray 0)).push (seqObj "list" #[] 0)) φ vs (l.map zG):=V.mono λ b fb=>⟨fb,by
  refine Ea (Kg b fb) λ tj o=>Ee o λ o ho=>?_
  have sW:=bb ho
  rw [gM _ _ _ (by rw [lM,hJ];exact aB (dD sW)),gM _ _ _ (by rw [hJ];exact aB sW),Heap.get?_update_ne _ _ _ _ tj]⟩
 by_cases h2:vs.toArray.size<2
 ·(erw [if_pos h2];erw [if_pos h2])
  refine aa (aj ?_)
  erw [StateT.run_pure]
  refine aa (aj ?_)
  dsimp only
  refine aa (ni Ff rfl ?_)
  have e0:(arrOf (SortSt.mk' general' (vs.toArray.zip vs.toArray) #[] 7 none)).map (·.2)=vs.toArray:=by
   show (vs.toArray.zip vs.toArray).map (·.2)=_
   apply Array.toList_inj.mp
   simp only [Array.toList_map,Array.toList_zip]
   exact List.map_snd_zip (aQ _)
  erw [e0]
  refine aa (lZ Ff rfl ?_ (bd _) (by (erw [sQ];erw [cx]);exact lin [_] [] (.v 0) (.a (.k 16777216) (.k 1)) [(1,.l (.a (.v 0) (.k 1)) (.k 64))] tT9 CB))
  simp only [bne_self_eq_false,cw,if_false]
  refine aj (h vs λ _ _ V=>?_)
  have:zb l=l:=by
   have AM:eR l.length 2=true:=Nat.ble_eq_true_of_le (by (refine rwS hl ?_;refine rwS sQ ?_);exact h2)
   unfold zb;erw [AM];rfl
  erw [this];exact V
 ·(erw [if_neg h2];erw [if_neg h2])
  have Kn:2<=vs.length:=by rw [sQ] at h2;exact (bu h2)
  refine Eeaa (Wp hV) λ fs k1 k2 k3=>?_
  refine aa (kat_kind (T:=.type "str") k1 (by omega) (λ v m=>Ee (k3 v m) λ t e=>e▸rN) rfl ?_)
  refine aa (au (kat_run (ks:=vs) (G:=λ p s'=>p.size=vs.length->s'={s with heap:=((s.heap.update a (ig λ _=>#[])).push (seqObj "tuple" vs.toArray 0)).push (seqObj "list" #[] 0)}/\p=qo (ltB l) (kx l.length)) (Q:=λ Fd s'=>∃ p:Array Nat,arrOf Fd=p.map (kas_item (vs.toArray.zip vs.toArray))/\failedOf Fd=none/\p.size=vs.length/\s'={s with heap:=((s.heap.update a (ig λ _=>#[])).push (seqObj "tuple" vs.toArray 0)).push (seqObj "list" #[] 0)}/\p=qo (ltB l) (kx l.length))
   rfl Kn CB (λ p Fd s' a1 a2 a3 a4=>⟨p,a2,a3,a1,a4 a1⟩) (by erw [hl];exact UM hV hu _ hb.ok λ _=>⟨rfl,rfl⟩)) ?_ λ _ _ e=>e)
  rintro ⟨⟨⟩,Fd⟩ s' ⟨p,GL,hf,hp,rfl,Km⟩
  dsimp only
  refine aa (ni Ff rfl ?_)
  erw [kat_snds rfl GL]
  refine aa (lZ Ff rfl ?_ (bd _) (by (erw [aJ];erw [ah];erw [bK];erw [hp];erw [cx]);exact lin [_] [] (.v 0) (.a (.k 16777216) (.k 1)) [(1,.l (.a (.v 0) (.k 1)) (.k 64))] tT9 CB))
  erw [hf]
  simp only [bne_self_eq_false,cw,if_false]
  refine aj (h _ λ _ _ V=>?_)
  have AM:eR l.length 2=false:=by cases e:eR l.length 2 with
   | false=>rfl
   | true=>have:=aw e;omega
  unfold zb US
  (erw [AM];erw [Km])
  exact uc V (xi hb.ok)
end
section
variable {C:Cx}{T:Tabs}{F:Fm}{s s':ak}{φ j':ai->Prop}{μ sz:List ai}{ρ sB:Rho}{σ σ':zA}{A:aM}{n:Nat}
noncomputable def tyS:Nat->String
 | 0=>"tuple"
 | 1=>"list"
 | 2=>"int"
 | _=>"bool"
theorem zDM {b:Bi}{k:Nat}(h:jH b=some k):qu b=.type (tyS k)/\k<4:=by
 cases b with
 | tuple=>obtain rfl:=so h;exact ⟨rfl,by decide⟩
 | list=>obtain rfl:=so h;exact ⟨rfl,by decide⟩
 | int=>obtain rfl:=so h;exact ⟨rfl,by decide⟩
 | bool=>obtain rfl:=so h;exact ⟨rfl,by decide⟩
 | _=>exact nn h
@[elab_as_elim] theorem Y8 {P:Nat->Prop}(k:Nat)(h:k<4)(h0:P 0)(h1:P 1)(h2:P 2)(h3:P 3):P k:=by
 rcases k with _ | _ | _ | _ | k
 ·exact h0
 ·exact h1
 ·exact h2
 ·exact h3
 ·exact absurd h (ki.mpr (b7 4 k))
theorem zEh {Q:D->zA->Prop}{v:ag}{x:ab}{t:Nat}{r:Bool}(R:Rel C T s.heap φ μ σ)(I:FrI F s.heap φ μ ρ)(V:VP s.heap φ v x)(ht:t<4)(e:Zd x t=some r)(q:Q (.p (.bool r)) σ) :
  wpAny (model C.prog C.w) A (call (.builtin "isinstance") [v,.type (tyS t)]) (PV C T F s φ μ ρ Q) NoE s:=by
 revert e
 have EN:∀ {Tx U:String},s.TypeIs v Tx->typeOf (.type U)=pure (.type "type")->isSubtype (.type Tx) (.type U)=pure true->some true=some r->wpAny (model C.prog C.w) A (call (.builtin "isinstance") [v,.type U]) (PV C T F s φ μ ρ Q) NoE s :=
  λ h1 h2 h3 e=>nN h1 h2 h3 (zr R I (.p (.bool _)) (so e▸q))
 have no:some false=some r->PV C T F s φ μ ρ Q (.bool false) {s with toks:=s.toks + 1}:=λ e=>zY R I (.p (.bool _)) (so e▸q) _
 cases x with
 | none =>
  cases V.inone
  refine Y8 t ht (λ e=>bf (fO (by decide +kernel) gp sub_NoneType_tuple) (no e)) (λ e=>bf (fO (by decide +kernel) hM sub_NoneType_list) (no e))
   (λ e=>bf (fO (by decide +kernel) iJ sub_NoneType_int) (no e)) (λ e=>bf (fO (by decide +kernel) hO sub_NoneType_bool) (no e))
 | bool b =>
  cases V.ibool
  refine Y8 t ht (λ e=>bf (mY (by decide +kernel) gp sub_bool_tuple) (no e)) (λ e=>bf (mY (by decide +kernel) hM sub_bool_list) (no e))
   (EN (oC s b) iJ sub_bool_int) (EN (oC s b) hO sub_bool_bool)
 | int i =>
  (refine Ee (V.iint) λ tk Bb=>?_;obtain rfl:=Bb)
  refine Y8 t ht (λ e=>bf (iK (by decide +kernel) gp sub_int_tuple) (no e)) (λ e=>bf (iK (by decide +kernel) hM sub_int_list) (no e))
   (EN (typeIs_int s i tk) iJ sub_int_int) (λ e=>bf (iK (by decide +kernel) hO sub_int_bool) (no e))
 | str x =>
  refine V.mstr λ tk _=>?_
  refine Y8 t ht (λ e=>bf (fZ (by decide +kernel) gp sub_str_tuple) (no e)) (λ e=>bf (fZ (by decide +kernel) hM sub_str_list) (no e))
   (λ e=>bf (fZ (by decide +kernel) iJ sub_str_int) (no e)) (λ e=>bf (fZ (by decide +kernel) hO sub_str_bool) (no e))
 | tuple xs =>
  (refine Eeeaaa (V.itup) λ a vs BH=>?_;obtain rfl:=BH;intro f CJ;obtain ⟨⟨o,ho,hc,k,hd⟩,_⟩:=CJ;intro rr)
  refine Y8 t ht (EN ⟨o,ho,hc⟩ gp sub_tuple_tuple) (λ e=>bf (ii (by decide +kernel) hM sub_tuple_list) ⟨⟨o,ho,hc⟩,no e⟩)
   (λ e=>bf (ii (by decide +kernel) iJ sub_tuple_int) ⟨⟨o,ho,hc⟩,no e⟩) (λ e=>bf (ii (by decide +kernel) hO sub_tuple_bool) ⟨⟨o,ho,hc⟩,no e⟩)
 | list xs =>
  (refine Eeeaaa (V.ilst) λ a vs AH=>?_;obtain rfl:=AH;intro f AO;obtain ⟨o,ho,hc,k,hd⟩:=AO;intro rr)
  refine Y8 t ht (λ e=>bf (dw (by decide +kernel) gp pH) ⟨⟨o,ho,hc⟩,no e⟩) (EN ⟨o,ho,hc⟩ hM pZ)
   (λ e=>bf (dw (by decide +kernel) iJ sub_list_int) ⟨⟨o,ho,hc⟩,no e⟩) (λ e=>bf (dw (by decide +kernel) hO p4) ⟨⟨o,ho,hc⟩,no e⟩)
 | dict es=>exact V.idict.elim
theorem zDN {Q:D->zA->Prop}{v:ag}{d:D}{xs:List ab}(R:Rel C T s.heap φ μ σ)(I:FrI F s.heap φ μ ρ)(V:VD s.heap φ μ v d)(e:zy σ d=some xs)(hf:Few xs.length)(q:Q (.p (.int xs.length)) σ) :
  wpAny (model C.prog C.w) A (call (.builtin "len") [v]) (PV C T F s φ μ ρ Q) NoE s:=by
 refine Qx R V e λ a vs hs vp=>?_
 have hl:=vp.length
 have EU:(vs.toArray.size:Int)<2 ^ 63:=by erw [aJ];have:=hf.h;lia
 have key:PV C T F s φ μ ρ Q (.int vs.toArray.size (s.toks + 1)) {s with toks:=s.toks + 1 + 1}:=by
  (erw [aJ];erw [hl]);exact zY R I (.p (.int _ _)) q _
 rcases hs with hs | hs
 ·exact r6 hs EU key
 ·exact r7 hs EU key
theorem zA5 {Q:D->zA->Prop}{v:ag}{d:D}{xs:List ab}(R:Rel C T s.heap φ μ σ)(I:FrI F s.heap φ μ ρ)(V:VD s.heap φ μ v d)(e:zy σ d=some xs)(hf:Few xs.length)(q:Q (.p (.tuple xs)) σ) :
  wpAny (model C.prog C.w) A (call (.type "tuple") [v]) (PV C T F s φ μ ρ Q) NoE s:=by
 have fromList:∀ {a:ai} {vs:List ag},s.heap.IsList a vs.toArray->VPs s.heap φ vs xs->wpAny (model C.prog C.w) A (call (.type "tuple") [.ref a]) (PV C T F s φ μ ρ Q) NoE s:=by
  intro a vs ht hp
  have hl:=hp.length
  refine call_tuple_list ht (λ h' hk=>?_) (by (erw [aJ];erw [hl]);exact zv hf)
  have hD:s.heap.get? h'.objs.size=none:=by
   cases q:s.heap.get? h'.objs.size with
   | none=>rfl
   | some o=>exact absurd (bb (hk _ _ q)) (gR _)
  refine Ea (R.newF (h':=h'.push {cls:=.type "tuple",data:=.seq vs.toArray}) (λ b o e=>am _ (hk b o e)) hD (aG _ rfl)) λ R' X=>?_
  exact pvI (Go.of_ext (tk:=s.toks) I R' X) (.p (.tup (.inr rfl) (Tup.new (aG _ rfl)) (X.vps hp))) q
 cases d with
 | p x =>
  obtain ⟨a,vs,rfl,f,r,⟨rfl,ht⟩ | ⟨rfl,ht⟩⟩:=QN V.ip e
  ·exact call_tuple_tup ht.t (zr R I (.p (.tup f ht r)) q)
  ·exact fromList ht r
 | obj i =>
  refine V.mobj λ a ha=>?_
  refine Eeea (jT R ha e) λ vs k ho hp=>?_
  exact fromList ⟨_,ho,rfl,_,rfl⟩ hp
 | _=>exact nn e
theorem zC0 {Q:D->zA->Prop}{m:Bool}{v:ag}{d:D}{xs:List ab}(R:Rel C T s.heap φ μ σ)(I:FrI F s.heap φ μ ρ)(V:VD s.heap φ μ v d)(e:zy σ d=some xs)(hf:Few xs.length)
  (q:Zn m xs σ Q) :
  wpAny (model C.prog C.w) A (call (.type "list") [v]) (PV C T F s φ μ ρ Q) NoE s:=by
 refine Qx R V e λ a vs hs vp=>?_
 have hl:=vp.length
 have hz:vs.toArray.size<=cG:=by (erw [aJ];erw [hl]);exact zv hf
 rcases hs with ⟨o,ho,hc,k,hd⟩ | ⟨o,ho,hc,k,hd⟩
 ·exact p5 a (.inr rfl) ho hc hd (λ h' c' hk hD=>Yk (tk:=s.toks) R I hk (zd _) hD vp q) hz
 ·exact p5 a (.inl rfl) ho hc hd (λ h' c' hk hD=>Yk (tk:=s.toks) R I hk (zd _) hD vp q) hz
end
set_option tactic.hygienic true
section
variable {prog:bR}{w:b4}{K:Type}[DecidableEq K]{knd:KeyKind prog w K}{A:aM}{E:ag->ak->Prop}{s:ak}
theorem XK {kvs:List (K×ag)}{k:K}{v:ag}(h:valueAt kvs k=none):pI kvs k v=kvs++[(k,v)]:=by
 unfold valueAt at h
 rw [ij,nX] at h
 unfold pI
 rw [if_neg]
 rw [bv]
 rintro ⟨x,hx,e⟩
 exact h x hx e
theorem j2 {d:ai}{kvs:List (K×ag)}{k:K}{dflt:ag}{Q:ag->ak->Prop}(Ar:knd.is k key=true)(hm:s.heap.DictOf knd d kvs)(Ao:valueAt kvs k=none)
  (hQ:∀ h',h'.DictOf knd d (kvs++[(k,dflt)])->cj d s.heap h'->Q dflt {s with heap:=h',toks:=s.toks + 1}) (sQ:kvs.length<=cG) :
  wpAny (model prog w) A (lN d key dflt) Q E s:=by
 refine Eeeeaaaaa (id hm) λ o es ep ho hc hd hk hp hn=>?_
 have Kk:es.size<=cG:=by
  have e1:=hp.length
  have e2:es.toList.length=es.size:=by simp
  lia
 have hf:findBy knd.is es k=none:=by
  refine Eeeeaaaa (hm.mapOf) λ o' es' IZ tV x6 A6 tR tx=>?_
  rw [ho] at tV;(injection tV with y1y0;subst y1y0)
  rw [hd] at A6;(injection A6 with y2y0;subst y2y0)
  erw [tx k];exact Ao
 have hi:(es.findIdx? λ e=>knd.is k e.key)=none:=by
  cases q:es.findIdx? λ e=>knd.is k e.key with
  | none=>rfl
  | some i =>
   rw [findBy_of_findIdx?,q] at hf
   have:=Array.findIdx?_eq_some_iff_findIdx_eq.mp q
   have sW:i<es.size:=this.1
   simp [cq sW] at hf
 have FV:k∉kvs.map (·.1):=by
  intro GQ
  refine Eea (az.mp GQ) λ x hx e=>?_
  unfold valueAt at Ao
  rw [ij,nX] at Ao
  exact Ao x hx (by simpa using e)
 unfold lN
 try with_reducible refine aO ?_
 refine aa (knd.pyHash Ar ?_)
 refine aa (wpAny_dictFind_of (s:={s with toks:=s.toks + 1}) Ar ho hd hk ?_)
 erw [hi]
 refine aa (fP (aa (wpAny_updateDictKeys (hz:=Kk) (s:={s with toks:=s.toks + 1}) ho hd (aj (hQ _ ⟨_,_,ep + 1,dv _ ho (Obj.isFreed_of_dict (nj hd _)),
   hc.mapDictKeys _,nj hd _,hk.push Ar _,?_,?_⟩ (cD ..))))))
 ·have:=hp.append Ar (knd.hash k) dflt
  obtain ⟨l⟩:=es
  simpa using this
 ·(erw [aW];rewrite [eH])
  refine ⟨hn,bk.mpr ⟨bW,iE⟩,?_⟩
  intro a ha b hb
  simp only [bl,kC,av] at hb
  subst hb
  rintro rfl
  exact FV ha
theorem yN {d:ai}{kvs:List (K×ag)}{k:K}{dflt:ag}(Ar:knd.is k key=true)(hd:(d==eM)=false) :
  MeetsIn prog w (cE.«dict.setdefault» ⟨[.ref d,key,dflt],[]⟩) (λ _ R s=>s.heap.DictOf knd d kvs/\valueAt kvs k=none/\kvs.length<=cG /\
   (∀ h',h'.DictOf knd d (kvs++[(k,dflt)])->cj d s.heap h'->R (.ok (.ret dflt)) {s with heap:=h',toks:=s.toks + 1})) :=
 .of_wp λ A R s ⟨hm,hn,hz,h2⟩=>by
  unfold cE.«dict.setdefault»
  refine aa ?_
  unfold r8
  refine aa (mZ hm.typeIs ?_)
  show wpAny _ _ (pure (d,key,some dflt)) _ _ s
  refine aj ?_
  show wpAny _ _ (if (d==eM)=true then _ else (lN d key dflt >>= _)) _ _ s
  rw [if_neg (by rw [hd];exact aT)]
  exact aa (j2 Ar hm hn (λ h' At AK=>aj ⟨dflt,rfl,h2 h' At AK⟩) hz)
end
section
variable {C:Cx}{T:Tabs}{F:Fm}{s s':ak}{φ j':ai->Prop}{μ sz:List ai}{ρ sB:Rho}{σ σ':zA}{A:aM}{n:Nat}
theorem yE {h:aP}{es:List (Int×D)}(t:IEs h φ μ kvs es)(k:Int) :
  (∃ d v,za k es=some d/\valueAt kvs k=some v/\VD h φ μ v d)∨(za k es=none/\valueAt kvs k=none):=by
 induction t with
 | nil=>exact .inr ⟨rfl,rfl⟩
 | cons w _ ih =>
  rename_i k' v' d' r es' t'
  by_cases hk:k'=k
  ·refine .inl ⟨d',v',?_,?_,w⟩
   ·show (dY _ _).map _=_
    (erw [bV];erw [decide_eq_true hk]);rfl
   ·show (dY _ _).map _=_
    (erw [bV];erw [decide_eq_true hk]);rfl
  ·have e1:za k ((k',d')::es')=za k es':=by
    show (dY _ _).map _=_
    (erw [bV];erw [decide_eq_false hk]);rfl
   have e2:valueAt ((k',v')::r) k=valueAt r k:=by
    show (dY _ _).map _=_
    (erw [bV];erw [decide_eq_false hk]);rfl
   (erw [e1];erw [e2])
   exact ih
theorem yg {h:aP}{es:List (Int×D)}(t:IEs h φ μ kvs es):kvs.length=es.length:=by
 induction t with
 | nil=>rfl
 | cons _ _ ih=>simp [ih]
theorem UL {h:aP}{es:List (Int×D)}{k:Int}{v:ag}{d:D}(t:IEs h φ μ kvs es)(w:VD h φ μ v d):IEs h φ μ (kvs++[(k,v)]) (es++[(k,d)]):=by
 induction t with
 | nil=>exact .cons w .nil
 | cons p _ ih=>exact .cons p ih
theorem ug {h h':aP}{es:List (Int×D)}(k:∀ a,φ a->j' a/\h'.get? a=h.get? a)(m:∀ (i:Nat) (a:ai),μ[i]?=some a->sz[i]?=some a)(t:IEs h φ μ kvs es):IEs h' j' sz kvs es:=by
 induction t with
 | nil=>exact .nil
 | cons p _ ih=>exact .cons (p.mono k m) ih
theorem Z8 (k:Int)(t:iT):(intKind C.prog C.w).is k (.int k t)=true:=by simp [intKind,kZ]
theorem zB9 {Q:D->zA->Prop}{a:ai}{es:List (Int×D)}{k:Int}{t:iT}{v:ag}{d:D}(R:Rel C T s.heap φ μ σ)(I:FrI F s.heap φ μ ρ)(ha:μ[i]?=some a)(hi:σ[i]?=some (.idict es))(V:VD s.heap φ μ v d)
  (q:Q ((za k es).getD d) σ):wpAny (model C.prog C.w) A (call (.builtin "dict.get") [.ref a,.int k t,v]) (PV C T F s φ μ ρ Q) NoE s:=by
 (refine Ea (R.at_ i a _ ha hi) λ h1 tF=>?_;refine Eea tF λ kvs hm te=>?_)
 refine mN m0 hm.typeIs PySem.F.entry_dict_get (PySem.F.args_dict_get_3 _ _ _) (meets_dict_get_default (intKind C.prog C.w) a (Z8 k t) h1 v) ⟨_,hm.mapOf,?_⟩
 rcases yE te k with ⟨d',u,e,hu,w⟩ | ⟨e,hu⟩
 ·rw [e] at q;erw [hu];exact zY R I w q _
 ·rw [e] at q;erw [hu];exact zY R I V q _
theorem zBC {Q:D->zA->Prop}{a:ai}{es:List (Int×D)}{k:Int}{t:iT}{d:D}(R:Rel C T s.heap φ μ σ)(I:FrI F s.heap φ μ ρ)(ha:μ[i]?=some a)(hi:σ[i]?=some (.idict es))(e:za k es=some d)
  (q:Q d σ):wpAny (model C.prog C.w) A (getItem (.ref a) (.int k t)) (PV C T F s φ μ ρ Q) NoE s:=by
 (refine Ea (R.at_ i a _ ha hi) λ h1 Ae=>?_;refine Eea Ae λ kvs hm te=>?_)
 rcases yE te k with ⟨d',v,e',hv,w⟩ | ⟨e',_⟩
 ·rw [e] at e';(injection e' with y3y0;subst y3y0);exact kT (Z8 k t) hm.mapOf hv (zY R I w q _)
 ·rw [e] at e';cases e'
theorem JX {a:ai}{es es':List (Int×D)}{t4:List (Int×ag)}{h':aP}(R:Rel C T s.heap φ μ σ)(ha:μ[i]?=some a)(hi:σ[i]?=some (.idict es))(hs:cj a s.heap h')
  (At:h'.DictOf (intKind C.prog C.w) a t4) (te:IEs s.heap φ μ t4 es'):Rel C T h' φ μ (σ.set i (.idict es'))/\Ext s.heap φ μ h' φ μ []:=by
 refine Ea (R.at_ i a _ ha hi) λ h1 _=>?_
 exact R.upd ha hi (λ h=>nomatch h) hs (by (refine Eeeea (At) λ o _ _ ho _=>?_;try clear At);exact ⟨o,ho⟩) λ k=>⟨h1,t4,At,ug k (λ _ _ e=>e) te⟩
theorem Xf {Q:D->zA->Prop}{a:ai}{es:List (Int×D)}{k:Int}{t:iT}{v:ag}{d:D}(R:Rel C T s.heap φ μ σ)(I:FrI F s.heap φ μ ρ)(ha:μ[i]?=some a)(hi:σ[i]?=some (.idict es))(V:VD s.heap φ μ v d)
  (hf:Few es.length) (q:jO i es k d σ Q (za k es)) :
  wpAny (model C.prog C.w) A (call (.builtin "dict.setdefault") [.ref a,.int k t,v]) (PV C T F s φ μ ρ Q) NoE s:=by
 (refine Ea (R.at_ i a _ ha hi) λ h1 BD=>?_;refine Eea BD λ kvs hm te=>?_)
 have hz:kvs.length<=cG:=by erw [yg te];exact zv hf
 rcases yE te k with ⟨d',u,e,hu,w⟩ | ⟨e,this⟩
 ·rw [e] at q
  refine mN gb hm.typeIs k8 (kU _ _ _) (meets_dict_setdefault (intKind C.prog C.w) a (Z8 k t) h1 v) ⟨_,hm.mapOf,?_,λ v' HM=>?_,λ hn=>?_⟩
  ·refine Eeeeaaaaa (id hm) λ o ds ep ho hx hd hk hp hn=>?_
   intro o' sE IZ tV A6
   rw [ho] at tV;(injection tV with y5y0;subst y5y0)
   rw [hd] at A6;(injection A6 with y6y0;subst y6y0)
   have e1:=hp.length
   have e2:ds.toList.length=ds.size:=by simp
   lia
  ·rw [hu] at HM;(injection HM with y7y0;subst y7y0);exact zY R I w q _
  ·rw [hu] at hn;cases hn
 ·rw [e] at q
  refine mN gb hm.typeIs k8 (kU _ _ _) (yN (knd:=intKind C.prog C.w) (Z8 k t) h1) ⟨hm,this,hz,λ h' At hs=>?_⟩
  refine Ea (JX R ha hi hs At (UL te V)) λ R' X=>?_
  exact pvI (Go.of_ext I R' X) (X.vd V) q
theorem Xx {h:aP}{es:List (Int×D)}(t:IEs h φ μ kvs es)(hn:(kvs.map (·.1)).Nodup){k:Int}{v:ag}{d:D}(w:VD h φ μ v d):IEs h φ μ (pI kvs k v) (QX k d es):=by
 have key:∀ {kvs:List (Int×ag)} {es:List (Int×D)},IEs h φ μ kvs es->(kvs.map (·.1)).Nodup->IEs h φ μ (if kvs.any (λ kv=>kv.1=k) then kvs.map (λ kv=>if kv.1=k then (kv.1,v) else kv) else kvs++[(k,v)]) (QX k d es):=by
  intro kvs es t
  induction t with
  | nil=>intro _;exact .cons w .nil
  | cons p t' ih =>
   rename_i k' v' d' r es'
   intro hn
   rw [bl,bk] at hn
   by_cases hk:k'=k
   ·subst hk
    simp only [cV,decide_true,ro,if_true,bl,WZ,uP]
    have same:r.map (λ kv=>if kv.1=k' then (kv.1,v) else kv)=r:=by
     refine (cr λ x hx=>?_).trans (rE r)
     erw [if_neg λ e=>hn.1 (az.mpr ⟨x,hx,e⟩)];rfl
    erw [same]
    exact .cons w t'
   ·have:=ih hn.2
    simp only [cV,hk,decide_false,l4,if_false,bl,WZ,uP,eX]
    split
    ·rename_i h;rw [if_pos h] at this;exact .cons p this
    ·rename_i h;rw [if_neg h] at this;exact .cons p this
 exact key t hn
theorem zC5 {a:ai}{es:List (Int×D)}{k:Int}{t:iT}{v:ag}{d:D}{P:Unit->ak->Prop}(R:Rel C T s.heap φ μ σ)(ha:μ[i]?=some a)(hi:σ[i]?=some (.idict es))(V:VD s.heap φ μ v d)
  (hf:Few es.length) (q:∀ h',Rel C T h' φ μ (σ.set i (.idict (QX k d es)))->Ext s.heap φ μ h' φ μ []->P () {s with heap:=h',toks:=s.toks + 1}) :
  wpAny (model C.prog C.w) A (setItem (.ref a) (.int k t) v) P NoE s:=by
 (refine Ea (R.at_ i a _ ha hi) λ h1 BB=>?_;refine Eea BB λ kvs hm te=>?_)
 have hz:kvs.length<=cG:=by erw [yg te];exact zv hf
 refine nO (Z8 k t) hm (λ h' At hs=>?_) hz
 refine Ea (JX R ha hi hs At (Xx te (by (refine Eeeeaaaaa (hm) λ _ _ _ _ _ _ _ _ hn=>?_;try clear hm);exact hn) V)) λ R' X=>?_
 exact q h' R' X
end
theorem ZD {k:Nat}(h:aZ j k=true):j=k:=du h
theorem Qb {T:Tabs}(hn:T.names.Nodup){k:Nat}{x:aK}(h1:T.names[j]?=some x)(h2:T.names[k]?=some x):j=k :=
 (gN (aq.mp h1).1 hn).mp (h1.trans h2.symm)
section
variable {C:Cx}{T:Tabs}{F:Fm}{s s':ak}{φ j':ai->Prop}{μ sz:List ai}{ρ sB:Rho}{σ σ':zA}{A:aM}{n:Nat}
theorem xD {α:Type}{k' k:Nat}{d:α}{es:List (Nat×α)}(h:k'≠k):look k ((k',d)::es)=look k es:=by
 show (match aZ k' k with | true=>some d | false=>look k es)=_
 cases e:aZ k' k with
 | false=>rfl
 | true=>exact absurd (ZD e) h
theorem xS {α:Type}{k:Nat}{d:α}{es:List (Nat×α)}:look k ((k,d)::es)=some d:=by
 show (match aZ k k with | true=>some d | false=>look k es)=_
 (erw [kD k];rfl)
theorem zE9 {α:Type}{k' k:Nat}{d e:α}{es:List (Nat×α)}(h:k'≠k):put k d ((k',e)::es)=(k',e)::put k d es:=by
 show (match aZ k' k with | true=>(k',d)::es | false=>(k',e)::put k d es)=_
 cases e:aZ k' k with
 | false=>rfl
 | true=>exact absurd (ZD e) h
theorem zEe {α:Type}{k:Nat}{d e:α}{es:List (Nat×α)}:put k d ((k,e)::es)=(k,d)::es:=by
 show (match aZ k k with | true=>(k,d)::es | false=>(k,e)::put k d es)=_
 (erw [kD k];rfl)
theorem zA2 (hN:T.names.Nodup){h:aP}{kvs:List (aK×ag)}{es:List (Nat×D)}(t:REs T h φ μ kvs es){k:Nat}{x:aK}(hx:T.names[k]?=some x){d:D}(e:look k es=some d) :
  ∃ v,valueAt kvs x=some v/\VD h φ μ v d:=by
 induction t with
 | nil=>exact nn e
 | cons hk w _ ih =>
  rename_i k' x' v' d' r es' t'
  by_cases q:k'=k
  ·subst q
   rw [xS] at e
   obtain rfl:=so e
   rw [hk] at hx;(injection hx with y1y0;subst y1y0)
   refine ⟨v',?_,w⟩
   show (dY _ _).map _=_
   (erw [bV];erw [decide_eq_true rfl]);rfl
  ·rw [xD q] at e
   refine Eea (ih e) λ v hv hw=>?_
   refine ⟨v,?_,hw⟩
   show (dY _ _).map _=_
   (erw [bV];erw [decide_eq_false (show ¬ x'=x from λ h=>q (Qb hN (h▸hk) hx))]);exact hv
theorem xz {h:aP}{kvs:List (aK×ag)}{es:List (Nat×D)}(t:REs T h φ μ kvs es):kvs.length=es.length:=by
 induction t with
 | nil=>rfl
 | cons _ _ _ ih=>simp [ih]
theorem VO {h h':aP}{kvs:List (aK×ag)}{es:List (Nat×D)}(k:∀ a,φ a->j' a/\h'.get? a=h.get? a)(m:∀ (i:Nat) (a:ai),μ[i]?=some a->sz[i]?=some a)(t:REs T h φ μ kvs es):REs T h' j' sz kvs es:=by
 induction t with
 | nil=>exact .nil
 | cons q p _ ih=>exact .cons q (p.mono k m) ih
theorem XH (hN:T.names.Nodup){h:aP}{kvs:List (aK×ag)}{es:List (Nat×D)}(t:REs T h φ μ kvs es)(hn:(kvs.map (·.1)).Nodup){k:Nat}{x:aK}(hx:T.names[k]?=some x){v:ag}{d:D}(w:VD h φ μ v d) :
  REs T h φ μ (pI kvs x v) (put k d es):=by
 have key:∀ {kvs:List (aK×ag)} {es:List (Nat×D)},REs T h φ μ kvs es->(kvs.map (·.1)).Nodup->REs T h φ μ (if kvs.any (λ kv=>kv.1=x) then kvs.map (λ kv=>if kv.1=x then (kv.1,v) else kv) else kvs++[(x,v)]) (put k d es):=by
  intro kvs es t
  induction t with
  | nil=>intro _;exact .cons hx w .nil
  | cons q p t' ih =>
   rename_i k' x' v' d' r es'
   intro hn
   rw [bl,bk] at hn
   by_cases hk:k'=k
   ·subst hk
    rw [q] at hx;cases hx
    erw [zEe]
    simp only [cV,decide_true,ro,if_true,bl]
    have same:r.map (λ kv=>if kv.1=x then (kv.1,v) else kv)=r:=by
     refine (cr λ y hy=>?_).trans (rE r)
     erw [if_neg λ e=>hn.1 (az.mpr ⟨y,hy,e⟩)];rfl
    erw [same]
    exact .cons q w t'
   ·have:=ih hn.2
    have DF:x'≠x:=λ e=>hk (Qb hN (e▸q) hx)
    (erw [zE9 hk];erw [cV];erw [decide_eq_false DF];erw [l4])
    by_cases h:(r.any λ kv=>decide (kv.1=x))=true
    ·rw [if_pos h] at this ⊢;(erw [bl];erw [if_neg DF]);exact .cons q p this
    ·rw [if_neg h] at this ⊢;exact .cons q p this
 exact key t hn
theorem YD (x:aK)(t:iT):(i9 C.prog C.w).is x (.str x t)=true:=strKind_is C.prog C.w x t
theorem zAS (hN:T.names.Nodup){Q:D->zA->Prop}{k:Nat}{a:ai}{es:List (Nat×D)}{x:aK}{t:iT}{d:D}(R:Rel C T s.heap φ μ σ)(I:FrI F s.heap φ μ ρ)(ha:μ[i]?=some a)(hi:σ[i]?=some (.rdict es))
  (hx:T.names[k]?=some x) (e:look k es=some d) (q:Q d σ):wpAny (model C.prog C.w) A (getItem (.ref a) (.str x t)) (PV C T F s φ μ ρ Q) NoE s:=by
 (refine Ea (R.at_ i a _ ha hi) λ h1 tF=>?_;refine Eea tF λ kvs hm te=>?_)
 refine Eea (zA2 hN te hx e) λ v hv w=>?_
 exact kT (YD x t) hm.mapOf hv (zY R I w q _)
theorem zBV (hN:T.names.Nodup){k:Nat}{a:ai}{es:List (Nat×D)}{x:aK}{t:iT}{v:ag}{d:D}{P:Unit->ak->Prop}(R:Rel C T s.heap φ μ σ)(ha:μ[i]?=some a)(hi:σ[i]?=some (.rdict es))(hx:T.names[k]?=some x)(V:VD s.heap φ μ v d)
  (hf:Few es.length) (q:∀ h',Rel C T h' φ μ (σ.set i (.rdict (put k d es)))->Ext s.heap φ μ h' φ μ []->P () {s with heap:=h',toks:=s.toks + 1}) :
  wpAny (model C.prog C.w) A (setItem (.ref a) (.str x t) v) P NoE s:=by
 (refine Ea (R.at_ i a _ ha hi) λ h1 Ae=>?_;refine Eea Ae λ kvs hm te=>?_)
 have hz:kvs.length<=cG:=by erw [xz te];exact zv hf
 refine nO (YD x t) hm (λ h' At hs=>?_) hz
 have Ij:=XH hN te (by (refine Eeeeaaaaa (hm) λ _ _ _ _ _ _ _ _ hn=>?_;try clear hm);exact hn) hx V
 refine Ea (R.upd (mo':=.rdict (put k d es)) ha hi (λ h=>nomatch h) hs (by (refine Eeeea (At) λ o _ _ ho _=>?_;try clear At);exact ⟨o,ho⟩) λ kk=>⟨h1,_,At,VO kk (λ _ _ e=>e) Ij⟩) λ R' X=>?_
 exact q h' R' X
theorem zCp {Q:D->zA->Prop}{a b:ai}{es:List (Ky×D)}{k:List ab}{kq:Ky}{d:D}(hA:Room n A)(R:Rel C T s.heap φ μ σ)(I:FrI F s.heap φ μ ρ)(ha:μ[i]?=some a)(hi:σ[i]?=some (.tdict es))
  (v:VP s.heap φ (.ref b) (.tuple k)) (hd:Kd (.tuple k)) (hq:keyDs k=some kq) (e:z5 kq es=some d) (q:Q d σ):wpAny (model C.prog C.w) A (getItem (.ref a) (.ref b)) (PV C T F s φ μ ρ Q) NoE s:=by
 (refine Ea (yW R ha hi) λ h1 BD=>?_;refine Eea BD λ xs hm t=>?_)
 rcases jC t kq with ⟨d',p,e',hp,w⟩ | ⟨e',_⟩
 case inr=>rw [e] at e';cases e'
 rw [e] at e';(injection e' with y4y0;subst y4y0)
 exact wpAny_getItem_heap (knd:=jm C.prog C.w) (jI hA) (Yj v hq hd.h) hm hp (zY R I w q _)
theorem wG {h:aP}{xs:List (Ky×ai×ag)}{es:List (Ky×D)}(t:TEs h φ μ xs es):xs.length=es.length:=by
 induction t with
 | nil=>rfl
 | cons _ _ _ _ _ ih=>simp [ih]
theorem VE {h:aP}{xs:List (Ky×ai×ag)}{es:List (Ky×D)}{k:Ky}{ys:List ab}{a:ai}{v:ag}{d:D}(t:TEs h φ μ xs es)(p:VP h φ (.ref a) (.tuple ys))(e:keyDs ys=some k)(dd:(ch ys).depth<=6)(w:VD h φ μ v d) :
  TEs h φ μ (xs++[(k,a,v)]) (es++[(k,d)]):=by
 induction t with
 | nil=>exact .cons p e dd w .nil
 | cons p' e' d' w' _ ih=>exact .cons p' e' d' w' ih
theorem W5 {h h':aP}{xs:List (Ky×ai×ag)}{es:List (Ky×D)}(k:∀ a,φ a->j' a/\h'.get? a=h.get? a)(m:∀ (i:Nat) (a:ai),μ[i]?=some a->sz[i]?=some a)(t:TEs h φ μ xs es):TEs h' j' sz xs es:=by
 induction t with
 | nil=>exact .nil
 | cons p e d w _ ih=>exact .cons (p.mono k) e d (w.mono k m) ih
theorem zCo {a b:ai}{es:List (Ky×D)}{k:List ab}{kq:Ky}{v:ag}{d:D}{P:Unit->ak->Prop}(hA:Room n A)(R:Rel C T s.heap φ μ σ)(ha:μ[i]?=some a)(hi:σ[i]?=some (.tdict es))
  (vk:VP s.heap φ (.ref b) (.tuple k)) (hd:Kd (.tuple k)) (hq:keyDs k=some kq) (V:VD s.heap φ μ v d) (hf:Few es.length) (e:z5 kq es=none)
  (q:∀ h' tk,Rel C T h' φ μ (σ.set i (.tdict (es++[(kq,d)])))->Ext s.heap φ μ h' φ μ []->P () {s with heap:=h',toks:=tk}) :
  wpAny (model C.prog C.w) A (setItem (.ref a) (.ref b) v) P NoE s:=by
 (refine Ea (yW R ha hi) λ h1 BB=>?_;refine Eea BB λ xs hm t=>?_)
 have hl:atKey xs kq=none:=by
  rcases jC t kq with ⟨d',p,e',hp,w⟩ | ⟨_,hp⟩
  ·rw [e] at e';cases e'
  ·exact hp
 have hz:xs.length<=cG:=by erw [wG t];exact zv hf
 refine wpAny_setItem_heap (knd:=jm C.prog C.w) (jI hA) (Yj vk hq hd.h) hm (λ h' At hs=>?_) hz
 rw [storedH_new hl] at At
 (refine Eeeeaaaaa (At) λ o ds ep ho hx DG he hk hn=>?_;try clear At)
 refine Ea (R.upd (mo':=.tdict (es++[(kq,d)])) ha hi (λ h=>nomatch h) hs ⟨o,ho⟩ λ kk=>⟨h1,_,⟨o,ds,ep,ho,hx,DG,he,hn⟩,W5 kk (λ _ _ e=>e) (VE t vk hq hd.h V)⟩) λ R' X=>?_
 exact q h' _ R' X
theorem WP {Q:D->zA->Prop}{a:ai}{xs:List ab}{v:ag}{x:ab}(R:Rel C T s.heap φ μ σ)(I:FrI F s.heap φ μ ρ)(ha:μ[i]?=some a)(hi:σ[i]?=some (.lst xs))(V:VP s.heap φ v x)(hf:Few xs.length)
  (q:Q (.p .none) (σ.set i (.lst (xs++[x])))):wpAny (model C.prog C.w) A (call (.builtin "list.append") [.ref a,v]) (PV C T F s φ μ ρ Q) NoE s:=by
 refine Eeea (R.at_ i a _ ha hi) λ vs k ho hp=>?_
 have hl:=hp.length
 refine ma ⟨k,ho⟩ (λ h' CP hs=>?_) (by (erw [aJ];erw [hl]);exact zv hf)
 (refine Ee (CP) λ k' tV=>?_;try clear CP)
 refine Ea (R.upd (mo':=.lst (xs++[x])) ha hi (λ h=>nomatch h) hs ⟨_,tV⟩ λ kk=>⟨vs++[v],k',by (erw [tV];erw [List.push_toArray];rfl),(hp.append (.cons V .nil)).mono kk⟩) λ R' X=>?_
 exact pvI (Go.of_ext (tk:=s.toks) I R' X) (.p .none) q
end
set_option tactic.hygienic false
def UG (slice:aH):Prop:=∀ o i,subscripted slice false o i=operate [o,i] (getItem o i)
theorem zGk {a:Int}(h1:-(n:Int)<=a)(h2:a<=n):a.natAbs<=n:=(Int.natAbs_eq a).elim (λ e=>dW.mp (bh (kE e.symm) h2)) (λ e=>dW.mp (Int.neg_le_neg_iff.mp (bh h1 (kE e))))
theorem zAg {k:Int}(h:idx n k=some j):k=j∨(k<0/\k + n=j):=by
 cases k with
 | ofNat k=>obtain rfl:=so h;exact .inl rfl
 | negSucc k =>
  have h:(match eR k n with | true=>some (n - (k + 1)) | false=>none)=some j:=h
  cases e:eR k n with
  | false=>rw [e] at h;exact nn h
  | true =>
   rw [e] at h
   obtain rfl:=so h
   have:=aw e
   exact .inr ⟨nH k,Int.subNatNat_of_le this⟩
theorem zBj {k:Int}(h:idx n k=some j)(hj:j<n):seqIndex? k n=some j:=by
 unfold seqIndex?
 rcases zAg h with rfl | ⟨h0,h1⟩
 ·have h2:(j:Int)<n:=cK.mpr hj
  simp only [dJ.mpr (bn j),if_false,bn,h2,decide_true,p6,if_true,bT]
 ·have h2:(j:Int)<n:=cK.mpr hj
  simp only [h0,if_true,h1,bn,h2,decide_true,p6,bT]
section
variable {C:Cx}{T:Tabs}{F:Fm}{s s':ak}{φ j':ai->Prop}{μ sz:List ai}{ρ sB:Rho}{σ σ':zA}{A:aM}{n:Nat}
theorem zCg {Q:D->zA->Prop}{t:ai}{xs:List ab}{k:Int}{u:iT}(R:Rel C T s.heap φ μ σ)(I:FrI F s.heap φ μ ρ)(ht:i6 s.heap t vs.toArray)(r:VPs s.heap φ vs xs)(sm:Sm k)
  (h:Is ((idx xs.length k).bind λ j=>xs[j]?) λ x=>Q (.p x) σ):wpAny (model C.prog C.w) A (getItem (.ref t) (.int k u)) (PV C T F s φ μ ρ Q) NoE s:=by
 refine Eea (h.h) λ x e q=>?_
 refine Eea (ob e) λ j hj hx=>?_
 refine Eea (r.get hx) λ v hv p=>?_
 exact getItem_tuple ht sm.h.1 sm.h.2 (by (erw [aJ];erw [r.length]);exact zBj hj (aq.mp hx).1) (et.trans hv) (zr R I (.p p) q)
theorem Ux {Q:D->zA->Prop}{t:ai}{xs:List ab}{k:Int}{u:iT}(R:Rel C T s.heap φ μ σ)(I:FrI F s.heap φ μ ρ)(ht:s.heap.IsList t vs.toArray)(r:VPs s.heap φ vs xs)(sm:Sm k)
  (h:Is ((idx xs.length k).bind λ j=>xs[j]?) λ x=>Q (.p x) σ):wpAny (model C.prog C.w) A (getItem (.ref t) (.int k u)) (PV C T F s φ μ ρ Q) NoE s:=by
 refine Eea (h.h) λ x e q=>?_
 refine Eea (ob e) λ j hj hx=>?_
 refine Eea (r.get hx) λ v hv p=>?_
 have hl:vs.toArray.size=xs.length:=by (erw [aJ];erw [r.length];rfl)
 rcases zAg hj with rfl | ⟨h0,h1⟩
 ·exact wpAny_getItem_list ht (bn j) sm.h.2 (by erw [bT];exact et.trans hv) (zr R I (.p p) q)
 ·exact wpAny_getItem_list_neg ht h0 (by erw [hl];lia) sm.h.1 (by (erw [hl];erw [h1];erw [bT]);exact et.trans hv) (zr R I (.p p) q)
structure GdOk (C:Cx)(a:ai)(k z:aK):Prop where
 ok:bq z=true
 at_:∃ es n t,C.K.lookup a=some ⟨.type "dict",none,.dict es n,#[]⟩/\KeysLit C.w.params es.toList/\findBy p7 es k=some (.str z t)
theorem zCd {Q:D->zA->Prop}{value:aH}{a:ai}{w:ag}{y:D}(hs:UG slice)(Y:C.Good)(hG:∀ a k z,Zy a k T.gds=some z->GdOk C a k z)(R:Rel C T s.heap φ μ σ)(I:FrI F s.heap φ μ ρ)(W:VD s.heap φ μ w y)
  (h:onP y λ k=>Is (J4 k) λ k=>Is (Zy a k T.gds) λ z=>Q (.p (.str z)) σ):wpAny (model C.prog C.w) A (gV value slice (.ref a) w) (PV C T F s φ μ ρ Q) NoE s:=by
 refine Eeaa (yG W h) λ x _ W h1=>?_
 refine Eea (h1.h) λ k e1 h2=>?_
 rw [zAY e1] at W
 refine Eea (h2.h) λ z e h=>?_
 refine Eeeeaa (hG _ _ _ e).at_ λ es n t hl hk hf=>?_
 have hm:=mapOf_K (prog:=C.prog) (Y.X.keeps R.keep) hl hk
 refine W.mstr λ u _=>?_
 exact gu hm.typeIs gO.lookup (kT (YD k u) hm hf (zY R I (.p (.str z t (hG _ _ _ e).ok)) h _)) (hs _ _)
theorem zCX {Q:D->zA->Prop}{value:aH}{v w:ag}{x y:D}(Y:C.Good)(hG:∀ a k z,Zy a k T.gds=some z->GdOk C a k z)(hA:Room n A)(hs:UG slice)(R:Rel C T s.heap φ μ σ)(I:FrI F s.heap φ μ ρ)(V:VD s.heap φ μ v x)(W:VD s.heap φ μ w y)
  (h:YV T.gds σ x y λ d=>Q d σ):wpAny (model C.prog C.w) A (gV value slice v w) (PV C T F s φ μ ρ Q) NoE s:=by
 cases x with
 | p x =>
  refine Eea (h.h) λ xs e h=>?_
  obtain ⟨k,t,_,rfl,sm,h⟩:=Z9 W h
  obtain ⟨a,vs,rfl,_,r,⟨_,ht⟩ | ⟨_,ht⟩⟩:=QN V.ip e
  ·exact gu ht.t.typeIs slot_tuple_getitem.lookup (zCg R I ht.t r sm h) (hs _ _)
  ·exact gu ht.typeIs kG.lookup (Ux R I ht r sm h) (hs _ _)
 | fn a=>cases V.ifn;exact zCd hs Y hG R I W h
 | obj j =>
  refine V.mobj λ a ha=>?_
  refine Eea (h.h) λ mo hi h=>?_
  cases mo with
  | lst xs =>
   obtain ⟨k,t,_,rfl,sm,h⟩:=Z9 W h
   refine Eeea (R.at_ _ _ _ ha hi) λ vs k ho hp=>?_
   have ht:s.heap.IsList _ vs.toArray:=⟨_,ho,rfl,_,rfl⟩
   exact gu ht.typeIs kG.lookup (Ux R I ht hp sm h) (hs _ _)
  | idict es =>
   refine qC W h λ k t h=>?_
   refine Eea (h.h) λ d e q=>?_
   (refine Ea (R.at_ _ _ _ ha hi) λ _ Dp=>?_;refine Eea Dp λ kvs hm _=>?_)
   exact gu hm.typeIs gO.lookup (zBC R I ha hi e q) (hs _ _)
  | tdict es =>
   refine Eeaaa (js W h) λ k _ W kd h=>?_
   refine Eea (h.h) λ q hq h=>?_
   refine Eea (h.h) λ d e hQ=>?_
   (refine Eeea (W.itup) λ b vs Aj=>?_;obtain rfl:=Aj;intro _)
   obtain ⟨_,xs,⟨o,ds,ep,ho,hx,_⟩,_⟩:=yW R ha hi
   exact gu (T:="dict") ⟨o,ho,hx.1⟩ gO.lookup (zCp hA R I ha hi W kd hq e hQ) (hs _ _)
  | _=>exact h.elim
 | _=>exact h.elim
theorem zE1 {Q:D->zA->Prop}{a:Int}{t:iT}(R:Rel C T s.heap φ μ σ)(I:FrI F s.heap φ μ ρ)(q:Q (.p (.int a.natAbs)) σ) :
  wpAny (model C.prog C.w) A (call (.builtin "abs") [.int a t]) (PV C T F s φ μ ρ Q) NoE s:=by
 refine call_abs_int λ u tk=>?_
 have e:(if a<0 then -a else a)=a.natAbs:=by
  split
  ·next h=>exact (Int.ofNat_natAbs_of_nonpos (cg h)).symm
  ·next h=>exact (Int.natAbs_of_nonneg (dJ.mp h)).symm
 erw [e]
 exact zY R I (.p (.int _ _)) q _
theorem zC8 {Q:D->zA->Prop}{a b:Int}{t u:iT}(hA:A.handled=none)(R:Rel C T s.heap φ μ σ)(I:FrI F s.heap φ μ ρ)(q:Q (.p (.int (z8 a [b]))) σ) :
  wpAny (model C.prog C.w) A (call (.builtin "max") [.int a t,.int b u]) (PV C T F s φ μ ρ Q) NoE s:=by
 refine max_two_ints hA λ h' tk k=>?_
 have q:Q (.p (.int (if a<b then b else a))) σ:=q
 by_cases hb:b > a
 ·rw [if_pos hb] at q ⊢;exact qR R I k (.p (.int _ _)) q
 ·rw [if_neg hb] at q ⊢;exact qR R I k (.p (.int _ _)) q
theorem zC2 {Q:D->zA->Prop}{a b:Int}{t u:iT}(hA:A.handled=none)(R:Rel C T s.heap φ μ σ)(I:FrI F s.heap φ μ ρ)(q:Q (.p (.int (ZK a [b]))) σ) :
  wpAny (model C.prog C.w) A (call (.builtin "min") [.int a t,.int b u]) (PV C T F s φ μ ρ Q) NoE s:=by
 refine min_two_ints hA λ h' tk k=>?_
 have q:Q (.p (.int (if b<a then b else a))) σ:=q
 by_cases hb:b<a
 ·rw [if_pos hb] at q ⊢;exact qR R I k (.p (.int _ _)) q
 ·rw [if_neg hb] at q ⊢;exact qR R I k (.p (.int _ _)) q
theorem vv {Q:D->zA->Prop}{a b:Int}{t u:iT}(R:Rel C T s.heap φ μ σ)(I:FrI F s.heap φ μ ρ)(q:Q (.rng a b) σ) :
  wpAny (model C.prog C.w) A (call (.type "range") [.int a t,.int b u]) (PV C T F s φ μ ρ Q) NoE s:=by
 refine call_range_2 ?_
 refine Eaa (R.pushF {cls:=.type "range",data:=.fields #[.int a t,.int b u,.int 1 s.toks]} rfl) λ R' X g=>?_
 exact pvI (Go.of_ext (tk:=s.toks + 1) I R' X) (.rng (.inr rfl) g) q
theorem wZ {Q:D->zA->Prop}{b:Int}{u:iT}(R:Rel C T s.heap φ μ σ)(I:FrI F s.heap φ μ ρ)(q:Q (.rng 0 b) σ) :
  wpAny (model C.prog C.w) A (call (.type "range") [.int b u]) (PV C T F s φ μ ρ Q) NoE s:=by
 refine call_range_1 ?_
 refine Eaa (R.pushF {cls:=.type "range",data:=.fields #[.int 0 s.toks,.int b u,.int 1 (s.toks + 1)]} rfl) λ R' X g=>?_
 exact pvI (Go.of_ext (tk:=s.toks + 1 + 1) I R' X) (.rng (.inr rfl) g) q
end
end Mine.Internal
namespace Mine.Internal
open PySem PySem.Calls PyProof PyProof.Rows PySem.W PySem.SeqAt
set_option tactic.hygienic false
variable {o:fi}{An fr μ wr sz:List ai}{mo:MO}{slice ta target iter:aH}{vs vals:List ag}{x y pre nm x1 x2 x3:aK}{items:Array ag}{B I:ai}{v v1 v2:ag}{c k i j k' n L tk g i1 i2:Nat}{h' sS:aP}{kvs:List (ag×ag)}{ks:List (aK×aS)}{ds:List D}{prog:bR}{w:b4}{pos p1 p2 tp:dM}{Q:Rho->zA->Prop}{P:gT}{fs:List (Nat×D)}{d d1 d2:D}{K:List ab->Option (Nat×List ab)->zA->Prop}{b m:Bool}{C:Cx}{F Fo:Fm}{s s':ak}{φ j':ai->Prop}{sB tw:Rho}{σ':zA}{fl:Flow}{kindOf:aK->Option aS}{ps ss:List aK}{A:aM}{env:kO}{fd:dS}{body:List fE}{src:Option (Nat×List ab)}{r:String×aK×String}{ty id:String}{E:ag->ak->Prop}{sL:List aH}{gensA:List bm}{scope:bZ}{cells:List (aK×ai)}{op t0:ku}{xe it:Ex}{ts:List Tg}{st:fE}{ys:List St}{ifs:List Ex}{gs:List Gn}
section
variable {C:Cx}{T:Tabs}{F:Fm}{s s':ak}{φ j' sY:ai->Prop}{μ sz sV:List ai}{ρ sB:Rho}{σ σ':zA}{A:aM}{n:Nat}{h h' AJ:aP}{wr CT:List ai}{D:ai}
theorem Rel.but (R:Rel C T h φ μ σ)(hm:D∉μ)(hf:¬ φ D)(hs:cj D h h')(hD:h'.get? D=some o):Rel C T h' φ μ σ/\Ext h φ μ h' φ μ [D]:=by
 have k:∀ b,φ b->φ b/\h'.get? b=h.get? b:=λ b f=>⟨f,hs.2 b λ e=>hf (e▸f)⟩
 have ex:∀ b o,h.get? b=some o->∃ o',h'.get? b=some o':=λ b o' e=>by
  by_cases q:b=D
  ·exact ⟨o,q▸hD⟩
  ·exact ⟨o',(hs.2 b q).trans e⟩
 refine ⟨⟨λ b o e=>(hs.2 b λ q=>hf (q▸R.base b o e)).trans (R.keep b o e),R.base,λ b f=>let ⟨o,e⟩:=R.frz b f;ex b o e,R.len,R.nodup,λ j b e=>let ⟨o,e'⟩:=R.lt j b e;ex b o e',R.apart,λ j b mo e e'=>?_⟩,
  ⟨k,λ _ f=>.inl f,λ _ _ e=>e,λ _ _ e=>.inl e,ex,λ b o e _ nw=>by (erw [hs.2 b λ q=>nw (by simp [q])];erw [e]);exact Kept.refl _⟩⟩
 exact Zr (R.at_ j b mo e e') k (λ _ _ e=>e) (.inr (hs.2 b λ q=>hm (aN.mpr ⟨j,q▸e⟩)))
theorem Ext.stepF {Bc:List ai}(x:Ext h φ μ h' j' sz wr fr)(y:Ext h' j' sz AJ sY sV An Bc)(k:∀ b∈An,h.get? b=none∨b∈wr)(kf:∀ b∈Bc,h.get? b=none∨b∈fr):Ext h φ μ AJ sY sV wr fr:=by
 have y':Ext h' j' sz AJ sY sV (wr++An) (fr++Bc):=y.wid (λ b _ m _=>bj _ m) λ b _ m _=>bj _ m
 have x':Ext h φ μ h' j' sz (wr++An) (fr++Bc):=x.wid (λ b _ m _=>bO _ m) λ b _ m _=>bO _ m
 refine (x'.trans y').wid (λ b o m e=>?_) λ b o m e=>?_
 ·exact (bg.mp m).elim id λ m=>(k b m).elim (λ q=>by rw [e] at q;cases q) id
 ·exact (bg.mp m).elim id λ m=>(kf b m).elim (λ q=>by rw [e] at q;cases q) id
theorem Ext.step (x:Ext h φ μ h' j' sz wr fr)(y:Ext h' j' sz AJ sY sV An)(k:∀ b∈An,h.get? b=none∨b∈wr):Ext h φ μ AJ sY sV wr fr:=x.stepF y k λ _ m=>nomatch m
theorem Rel.adopt (R:Rel C T h φ μ σ)(hm:D∉μ)(hf:¬ φ D)(hD:h.get? D=some o)(DR:qA T C.prog C.w h φ (μ++[D]) D mo) :
  Rel C T h φ (μ++[D]) (σ++[mo])/\(μ++[D])[σ.length]?=some D:=by
 have pre:∀ (i:Nat) (a:ai),μ[i]?=some a->(μ++[D])[i]?=some a:=λ i a e=>by
  erw [aC (aq.mp e).1];exact e
 have inv:∀ (i:Nat) (a:ai),(μ++[D])[i]?=some a->μ[i]?=some a∨(i=μ.length/\a=D):=λ i a e=>by
  rcases gF i μ.length with h | h | h
  ·rw [aC h] at e;exact .inl e
  ·subst h;simp at e;exact .inr ⟨rfl,e.symm⟩
  ·rw [eh (by simp;exact h)] at e;cases e
 refine ⟨⟨R.keep,R.base,R.frz,?_,λ i j a ei ej=>?_,λ i a e=>?_,λ i a e f=>?_,λ i a mo' e e'=>?_⟩,?_⟩
 ·(erw [ao];erw [ao];erw [R.len]);rfl
 ·rcases inv i a ei with h | ⟨rfl,h⟩ <;> rcases inv j a ej with h' | ⟨rfl,h'⟩
  ·exact R.nodup i j a h h'
  ·exact absurd (aN.mpr ⟨i,h'▸h⟩) hm
  ·exact absurd (aN.mpr ⟨j,h▸h'⟩) hm
  ·rfl
 ·rcases inv i a e with h | ⟨_,rfl⟩
  ·exact R.lt i a h
  ·exact ⟨o,hD⟩
 ·rcases inv i a e with h | ⟨_,rfl⟩
  ·have q:=R.apart i a h f
   erw [aC (aq.mp q).1];exact q
  ·exact absurd f hf
 ·rcases inv i a e with h | ⟨rfl,rfl⟩
  ·have hi:i<σ.length:=by refine rwS R.len ?_;exact (aq.mp h).1
   rw [aC hi] at e'
   exact Zr (R.at_ i a mo' h e') (λ a f=>⟨f,rfl⟩) pre (.inr rfl)
  ·rw [R.len] at e'
   simp at e'
   subst e'
   exact DR
 ·refine rwS R.len ?_;simp
theorem Ext.adopt (x:Ext h φ μ h' j' sz wr fr)(hD:h.get? D=none):Ext h φ μ h' j' (sz++[D]) wr fr:=by
 refine ⟨x.frz,x.new,λ i a e=>?_,λ i a e=>?_,x.ex,x.oth⟩
 ·have:=x.pre i a e
  erw [aC (aq.mp this).1];exact this
 ·rcases gF i sz.length with h | h | h
  ·rw [aC h] at e;exact x.fresh i a e
  ·subst h;simp at e;exact .inr (e▸hD)
  ·rw [eh (by simp;exact h)] at e;cases e
theorem Ext.more (x:Ext h φ μ h' j' sz wr fr)(hD:h.get? D=none):Ext h φ μ h' (λ a=>j' a∨a=D) sz wr fr :=
 ⟨λ a f=>⟨.inl (x.frz a f).1,(x.frz a f).2⟩,λ a f=>f.elim (x.new a) λ e=>.inr (.inl (e▸hD)),x.pre,x.fresh,x.ex,x.oth⟩
end
section
variable {C:Cx}{T:Tabs}{F:Fm}{s s':ak}{φ j' sY:ai->Prop}{μ sz sV:List ai}{ρ sB:Rho}{σ σ':zA}{A:aM}{n:Nat}
theorem Go.push (R:Rel C T s.heap φ μ σ)(I:FrI F s.heap φ μ ρ)(o:fi):Go C T F s φ μ {s with heap:=s.heap.push o} φ μ ρ σ :=
 let ⟨R',X⟩:=R.grow (h':=s.heap.push o) λ _ _ e=>am _ e
 Go.of_ext (tk:=s.toks) I R' X
theorem wg {Q:D->zA->Prop}{value:aH}{t sl:ai}{vs:List ag}{ys:List ab}{vl vu:ag}{lo hi:Option Int}(hs:∀ o i,subscripted slice false o i=operate [i,o] (getItem o i))
  (R:Rel C T s.heap φ μ σ) (I:FrI F s.heap φ μ ρ) (ht:s.heap.IsList t vs.toArray) (hz:vs.length<=cG)
  (Ii:s.heap.IsSliceOf sl vl vu .none) (pl:IsPart vl lo) (pu:IsPart vu hi) {zs:List ag} (e:slicePick vs.toArray lo hi none=zs.toArray) (r:VPs s.heap φ zs ys) (q:Q (.p (.list ys)) σ) :
  wpAny (model C.prog C.w) A (gV value slice (.ref t) (.ref sl)) (PV C T F s φ μ ρ Q) NoE s:=by
 refine gu ht.typeIs kG.lookup (wpAny_getItem_list_slice ht Ii pl pu .none (by simp) ?_ (by erw [aJ];exact hz)) (hs _ _)
 erw [e]
 refine Eaa (R.pushF {cls:=.type "list",data:=.seq zs.toArray} rfl) λ R' X g=>?_
 exact pvI (Go.of_ext (tk:=s.toks) I R' X) (.p (.lst (.inr rfl) ⟨_,g,rfl,_,rfl⟩ (X.vps r))) q
theorem WL {k:Int}(h:0<=k):slicePick vs.toArray none (some k) none=(vs.take k.toNat).toArray:=by
 have:=slicePick_upto' vs.toArray k.toNat
 rwa [dN h] at this
theorem zAR {Q:D->zA->Prop}{value:aH}{v w:ag}{x y:D}(hs:∀ o i,subscripted slice false o i=operate [i,o] (getItem o i))(R:Rel C T s.heap φ μ σ)(I:FrI F s.heap φ μ ρ)
  (V:VD s.heap φ μ v x) (W:VD s.heap φ μ w y) (h:YJ σ x y λ d=>Q d σ) :
  wpAny (model C.prog C.w) A (gV value slice v (.ref s.heap.objs.size)) (PV C T F s φ μ ρ Q) NoE {s with heap:=s.heap.push {cls:=.type "slice",data:=.fields #[.none,w,.none]}}:=by
 have G:=Go.push R I {cls:=.type "slice",data:=.fields #[.none,w,.none]}
 have V':=G.ext.vd V
 (refine Eeeaa (Z9 W h) λ k t A7=>?_;obtain rfl:=A7;intro BX;obtain rfl:=BX;intro h)
 have lst:∀ {a:ai} {vs:List ag} {xs:List ab},(s.heap.push {cls:=.type "slice",data:=.fields #[.none,.int k t,.none]}).IsList a vs.toArray->VPs (s.heap.push {cls:=.type "slice",data:=.fields #[.none,.int k t,.none]}) φ vs xs->(Sm k/\0<=k/\Few xs.length/\Q (.p (.list (xs.take k.toNat))) σ) ->
   wpAny (model C.prog C.w) A (gV value slice (.ref a) (.ref s.heap.objs.size)) (PV C T F s φ μ ρ Q) NoE {s with heap:=s.heap.push {cls:=.type "slice",data:=.fields #[.none,.int k t,.none]}}:=λ ht r h =>
  au (wg (Q:=Q) hs G.rel G.fr ht (by erw [r.length];exact zv h.2.2.1) (r9 ..) .none (.int k t) (WL h.2.1) (r.take _) h.2.2.2) (λ _ _ p=>PV.up G p) λ _ _ p=>p
 cases x with
 | p x=>cases x with
  | str x' =>
   (refine qJ (h) λ sm hf ok q=>?_;try clear h)
   refine V.ip.mstr λ u _=>?_
   refine gu (typeIs_str _ _ _) PySem.F.slot_str_getitem.lookup (wpAny_getItem_str_slice (l:=none) (u:=some (k,t)) (st:=none) ⟨_,aG _ rfl,rfl,rfl⟩ rfl
    (post_val_or_str ⟨af (Txt.slice_le x' _ _) (zv hf),λ t' k'=>?_⟩)) (hs _ _)
   exact PV.up G (zY G.rel G.fr (.p (.str _ _ ok)) q k')
  | list xs=>refine V'.ip.mlst λ a vs f ht r=>?_;exact lst ht r h
  | _=>exact h.elim
 | _=>exact h.elim
theorem j5 (x:String):bq (ae x)=true:=by
 erw [Str.ofString_eq_toList]
 unfold bq
 simp only [List.all_toArray,gh,aY,Function.comp,decide_eq_true_eq]
 intro c _
 have:=c.valid
 have e:c.toNat=c.val.toNat:=rfl
 erw [e]
 rcases this with h | h
 ·exact af h (nB9 rfl)
 ·have:=h.2;exact this
theorem uF (hx:bq x=true)(hy:bq y=true):bq (x++y)=true:=by
 unfold bq at *
 show (x.cps++y.cps).all _=true
 (erw [Array.all_append];erw [hx];erw [hy]);rfl
theorem zCJ {i:Int}(h:Sm i):i.natAbs.log2<1920:=by
 by_cases hz:i.natAbs=0
 ·erw [hz];decide
 ·have h2:i.natAbs<2 ^ 1920:=bI (m:=2 ^ 64) (b5 (zGk (n:=9223372036854775808) h.1 (cg h.2)) (oD9 rfl)) (f6 (by decide) (by decide))
  exact (ng hz).mpr h2
theorem zC3 {Q:D->zA->Prop}{e:aH}{k:Nat}{pos Av D2:dM}{W:D->zA->Prop}(hp:bq pre=true/\pre.length<=1000)
  (he:DX C T F A (eval e F.env) ρ σ W) (hW:∀ d σ',W d σ'->onI d λ i=>Sm i/\Q (.p (.str (pre++ae (toString i)))) σ') :
  DX C T F A (eval (.JoinedStr [.Constant (.str pre) k pos,.FormattedValue e (-1) none Av] D2) F.env) ρ σ Q:=by
 intro s φ μ R I
 refine wpAny_JoinedStr ?_
 show wpAny _ A (eval (.Constant (.str pre) k pos) F.env) _ NoE s
 refine fy ?_
 refine ⟨pre,_,rfl,by erw [oV];have:=hp.2;erw [cx];exact af this (nB9 rfl),?_⟩
 show wpAny _ A (eval (.FormattedValue e (-1) none Av) F.env) _ NoE _
 have G0:Go C T F s φ μ {s with toks:=s.toks + 1} φ μ ρ σ:=(Go.refl R I).tok _
 refine wpAny_FormattedValue_plain (he.seq G0.rel G0.fr λ s' j' sz v d σ' G V q=>?_)
 obtain ⟨i,t,rfl,rfl,sm,q⟩:=Z9 V (hW d σ' q)
 have hl:=zCJ sm
 have hz:=int_text_length_le (k:=1920) (by decide) hl
 refine wpAny_formatField_int hl ?_
 have ok:bq (pre++ae (toString i))=true:=uF hp.1 (j5 _)
 have hlen:(pre++ae (toString i)).length<=cG:=by
  (erw [strLen_append];erw [PySem.ofString_length];erw [cx])
  have:=hp.2
  exact lin [pre.length,(toString i).length] [] (.a (.v 0) (.v 1)) (.k 16777216) [(1,.l (.v 0) (.k 1000)),(1,.l (.v 1) (.a (.k 1920) (.k 1)))] tT9 hp.2 hz
 erw [oV]
 exact ⟨_,_,rfl,hlen,hlen,j',sz,_,σ',(G0.trans G).tok _,.p (.str _ _ ok),q⟩
end
theorem Jq:typeLookup (.type "tuple") "keys"=pure none:=am_miss_of_fast (by decide +kernel)
section
variable {prog:bR}{w:b4}{A:aM}{E:ag->ak->Prop}{s:ak}
theorem Jr {a:ai}{Q:Option ag->ak->Prop}(ht:s.heap.IsTuple a items)(hd:∀ o,s.heap.get? a=some o->o.dict=none)(hA:A.handled=none)
  (h:∀ h' tk,(∀ b o,s.heap.get? b=some o->h'.get? b=some o)->Q none {s with heap:=h',toks:=tk}):wpAny (model prog w) A (getAttr? (.ref a) "keys") Q E s:=by
 obtain ⟨o,hx,hc,k,tN⟩:=ht
 have hd:=hd _ hx
 obtain ⟨c,dct,dat,sl⟩:=o
 simp only at hc tN hd
 subst hc tN hd
 obtain ⟨hp,g,d,tk,os⟩:=s
 have hT:∀ AC,(⟨hp,g,d,AC,os⟩:ak).TypeIs (.ref a) "tuple":=λ _=>⟨_,hx,rfl⟩
 have f1:=sub_AttributeError
 have f3:=gA.lookup
 have f4:=gA.bind (.ref a)
 have f5:=am_tuple_getattr_none
 unfold getAttr? getAttrBy? getAttrBy
 repeat (any_goals (first | assumption | exact hT _ | ((with_reducible show wpAny _ _ (call (pX "tuple.__getattribute__") _ _) _ _ _);refine lI gA (hT _) am_entry_tuple_getattribute (F.args_tuple_getattribute_2 _ _) (meets_getattribute_miss_tuple a items k sl _ _ Jq (by decide +kernel) (by decide)) ⟨hx,hA,λ h' AC e Cd=>?_⟩) | wp_step))
 refine Eee (Cd.there) λ t' u' he=>?_
 show wpAny _ _ (nY _ _ _ _ _ _ _) _ _ _
 unfold nY
 repeat (any_goals (first | assumption | wp_step))
 exact h _ _ Cd.keeps
end
theorem Zw:m6 table "dict.update.loop"=some cE.«dict.update.loop»:=entryFor_of_fast (by kernel_rfl)
theorem ZA:plainId "dict.update.loop"=true:=by decide +kernel
theorem Ys {x:ab}{xs:List ab}{es:List (Int×D)}(e:Zx (x::xs)=some es):∃ k y es',x=.tuple [.int k,y]/\Zx xs=some es'/\es=(k,.p y)::es':=by
 refine Eea (ob e) λ ys e1 e2=>?_
 refine Eea (ob e2) λ p e3 e4=>?_
 refine Eea (ob e4) λ k e5 e6=>?_
 refine Eea (ob e6) λ l e7 e8=>?_
 obtain ⟨p1,p2⟩:=p
 obtain rfl:=jz e1
 obtain rfl:=ve e3
 obtain rfl:=JM e5
 exact ⟨k,p2,l,rfl,e7,(so e8).symm⟩
section
variable {C:Cx}{T:Tabs}{F:Fm}{s s':ak}{φ j':ai->Prop}{μ sz:List ai}{ρ sB:Rho}{σ σ':zA}{A:aM}{n:Nat}
theorem wq {h₀:aP}{ax:ai}{vs:List ag}{RR:lG->ak->Prop}(hh:A.handled=none)(Hk:B≠I)(Gf:B≠ax)(tj:ax≠I)(Fv:h₀.get? I=none)(I8:h₀.get? B=none) :
  ∀ (ys:List ab) (us:List ag) (i:Nat) (es':List (Int×D)) (kvs:List (Int×ag)) (es:List (Int×D)) (s:ak) (t:iT),vs.drop i=us->VPs h₀ φ us ys->Zx ys=some es'->((es++es').map (·.1)).Nodup->(es++es').length<=cG ->
   (∀ b o,h₀.get? b=some o->s.heap.get? b=some o)->(s.heap.IsTupleIter I ax i/\s.heap.IsTuple ax vs.toArray)->s.heap.DictOf (intKind C.prog C.w) B kvs->IEs h₀ φ μ kvs es ->
   (∀ h' tk t4,h'.DictOf (intKind C.prog C.w) B t4->IEs h₀ φ μ t4 (es++es')->(∀ b o,h₀.get? b=some o->h'.get? b=some o)->RR (.ok (.ret .none)) {s with heap:=h',toks:=tk}) ->
   ez (model C.prog C.w) A (.builtin "dict.update.loop" ⟨[.ref B,.ref I,.int i t,.none],[]⟩) RR s:=by
 have W:=rD (prog:=C.prog) (w:=C.w) (A:=A.in1) hh I ax tj vs.toArray
 intro ys
 induction ys with
 | nil =>
  intro us i es' kvs es s t hd hv hp hn hl hk tn hm he hR
  cases hv.inil
  obtain rfl:=so hp
  have hi:vs.toArray.size<=i:=by erw [aJ];exact nq.mp hd
  refine fm Zw ?_
  erw [eK ZA _]
  show wpAny _ A.in1 (fv (.ref I) >>= _) _ _ s
  refine aa (mO hh tn.1 tn.2 (by simpa using hi) λ h' Fw=>?_)
  show wpAny _ A.in1 (sd B [] >>= _) _ _ _
  refine aa (aj (aj ?_))
  rw [aR] at hR
  exact hR h' s.toks kvs (hm.extBut Fw Hk) he λ b o e=>Fw b o (by rintro rfl;rw [Fv] at e;cases e) (hk b o e)
 | cons y ys ih =>
  intro us i es' kvs es s t hd hv hp hn hl hk tn hm he hR
  (refine Eeeeaa (Ys hp) λ k x DQ BN=>?_;obtain rfl:=BN;intro CP AH;obtain rfl:=AH)
  (refine Eeeaa (hv.icons) λ v us Bk=>?_;obtain rfl:=Bk;intro p r)
  (refine Eeeaaa (p.itup) λ a ws Ap=>?_;obtain rfl:=Ap;intro f ht rr)
  (refine Eeeaa (rr.icons) λ v1 ws AI=>?_;obtain rfl:=AI;intro p1 r1)
  (refine Ee (p1.iint) λ GP CX=>?_;obtain rfl:=CX)
  (refine Eeeaa (r1.icons) λ v2 ws GR=>?_;obtain rfl:=GR;intro p2 r2)
  cases r2.inil
  have sW:i<vs.length:=by
   rcases rl i vs.length with h | h
   ·exact h
   ·rw [nq.mpr h] at hd;cases hd
  have IR:vs[i]?=some (.ref a):=by
   have:=congrArg (λ l=>l[0]?) hd
   simpa using this
  have A6:vs.drop (i + 1)=us:=by
   (refine rwS List.drop_drop ?_;erw [hd]);rfl
  refine fm Zw ?_
  erw [eK ZA _]
  show wpAny _ A.in1 (fv (.ref I) >>= _) _ _ s
  refine aa (mc tn.1 tn.2 (x:=.ref a) (by simpa using IR) λ h' tZ AK=>?_)
  have tR:∀ b o,h₀.get? b=some o->h'.get? b=some o:=λ b o e=>AK.extBut b o (by rintro rfl;rw [Fv] at e;cases e) (hk b o e)
  (refine Eeaa (id ht.t) λ o ho hc Dp=>?_;refine Ee Dp λ nn tN=>?_)
  have tV:=tR _ _ ho
  have hT:({s with heap:=h'}:ak).TypeIs (.ref a) "tuple":=⟨o,tV,hc⟩
  show wpAny _ A.in1 (cO [.ref a] _ >>= λ _=>_) _ _ _
  refine aa (aO ?_)
  show wpAny _ A.in1 (tryCatch (mP (.ref a)) _ >>= _) _ _ _
  refine aa (wpAny_tryCatch ?_)
  unfold mP
  refine aa (mJ hT ?_)
  show wpAny _ _ (oW (.ref a) >>= _) _ _ _
  refine aa (cN tV tN (aj ?_))
  show wpAny _ _ (cO [.int k GP,v2] (dictSet B (.int k GP) v2)) _ _ _
  have KW:k∉es.map (·.1):=by
   rw [aW,eH] at hn
   intro At
   exact hn.2.2 k At k (by simp) rfl
  have Ao:valueAt kvs k=none:=by
   rcases yE he k with ⟨d,_,hd,_⟩ | ⟨_,this⟩
   ·unfold za at hd
    rw [bP] at hd
    (refine Eea (hd) λ e h1 _=>?_;try clear hd)
    have h2:=ph h1
    exact absurd (az.mpr ⟨e,lT h1,by simpa using h2⟩) KW
   ·exact this
  have hlen:=yg he
  refine aO (wpAny_dictSet_pairs (s:={s with heap:=h'}) (Z8 k GP) (hm.sameBut AK Hk) (λ AJ Ce Bg=>?_) (by erw [hlen];rw [ao] at hl;exact af (aF _ _) hl))
  rw [XK Ao] at Ce
  refine aj ⟨i7 ZA _,ih us (i + 1) DQ _ (es++[(k,.p x)]) _ _ A6 r CP (by simpa using hn) (by simpa using hl) (λ b o e=>Bg.extBut b o (by rintro rfl;rw [I8] at e;cases e) (tR b o e)) ?_ Ce (UL he (.p p2)) λ h3 Iy FN a1 a2 a3=>?_⟩
  ·exact ⟨tZ.extBut Bg.extBut (mQ Hk),(tn.2.extBut AK.extBut tj).extBut Bg.extBut (mQ Gf)⟩
  ·exact hR h3 Iy FN a1 (by simpa using a2) a3
theorem yn:∀ {xs:List ab} {es:List (Int×D)},Zx xs=some es->es.length=xs.length
 | [],es,e=>by (injection e with y5y0;subst y5y0);rfl
 | x::xs,es,e=>by (refine Eeeeaa (Ys e) λ k y es' AR=>?_;obtain rfl:=AR;intro h Gq;obtain rfl:=Gq);simp [yn h]
theorem zAV {Q:D->zA->Prop}{xs:List ab}{es:List (Int×D)}(hA:A.handled=none)(EQ:eM<s.heap.objs.size)(R:Rel C T s.heap φ μ σ)(I:FrI F s.heap φ μ ρ)(V:VP s.heap φ v (.tuple xs))(e:Zx xs=some es)(nd:(es.map (·.1)).Nodup)(hf:Few xs.length)
  (q:Q (.obj σ.length) (σ++[.idict es])):wpAny (model C.prog C.w) A (call (.type "dict") [v]) (PV C T F s φ μ ρ Q) NoE s:=by
 refine V.mtup λ a vs f ht r=>?_
 ·skip
  refine callType_codes (Q₁:=λ obj sC=>obj=.ref s.heap.objs.size/\sC={s with heap:=s.heap.push {cls:=.type "dict",data:=.dict #[]}}) PySem.F.kt_called_dict (PySem.F.kt_typeCall_dict_1 _) PySem.F.entry_dict_init (kt_code_dict_new _ ⟨rfl,rfl⟩) ?_
  rintro obj sC ⟨rfl,rfl⟩
  have C9:(s.heap.push {cls:=.type "dict",data:=.dict #[]}).DictOf (intKind C.prog C.w) s.heap.objs.size []:=pi s.heap
  refine ⟨C9.typeIs,PySem.F.args_dict_init_2 _ _,?_⟩
  unfold cE.«dict.__init__»
  refine aa ?_
  unfold se
  refine aa (mZ C9.typeIs ?_)
  show wpAny _ _ (pure (s.heap.objs.size,[eY a])) _ _ _
  refine aj ?_
  show wpAny _ _ (md "dict.__init__" s.heap.objs.size (.ref a) [] .none) _ _ _
  unfold md
  have k1:∀ b o,s.heap.get? b=some o->(s.heap.push {cls:=.type "dict",data:=.dict #[]}).get? b=some o:=λ b o e=>am _ e
  have Lb:i6 (s.heap.push {cls:=.type "dict",data:=.dict #[]}) a vs.toArray:=ht.t.push _
  (refine Eeaa (id ht.t) λ o ho hc H7=>?_;refine Ee H7 λ nn tN=>?_)
  have BY:=k1 _ _ ho
  refine aa (mJ (T:="tuple") ⟨o,BY,hc⟩ ?_)
  erw [if_pos (by decide)]
  refine aa (Jr (items:=vs.toArray) ⟨o,BY,hc,nn,tN⟩ (λ o' e=>by rw [BY] at e;(injection e with y6y0;subst y6y0);exact ht.p _ ho) hA λ h2 Lh k2=>?_)
  have Bm:=k2 _ _ BY
  have KH:a<h2.objs.size:=bb Bm
  have HN:s.heap.objs.size<h2.objs.size:=bb (k2 _ _ (aG _ rfl))
  have Gf:s.heap.objs.size≠a:=λ e=>gR _ (e▸bb ho)
  refine aa (fP (aa (dk (items:=vs.toArray) ⟨o,Bm,hc,nn,tN⟩ ?_)))
  have Fv:s.heap.get? h2.objs.size=none:=dB (eT HN)
  have Di:∀ h' tk t4,h'.DictOf (intKind C.prog C.w) s.heap.objs.size t4->IEs s.heap φ μ t4 es->(∀ b o,s.heap.get? b=some o->h'.get? b=some o) ->
    PV C T F s φ μ ρ Q (.ref s.heap.objs.size) {s with heap:=h',toks:=tk}:=λ h' tk t4 a1 a2 a3=>by
   obtain ⟨o',tV⟩:∃ o',h'.get? s.heap.objs.size=some o':=by (refine Eeeea (a1) λ o' _ _ e _=>?_;try clear a1);exact ⟨o',e⟩
   refine Eaa (R.newM (D:=s.heap.objs.size) a3 (zd _) o' tV (.idict es) λ kk=>⟨by simpa using br EQ,t4,a1,ug kk (λ i a e=>by erw [aC (aq.mp e).1];exact e) a2⟩) λ R' X g=>?_
   exact pvI (Go.of_ext I R' X) (.obj g) q
  have tn:(h2.push {cls:=.type "tuple_iterator",data:=.fields #[.ref a,.int 0 0]}).IsTupleIter h2.objs.size a 0/\(h2.push {cls:=.type "tuple_iterator",data:=.fields #[.ref a,.int 0 0]}).IsTuple a vs.toArray :=
   ⟨⟨_,aG _ rfl,rfl,rfl⟩,⟨o,am _ Bm,hc,nn,tN⟩⟩
  have FR:(h2.push {cls:=.type "tuple_iterator",data:=.fields #[.ref a,.int 0 0]}).DictOf (intKind C.prog C.w) s.heap.objs.size []:=(C9.at λ o e=>k2 _ _ e).push _
  refine aj ⟨i7 ZA _,wq (C:=C) (A:=A.in1) (h₀:=s.heap) (μ:=μ) (i:=0) (kvs:=[]) (es:=[]) hA (aB HN) Gf (aB KH) Fv (zd _) xs vs (es':=es) _ _ rfl r e (by simpa using nd)
   (by (erw [a6];erw [yn e]);exact zv hf) (λ b o e=>am _ (k2 _ _ (k1 _ _ e))) tn FR .nil λ h' tk t4 a1 a2 a3=>?_⟩
  exact ⟨rfl,Di h' tk t4 a1 a2 a3⟩
end
section
variable {C:Cx}{T:Tabs}{F:Fm}{s s' sC:ak}{φ j' sK:ai->Prop}{μ sz sH:List ai}{ρ sB sP:Rho}{σ σ' sR:zA}{A:aM}{n:Nat}{B:ai}
theorem FrI.ne_locals (I:FrI F s.heap φ μ ρ)(h:s.heap.get? B=none):F.env.locals≠B:=λ e=>by
 (refine Eea (I.loc) λ m Bb=>?_;(refine Eeeea (Bb) λ o _ _ ho _=>?_;try clear Bb);intro _)
 rw [e,h] at ho;cases ho
theorem FrI.ne_cells (I:FrI F s.heap φ μ ρ)(h:s.heap.get? B=none){c:ai}(hc:F.env.cells.lookup y=some c):c≠B:=λ e=>by
 (refine Ea (I.cμ y c hc) λ BX=>?_;(refine Ee (BX) λ o ho=>?_;try clear BX);intro _)
 rw [e,h] at ho;cases ho
theorem FrI.ne_own (I:FrI F s.heap φ μ ρ)(h:s.heap.get? B=none):B∉F.env.locals::F.own:=λ m=>by
 rcases aA.mp m with e | m
 ·exact I.ne_locals h e.symm
 ·refine Ee (I.own _ m) λ o ho=>?_
  rw [h] at ho;cases ho
theorem Go.but {tk:Nat}(I:FrI F s.heap φ μ ρ)(G:Go C T F s φ μ sC sK sH sP sR)(hf:s.heap.get? B=none)(nm:B∉sH)(nf:¬ sK B)(hs:cj B sC.heap h')(hB:h'.get? B=some o) :
  Go C T F s φ μ {sC with heap:=h',toks:=tk} sK sH sP sR:=by
 refine Ea (G.rel.but nm nf hs hB) λ R' X=>?_
 refine G.mst λ h AC=>?_
 refine ⟨⟨h',tk,rfl⟩,R',G.fr.ext X (by simpa using I.ne_locals hf) (λ y c hc=>by simpa using I.ne_cells hf hc) (λ v L hv hl _=>by simpa using I.ne_out hf hv hl),G.ext.step X λ b hb=>?_⟩
 rw [av] at hb
 subst hb
 exact .inl hf
theorem FrI.adopt {h:aP}(I:FrI F h φ μ ρ)(hL:F.env.locals≠B)(hc:∀ y c,F.env.cells.lookup y=some c->c≠B)(ho:∀ v L,v∈F.fs->v.frame=some L->L≠B):FrI F h φ (μ++[B]) ρ:=by
 have pre:∀ (i:Nat) (a:ai),μ[i]?=some a->(μ++[B])[i]?=some a:=λ i a e=>by
  erw [aC (aq.mp e).1];exact e
 have k:∀ a,φ a->φ a/\h.get? a=h.get? a:=λ a f=>⟨f,rfl⟩
 refine Eea (I.loc) λ m hn hm=>?_
 refine ⟨I.kind,I.glob,I.blt,I.len,⟨m,hn,λ i y hi=>⟨(hm i y hi).1,(hm i y hi).2.mono k pre⟩⟩,λ i y kk hi hk=>?_,I.uniq,λ m=>?_,I.Lφ,λ y c hy=>?_,I.cinj,I.own,I.outsK λ v L o hv hf h1 h2 h3 _ _=>⟨⟨o,h1,rfl⟩,λ m=>(bg.mp m).elim h2 λ m=>ho v L hv hf (by simpa using m),h3⟩⟩
 ·(refine Ea (I.cell i y kk hi hk) λ h1 tF=>?_;refine Eeeaaa tF λ c v t6 x7 Bp Bh=>?_)
  exact ⟨h1,c,v,t6,x7,Bp.mono k pre,Bh⟩
 ·rcases bg.mp m with m | m
  ·exact I.Lμ m
  ·exact hL (by simpa using m)
 ·refine qJ (I.cμ y c hy) λ h0 h1 h2 h3=>?_
  refine ⟨h0,λ m=>?_,h2,h3⟩
  rcases bg.mp m with m | m
  ·exact h1 m
  ·exact hc y c hy (by simpa using m)
theorem FrI.more {h:aP}(I:FrI F h φ μ ρ)(hL:F.env.locals≠B)(hc:∀ y c,F.env.cells.lookup y=some c->c≠B)(ho:∀ v L,v∈F.fs->v.frame=some L->L≠B):FrI F h (λ a=>φ a∨a=B) μ ρ:=by
 have k:∀ a,φ a->(φ a∨a=B)/\h.get? a=h.get? a:=λ a f=>⟨.inl f,rfl⟩
 have pre:∀ (i:Nat) (a:ai),μ[i]?=some a->μ[i]?=some a:=λ i a e=>e
 refine Eea (I.loc) λ m hn hm=>?_
 refine ⟨I.kind,I.glob,I.blt,I.len,⟨m,hn,λ i y hi=>⟨(hm i y hi).1,(hm i y hi).2.mono k pre⟩⟩,λ i y kk hi hk=>?_,I.uniq,I.Lμ,λ m=>?_,λ y c hy=>?_,I.cinj,I.own,I.outsK λ v L o hv hf h1 h2 h3 _ _=>⟨⟨o,h1,rfl⟩,h2,λ m=>m.elim h3 (ho v L hv hf)⟩⟩
 ·(refine Ea (I.cell i y kk hi hk) λ h1 Ae=>?_;refine Eeeaaa Ae λ c v t6 x7 Bp Bh=>?_)
  exact ⟨h1,c,v,t6,x7,Bp.mono k pre,Bh⟩
 ·rcases m with m | m
  ·exact I.Lφ m
  ·exact hL m
 ·refine qJ (I.cμ y c hy) λ h0 h1 h2 h3=>?_
  refine ⟨h0,h1,λ m=>?_,h3⟩
  rcases m with m | m
  ·exact h2 m
  ·exact hc y c hy m
theorem Go.adopt {mo:MO}(G:Go C T F s φ μ sC sK sH sP sR)(hf:s.heap.get? B=none)(nm:B∉sH)(nf:¬ sK B)(hB:sC.heap.get? B=some o)(hL:F.env.locals≠B)(hc:∀ y c,F.env.cells.lookup y=some c->c≠B)(Ki:∀ v L,v∈F.fs->v.frame=some L->L≠B)
  (DR:qA T C.prog C.w sC.heap sK (sH++[B]) B mo):Go C T F s φ μ sC sK (sH++[B]) sP (sR++[mo])/\(sH++[B])[sR.length]?=some B:=by
 refine Ea (G.rel.adopt nm nf hB DR) λ R' g=>?_
 exact ⟨⟨G.st,R',G.fr.adopt hL hc Ki,G.ext.adopt hf⟩,g⟩
theorem Go.more (G:Go C T F s φ μ sC sK sH sP sR)(hf:s.heap.get? B=none)(nm:B∉sH)(hB:sC.heap.get? B=some o)(hL:F.env.locals≠B)(hc:∀ y c,F.env.cells.lookup y=some c->c≠B)(ho:∀ v L,v∈F.fs->v.frame=some L->L≠B) :
  Go C T F s φ μ sC (λ a=>sK a∨a=B) sH sP sR:=⟨G.st,G.rel.more hB nm,G.fr.more hL hc ho,G.ext.more hf⟩
inductive KV (h:aP)(φ:ai->Prop)(μ:List ai):List (ag×ag)->List aK->List D->Prop
 | nil:KV h φ μ [] [] []
 | cons {x:aK} {t:iT} {v:ag} {d:D} {kvs:List (ag×ag)} {ks:List aK} {ds:List D}:VD h φ μ v d->KV h φ μ kvs ks ds->KV h φ μ ((.str x t,v)::kvs) (x::ks) (d::ds)
theorem KV.mono {h:aP}{ks:List aK}(k:∀ a,φ a->j' a/\h'.get? a=h.get? a)(m:∀ (i:Nat) (a:ai),μ[i]?=some a->sz[i]?=some a)(x:KV h φ μ kvs ks ds):KV h' j' sz kvs ks ds:=by
 induction x with
 | nil=>exact .nil
 | cons p _ ih=>exact .cons (p.mono k m) ih
noncomputable def yr:List (ag×ag)->List (aK×ag)
 | (.str x _,v)::r=>(x,v)::yr r
 | _::r=>yr r
 | []=>[]
theorem KV.carries {h:aP}{ks:List aK}(x:KV h φ μ kvs ks ds):Carries (i9 prog w) kvs (yr kvs):=by
 induction x with
 | nil=>trivial
 | cons p _ ih=>exact ⟨strKind_is _ _ _ _,rfl,ih⟩
theorem KV.keys {h:aP}{ks:List aK}(x:KV h φ μ kvs ks ds):(yr kvs).map (·.1)=ks:=by
 induction x with
 | nil=>rfl
 | cons p _ ih=>simp [yr,ih]
theorem KV.res {h:aP}{ks:List aK}(x:KV h φ μ kvs ks ds):∀ {ns:List Nat},ns.map (T.names[·]?)=ks.map some->REs T h φ μ (yr kvs) (ns.zip ds):=by
 induction x with
 | nil=>intro ns h;cases ns with | nil=>exact .nil | cons _ _=>simp at h
 | cons p _ ih =>
  intro ns h
  cases ns with
  | nil=>simp at h
  | cons n ns =>
   simp only [bl,pj] at h
   exact .cons h.1 p (ih h.2)
noncomputable def DPs (C:Cx)(T:Tabs)(F:Fm)(A:aM)(t:kS (List (ag×ag)))(ks:List aK)(ρ:Rho)(σ:zA)(Q:List D->zA->Prop):Prop :=
 ∀ (s:ak) (φ:ai->Prop) (μ:List ai),Rel C T s.heap φ μ σ->FrI F s.heap φ μ ρ->wpAny (model C.prog C.w) A t (λ kvs s'=>∃ j' sz ds σ',Go C T F s φ μ s' j' sz ρ σ'/\KV s'.heap j' sz kvs ks ds/\Q ds σ') NoE s
theorem zBJ {Q:List D->zA->Prop}(q:Q [] σ):DPs C T F A (evalPairs (pairTrees [] [] F.env pos)) [] ρ σ Q:=λ s φ μ R I =>
 pairTrees_nil_walk ⟨φ,μ,[],σ,Go.refl R I,.nil,q⟩
theorem Vs {x:aK}{k:Nat}{p:dM}{v:aH}{ks:List (Option aH)}{vs:List aH}{xs:List aK}{pos:dM}{W:D->zA->Prop}{Q:List D->zA->Prop}(hv:DX C T F A (eval v F.env) ρ σ W)
  (hr:∀ d σ',W d σ'->DPs C T F A (evalPairs (pairTrees ks vs F.env pos)) xs ρ σ' λ ds sA=>Q (d::ds) sA) :
  DPs C T F A (evalPairs (pairTrees (some (.Constant (.str x) k p)::ks) (v::vs) F.env pos)) (x::xs) ρ σ Q:=λ s φ μ R I=>by
 refine pairTrees_cons_walk (fy ?_)
 have G0:Go C T F s φ μ {s with toks:=s.toks + 1} φ μ ρ σ:=(Go.refl R I).tok _
 refine hv.seq G0.rel G0.fr λ s' j' sz u d σ' G V q=>?_
 refine au (hr d σ' q s' j' sz G.rel G.fr) (λ kvs s9 hh=>Eeeeeaa hh λ s4 s5 ds sM tB K AP=>?_) λ _ _ e=>e
 exact ⟨s4,s5,d::ds,sM,(G0.trans G).trans tB,.cons (tB.ext.vd V) K,AP⟩
theorem zDo {keys:List (Option aH)}{values:List aH}{pos:dM}{ks:List aK}{ns:List Nat}{Q:D->zA->Prop}{W:List D->zA->Prop}(Y:C.Good)(h0:keys≠[])(CZ:keys.all (·.isSome)=true)(hl:keys.length=values.length)(hlen:keys.length<=15)
  (nd:ks.Nodup) (hn:ns.map (T.names[·]?)=ks.map some) (hp:DPs C T F A (evalPairs (pairTrees keys values F.env pos)) ks ρ σ W) (hW:∀ ds σ',W ds σ'->Q (.obj σ'.length) (σ'++[.rdict (ns.zip ds)])) :
  DX C T F A (eval (.Dict keys values pos) F.env) ρ σ Q:=by
 intro s φ μ R I
 refine wpAny_Dict_walk (knd:=i9 C.prog C.w) CZ hl h0 hlen ?_
 have G0:=Go.push R I {cls:=.type "dict",data:=.dict #[]}
 have hD:=zd s.heap
 refine au (hp _ _ _ G0.rel G0.fr) (λ kvs sC hh=>Eeeeeaa hh λ sK sH ds sR Ca K q=>?_) λ _ _ e=>e
 have e0:(s.heap.push {cls:=.type "dict",data:=.dict #[]}).get? s.heap.objs.size=some {cls:=.type "dict",data:=.dict #[]}:=aG _ rfl
 have Ha:s.heap.objs.size∉μ:=R.notin_none hD
 have KZ:¬ φ s.heap.objs.size:=R.notfrz_none hD
 have nm:s.heap.objs.size∉sH:=Ca.ext.notin e0 Ha
 have nf:¬ sK s.heap.objs.size:=Ca.ext.notfrz e0 Ha KZ
 have e1:sC.heap.get? s.heap.objs.size=some {cls:=.type "dict",data:=.dict #[]}:=(Ca.ext.oth _ _ e0 Ha (I.ne_own hD)).exact (I.ne_fr hD)
 have G:=G0.trans Ca
 refine ⟨yr kvs,K.carries,?_,λ h' hm hs=>?_⟩
 ·refine Eeeea (pi (knd:=i9 C.prog C.w) s.heap) λ o es ep ho r=>?_
  rw [e0] at ho;(injection ho with y4y0;subst y4y0)
  exact ⟨_,es,ep,e1,r⟩
 ·rw [merged_nil_of_nodup _ (by erw [K.keys];exact nd)] at hm
  obtain ⟨o,ho⟩:∃ o,h'.get? s.heap.objs.size=some o:=by (refine Eeeea (hm) λ o' _ _ e _=>?_;try clear hm);exact ⟨o',e⟩
  have G2:=Go.but (tk:=sC.toks + kvs.length) I G hD nm nf hs ho
  refine Ea (G.rel.but nm nf hs ho) λ R3 X3=>?_
  have EQ:eM<s.heap.objs.size:=nt (Y.lim.keeps R.keep)
  have pre:∀ (i:Nat) (a:ai),sH[i]?=some a->(sH++[s.heap.objs.size])[i]?=some a:=λ i a e=>by
   erw [aC (aq.mp e).1];exact e
  refine Ea (Go.adopt (mo:=.rdict (ns.zip ds)) G2 hD nm nf ho (I.ne_locals hD) (λ y c hc=>I.ne_cells hD hc) (λ v L hv hl=>I.ne_out hD hv hl) ⟨by simpa using br EQ,yr kvs,hm,(K.mono X3.frz pre).res hn⟩) λ G3 g=>?_
  exact pvI G3 (.obj g) (hW _ _ q)
theorem xR {Q:D->zA->Prop}(Y:C.Good)(DR:mo=.idict []∨mo=.tdict [])(q:Q (.obj σ.length) (σ++[mo])):DX C T F A (eval (.Dict [] [] pos) F.env) ρ σ Q:=by
 intro s φ μ R I
 refine wpAny_Dict_empty ?_
 have EQ:eM<s.heap.objs.size:=nt (Y.lim.keeps R.keep)
 have tj:(s.heap.objs.size==eM)=false:=by simpa using br EQ
 obtain ⟨R',X,g⟩:=R.pushM {cls:=.type "dict",data:=.dict #[]} mo rfl λ h' e k=>by
  rcases DR with rfl | rfl
  ·refine ⟨tj,[],⟨_,#[],0,e,⟨rfl,rfl,rfl⟩,rfl,λ _ he=>by simp at he,Pairs.nil,iE⟩,.nil⟩
  ·exact ⟨tj,[],⟨_,#[],0,e,⟨rfl,rfl,rfl⟩,rfl,by simp,by simp⟩,.nil⟩
 exact pvI (Go.of_ext (tk:=s.toks) I R' X) (.obj g) q
end
set_option tactic.hygienic true
structure ClsOk (C:Cx)(T:Tabs)(a:ai):Prop where
 ga:findIn C.K (.ref a) "__getattribute__"=some (some (.builtin "object.__getattribute__"))
 gt:findIn C.K (.ref a) "__getattr__"=some none
 sa:findIn C.K (.ref a) "__setattr__"=some (some (.builtin "object.__setattr__"))
 over:me C.K a=true
 dict:mf C.K a=true
 plain:∀ (k:Nat) (x:aK),T.names[k]?=some x->zS a k T.meth=none->findIn C.K (.ref a) x=some none
 meth:∀ (k:Nat) (x:aK) (f:ai),T.names[k]?=some x->zS a k T.meth=some f->findIn C.K (.ref a) x=some (some (.ref f))/\typeIn C.K (.ref f)=some (.type "function")/\keepIn C.K (.ref f)=true
structure TOk (C:Cx)(T:Tabs):Prop where
 nd:T.names.Nodup
 cls:∀ a,a∈T.classes->ClsOk C T a
 glob:∀ (g:Nat) (x:aK) (d:D),T.glob[g]?=some (x,d)->jL C x d
 gds:∀ a k z,Zy a k T.gds=some z->GdOk C a k z
 n0:T.names[zCt]?=some "append"
 n1:T.names[zFX]?=some "get"
 n2:T.names[Ur]?=some "setdefault"
 n3:T.names[zEW]?=some "sort"
 n4:T.names[zBN]?=some "extend"
 n5:T.names[zE6]?=some "count"
section
variable {C:Cx}{T:Tabs}{F:Fm}{s s' sC:ak}{φ j' sK:ai->Prop}{μ sz sH:List ai}{ρ sB sP:Rho}{σ σ' sR:zA}{A:aM}{n:Nat}{B:ai}
theorem WR {h:aP}{ds:List dQ}(t:SEs T P h φ μ ds fs):ds.any (·.refKey)=false:=by
 induction t with
 | nil=>rfl
 | cons _ _ _ ih=>simp only [cV,ih,cW];rfl
theorem JC (hN:T.names.Nodup){h:aP}{ds:List dQ}(t:SEs T P h φ μ ds fs)(hx:T.names[k]?=some x) :
  (∃ d v,look k fs=some d/\getL x ds=some (some v)/\VD h φ μ v d)∨(look k fs=none/\getL x ds=some none):=by
 have key:(∃ d e,look k fs=some d/\ds.find? (·.key.isStr x)=some e/\VD h φ μ e.val d)∨(look k fs=none/\ds.find? (·.key.isStr x)=none):=by
  induction t with
  | nil=>exact .inr ⟨rfl,rfl⟩
  | cons hk w t' ih =>
   rename_i k' x' tk v d r es
   by_cases q:k'=k
   ·subst q
    rw [hk] at hx;(injection hx with y1y0;subst y1y0)
    exact .inl ⟨d,_,xS,List.find?_cons_of_pos (by simp [k9]),w⟩
   ·have DF:x'≠x:=λ e=>q (Qb hN (e▸hk) hx)
    have e2:(oX x' tk).isStr x=false:=by simp [k9,DF]
    (erw [xD q];erw [bV];erw [e2])
    exact ih
 have nr:=WR t
 unfold getL
 rcases key with ⟨d,e,h0,h1,h2⟩ | ⟨h0,h1⟩
 ·erw [h1];exact .inl ⟨d,_,h0,rfl,h2⟩
 ·(erw [h1];erw [nr]);exact .inr ⟨h0,rfl⟩
theorem wP {h:aP}{ds:List dQ}(t:SEs T P h φ μ ds fs):ds.length=fs.length:=by
 induction t with
 | nil=>rfl
 | cons _ _ _ ih=>simp [ih]
theorem VQ {h:aP}{ds:List dQ}(k:∀ a,φ a->j' a/\h'.get? a=h.get? a)(m:∀ (i:Nat) (a:ai),μ[i]?=some a->sz[i]?=some a)(t:SEs T P h φ μ ds fs):SEs T P h' j' sz ds fs:=by
 induction t with
 | nil=>exact .nil
 | cons q p _ ih=>exact .cons q (p.mono k m) ih
theorem zCc (hN:T.names.Nodup){h:aP}{ds:List dQ}(t:SEs T P h φ μ ds fs){tk:iT}(hx:T.names[k]?=some x)(w:VD h φ μ v d) :
  SEs T P h φ μ (putL x (bN P x) (.str x tk) v ds) (put k d fs):=by
 induction t with
 | nil=>exact .cons hx w .nil
 | cons hk w' t' ih =>
  rename_i k' x' AC v' d' r es
  by_cases q:k'=k
  ·subst q
   rw [hk] at hx;cases hx
   have e1:aZ k' k'=true:=kD k'
   have e2:(oX x AC).isStr x=true:=by simp [k9]
   simp only [XS,Xq,e1,putL,e2,if_true]
   exact .cons hk w t'
  ·have DF:x'≠x:=λ e=>q (Qb hN (e▸hk) hx)
   have e1:aZ k' k=false:=by
    cases h:aZ k' k with
    | false=>rfl
    | true=>exact absurd (ZD h) q
   have e2:(oX x' AC).isStr x=false:=by simp [k9,DF]
   simp only [XS,Xq,e1,putL,e2,cw,if_false]
   exact .cons hk w' ih
theorem Yn (x:aK)(hs:Int)(key v:ag):∀ ds:List dQ,(putL x hs key v ds).length<=ds.length + 1
 | []=>by simp [putL]
 | e::r=>by
  simp only [putL]
  split
  ·simp
  ·have:=Yn x hs key v r;simp only [a9];exact bp this
theorem Yi (R:Rel C T s.heap φ μ σ){a K:ai}(ha:μ[i]?=some a)(hi:σ[i]?=some (.inst K j))(hj:σ[j]?=some (.sdict fs)) :
  K∈T.classes/\∃ dx ds n,μ[j]?=some dx/\s.heap.get? dx=some (dictOf ds n)/\SEs T C.w.params s.heap φ μ ds fs/\InstAt s.heap a (instObj K dx) K (some (dictOf ds n)):=by
 (refine Ea (R.at_ i a _ ha hi) λ hc tF=>?_;refine Eea tF λ dx B9 ho=>?_)
 refine Eeea (R.at_ j dx _ B9 hj) λ ds n hd t=>?_
 exact ⟨hc,dx,ds,n,B9,hd,t,⟨ho,rfl,rfl,hd⟩⟩
theorem zBy {Q:D->zA->Prop}{o:D}{expr:Bool}(Y:C.Good)(TT:TOk C T)(hx:T.names[k]?=some x)(R:Rel C T s.heap φ μ σ)(I:FrI F s.heap φ μ ρ)(V:VD s.heap φ μ v o)
  (h:jV T σ o k λ d=>Q d σ):wpAny (model C.prog C.w) A (getAttr v x expr) (PV C T F s φ μ ρ Q) NoE s:=by
 refine Xg V h λ i a ha h=>?_
 refine Eeeeaa (UC h) λ K j fs hi hj h=>?_
 refine Ea (XA h) λ hm h=>?_
 refine Eea (h.h) λ d hl h=>?_
 (refine Ea (Yi R ha hi hj) λ hc Ae=>?_;refine Eeeeaaa Ae λ dx ds nn B9 hd t II=>?_)
 have CK:=TT.cls _ hc
 rcases JC TT.nd t hx with ⟨d',v,e,g1,g2⟩ | ⟨e,_⟩
 ·rw [hl] at e;(injection e with y3y0;subst y3y0)
  exact get_value (Y.X.keeps R.keep) II CK.ga (findObj_own CK.dict (CK.plain k x hx hm) rfl g1) g2.handed (zY R I g2 h _)
 ·rw [hl] at e;cases e
theorem w9 {a K:ai}{f:ai}{pl:kS Bool}{Q:ag×List ag->ak->Prop}{E:ag->ak->Prop}(Y:C.Good)(TT:TOk C T)(hx:T.names[k]?=some x)(R:Rel C T s.heap φ μ σ)(ha:μ[i]?=some a)(hi:σ[i]?=some (.inst K j))(hj:σ[j]?=some (.sdict fs))
  (hl:look k fs=none) (hm:zS K k T.meth=some f) (q:Q (.ref f,[.ref a]) s):wpAny (model C.prog C.w) A (oY (.ref a) x pl) Q E s:=by
 (refine Ea (Yi R ha hi hj) λ hc BD=>?_;refine Eeeeaaa BD λ dx ds nn B9 hd t II=>?_)
 have CK:=TT.cls _ hc
 have X:=Y.X.keeps R.keep
 have g:getL x ds=some none:=by
  rcases JC TT.nd t hx with ⟨d',v,e,_⟩ | ⟨_,g⟩
  ·rw [hl] at e;cases e
  ·exact g
 refine Eaa (CK.meth k x f hx hm) λ h1 h2 _=>?_
 exact method_fn X II CK.ga CK.gt h1 h2 (by show (lookIn x (dictOf ds nn)).map _=_;(erw [lookIn_dict];erw [g]);rfl) q
end
section
variable {prog:bR}{w:b4}{A:aM}{E:ag->ak->Prop}{s:ak}{K:gf}{x C dx:ai}{es:List dQ}{n:Nat}{name:aK}{v:ag}
theorem Vv {R:lG->ak->Prop}{tk:iT}(X:K.In s.heap)(I:InstAt s.heap x (instObj C dx) C (some (dictOf es n)))(hp:me K C=true)
  (ht:takerIn K C name=some none) (hh:mf K C=true) (hl:(getL name es).isSome=true) (hz:(putL name (bN w.params name) (.str name s.toks) v es).length<=1000)
  (h:∀ h',h'.get? dx=some (dictOf (putL name (bN w.params name) (.str name s.toks) v es) (putN name es n))->cj dx s.heap h'->R (.ok (.ret .none)) {s with heap:=h',toks:=s.toks + 1}) :
  ez (model prog w) A (.call (.builtin "object.__setattr__") ⟨[.ref x,.str name tk,v],[]⟩) R s:=by
 refine osa_open X I hp ht λ b=>?_
 refine Eea (any_some hh) λ cd hc A6=>?_
 obtain ⟨hx,Aw,hn,D⟩:=I
 refine aa (aj (aa (aa (pJ hx (aa ((looks_clsIn X hc).here ?_))))))
 erw [A6]
 refine aj (a:=some dx) (aa (aj (aa ?_)))
 unfold nsSet
 refine aa (aa (dP (aj (aa (wpAny_mkText (aa (pJ D ?_)))))))
 have c:(!es.toArray.any (·.key.isStr name)&&es.toArray.any (·.refKey))=false:=by
  unfold getL at hl
  (erw [oZ];erw [oZ])
  split at hl
  ·rename_i en he
   erw [bv.mpr ⟨en,lT he,ph he⟩];rfl
  ·split at hl
   ·cases hl
   ·rename_i z;rw [Bool.not_eq_true] at z;(erw [z];erw [eJ];rfl)
 dsimp only
 (erw [aRefKeyMayBeTheName_at];erw [c])
 have up:∀ tk,(rF name (bN w.params name) (.str name tk) v (dictOf es n)).isFreed=false:=λ tk=>by erw [putName_dict];rfl
 have D':=dv (h:=s.heap) (rF name (bN w.params name) (.str name s.toks) v) D (up _)
 have C7:=D'
 rw [putName_dict] at C7
 refine wpAny_updatePart D ?_
 refine aa (wpAny_lookBehind C7 (pastItsLine_dict (by (erw [aJ];erw [cx]);exact af hz (nB9 rfl))) ?_)
 exact aj (h _ C7 (cD ..))
theorem VT {Q:Unit->ak->Prop}(X:K.In s.heap)(I:InstAt s.heap x (instObj C dx) C (some (dictOf es n)))(hs:findIn K (.ref C) "__setattr__"=some (some (.builtin "object.__setattr__")))(hp:me K C=true)
  (ht:takerIn K C name=some none) (hh:mf K C=true) (hl:(getL name es).isSome=true) (hz:(putL name (bN w.params name) (.str name (s.toks + 1)) v es).length<=1000)
  (h:∀ h',h'.get? dx=some (dictOf (putL name (bN w.params name) (.str name (s.toks + 1)) v es) (putN name es n))->cj dx s.heap h'->Q () {s with heap:=h',toks:=s.toks + 2}) :
  wpAny (model prog w) A (setAttr (.ref x) name v) Q E s :=
 set_plain X I hs (Vv (s:={s with toks:=s.toks + 1}) X I hp ht hh hl hz λ h' a b=>h h' a b)
end
section
variable {C:Cx}{T:Tabs}{F:Fm}{s s' sC:ak}{φ j' sK:ai->Prop}{μ sz sH:List ai}{ρ sB sP:Rho}{σ σ' sR:zA}{A:aM}{n:Nat}{B:ai}
theorem ji {Q:Unit->ak->Prop}{v:ag}{d:D}{a K:ai}(Y:C.Good)(TT:TOk C T)(hx:T.names[k]?=some x)(R:Rel C T s.heap φ μ σ)(ha:μ[i]?=some a)(hi:σ[i]?=some (.inst K j))(hj:σ[j]?=some (.sdict fs))
  (V:VD s.heap φ μ v d) (hm:zS K k T.meth=none) (hf:Lt64 fs.length)
  (q:∀ h' tk,Rel C T h' φ μ (σ.set j (.sdict (put k d fs)))->Ext s.heap φ μ h' φ μ []->Q () {s with heap:=h',toks:=tk}):wpAny (model C.prog C.w) A (setAttr (.ref a) x v) Q NoE s:=by
 (refine Ea (Yi R ha hi hj) λ hc Dp=>?_;refine Eeeeaaa Dp λ dx ds nn B9 hd t II=>?_)
 have CK:=TT.cls _ hc
 have X:=Y.X.keeps R.keep
 have g:=JC TT.nd t hx
 have hl:=wP t
 refine VT X II CK.sa CK.over (by unfold takerIn;erw [CK.plain k x hx hm];rfl) CK.dict ?_ ?_ λ h' ho hs=>?_
 ·rcases g with ⟨_,v,_,g,_⟩ | ⟨_,g⟩
  ·erw [g];rfl
  ·erw [g];rfl
 ·have:=Yn x (bN C.w.params x) (.str x (s.toks + 1)) v ds
  have:=hf.h
  lia
 ·refine Ea (R.upd (mo':=.sdict (put k d fs)) B9 hj (λ h=>nomatch h) hs ⟨_,ho⟩ λ kk=>⟨_,_,ho,VQ kk (λ _ _ e=>e) (zCc TT.nd t hx V)⟩) λ R' X'=>?_
  exact q h' _ R' X'
end
set_option tactic.hygienic false
mutual
noncomputable def clD (k:Nat):D->Bool
 | .p _=>true
 | .obj i=>decide (i<k)
 | .fn _=>true
 | .bi _=>true
 | .tup ds=>clDs k ds
 | .rng _ _=>true
 | .zp d e _ _=>clD k d&&clD k e
noncomputable def clDs (k:Nat):List D->Bool
 | []=>true
 | d::ds=>clD k d&&clDs k ds
end
noncomputable def clM (k:Nat)(zz:MO):Bool:=@MO.casesOn (λ _=>Bool) zz (λ _=>true) (λ es=>es.all λ e=>clD k e.2) (λ es=>es.all λ e=>clD k e.2) (λ es=>es.all λ e=>clD k e.2) (λ es=>es.all λ e=>clD k e.2) (λ _ j=>decide (j<k)) true (λ _=>true)
theorem zQ {a:Bool}(h:(a&&b)=true):a=true/\b=true:=(bG a b).mp h
theorem yS {a:Bool}(h:a=true)(k:b=true):(a&&b)=true:=(bG a b).mpr ⟨h,k⟩
mutual
theorem yU (h:k<=k'):∀ (d:D),clD k d=true->clD k' d=true
 | .p _,_=>rfl
 | .obj i,e=>decide_eq_true (bI (of_decide_eq_true e) h)
 | .fn _,_=>rfl
 | .bi _,_=>rfl
 | .tup ds,e=>clDs_mono h ds e
 | .rng _ _,_=>rfl
 | .zp d e _ _,x=>yS (yU h d (zQ x).1) (yU h e (zQ x).2)
theorem clDs_mono (h:k<=k'):∀ (ds:List D),clDs k ds=true->clDs k' ds=true
 | [],_=>rfl
 | d::ds,x=>yS (yU h d (zQ x).1) (clDs_mono h ds (zQ x).2)
end
theorem qx {α:Type}(h:k<=k'){es:List (α×D)}(e:(es.all λ e=>clD k e.2)=true):(es.all λ e=>clD k' e.2)=true:=by
 rw [aY] at e ⊢
 exact λ x hx=>yU h _ (e x hx)
theorem jF (h:k<=k')(mo:MO)(e:clM k mo=true):clM k' mo=true:=by
 cases mo with
 | lst _=>rfl
 | dead=>rfl
 | iset _=>rfl
 | inst _ j=>exact decide_eq_true (bI (of_decide_eq_true e) h)
 | idict es=>exact qx h e
 | rdict es=>exact qx h e
 | sdict es=>exact qx h e
 | tdict es=>exact qx h e
theorem jB {a:ai}(h:i<k)(e:μ[i]?=some a):(μ.take k)[i]?=some a:=by
 erw [dK h];exact e
theorem qO {α:Type}{μ:List α}{a:α}(e:(μ.take k)[i]?=some a):i<k/\μ[i]?=some a:=by
 rw [List.getElem?_take] at e
 split at e
 ·rename_i h;exact ⟨h,e⟩
 ·cases e
section
variable {C:Cx}{T:Tabs}{h h':aP}{φ j':ai->Prop}{μ sz:List ai}{σ σ' sA:zA}
mutual
theorem VD.cut' :∀ (d:D) {v:ag},VD h φ μ v d->clD k d=true->VD h φ (μ.take k) v d
 | .p _,_,V,_=>.p V.ip
 | .obj _,_,V,c=>by refine V.mobj λ a m=>?_;exact .obj (jB (of_decide_eq_true c) m)
 | .fn a,_,V,_=>by cases V.ifn;exact .fn a
 | .bi b,_,V,_=>by cases V.ibi;exact .bi b
 | .tup ds,_,V,c=>by refine V.mtup λ a vs f t r=>?_;exact .tup f t (VDs.cut' ds r c)
 | .rng _ _,_,V,_=>by refine V.mrng λ a t u w f r=>?_;exact .rng f r
 | .zp _ _ _ _,_,V,_=>V.izp
theorem VDs.cut' :∀ (ds:List D) {vs:List ag},VDs h φ μ vs ds->clDs k ds=true->VDs h φ (μ.take k) vs ds
 | [],_,V,_=>by cases V.inil;exact .nil
 | d::ds,_,V,c=>by refine V.mcons λ v w p r=>?_;exact .cons (VD.cut' d p (zQ c).1) (VDs.cut' ds r (zQ c).2)
end
theorem VD.cut (V:VD h φ μ v d)(c:clD k d=true):VD h φ (μ.take k) v d:=VD.cut' d V c
mutual
theorem VD.closed':∀ (d:D) {v:ag},VD h φ μ v d->clD μ.length d=true
 | .p _,_,_=>rfl
 | .obj _,_,V=>by refine Eea (V.iobj) λ a _ m=>?_;exact decide_eq_true (aq.mp m).1
 | .fn _,_,_=>rfl
 | .bi _,_,_=>rfl
 | .tup ds,_,V=>by refine Eeeaaa (V.itup) λ a vs _ f t r=>?_;exact VDs.closed' ds r
 | .rng _ _,_,_=>rfl
 | .zp _ _ _ _,_,V=>V.izp
theorem VDs.closed':∀ (ds:List D) {vs:List ag},VDs h φ μ vs ds->clDs μ.length ds=true
 | [],_,_=>rfl
 | d::ds,_,V=>by refine Eeeaa (V.icons) λ v w _ p r=>?_;exact yS (VD.closed' d p) (VDs.closed' ds r)
end
theorem VD.closed (V:VD h φ μ v d):clD μ.length d=true:=VD.closed' d V
theorem zCQ {a:ai}(x:qA T prog w h φ μ a mo)(c:clM k mo=true):qA T prog w h φ (μ.take k) a mo:=by
 cases mo with
 | dead=>trivial
 | lst xs=>exact x
 | iset _=>exact x
 | inst K j=>(refine Ea (x) λ hc tF=>?_;try clear x;refine Eea tF λ d h1 h2=>?_);exact ⟨hc,d,jB (of_decide_eq_true c) h1,h2⟩
 | idict es =>
  obtain ⟨hs,kvs,r,q⟩:=x
  refine ⟨hs,kvs,r,?_⟩
  clear r
  change (es.all λ e=>clD k e.2)=true at c
  induction q with
  | nil=>exact .nil
  | cons p _ ih=>have c:=zQ c;exact .cons (p.cut c.1) (ih c.2)
 | rdict es =>
  obtain ⟨hs,kvs,r,q⟩:=x
  refine ⟨hs,kvs,r,?_⟩
  clear r
  change (es.all λ e=>clD k e.2)=true at c
  induction q with
  | nil=>exact .nil
  | cons q p _ ih=>have c:=zQ c;exact .cons q (p.cut c.1) (ih c.2)
 | sdict es =>
  (refine Eeea (x) λ ds n ho r=>?_;try clear x)
  refine ⟨ds,n,ho,?_⟩
  clear ho
  change (es.all λ e=>clD k e.2)=true at c
  induction r with
  | nil=>exact .nil
  | cons q p _ ih=>have c:=zQ c;exact .cons q (p.cut c.1) (ih c.2)
 | tdict es =>
  obtain ⟨hs,xs,r,q⟩:=x
  refine ⟨hs,xs,r,?_⟩
  clear r
  change (es.all λ e=>clD k e.2)=true at c
  induction q with
  | nil=>exact .nil
  | cons p hk hd v _ ih=>have c:=zQ c;exact .cons p hk hd (v.cut c.1) (ih c.2)
theorem Wy {a:ai}(x:qA T prog w h φ μ a mo):clM μ.length mo=true:=by
 cases mo with
 | dead=>rfl
 | lst xs=>rfl
 | iset _=>rfl
 | inst K j=>(refine Ea (x) λ hc Dp=>?_;try clear x;refine Eea Dp λ d h1 h2=>?_);exact decide_eq_true (aq.mp h1).1
 | idict es =>
  obtain ⟨hs,kvs,r,q⟩:=x
  clear r
  show es.all _=true
  induction q with
  | nil=>rfl
  | cons p _ ih=>exact yS p.closed ih
 | rdict es =>
  obtain ⟨hs,kvs,r,q⟩:=x
  clear r
  show es.all _=true
  induction q with
  | nil=>rfl
  | cons _ p _ ih=>exact yS p.closed ih
 | sdict es =>
  (refine Eeea (x) λ ds n ho r=>?_;try clear x)
  clear ho
  show es.all _=true
  induction r with
  | nil=>rfl
  | cons _ p _ ih=>exact yS p.closed ih
 | tdict es =>
  obtain ⟨hs,xs,r,q⟩:=x
  clear r
  show es.all _=true
  induction q with
  | nil=>rfl
  | cons p hk hd v _ ih=>exact yS v.closed ih
theorem Rel.cut (R:Rel C T h φ μ σ)(hk:∀ (i:Nat) (mo:MO),i<k->σ[i]?=some mo->clM k mo=true):Rel C T h φ (μ.take k) (σ.take k):=by
 refine ⟨R.keep,R.base,R.frz,by (erw [dc];erw [dc];erw [R.len];rfl),λ i j a ei ej=>R.nodup i j a (qO ei).2 (qO ej).2,λ i a e=>R.lt i a (qO e).2,λ i a e f=>?_,λ i a mo e e'=>?_⟩
 ·refine Ea (qO e) λ h1 h2=>?_
  erw [dK h1];exact R.apart i a h2 f
 ·refine Ea (qO e) λ h1 h2=>?_
  refine Ea (qO e') λ _ h3=>?_
  exact zCQ (R.at_ i a mo h2 h3) (hk i mo h1 h3)
theorem Ext.cut (X:Ext h φ μ h' j' sz wr fr)(hk:μ.length<=k):Ext h φ μ h' j' (sz.take k) wr fr :=
 ⟨X.frz,X.new,λ i a e=>jB (bI (aq.mp e).1 hk) (X.pre i a e),λ i a e=>X.fresh i a (qO e).2,X.ex,X.oth⟩
inductive Kp (σ σ':zA):zA->D->Prop
 | all {d:D}:Kp σ σ' σ' d
 | cut {d:D} (k:Nat):σ.length<=k->clD k d=true->(∀ (i:Nat) (mo:MO),i<k->σ'[i]?=some mo->σ[i]?=some mo∨clM k mo=true)->Kp σ σ' (σ'.take k) d
theorem Rel.closed (R:Rel C T h φ μ σ)(e:σ[i]?=some mo):clM σ.length mo=true:=by
 have hl:i<μ.length:=by erw [R.len];exact (aq.mp e).1
 refine rwS R.len ?_
 exact Wy (R.at_ i _ mo (ay hl) e)
theorem Kp.go (K:Kp σ σ' sA d)(EW:Rel C T h φ μ σ)(R:Rel C T h' j' sz σ')(X:Ext h φ μ h' j' sz wr fr)(V:VD h' j' sz v d) :
  ∃ sV,Rel C T h' j' sV sA/\Ext h φ μ h' j' sV wr fr/\VD h' j' sV v d:=by
 cases K with
 | all=>exact ⟨sz,R,X,V⟩
 | cut k hk hd hm =>
  refine ⟨sz.take k,R.cut λ i mo hi e=>?_,X.cut (by erw [EW.len];exact hk),V.cut hd⟩
  rcases hm i mo hi e with q | q
  ·exact jF hk _ (EW.closed q)
  ·exact q
end
inductive FlI (h:aP)(φ:ai->Prop)(μ:List ai):Flow->Fl->Prop
 | next:FlI h φ μ .next .next
 | cont:FlI h φ μ .cont .cont
 | ret {v:ag} {d:D}:VD h φ μ v d->FlI h φ μ (.ret v) (.ret d)
def PS (C:Cx)(T:Tabs)(F:Fm)(s:ak)(φ:ai->Prop)(μ:List ai)(Q:Fl->Rho->zA->Prop):Flow->ak->Prop:=λ fl s' =>
 ∃ j' sz f sB σ',Go C T F s φ μ s' j' sz sB σ'/\FlI s'.heap j' sz fl f/\Q f sB σ'
theorem psI {T:Tabs}{f:Fl}{Q:Fl->Rho->zA->Prop}(G:Go C T F s φ μ s' j' sz sB σ')(V:FlI s'.heap j' sz fl f)(q:Q f sB σ'):PS C T F s φ μ Q fl s':=⟨j',sz,f,sB,σ',G,V,q⟩
theorem ptI {T:Tabs}(G:Go C T F s φ μ s' j' sz sB σ')(q:Q sB σ'):∃ j' sz sB σ',Go C T F s φ μ s' j' sz sB σ'/\Q sB σ':=⟨j',sz,sB,σ',G,q⟩
noncomputable def DS (C:Cx)(T:Tabs)(F:Fm)(A:aM)(t:kS Flow)(ρ:Rho)(σ:zA)(Q:Fl->Rho->zA->Prop):Prop :=
 ∀ (s:ak) (φ:ai->Prop) (μ:List ai),Rel C T s.heap φ μ σ->FrI F s.heap φ μ ρ->wpAny (model C.prog C.w) A t (PS C T F s φ μ Q) NoE s
noncomputable def jr (zz:Fl):Option D:=@Fl.casesOn (λ _=>Option D) zz (some (.p .none)) none (λ d=>some d)
def Z0 (σ:zA)(Q:D->zA->Prop)(fl:Fl)(σ':zA):Prop:=∃ d sA,jr fl=some d/\Kp σ σ' sA d/\Q d sA
structure FnOk (C:Cx)(f:ai)(fd:dS)(ps:List aK)(ks:List (aK×aS))(body:List fE):Prop where
 at_:∃ oc od sl,C.K.lookup f=some ⟨oc,od,.func fd,sl⟩
 code:pK C.K fd.code fd.qualname=true
 body:fd.body=.stmts body
 bind:∀ vals:List ag,vals.length=ps.length->nu fd ⟨vals,[]⟩=pure (ps.zip vals)
 clo:fd.closure=[]
 glob:fd.globals=cu
 blt:fd.builtins=fR
 co:fd.scope.isCoroutine=false
 gen:fd.scope.isGenerator=false
 kind:fd.scope.kind=.function
 nd:(ks.map (·.1)).Nodup
 pre:(ks.map (·.1)).take ps.length=ps
 kinds:∀ x k,(x,k)∈ks->(k=.local∨k=.cell)/\fd.scope.names.lookup x=some k
 cells:∀ x L,(x,l6)∈ks->((iV L fd.scope.names []).lookup x).isSome=true
theorem we (hy:kindOf y=some .local):∀ (binds:List (aK×ag)) (m:aK->Option ag),(binds.map (·.1)).Nodup->bindL kindOf binds m y=match binds.lookup y with | some v=>some v | none=>m y:=by
 intro binds
 induction binds with
 | nil =>
  intro m _
  exact rfl
 | cons EX r ih =>
  intro m nd
  obtain ⟨n,v⟩:=EX
  rw [bl,bk] at nd
  (rewrite [bindL];erw [ih _ nd.2];erw [cy])
  by_cases q:y=n
  ·subst q
   have:r.lookup y=none:=by
    cases e:r.lookup y with
    | none=>rfl
    | some w=>exact absurd (az.mpr ⟨_,mem_of_lookup e,rfl⟩) nd.1
   simp [this,hy]
  ·have:(y==n)=false:=by simpa using q
   erw [this]
   cases r.lookup y with
   | some w=>rfl
   | none=>simp only;split <;> simp [q]
theorem wz (hy:kindOf y≠some .local):∀ (binds:List (aK×ag)) (m:aK->Option ag),(binds.map (·.1)).Nodup->bindC kindOf binds m y=match binds.lookup y with | some v=>some v | none=>m y:=by
 intro binds
 induction binds with
 | nil =>
  intro m _
  exact rfl
 | cons EX r ih =>
  intro m nd
  obtain ⟨n,v⟩:=EX
  rw [bl,bk] at nd
  (rewrite [bindC];erw [ih _ nd.2];erw [cy])
  by_cases q:y=n
  ·subst q
   have:r.lookup y=none:=by
    cases e:r.lookup y with
    | none=>rfl
    | some w=>exact absurd (az.mpr ⟨_,mem_of_lookup e,rfl⟩) nd.1
   simp [this,hy]
  ·have:(y==n)=false:=by simpa using q
   erw [this]
   cases r.lookup y with
   | some w=>rfl
   | none=>simp only;split <;> simp [q]
theorem QB:∀ {ps:List aK} {vals:List ag} {i:Nat} {x:aK},ps.Nodup->ps.length=vals.length->ps[i]?=some x->(ps.zip vals).lookup x=vals[i]?
 | [],_,i,x,_,_,e=>by simp at e
 | p::ps,[],_,_,_,hl,_=>by simp at hl
 | p::ps,v::vals,0,x,_,_,e=>by simp at e;subst e;simp
 | p::ps,v::vals,i + 1,x,nd,hl,e=>by
  rw [bk] at nd
  have e':ps[i]?=some x:=by simpa using e
  have:(x==p)=false:=by
   rw [beq_eq_false_iff_ne];rintro rfl;exact nd.1 (aN.mpr ⟨i,e'⟩)
  (erw [List.zip_cons_cons];erw [cy];erw [this])
  simpa using QB (vals:=vals) nd.2 (by simpa using hl) e'
theorem ja (h:x∉ps):(ps.zip vals).lookup x=none:=by
 cases e:(ps.zip vals).lookup x with
 | none=>rfl
 | some w=>exact absurd (lk (mem_of_lookup e)).1 h
theorem zAW {h:aP}(V:VDs h φ μ vs ds):∀ {i:Nat} {v:ag} {d:D},vs[i]?=some v->ds[i]?=some d->VD h φ μ v d:=by
 induction ds generalizing vs with
 | nil=>intro i v d _ e;simp at e
 | cons d' ds ih =>
  cases V with
  | cons p r =>
   intro i v d e e'
   cases i with
   | zero=>simp at e e';subst e e';exact p
   | succ i=>exact ih r (by simpa using e) (by simpa using e')
noncomputable def Ql (ds:List D)(n:Nat):Rho:=ds.map some++bJ (n - ds.length) none
theorem Jg {h:aP}(nd:(ks.map (·.1)).Nodup)(pre:(ks.map (·.1)).take ps.length=ps)(V:VDs h φ μ vals ds)(hl:vals.length=ps.length)
  {i:Nat} {x:aK} {k:aS} (e:ks[i]?=some (x,k)):OptV h φ μ (match (ps.zip vals).lookup x with | some v=>some v | none=>none) (Ql ds ks.length)[i]?:=by
 have hlen:=Zs V
 have hx:(ks.map (·.1))[i]?=some x:=by (erw [bt];erw [e]);rfl
 have Ez:i<ks.length:=(aq.mp e).1
 have Es:ps.Nodup:=by refine rwS pre ?_;exact nd.sublist (gG _ _)
 unfold Ql
 by_cases hi:i<ps.length
 ·have hp:ps[i]?=some x:=by (refine rwS pre ?_;erw [dK hi]);exact hx
  have Gp:i<vals.length:=nZ hi hl.symm
  have AG:i<ds.length:=by exact lin [_,_,_] [] (.a (.v 0) (.k 1)) (.v 1) [(1,.e (.v 2) (.v 1)),(1,.l (.a (.v 0) (.k 1)) (.v 2))] tT9 hlen Gp
  (erw [QB Es hl.symm hp];erw [aC (by refine rwE (ah ..) ?_;exact AG)];erw [bt])
  (erw [ay Gp];erw [ay AG])
  exact .is (zAW V (ay Gp) (ay AG))
 ·have Ip:x∉ps:=by
   intro hm
   refine Ee (aN.mp hm) λ j hj=>?_
   have H5:=(aq.mp hj).1
   have DD:(ks.map (·.1))[j]?=some x:=by
    rw [<- pre,dK H5] at hj;exact hj
   have:=(gN (by erw [ah];exact Ez) nd).mp (hx.trans DD.symm)
   exact liF [_,_,_] [] [(1,.l (.v 0) (.v 1)),(1,.l (.a (.v 2) (.k 1)) (.v 0)),(1,.e (.v 1) (.v 2))] tT9 (bu hi) H5 this
  have Dj:ds.length<=i:=by refine rwS hlen ?_;erw [hl];exact bu hi
  (erw [ja Ip];erw [cC (by refine rwE (ah ..) ?_;exact Dj)];refine rwE List.getElem?_replicate ?_;erw [if_pos (by refine rwE (ah ..) ?_;exact Nat.sub_lt_sub_right Dj Ez)])
  exact .no _
section
variable {C:Cx}{T:Tabs}
theorem Yv (h:Room (n + 1) A):Room n (A.deeper env) :=
 ⟨h.hd,by have:=h.depth;erw [depth_deeper];exact lin [_,_,_] [] (.a (.a (.a (.a (.v 0) (.k 1)) (.m 2 (.v 1))) (.k 10)) (.k 1)) (.v 2) [(1,.l (.a (.a (.a (.v 0) (.m 2 (.a (.v 1) (.k 1)))) (.k 10)) (.k 1)) (.v 2))] tT9 this,by have:=h.units;erw [Around.deeper_units];exact lin [_,_,_] [] (.a (.a (.a (.a (.v 0) (.k 3)) (.m 20 (.v 1))) (.k 400)) (.k 1)) (.v 2) [(1,.l (.a (.a (.a (.v 0) (.m 20 (.a (.v 1) (.k 1)))) (.k 400)) (.k 1)) (.v 2))] tT9 this⟩
structure Entry (n:Nat)(A:aM)(h:aP)(F:Fm)(sS:aP):Prop where
 fs:∃ fs,A.frames=some fs/\F.fs=F.env::fs
 room:Room n (A.deeper F.env)
 keep:∀ b o,h.get? b=some o->sS.get? b=some o
 L:h.get? F.env.locals=none
 fr:F.env.frame=some F.env.locals
 own:∀ b,b∈F.own->h.get? b=none
theorem Entry.deep {h:aP}(x:Entry n A h F sS):(A.deeper F.env).frames=some F.fs:=by
 refine Eea x.fs λ fs h1 h2=>?_
 erw [h2];exact iL h1
theorem Entry.tops {h:aP}(x:Entry n A h F sS):∃ fs,F.fs=F.env::fs:=let ⟨fs,_,e⟩:=x.fs;⟨fs,e⟩
theorem Entry.back {h:aP}(x:Entry n A h F sS)(C8:Ext h φ μ sS φ μ [])(X:Ext sS φ μ h' j' sz (F.env.locals::F.own) (frL F.fs)):Ext h φ μ h' j' sz [] (frA A):=by
 refine C8.slack.stepF X (λ b hb=>.inl ?_) λ b hb=>?_
 ·rcases aA.mp hb with rfl | hb
  ·exact x.L
  ·exact x.own b hb
 ·refine Eea x.fs λ fs h1 h2=>?_
  refine Eea (b6.mp hb) λ v hv hL=>?_
  rw [h2] at hv
  rcases aA.mp hv with rfl | hv
  ·rw [x.fr] at hL;exact .inl (so hL▸x.L)
  ·refine .inr (b6.mpr ⟨v,?_,hL⟩)
   erw [h1];exact hv
theorem zCj {n:Nat}{f:ai}{σ:zA}{A:aM}{s:ak}{φ:ai->Prop}{μ:List ai}{vs:List ag}{P:lG->ak->Prop}(Y:C.Good)(O:FnOk C f fd ps ks body)(tJ:ds.length=ps.length)
  (r:Room (n + 1) A) (ou:Out A s.heap φ μ) (R:Rel C T s.heap φ μ σ) (V:VDs s.heap φ μ vs ds)
  (h:∀ (F:Fm) (sS:aP) (AX:Nat),F.ks=ks->F.env.scope=fd.scope->Entry n A s.heap F sS->Rel C T sS φ μ σ->FrI F sS φ μ (Ql ds ks.length)->wpAny (model C.prog C.w) (A.deeper F.env) (execs body F.env) (λ f s'=>P (.ok (.ret (match f with | .ret v=>v | _=>.none))) s')
   (λ e s'=>wpAny (model C.prog C.w) (A.deeper F.env) (leaving F.env e) (λ _ s9=>P (.error e) s9) (λ e' s9=>P (.error e') s9) s') {s with heap:=sS,toks:=AX}):ez (model C.prog C.w) A (.call (.ref f) ⟨vs,[]⟩) P s:=by
 refine Eeee (O.at_) λ oc od sl ho=>?_
 refine Eea (ou.h) λ fs GO BJ=>?_
 have X:=Y.X.keeps R.keep
 have Bf:vs.length=ps.length:=by (erw [Zs V];erw [tJ];rfl)
 have Gg:∀ x,x∈ps->∃ k,(x,k)∈ks:=λ x hx=>by
  have:x∈ks.map (·.1):=by rw [<- O.pre] at hx;exact List.mem_of_mem_take hx
  (refine Eea (az.mp this) λ BX=>?_;obtain ⟨y,k⟩:=BX;intro h1 CJ;obtain rfl:=CJ)
  exact ⟨k,h1⟩
 refine codeAny_call_cells (R:=P) (by have:=r.depth;exact lin [_,_,_] [] (.a (.v 0) (.k 1)) (.v 1) [(1,.l (.a (.a (.a (.v 0) (.m 2 (.a (.v 2) (.k 1)))) (.k 10)) (.k 1)) (.v 1))] tT9 this) (X _ _ ho) rfl (Y.lim.keeps R.keep) (codeRec_of X O.code) O.body (O.bind vs Bf) O.clo (λ x hx=>?_) (λ sC IC=>?_) O.co O.gen O.kind
 ·refine Ee (Gg x.1 (lk hx).1) λ k hk=>?_
  refine Ea (O.kinds _ _ hk) λ h1 h2=>?_
  rcases h1 with rfl | rfl
  ·exact .inl h2
  ·exact .inr ⟨h2,O.cells _ _ hk⟩
 ·generalize tQ:callEnvC fd s.heap.objs.size f=env at IC
  have eL:env.locals=s.heap.objs.size:=by refine rwS tQ ?_;rfl
  have eS:env.scope=fd.scope:=by refine rwS tQ ?_;rfl
  have eC:env.cells=iV (s.heap.objs.size + 1) fd.scope.names []:=by refine rwS tQ ?_;rfl
  have eG:env.globals=cu:=by refine rwS tQ ?_;exact O.glob
  have eB:env.builtins=fR:=by refine rwS tQ ?_;exact O.blt
  (refine Eee (IC.toInCall.same) λ sS AX BN=>?_;obtain rfl:=BN)
  refine Ea (R.grow (h':=sS) IC.toInCall.keep) λ CM C8=>?_
  have Es:ps.Nodup:=by refine rwS O.pre ?_;exact O.nd.sublist (gG _ _)
  have HA:((ps.zip vs).map (·.1)).Nodup:=by erw [o0 (cS Bf.symm)];exact Es
  have EE:=C8.vds V
  have AW:∀ x c,(x,c)∈env.cells->s.heap.get? c=none:=λ x c hm=>dB (by have:=IC.above x c hm;rw [eL] at this;exact eT this)
  obtain ⟨own,tg⟩:∃ own,own=env.cells.filterMap λ p=>env.cells.lookup p.1:=⟨_,rfl⟩
  have F8:∀ x c,env.cells.lookup x=some c->c∈own:=λ x c hc=>by erw [tg];exact b6.mpr ⟨_,mem_of_lookup hc,hc⟩
  have De:∀ c,c∈own->∃ x,env.cells.lookup x=some c:=λ c hc=>by rw [tg] at hc;refine Eea (b6.mp hc) λ p _ h2=>?_;exact ⟨_,h2⟩
  have I:FrI ⟨env,ks,own,env::fs⟩ sS φ μ (Ql ds ks.length):=by
   refine ⟨by show env.scope.kind=_;erw [eS];exact O.kind,eG,eB,?_,⟨_,IC.toInCall.ns,λ i x hx=>?_⟩,λ i x k hx hk=>?_,λ i j x k k' hi hj _ _=>?_,?_,?_,λ x c hc=>?_,λ x y c hx hy=>?_,λ c hc=>?_,λ v hv=>?_⟩
   ·have Hs:ps.length<=ks.length:=by
     have:=congrArg la O.pre
     rw [dc,ah] at this;exact af (cS this.symm) (de _ _)
    show (Ql ds ks.length).length=ks.length
    unfold Ql
    (erw [ao];erw [ah];erw [List.length_replicate]);lia
   ·have hk:env.kindOf x=some .local:=by
     unfold ik;erw [eS];exact (O.kinds _ _ (aN.mpr ⟨i,hx⟩)).2
    refine ⟨hk,?_⟩
    erw [we hk _ _ HA]
    exact Jg O.nd O.pre EE Bf hx
   ·refine Ea (O.kinds _ _ (aN.mpr ⟨i,hx⟩)) λ h1 h2=>?_
    have Fp:k=.cell:=by rcases hk with rfl | rfl;rfl;rcases h1 with h1 | h1 <;> cases h1
    subst Fp
    have tR:env.kindOf x=some .cell:=by unfold ik;erw [eS];exact h2
    have hs:=O.cells x (s.heap.objs.size + 1) (aN.mpr ⟨i,hx⟩)
    rw [<- eC] at hs
    refine Ee (gW.mp hs) λ c hc=>?_
    refine ⟨.inl tR,c,_,hc,IC.cell x c hc,?_,λ _=>F8 _ _ hc⟩
    rw [wz (by rw [tR];simp) _ _ HA]
    exact Jg O.nd O.pre EE Bf hx
   ·have Dy:(ks.map (·.1))[i]?=some x:=by (erw [bt];erw [hi]);rfl
    have DD:(ks.map (·.1))[j]?=some x:=by (erw [bt];erw [hj]);rfl
    exact (gN (by erw [ah];exact (aq.mp hi).1) O.nd).mp (Dy.trans DD.symm)
   ·erw [eL];exact R.notin_none (zd _)
   ·erw [eL];exact R.notfrz_none (zd _)
   ·have hf:=AW x c (mem_of_lookup hc)
    refine Eea (IC.cell x c hc) λ o ho _=>?_
    exact ⟨⟨o,ho⟩,R.notin_none hf,R.notfrz_none hf,by have:=IC.above x c (mem_of_lookup hc);exact br this⟩
   ·exact name_of_addr IC.apart (mem_of_lookup hx) (mem_of_lookup hy)
   ·refine Ee (De c hc) λ x hx=>?_
    refine Eea (IC.cell x c hx) λ o ho _=>?_
    exact ⟨o,ho⟩
   ·rcases aA.mp hv with rfl | hv
    ·exact ⟨by (erw [eS];erw [O.kind]);decide,v.locals,by refine rwS tQ ?_;rfl,.inl rfl⟩
    ·(refine Ea (BJ v hv) λ k1 BB=>?_;refine Eeeaaaa BB λ L o k2 k3 k4 k5 k6=>?_)
     refine ⟨k1,L,k2,.inr ⟨o,IC.toInCall.keep _ _ k3,k4,k5,k6,λ m=>?_,λ e=>?_⟩⟩
     ·refine Ee (De L m) λ x hx=>?_
      rw [AW x L (mem_of_lookup hx)] at k3;cases k3
     ·have e':L=env.locals:=e
      rw [e',eL,zd] at k3;cases k3
  have E:Entry n A s.heap ⟨env,ks,own,env::fs⟩ sS:=⟨⟨fs,GO,rfl⟩,Yv r,IC.toInCall.keep,by show s.heap.get? env.locals=none;erw [eL];exact zd _,by refine rwS tQ ?_;rfl,λ b hb=>by refine Ee (De b hb) λ x hx=>?_;exact AW x b (mem_of_lookup hx)⟩
  have:=h ⟨env,ks,own,env::fs⟩ sS AX rfl eS E CM I
  exact this
theorem zCP {n:Nat}{f:ai}{σ:zA}{Q:D->zA->Prop}(Y:C.Good)(O:FnOk C f fd ps ks body)(tJ:ds.length=ps.length)
  (h:∀ (F:Fm) (A:aM),F.ks=ks->F.env.scope=fd.scope->A.frames=some F.fs->(∃ fs,F.fs=F.env::fs)->F.env.frame=some F.env.locals->Room n A->DS C T F A (execs body F.env) (Ql ds ks.length) σ λ fl _ σ'=>Z0 σ Q fl σ'):SatCall C T (n + 1) f ds σ Q:=by
 refine ⟨by refine Eeee (O.at_) λ oc od sl ho=>?_;unfold keepIn;simp only [ho],λ A s φ μ vs r ou R V=>zCj Y O tJ r ou R V λ F sS AX hk hs E CM I=>?_⟩
 refine au (h F _ hk hs E.deep E.tops E.fr E.room _ φ μ CM I) (λ fl s' hp=>?_) λ _ _ e=>e.elim
 obtain ⟨j',sz,K',sB,σ',G,hf,d,sA,hr,K,q⟩:=hp
 have X':Ext s.heap φ μ s'.heap j' sz [] (frA A):=E.back (R.grow E.keep).2 G.ext
 have fin:∀ v,VD s'.heap j' sz v d->∃ h' tk j' sz d σ',s'={s with heap:=h',toks:=tk}/\Rel C T h' j' sz σ'/\Ext s.heap φ μ h' j' sz [] (frA A)/\VD h' j' sz v d/\Q d σ':=λ v V'=>by
  refine Eeaa (K.go R G.rel X' V') λ sV Ew CV KI=>?_
  (refine Eee (G.st) λ h' AC Aj=>?_;obtain rfl:=Aj)
  exact ⟨h',AC,j',sV,d,sA,rfl,Ew,CV,KI,q⟩
 cases hf with
 | next=>(injection hr with y4y0;subst y4y0);exact fin _ (.p .none)
 | cont=>cases hr
 | ret V'=>(injection hr with y6y0;subst y6y0);exact fin _ V'
end
noncomputable def wI:aS->Bool
 | .local=>true
 | .cell=>true
 | _=>false
noncomputable def Xv:aS->Bool
 | .local=>true
 | .cell=>true
 | .free=>true
 | _=>false
noncomputable def bix:List (aK×aS)->aK->Option Nat
 | [],_=>none
 | (y,k)::r,x=>if (y==x&&wI k)=true then some 0 else (bix r x).map (· + 1)
noncomputable def aix:List (aK×aS)->aK->Option Nat
 | [],_=>none
 | (y,k)::r,x=>if (y==x&&Xv k)=true then some 0 else (aix r x).map (· + 1)
theorem Qs:∀ {ks:List (aK×aS)} {x:aK} {i:Nat},bix ks x=some i->∃ k,ks[i]?=some (x,k)/\(k=.local∨k=.cell)
 | [],_,_,e=>nn e
 | (y,k)::r,x,i,e=>by
  have e:(if (y==x&&wI k)=true then some 0 else (bix r x).map (· + 1))=some i:=e
  by_cases h:(y==x&&wI k)=true
  ·rw [if_pos h] at e
   obtain rfl:=so e
   refine Ea ((bG ..).mp h) λ h1 h2=>?_
   cases eq_of_beq h1
   refine ⟨k,rfl,?_⟩
   cases k with
   | «local»=>exact .inl rfl
   | cell=>exact .inr rfl
   | _=>exact a8 h2
  ·rw [if_neg h] at e
   (refine Eea (bP.mp e) λ j hj Dt=>?_;obtain rfl:=Dt)
   exact Qs (ks:=r) hj
theorem zFh {k:aS}(h:Xv k=true):k=.local∨k=.cell∨k=.free:=by
 cases k with
 | «local»=>exact .inl rfl
 | cell=>exact .inr (.inl rfl)
 | free=>exact .inr (.inr rfl)
 | _=>exact a8 h
theorem zDB :∀ {i:Nat},aix ks x=some i->∃ k,ks[i]?=some (x,k)/\(k=.local∨k=.cell∨k=.free):=by
 induction ks with
 | nil=>exact λ e=>nn e
 | cons p r ih =>
  intro i e
  have e:(if (p.1==x&&Xv p.2)=true then some 0 else (aix r x).map (· + 1))=some i:=e
  by_cases h:(p.1==x&&Xv p.2)=true
  ·rw [if_pos h] at e
   obtain rfl:=so e
   refine Ea ((bG ..).mp h) λ h1 h2=>?_
   exact ⟨p.2,congrArg some (kA (eq_of_beq h1) rfl),zFh h2⟩
  ·rw [if_neg h] at e
   refine Eea (bP.mp e) λ j hj q=>?_
   refine rwS q ?_;exact ih hj
section
variable {C:Cx}{T:Tabs}{F:Fm}{s s' sC:ak}{φ j' sK:ai->Prop}{μ sz sH:List ai}{ρ sB sP:Rho}{σ σ' sR:zA}{A:aM}{n:Nat}{B:ai}
theorem OptV.of_eq {h:aP}{o:Option ag}{d:Option (Option D)}(p:OptV h φ μ o d)(k:∀ a,φ a->h'.get? a=h.get? a):OptV h' φ μ o d :=
 p.mono (λ a f=>⟨f,k a f⟩) λ _ _ e=>e
theorem Yc {ρ:Rho}(hi:i<ρ.length):(ρ.set i (some d))[j]?=if i=j then some (some d) else ρ[j]?:=by
 by_cases h:i=j
 ·subst h;(erw [if_pos rfl];erw [fJ hi];rfl)
 ·(erw [if_neg h];erw [dC h];rfl)
theorem qP {Q:Unit->ak->Prop}{k:aS}(R:Rel C T s.heap φ μ σ)(I:FrI F s.heap φ μ ρ)(V:VD s.heap φ μ v d)(hi:F.ks[i]?=some (x,k))(hk:k=.local∨k=.cell)
  (q:∀ s',Go C T F s φ μ s' φ μ (ρ.set i (some d)) σ->Q () s'):wpAny (model C.prog C.w) A (fN F.env x v) Q NoE s:=by
 have hlen:i<ρ.length:=by erw [I.len];exact (aq.mp hi).1
 refine wpAny_bindName ?_
 rcases hk with rfl | rfl
 ·refine Eea (I.loc) λ m hn hm=>?_
  have hx:=(hm i x hi).1
  refine wpAny_storeName_local hx hn (λ h' DE hs=>?_) (by erw [I.kind];rfl)
  obtain ⟨o',tV⟩:∃ o,h'.get? F.env.locals=some o:=by (refine Eeeea (DE) λ o _ _ e _=>?_;try clear DE);exact ⟨o,e⟩
  refine Ea (R.but I.Lμ I.Lφ hs tV) λ R' X=>?_
  have D5:∀ a,φ a->h'.get? a=s.heap.get? a:=λ a f=>(X.frz a f).2
  refine q _ ⟨⟨h',_,rfl⟩,R',⟨I.kind,I.glob,I.blt,by erw [fq];exact I.len,⟨_,DE,λ j y hj=>⟨(hm j y hj).1,?_⟩⟩,λ j y kk hj EH=>?_,I.uniq,I.Lμ,I.Lφ,λ y c hc=>?_,I.cinj,λ c hc=>let ⟨o,ho⟩:=I.own c hc;X.ex c o ho,I.outsK λ v L o hv hf h1 h2 h3 _ h4=>⟨⟨o,(hs.2 L h4).trans h1,rfl⟩,h2,h3⟩⟩,?_⟩
  ·erw [Yc hlen]
   by_cases e:i=j
   ·subst e
    rw [hi] at hj;cases hj
    (erw [if_pos rfl];erw [if_pos rfl])
    exact .is (X.vd V)
   ·(erw [if_neg e];erw [if_neg (λ e':y=x=>e (I.uniq i j x _ _ hi (e'▸hj) (.inl rfl) (.inl rfl)))])
    exact (hm j y hj).2.of_eq D5
  ·(refine Ea (I.cell j y kk hj EH) λ h1 tF=>?_;refine Eeeaaa tF λ c v' t6 x7 Bp Bh=>?_)
   have tj:=(I.cμ y c t6).2.2.2
   refine ⟨h1,c,v',t6,?_,?_,Bh⟩
   ·(refine Eea (x7) λ o ho hd=>?_;try clear x7);exact ⟨o,(hs.2 c tj).trans ho,hd⟩
   ·(erw [Yc hlen];rewrite [if_neg])
    ·exact Bp.of_eq D5
    ·intro e
     subst e
     rw [hi] at hj;cases hj
     rcases EH with h | h <;> cases h
  ·(refine qJ (I.cμ y c hc) λ AO=>?_;(refine Ee (AO) λ o h0=>?_;try clear AO);intro h1 h2 h3)
   exact ⟨X.ex c o h0,h1,h2,h3⟩
  ·exact (X.wider λ b o m _=>by rw [av] at m;erw [m];exact di).slack
 ·(refine Ea (I.cell i x _ hi (.inl rfl)) λ hx Ae=>?_;refine Eeeaaa Ae λ c v' t6 x7 _ tg=>?_)
  have hx:=hx.resolve_right (λ h=>by cases h.1)
  refine wpAny_storeName_cell I.kind hx t6 x7 λ h' x6 hs=>?_
  obtain ⟨o',tV⟩:∃ o,h'.get? c=some o:=by (refine Eea (x6) λ o e _=>?_;try clear x6);exact ⟨o,e⟩
  refine qJ (I.cμ x c t6) λ _ cm cf cL=>?_
  refine Ea (R.but cm cf hs tV) λ R' X=>?_
  have D5:∀ a,φ a->h'.get? a=s.heap.get? a:=λ a f=>(X.frz a f).2
  refine Eea (I.loc) λ m hn hm=>?_
  refine q _ ⟨⟨h',_,rfl⟩,R',⟨I.kind,I.glob,I.blt,by erw [fq];exact I.len,⟨m,?_,λ j y hj=>⟨(hm j y hj).1,?_⟩⟩,λ j y kk hj EH=>?_,I.uniq,I.Lμ,I.Lφ,λ y c' x6=>?_,I.cinj,λ c hc=>let ⟨o,ho⟩:=I.own c hc;X.ex c o ho,I.outsK λ v L o hv hf h1 h2 h4 h3 _=>⟨⟨o,(hs.2 L λ e=>h3 (e▸tg rfl)).trans h1,rfl⟩,h2,h4⟩⟩,?_⟩
  ·(refine Eeeea (hn) λ o es ep ho r=>?_;try clear hn);exact ⟨o,es,ep,(hs.2 _ (mQ cL)).trans ho,r⟩
  ·(erw [Yc hlen];rewrite [if_neg])
   ·exact (hm j y hj).2.of_eq D5
   ·intro e
    subst e
    rw [hi] at hj;cases hj
  ·(refine Ea (I.cell j y kk hj EH) λ h1 BD=>?_;refine Eeeaaa BD λ CY B8 BZ DK F1 E4=>?_)
   erw [Yc hlen]
   by_cases e:i=j
   ·subst e
    rw [hi] at hj;cases hj
    rw [t6] at BZ;(injection BZ with y6y0;subst y6y0)
    refine ⟨h1,c,_,t6,x6,?_,E4⟩
    erw [if_pos rfl]
    exact .is (X.vd V)
   ·erw [if_neg e]
    have tj:CY≠c:=λ h=>by
     subst h
     have:=I.cinj x y _ t6 BZ
     subst this
     exact e (I.uniq i j x _ _ hi hj (.inr (.inl rfl)) (by rcases EH with h | h;exact .inr (.inl h);exact .inr (.inr h)))
    refine ⟨h1,CY,B8,BZ,?_,F1.of_eq D5,E4⟩
    (refine Eea (DK) λ o ho hd=>?_;try clear DK);exact ⟨o,(hs.2 CY tj).trans ho,hd⟩
  ·(refine qJ (I.cμ y c' x6) λ Aj=>?_;(refine Ee (Aj) λ o h0=>?_;try clear Aj);intro h1 h2 h3)
   exact ⟨X.ex c' o h0,h1,h2,h3⟩
  ·exact (X.wider λ b o m _=>by rw [av] at m;erw [m];exact bU _ (tg rfl)).slack
end
mutual
noncomputable def trP (ks:List (aK×aS)):aH->Option Pt
 | .Name x _=>(bix ks x).bind λ i=>some (.nm i)
 | .Tuple es _ _=>(trPs ks es).bind λ ps=>some (.tup ps)
 | _=>none
noncomputable def trPs (ks:List (aK×aS)):List aH->Option (List Pt)
 | []=>some []
 | e::es=>(trP ks e).bind λ p=>(trPs ks es).bind λ ps=>some (p::ps)
end
section
variable {C:Cx}{T:Tabs}{F:Fm}{A:aM}{σ:zA}
theorem Xm {e:aH}{p:Pt}(h:trP ks e=some p):(∃ x pos i,e=.Name x pos/\bix ks x=some i/\p=.nm i)∨∃ es c pos ps,e=.Tuple es c pos/\trPs ks es=some ps/\p=.tup ps:=by
 cases e with
 | Name x pos=>refine Eea (ob h) λ i h1 h2=>?_;exact .inl ⟨x,pos,i,rfl,h1,(so h2).symm⟩
 | Tuple es c pos=>refine Eea (ob h) λ ps h1 h2=>?_;exact .inr ⟨es,c,pos,ps,rfl,h1,(so h2).symm⟩
 | _=>exact nn h
theorem Yq {e:aH}{p:Pt}(h:trP ks e=some p){rest:List aH}:assignEach (e::rest) env=(false,gv e env)::assignEach rest env:=by
 rcases Xm h with ⟨x,pos,i,rfl,_⟩ | ⟨es,c,pos,ps,rfl,_⟩ <;> rfl
theorem YN {e:aH}{es:List aH}{ps:List Pt}(h:trPs ks (e::es)=some ps):∃ p qs,trP ks e=some p/\trPs ks es=some qs/\ps=p::qs:=by
 refine Eea (ob h) λ p h1 h2=>?_
 refine Eea (ob h2) λ qs h3 h4=>?_
 exact ⟨p,qs,h1,h3,(so h4).symm⟩
theorem Ji :∀ {es:List aH} {ps:List Pt},trPs ks es=some ps->∀ env,(assignEach es env).length=ps.length/\(assignEach es env).findIdx? (·.1)=none
 | [],ps,h,env=>by obtain rfl:=so h;exact ⟨rfl,rfl⟩
 | e::es,ps,h,env=>by
  (refine Eeeaa (YN h) λ p qs hp hq GZ=>?_;obtain rfl:=GZ)
  refine Ea (Ji hq env) λ h1 h2=>?_
  erw [Yq hp]
  refine ⟨congrArg (· + 1) h1,?_⟩
  (erw [n6];erw [h2]);rfl
theorem ym:∀ {ps:List Pt} {xs:List ab} {ρ sB:Rho},bindPs ps xs ρ=some sB->ps.length=xs.length
 | [],[],_,_,_=>rfl
 | [],_::_,_,_,h=>nn h
 | _::_,[],_,_,h=>nn h
 | p::ps,x::xs,ρ,sB,h=>by
  refine Eea (ob h) λ _ _ h=>?_
  exact congrArg (· + 1) (ym h)
mutual
theorem uk (hA:A.handled=none):∀ (p:Pt) (e:aH) (x:ab) (ρ sB:Rho) (s:ak) (φ:ai->Prop) (μ:List ai) (v:ag),trP F.ks e=some p->Ze p x ρ=some sB->Rel C T s.heap φ μ σ->FrI F s.heap φ μ ρ->VP s.heap φ v x ->
  wpAny (model C.prog C.w) A (gv e F.env v) (λ _ s'=>Go C T F s φ μ s' φ μ sB σ) NoE s
 | .nm i,e,x,ρ,sB,s,φ,μ,v,ht,hb,R,I,V=>by
  rcases Xm ht with ⟨y,pos,j,rfl,hi,h⟩ | ⟨_,_,_,_,_,_,h⟩
  ·(injection h with y7y0;subst y7y0)
   obtain rfl:=so hb
   refine Eea (Qs hi) λ k h1 h2=>?_
   erw [ll]
   exact aa (bx (qP R I (.p V) h1 h2 λ s' G=>G))
  ·cases h
 | .tup ps,e,x,ρ,sB,s,φ,μ,v,ht,hb,R,I,V=>by
  rcases Xm ht with ⟨_,_,_,_,_,h⟩ | ⟨es,c,pos,qs,rfl,AN,h⟩
  ·cases h
  ·(injection h with y10y0;subst y10y0)
   refine Eea (ob hb) λ xs e1 hb=>?_
   obtain rfl:=jz e1
   refine V.mtup λ a vs f t r=>?_
   refine Ea (Ji AN F.env) λ h1 h2=>?_
   refine wpAny_assign_Tuple hA t.t (by (erw [h1];erw [ym hb];erw [aJ];erw [r.length];rfl)) h2 λ h' hs=>?_
   have kk:∀ b o,s.heap.get? b=some o->h'.get? b=some o:=λ b o e=>hs b o (aB (bb e)) e
   refine Ea (R.grow kk) λ R' X=>?_
   have G:=Go.of_ext (tk:=s.toks) I R' X
   exact au (asg_pts hA ps es xs ρ sB {s with heap:=h'} φ μ _ AN hb R' G.fr (X.vps r)) (λ _ s' G'=>G.trans G') λ _ _ e=>e
theorem asg_pts (hA:A.handled=none):∀ (ps:List Pt) (es:List aH) (xs:List ab) (ρ sB:Rho) (s:ak) (φ:ai->Prop) (μ:List ai) (vs:List ag),trPs F.ks es=some ps->bindPs ps xs ρ=some sB->Rel C T s.heap φ μ σ->FrI F s.heap φ μ ρ->VPs s.heap φ vs xs ->
  wpAny (model C.prog C.w) A (fj ((assignEach es F.env).map (·.2)) vs) (λ _ s'=>Go C T F s φ μ s' φ μ sB σ) NoE s
 | [],es,xs,ρ,sB,s,φ,μ,vs,ht,hb,R,I,V=>by
  cases es with
  | cons _ _=>refine Eeeaa (YN ht) λ _ _ _ _ h=>?_;cases h
  | nil=>cases xs with
   | cons _ _=>exact nn hb
   | nil =>
    cases V.inil
    obtain rfl:=so hb
    exact gY (Go.refl R I)
 | p::ps,es,xs,ρ,sB,s,φ,μ,vs,ht,hb,R,I,V=>by
  cases es with
  | nil=>cases so ht
  | cons e es =>
   refine Eeeaa (YN ht) λ _ _ hp hq h=>?_
   cases h
   cases xs with
   | nil=>exact nn hb
   | cons x xs =>
    refine V.mcons λ v ws p1 r=>?_
    refine Eea (ob hb) λ sP h1 hb=>?_
    erw [Yq hp]
    refine wpAny_assignInOrder_more (au (uk hA p e _ ρ sP s φ μ _ hp h1 R I p1) (λ _ sC G=>?_) λ _ _ e=>e)
    exact au (asg_pts hA ps es _ sP sB sC φ μ _ hq hb G.rel G.fr (G.ext.vps r)) (λ _ s' G'=>G.trans G') λ _ _ e=>e
end
end
def SAt (l:Bool)(h:aP)(a:ai)(vs:Array ag):Prop:=if l then h.IsList a vs else h.IsTuple a vs
def SIt (l:Bool)(h:aP)(I a:ai)(i:Nat):Prop:=if l then h.IsListIter I a i else h.IsTupleIter I a i
theorem SAt.extBut {l:Bool}{h:aP}{a b:ai}{vs:Array ag}(x:SAt l h a vs)(hs:fY b h h')(ne:a≠b):SAt l h' a vs:=by
 cases l
 ·exact sg x hs ne
 ·exact sh x hs ne
theorem SIt.extBut {l:Bool}{h:aP}{a b:ai}(x:SIt l h I a i)(hs:fY b h h')(ne:I≠b):SIt l h' I a i:=by
 cases l
 ·exact sj x hs ne
 ·exact sk x hs ne
theorem SIt.at {l:Bool}{h:aP}{a:ai}(x:SIt l h I a i)(k:∀ o,h.get? I=some o->h'.get? I=some o):SIt l h' I a i:=by
 cases l
 ·exact Heap.IsTupleIter.at x k
 ·exact Heap.IsListIter.at x k
theorem SAt.at {l:Bool}{h:aP}{a:ai}{vs:Array ag}(x:SAt l h a vs)(k:∀ o,h.get? a=some o->h'.get? a=some o):SAt l h' a vs:=by
 cases l
 ·exact Heap.IsTuple.at x k
 ·exact Heap.IsList.at x k
noncomputable def qE (zz:Bool):String:=@ib (λ _=>String) zz "tuple_iterator" "list_iterator"
theorem SIt.obj {l:Bool}{h:aP}{a:ai}(x:SIt l h I a i):∃ o,h.get? I=some o/\o.cls=.type (qE l)/\∃ vs,o.data=.fields vs:=by
 cases l
 ·(refine Eeaa (x) λ o ho hc hd=>?_;try clear x);exact ⟨o,ho,hc,_,hd⟩
 ·(refine Eeaa (x) λ o ho hc hd=>?_;try clear x);exact ⟨o,ho,hc,_,hd⟩
section
variable {prog:bR}{w:b4}{A:aM}{E:ag->ak->Prop}{s:ak}{l:Bool}{I a:ai}{i:Nat}{vs:Array ag}
theorem zBI {Q:ag->ak->Prop}(ht:SAt l s.heap a vs)(h:∀ h',SIt l h' s.heap.objs.size a 0->(∀ b o,s.heap.get? b=some o->h'.get? b=some o)->Q (.ref s.heap.objs.size) {s with heap:=h'}) :
  wpAny (model prog w) A (gS (.ref a)) Q E s:=by
 cases l
 ·exact dk ht (h _ ⟨_,aG _ rfl,rfl,rfl⟩ λ b o e=>am _ e)
 ·exact dA ht (h _ ⟨_,aG _ rfl,rfl,rfl⟩ λ b o e=>am _ e)
theorem vZ {Q:Option ag->ak->Prop}{x:ag}(hi:SIt l s.heap I a i)(ht:SAt l s.heap a vs)(hx:vs[i]?=some x)(h:∀ h',SIt l h' I a (i + 1)->cj I s.heap h'->Q (some x) {s with heap:=h'}) :
  wpAny (model prog w) A (fv (.ref I)) Q E s:=by
 cases l
 ·exact mc hi ht hx h
 ·exact wpAny_pyNext_list_item hi ht hx h
theorem zBY {Q:Option ag->ak->Prop}(hh:A.handled=none)(hi:SIt l s.heap I a i)(ht:SAt l s.heap a vs)(hx:vs[i]?=none)(h:∀ h',fY I s.heap h'->Q none {s with heap:=h'}) :
  wpAny (model prog w) A (fv (.ref I)) Q E s:=by
 cases l
 ·exact mO hh hi ht hx h
 ·exact wpAny_pyNext_list_end hh hi ht hx h
theorem VU {Q:ag->ak->Prop}(hi:SIt l s.heap I a i)(h:Q (.ref I) s):wpAny (model prog w) A (gS (.ref I)) Q E s:=by
 cases l
 ·exact wpAny_pyIter_tupleiter hi h
 ·exact wpAny_pyIter_listiter hi h
theorem wC {Q:ag->ak->Prop}{x:ag}(s7:s.heap.IsTupleIter I a i)(ht:s.heap.IsTuple a vs)(hx:vs[i]?=some x)(hQ:∀ h',h'.IsTupleIter I a (i + 1)->cj I s.heap h'->Q x {s with heap:=h'}) :
  wpAny (model prog w) A (bD (.ref I)) Q E s:=by
 refine Eeaa (id s7) λ o ho hc hd=>?_
 obtain ⟨ol,DA,_,nl,Cg⟩:=ht
 unfold bD
 refine aa (cP (name:=ae "__next__") s7.typeIs eP
  (bX eP s7.typeIs lz ?_ (lm _)))
 show wpAny _ _ (mh (.ref I) 0 >>= _) _ _ s
 refine aa (cX ho hd (x:=.ref a) rfl ?_)
 show wpAny _ _ (if (eY a==dH)=true then _ else _) _ _ s
 erw [if_neg (show ¬ ((eY a==dH)=true) from aT)]
 show wpAny _ _ (mh (.ref I) 1 >>= _) _ _ s
 refine aa (cX ho hd (x:=.int i 0) rfl ?_)
 show wpAny _ _ (oW (.ref a) >>= _) _ _ s
 refine aa (cN DA Cg ?_)
 simp only [bT,hx]
 refine aa (gn ho hd (by simp) (aj ⟨x,rfl,aj (hQ _ ?_ (cD ..))⟩))
 exact ⟨_,dv _ ho (iA (dX hd _)),(kB ..).trans hc,by rw [dX hd];simp [rawInt]⟩
theorem WM {Q:ag->ak->Prop}(hh:A.handled=none)(s7:s.heap.IsTupleIter I a i)(ht:s.heap.IsTuple a vs)(hx:vs[i]?=none)
  (hE:∀ h' e,fY I s.heap h'->(∃ o,h'.get? e=some o/\o.cls=.type "StopIteration")->E (.ref e) {s with heap:=h'}) :
  wpAny (model prog w) A (bD (.ref I)) Q E s:=by
 refine Eeaa (id s7) λ o ho hc hd=>?_
 obtain ⟨ol,DA,_,nl,Cg⟩:=ht
 unfold bD
 refine aa (cP (name:=ae "__next__") s7.typeIs eP
  (bX eP s7.typeIs lz ?_ (lm _)))
 show wpAny _ _ (mh (.ref I) 0 >>= _) _ _ s
 refine aa (cX ho hd (x:=.ref a) rfl ?_)
 show wpAny _ _ (if (eY a==dH)=true then _ else _) _ _ s
 erw [if_neg (show ¬ ((eY a==dH)=true) from aT)]
 show wpAny _ _ (mh (.ref I) 1 >>= _) _ _ s
 refine aa (cX ho hd (x:=.int i 0) rfl ?_)
 show wpAny _ _ (oW (.ref a) >>= _) _ _ s
 refine aa (cN DA Cg ?_)
 simp only [bT,hx]
 refine aa (fP (aa (gn ho hd (by simp) ?_)))
 show wpAny _ _ (pz (.type "StopIteration") [] >>= _) _ _ _
 refine aa ?_
 simp only [pz,pA]
 refine aa (cB ?_ (by size_fits))
 refine aa (m:=iG _ _) (gK (a:=dH) (by first | rfl | (simp only [iG];rfl)) ?_)
 refine cB ?_ (by size_fits)
 simp only [raiseNew]
 refine aa (pW ?_)
 first | refine rwE (show A.in1.handled=none from hh) ?_ | rw [hh]
 refine aa (aj (wpAny_throw ?_))
 exact hE _ _ (((cD ..).extBut.push _).push _) ⟨_,aG _ rfl,rfl⟩
theorem yd {Q:ag->ak->Prop}{x:ag}(hi:SIt l s.heap I a i)(ht:SAt l s.heap a vs)(hx:vs[i]?=some x)(h:∀ h',SIt l h' I a (i + 1)->cj I s.heap h'->Q x {s with heap:=h'}) :
  wpAny (model prog w) A (bD (.ref I)) Q E s:=by
 cases l
 ·exact wC hi ht hx h
 ·exact wpAny_nextOf_list_item hi ht hx h
theorem JZ {Q:ag->ak->Prop}(hh:A.handled=none)(hi:SIt l s.heap I a i)(ht:SAt l s.heap a vs)(hx:vs[i]?=none)(hE:∀ h' e,fY I s.heap h'->(∃ o,h'.get? e=some o/\o.cls=.type "StopIteration")->E (.ref e) {s with heap:=h'}) :
  wpAny (model prog w) A (bD (.ref I)) Q E s:=by
 cases l
 ·exact WM hh hi ht hx hE
 ·exact wpAny_nextOf_list_end hh hi ht hx hE
theorem jq {ta:aH}{v:ag}{n:String}{fs:Array ag}{Q:Unit->ak->Prop}(ho:s.heap.get? I=some o)(hc:o.cls=.type n)(hd:o.data=.fields fs)
  (hn:(["enumerate","zip","dict_itemiterator","dict_reverseitemiterator","odict_iterator","itertools.zip_longest","itertools.pairwise"].contains n)=false) (q:Q () s) :
  wpAny (model prog w) A (gc ta (.ref I) v) Q E s:=by
 have key:∀ a,wpAny (model prog w) A (do
   let o<-load I
   match o.cls,o.data with
   | .type n,.fields vs =>
    if ["enumerate","zip","dict_itemiterator","dict_reverseitemiterator","odict_iterator","itertools.zip_longest","itertools.pairwise"].contains n&&vs[0]?==some (rawInt a) then
     rule "for.unpacks-the-owned-tuple"
     updateField I 0 .none
   | _,_=>pure ():kS Unit) Q E s:=λ a=>by
  refine aa (wpAny_load ho ?_)
  (erw [hc];erw [hd])
  dsimp only
  (erw [hn];erw [pD];erw [if_neg (by decide)])
  exact aj q
 unfold gc
 cases ta <;> first | exact aj q | skip
 all_goals cases v <;> first | exact aj q | exact key _
end
structure ZSt (h:aP)(L:Nat)(l1 l2:ai)(a b:Bool)(f0:ag)(k:Nat):Prop where
 z:lO h (L + 4) (L + 2) (L + 3) f0
 ti:iM h (L + 2) (.ref L) (.ref (L + 1))
 to:∃ x y,iM h (L + 3) x y
 i1:SIt a h L l1 k
 i2:SIt b h (L + 1) l2 k
theorem ZSt.at {h:aP}{l1 l2:ai}{a:Bool}{f0:ag}(x:ZSt h L l1 l2 a b f0 k)(q:∀ (c:Nat) o,L<=c->c<=L + 4->h.get? c=some o->h'.get? c=some o):ZSt h' L l1 l2 a b f0 k:=by
 refine Eee (x.to) λ u v to=>?_
 exact ⟨q _ _ (aF _ _) (aQ _) x.z,q _ _ (aF _ _) (lin [_] [] (.a (.v 0) (.k 2)) (.a (.v 0) (.k 4)) [] tT9) x.ti,⟨u,v,q _ _ (aF _ _) (lin [_] [] (.a (.v 0) (.k 3)) (.a (.v 0) (.k 4)) [] tT9) to⟩,x.i1.at λ o e=>q _ _ (aQ _) (aF _ _) e,x.i2.at λ o e=>q _ _ (aF _ _) (lin [_] [] (.a (.v 0) (.k 1)) (.a (.v 0) (.k 4)) [] tT9) e⟩
noncomputable abbrev itO (n:String) (a:ai):fi:={cls:=.type n,data:=.fields #[.ref a,.int 0 0]}
noncomputable abbrev zH2 (h:aP) (o1 o2:fi):aP:=(h.push o1).push o2
noncomputable abbrev zH3 (h:aP) (o1 o2:fi):aP:=(zH2 h o1 o2).push {cls:=.type "tuple",data:=.seq #[.ref h.objs.size,.ref (h.push o1).objs.size]}
noncomputable abbrev zH4 (h:aP) (o1 o2:fi):aP:=(zH3 h o1 o2).push {cls:=.type "tuple",data:=.seq #[.none,.none]}
noncomputable abbrev zH5 (h:aP) (o1 o2:fi):aP:=(zH4 h o1 o2).push {cls:=.type "zip",data:=.fields #[.none,.bool false,.bool false,.ref (zH2 h o1 o2).objs.size,.ref (zH3 h o1 o2).objs.size]}
theorem UX (l1 l2:ai)(xs ys:Array ag) :
  Meets (cE.«zip.__new__» ⟨[.type "zip",.ref l1,.ref l2],[]⟩) (λ _ R s=>s.heap.IsTuple l1 xs/\s.heap.IsTuple l2 ys /\
   R (.ok (.ret (.ref (zH4 s.heap (itO "tuple_iterator" l1) (itO "tuple_iterator" l2)).objs.size))) {s with heap:=zH5 s.heap (itO "tuple_iterator" l1) (itO "tuple_iterator" l2)}) :=
 .of_wp λ prog w A R s h=>by
  obtain ⟨hp,g,d,tk,os⟩:=s;refine Eaa (h) λ t5 Am h=>?_
  have tU:=oE
  have C6:kH (fC ⟨hp,g,d,tk,os⟩) l1 xs:=t5
  have Dg:kH (fC ⟨hp.push {cls:=.type "tuple_iterator",data:=.fields #[.ref l1,.int 0 0]},g,d,tk,os⟩) l2 ys:=oF Am _
  wp_walk using dk C6,dk Dg
  exact ⟨_,rfl,h⟩
theorem ua (l1 l2:ai)(xs ys:Array ag) :
  Meets (cE.«zip.__new__» ⟨[.type "zip",.ref l1,.ref l2],[]⟩) (λ _ R s=>s.heap.IsTuple l1 xs/\s.heap.IsList l2 ys /\
   R (.ok (.ret (.ref (zH4 s.heap (itO "tuple_iterator" l1) (itO "list_iterator" l2)).objs.size))) {s with heap:=zH5 s.heap (itO "tuple_iterator" l1) (itO "list_iterator" l2)}) :=
 .of_wp λ prog w A R s h=>by
  obtain ⟨hp,g,d,tk,os⟩:=s;refine Eaa (h) λ t5 Am h=>?_
  have tU:=oE
  have C6:kH (fC ⟨hp,g,d,tk,os⟩) l1 xs:=t5
  have Dg:lb (fC ⟨hp.push {cls:=.type "tuple_iterator",data:=.fields #[.ref l1,.int 0 0]},g,d,tk,os⟩) l2 ys:=o5 Am _
  wp_walk using dk C6,dA Dg
  exact ⟨_,rfl,h⟩
theorem uW (l1 l2:ai)(xs ys:Array ag) :
  Meets (cE.«zip.__new__» ⟨[.type "zip",.ref l1,.ref l2],[]⟩) (λ _ R s=>s.heap.IsList l1 xs/\s.heap.IsTuple l2 ys /\
   R (.ok (.ret (.ref (zH4 s.heap (itO "list_iterator" l1) (itO "tuple_iterator" l2)).objs.size))) {s with heap:=zH5 s.heap (itO "list_iterator" l1) (itO "tuple_iterator" l2)}) :=
 .of_wp λ prog w A R s h=>by
  obtain ⟨hp,g,d,tk,os⟩:=s;refine Eaa (h) λ t5 Am h=>?_
  have tU:=oE
  have C6:lb (fC ⟨hp,g,d,tk,os⟩) l1 xs:=t5
  have Dg:kH (fC ⟨hp.push {cls:=.type "list_iterator",data:=.fields #[.ref l1,.int 0 0]},g,d,tk,os⟩) l2 ys:=oF Am _
  wp_walk using dA C6,dk Dg
  exact ⟨_,rfl,h⟩
theorem ur (l1 l2:ai)(xs ys:Array ag) :
  Meets (cE.«zip.__new__» ⟨[.type "zip",.ref l1,.ref l2],[]⟩) (λ _ R s=>s.heap.IsList l1 xs/\s.heap.IsList l2 ys /\
   R (.ok (.ret (.ref (zH4 s.heap (itO "list_iterator" l1) (itO "list_iterator" l2)).objs.size))) {s with heap:=zH5 s.heap (itO "list_iterator" l1) (itO "list_iterator" l2)}) :=
 .of_wp λ prog w A R s h=>by
  obtain ⟨hp,g,d,tk,os⟩:=s;refine Eaa (h) λ t5 Am h=>?_
  have tU:=oE
  have C6:lb (fC ⟨hp,g,d,tk,os⟩) l1 xs:=t5
  have Dg:lb (fC ⟨hp.push {cls:=.type "list_iterator",data:=.fields #[.ref l1,.int 0 0]},g,d,tk,os⟩) l2 ys:=o5 Am _
  wp_walk using dA C6,dA Dg
  exact ⟨_,rfl,h⟩
theorem zEk (h:aP)(a b:Bool)(l1 l2:ai):ZSt (zH5 h (itO (qE a) l1) (itO (qE b) l2)) h.objs.size l1 l2 a b .none 0/\(zH4 h (itO (qE a) l1) (itO (qE b) l2)).objs.size=h.objs.size + 4:=by
 generalize e1:itO (qE a) l1=o1
 generalize e2:itO (qE b) l2=o2
 have f1:o1.isFreed=false:=by refine rwS e1 ?_;rfl
 have f2:o2.isFreed=false:=by refine rwS e2 ?_;rfl
 have z1:(h.push o1).objs.size=h.objs.size + 1:=dR ..
 have z2:(zH2 h o1 o2).objs.size=h.objs.size + 2:=by (erw [dR];erw [z1];rfl)
 have z3:(zH3 h o1 o2).objs.size=h.objs.size + 3:=by (erw [dR];erw [z2];rfl)
 have z4:(zH4 h o1 o2).objs.size=h.objs.size + 4:=by (erw [dR];erw [z3];rfl)
 have g5:(zH5 h o1 o2).get? (zH4 h o1 o2).objs.size=some _:=aG _ rfl
 have g4:(zH5 h o1 o2).get? (zH3 h o1 o2).objs.size=some _:=am _ (aG _ rfl)
 have g3:(zH5 h o1 o2).get? (zH2 h o1 o2).objs.size=some _:=am _ (am _ (aG _ rfl))
 have g2:(zH5 h o1 o2).get? (h.push o1).objs.size=some o2:=am _ (am _ (am _ (aG _ f2)))
 have g1:(zH5 h o1 o2).get? h.objs.size=some o1:=am _ (am _ (am _ (am _ (aG _ f1))))
 rw [z2,z3,z4] at g5
 rw [z1,z2] at g3
 rw [z3] at g4
 rw [z1] at g2
 refine ⟨⟨g5,g3,⟨_,_,g4⟩,?_,?_⟩,z4⟩
 ·subst e1
  cases a
  ·exact ⟨_,g1,rfl,rfl⟩
  ·exact ⟨_,g1,rfl,rfl⟩
 ·subst e2
  cases b
  ·exact ⟨_,g2,rfl,rfl⟩
  ·exact ⟨_,g2,rfl,rfl⟩
theorem va (h:aP)(o1 o2:fi):∀ c o,h.get? c=some o->(zH5 h o1 o2).get? c=some o:=λ c o x =>
 am _ (am _ (am _ (am _ (am _ x))))
section
variable {prog:bR}{w:b4}{A:aM}{E:ag->ak->Prop}{s:ak}{a b:Bool}{l1 l2 L:Nat}{xs ys:Array ag}{k:Nat}
theorem zBD {Q:ag->ak->Prop}(t5:SAt a s.heap l1 xs)(Am:SAt b s.heap l2 ys)
  (h:∀ h',ZSt h' s.heap.objs.size l1 l2 a b .none 0->(∀ c o,s.heap.get? c=some o->h'.get? c=some o)->Q (.ref (s.heap.objs.size + 4)) {s with heap:=h'}) :
  wpAny (model prog w) A (call (.type "zip") [.ref l1,.ref l2]) Q E s:=by
 have go:∀ n m,n=qE a->m=qE b->({s with heap:=zH5 s.heap (itO n l1) (itO m l2)}:ak).TypeIs (.ref (zH4 s.heap (itO n l1) (itO m l2)).objs.size) "zip"/\Q (.ref (zH4 s.heap (itO n l1) (itO m l2)).objs.size) {s with heap:=zH5 s.heap (itO n l1) (itO m l2)}:=by
  rintro n m rfl rfl
  refine Ea (zEk s.heap a b l1 l2) λ z e=>?_
  erw [e]
  exact ⟨⟨_,z.z,rfl⟩,h _ z (va _ _ _)⟩
 cases a <;> cases b
 ·exact kI kJ (by decide) (hU _ _) (iu _ _) (λ obj=>f7 obj _ _) iv (UX l1 l2 xs ys) ⟨t5,Am,go _ _ rfl rfl⟩
 ·exact kI kJ (by decide) (hU _ _) (iu _ _) (λ obj=>f7 obj _ _) iv (ua l1 l2 xs ys) ⟨t5,Am,go _ _ rfl rfl⟩
 ·exact kI kJ (by decide) (hU _ _) (iu _ _) (λ obj=>f7 obj _ _) iv (uW l1 l2 xs ys) ⟨t5,Am,go _ _ rfl rfl⟩
 ·exact kI kJ (by decide) (hU _ _) (iu _ _) (λ obj=>f7 obj _ _) iv (ur l1 l2 xs ys) ⟨t5,Am,go _ _ rfl rfl⟩
theorem Vo {Q:Option ag->ak->Prop}{x y:ag}(Z:ZSt s.heap L l1 l2 a b .none k)(t5:SAt a s.heap l1 xs)(Am:SAt b s.heap l2 ys)(b1:l1<L)(b2:l2<L)(hx:xs[k]?=some x)(hy:ys[k]?=some y)
  (hQ:∀ h',ZSt h' L l1 l2 a b (rawInt s.heap.objs.size) (k + 1)->iM h' s.heap.objs.size x y->(∀ c o,c≠L + 4->c≠L + 3->c≠L->c≠L + 1->s.heap.get? c=some o->h'.get? c=some o)->Q (some (.ref s.heap.objs.size)) {s with heap:=h'}) :
  wpAny (model prog w) A (fv (.ref (L + 4))) Q E s:=by
 obtain ⟨hz,Fg,⟨u,v,FZ⟩,h1,h2⟩:=Z
 have ne:∀ {m n:Nat},m≠n->((m:ai)≠(n:ai)):=λ h=>h
 have hT:s.TypeIs (.ref (L + 4)) "zip":=⟨_,hz,rfl⟩
 unfold fv
 refine aa (i8 (cP (name:=ae "__next__") hT iw
  (bX iw hT o6 ?_ (oG _))))
 show wpAny _ _ (mh (.ref (L + 4)) 2 >>= _) _ _ _
 refine aa (cX hz rfl (x:=.bool false) rfl ?_)
 show wpAny _ _ (mh (.ref (L + 4)) 3 >>= _) _ _ _
 refine aa (cX hz rfl (x:=.ref (L + 2)) rfl ?_)
 refine aa (cN Fg rfl ?_)
 show wpAny _ _ (cY (.ref (L + 4)) >>= _) _ _ _
 refine aa ?_
 unfold cY
 refine aa (cX hz rfl (x:=.none) rfl (aj ?_))
 simp only [if_true]
 refine aa (fP ?_)
 refine aa (cX hz rfl (x:=.ref (L + 3)) rfl ?_)
 refine aa (ec hz (by simp) λ sS x5 tc=>?_)
 replace x5:lO sS (L + 4) (L + 2) (L + 3) .ellipsis:=x5
 refine aa ?_
 simp only [o7,pk,fu,lP]
 refine aa (aa (kb ?_))
 show wpAny _ _ (bD (.ref L) >>= _) _ _ _
 refine aa (yd (h1.extBut tc.extBut (ne (aB (lin [_] [] (.a (.v 0) (.k 1)) (.a (.v 0) (.k 4)) [] tT9)))) (t5.extBut tc.extBut (ne (aB (af b1 (aF _ _))))) hx λ Az Cw tt=>aj ?_)
 have Af:iM Az (L + 3) u v:=tt.extBut _ _ (ne (br (lin [_] [] (.a (.v 0) (.k 1)) (.a (.v 0) (.k 3)) [] tT9))) (tc.extBut _ _ (ne (aB (aU _))) FZ)
 refine aa (cN Af rfl ?_)
 refine aa (iN Af λ B4 Au tu=>?_)
 replace Au:iM B4 (L + 3) x v:=Au
 refine aa (nv (aj ?_))
 refine aa (aa (kb ?_))
 show wpAny _ _ (bD (.ref (L + 1)) >>= _) _ _ _
 refine aa (yd (((h2.extBut tc.extBut (ne (aB (lin [_] [] (.a (.a (.v 0) (.k 1)) (.k 1)) (.a (.v 0) (.k 4)) [] tT9)))).extBut tt.extBut (ne (br (aU _)))).extBut tu.extBut (ne (aB (lin [_] [] (.a (.a (.v 0) (.k 1)) (.k 1)) (.a (.v 0) (.k 3)) [] tT9))))
  (((Am.extBut tc.extBut (ne (aB (af b2 (aF _ _))))).extBut tt.extBut (ne (aB (b2)))).extBut tu.extBut (ne (aB (af b2 (aF _ _))))) hy λ C5 Eg t8=>aj ?_)
 have BG:iM C5 (L + 3) x v:=t8.extBut _ _ (ne (br (lin [_] [] (.a (.a (.v 0) (.k 1)) (.k 1)) (.a (.v 0) (.k 3)) [] tT9))) Au
 refine aa (cN BG rfl ?_)
 refine aa (iN BG λ tO As u8=>?_)
 replace As:iM tO (L + 3) x y:=As
 refine aa (nv (aj (aj ?_)))
 refine aa (cN As rfl ?_)
 refine aa (pG ?_)
 have sQ:tO.objs.size=s.heap.objs.size:=by (erw [u8.1];erw [t8.1];erw [tu.1];erw [tt.1];erw [tc.1];rfl)
 have Cp:lO tO (L + 4) (L + 2) (L + 3) .ellipsis:=u8.extBut _ _ (ne (br (aU _))) (t8.extBut _ _ (ne (br (lin [_] [] (.a (.a (.v 0) (.k 1)) (.k 1)) (.a (.v 0) (.k 4)) [] tT9))) (tu.extBut _ _ (ne (br (aU _))) (tt.extBut _ _ (ne (br (lin [_] [] (.a (.v 0) (.k 1)) (.a (.v 0) (.k 4)) [] tT9))) x5)))
 have Cn:∀ (c:Nat) o,c≠L + 4->c≠L + 3->c≠L->c≠L + 1->s.heap.get? c=some o->tO.get? c=some o:=λ c o c1 c2 c3 c4 e =>
  u8.extBut _ _ c2 (t8.extBut _ _ c4 (tu.extBut _ _ c2 (tt.extBut _ _ c3 (tc.extBut _ _ c1 e))))
 have D1:SIt a tO L l1 (k + 1):=((Cw.extBut tu.extBut (ne (aB (lin [_] [] (.a (.v 0) (.k 1)) (.a (.v 0) (.k 3)) [] tT9)))).extBut t8.extBut (ne (aB (aU _)))).extBut u8.extBut (ne (aB (lin [_] [] (.a (.v 0) (.k 1)) (.a (.v 0) (.k 3)) [] tT9)))
 have Er:SIt b tO (L + 1) l2 (k + 1):=Eg.extBut u8.extBut (ne (aB (lin [_] [] (.a (.a (.v 0) (.k 1)) (.k 1)) (.a (.v 0) (.k 3)) [] tT9)))
 have DP:L + 4<tO.objs.size:=bb Cp
 show wpAny _ _ (iZ (.ref (L + 4)) (.ref tO.objs.size) >>= _) _ _ _
 refine aa ?_
 unfold iZ
 have Eu:lO (tO.push {cls:=.type "tuple",data:=.seq #[x,y]}) (L + 4) (L + 2) (L + 3) .ellipsis:=am _ Cp
 refine aa (ec Eu (by simp) λ F9 BM Cy=>?_)
 replace BM:lO F9 (L + 4) (L + 2) (L + 3) (rawInt tO.objs.size):=BM
 refine ec BM (by simp) λ B1 A8 Cq=>?_
 replace A8:lO B1 (L + 4) (L + 2) (L + 3) (rawInt tO.objs.size):=A8
 have up:∀ (c:Nat) o,c≠L + 4->tO.get? c=some o->B1.get? c=some o:=λ c o c1 e=>Cq.extBut _ _ c1 (Cy.extBut _ _ c1 (am _ e))
 have CE:iM B1 tO.objs.size x y:=Cq.extBut _ _ (br DP) (Cy.extBut _ _ (br DP) (aG _ rfl))
 have Dc:iM tO (L + 2) (.ref L) (.ref (L + 1)):=Cn _ _ (aB (lin [_] [] (.a (.a (.v 0) (.k 2)) (.k 1)) (.a (.v 0) (.k 4)) [] tT9)) (aB (aU _)) (br (lin [_] [] (.a (.v 0) (.k 1)) (.a (.v 0) (.k 2)) [] tT9)) (br (aU _)) Fg
 rw [sQ] at A8 CE
 have fin:=hQ B1 ⟨A8,up _ _ (aB (lin [_] [] (.a (.a (.v 0) (.k 2)) (.k 1)) (.a (.v 0) (.k 4)) [] tT9)) Dc,⟨_,_,up _ _ (aB (aU _)) As⟩,D1.at λ o e=>up _ o (aB (lin [_] [] (.a (.v 0) (.k 1)) (.a (.v 0) (.k 4)) [] tT9)) e,Er.at λ o e=>up _ o (aB (lin [_] [] (.a (.a (.v 0) (.k 1)) (.k 1)) (.a (.v 0) (.k 4)) [] tT9)) e⟩ CE λ c o c1 c2 c3 c4 e=>up c o c1 (Cn c o c1 c2 c3 c4 e)
 rw [<- sQ] at fin
 exact aj ⟨_,rfl,aj fin⟩
theorem zBw {Q:Option ag->ak->Prop}(hh:A.handled=none)(Z:ZSt s.heap L l1 l2 a b .none k)(t5:SAt a s.heap l1 xs)(Am:SAt b s.heap l2 ys)(b1:l1<L)(b2:l2<L)(Bl:xs[k]?=none∨ys[k]?=none)
  (hQ:∀ h',(∀ c o,c≠L + 4->c≠L + 3->c≠L->c≠L + 1->s.heap.get? c=some o->h'.get? c=some o)->Q none {s with heap:=h'}):wpAny (model prog w) A (fv (.ref (L + 4))) Q E s:=by
 obtain ⟨hz,Fg,⟨u,v,FZ⟩,h1,h2⟩:=Z
 have ne:∀ {m n:Nat},m≠n->((m:ai)≠(n:ai)):=λ h=>h
 have hT:s.TypeIs (.ref (L + 4)) "zip":=⟨_,hz,rfl⟩
 have hE:∀ h' e,(∀ (c:Nat) o,c≠L + 4->c≠L + 3->c≠L->c≠L + 1->s.heap.get? c=some o->h'.get? c=some o)->(∃ o,h'.get? e=some o/\o.cls=.type "StopIteration") ->
   wpAny (model prog w) A (do if<-isInstance (.ref e) (.type "StopIteration") then pure none else throw (.ref e)) Q E {s with heap:=h'}:=λ h' e hk ⟨o,ho,hc⟩ =>
  aa (g8 (T:="StopIteration") (b:=true) ⟨o,ho,hc⟩ pB (aj (hQ _ hk)))
 unfold fv
 refine aa (i8 (cP (name:=ae "__next__") hT iw
  (bX iw hT o6 ?_ (oG _))))
 show wpAny _ _ (mh (.ref (L + 4)) 2 >>= _) _ _ _
 refine aa (cX hz rfl (x:=.bool false) rfl ?_)
 show wpAny _ _ (mh (.ref (L + 4)) 3 >>= _) _ _ _
 refine aa (cX hz rfl (x:=.ref (L + 2)) rfl ?_)
 refine aa (cN Fg rfl ?_)
 show wpAny _ _ (cY (.ref (L + 4)) >>= _) _ _ _
 refine aa ?_
 unfold cY
 refine aa (cX hz rfl (x:=.none) rfl (aj ?_))
 simp only [if_true]
 refine aa (fP ?_)
 refine aa (cX hz rfl (x:=.ref (L + 3)) rfl ?_)
 refine aa (ec hz (by simp) λ sS x5 tc=>?_)
 replace x5:lO sS (L + 4) (L + 2) (L + 3) .ellipsis:=x5
 refine aa ?_
 simp only [o7,pk,fu,lP]
 refine aa (aa (kb ?_))
 show wpAny _ _ (bD (.ref L) >>= _) _ _ _
 cases hx:xs[k]? with
 | none =>
  refine aa (JZ hh (h1.extBut tc.extBut (ne (aB (lin [_] [] (.a (.v 0) (.k 1)) (.a (.v 0) (.k 4)) [] tT9)))) (t5.extBut tc.extBut (ne (aB (af b1 (aF _ _))))) hx λ Az e tt he=>?_)
  (refine Eea (he) λ oe C1 D0=>?_;try clear he)
  have Cf:lO Az (L + 4) (L + 2) (L + 3) .ellipsis:=tt _ _ (ne (br (lin [_] [] (.a (.v 0) (.k 1)) (.a (.v 0) (.k 4)) [] tT9))) x5
  have GG:e≠L + 4:=λ x=>by subst x;rw [Cf] at C1;(injection C1 with y4y0;subst y4y0);simp at D0
  refine ec Cf (by simp) λ B4 _ tu=>hE B4 e (λ c o c1 _ c3 _ x=>tu.extBut _ _ c1 (tt _ _ c3 (tc.extBut _ _ c1 x))) ⟨oe,tu.extBut _ _ GG C1,D0⟩
 | some x =>
  have hy:ys[k]?=none:=by rcases Bl with h | h;rw [hx] at h;cases h;exact h
  refine aa (yd (h1.extBut tc.extBut (ne (aB (lin [_] [] (.a (.v 0) (.k 1)) (.a (.v 0) (.k 4)) [] tT9)))) (t5.extBut tc.extBut (ne (aB (af b1 (aF _ _))))) hx λ Az Cw tt=>aj ?_)
  have Af:iM Az (L + 3) u v:=tt.extBut _ _ (ne (br (lin [_] [] (.a (.v 0) (.k 1)) (.a (.v 0) (.k 3)) [] tT9))) (tc.extBut _ _ (ne (aB (aU _))) FZ)
  refine aa (cN Af rfl ?_)
  refine aa (iN Af λ B4 Au tu=>?_)
  refine aa (nv (aj ?_))
  refine aa (aa (kb ?_))
  show wpAny _ _ (bD (.ref (L + 1)) >>= _) _ _ _
  refine aa (JZ hh (((h2.extBut tc.extBut (ne (aB (lin [_] [] (.a (.a (.v 0) (.k 1)) (.k 1)) (.a (.v 0) (.k 4)) [] tT9)))).extBut tt.extBut (ne (br (aU _)))).extBut tu.extBut (ne (aB (lin [_] [] (.a (.a (.v 0) (.k 1)) (.k 1)) (.a (.v 0) (.k 3)) [] tT9))))
   (((Am.extBut tc.extBut (ne (aB (af b2 (aF _ _))))).extBut tt.extBut (ne (aB (b2)))).extBut tu.extBut (ne (aB (af b2 (aF _ _))))) hy λ C5 e t8 he=>?_)
  (refine Eea (he) λ oe C1 D0=>?_;try clear he)
  have CC:lO C5 (L + 4) (L + 2) (L + 3) .ellipsis:=t8 _ _ (ne (br (lin [_] [] (.a (.a (.v 0) (.k 1)) (.k 1)) (.a (.v 0) (.k 4)) [] tT9))) (tu.extBut _ _ (ne (br (aU _))) (tt.extBut _ _ (ne (br (lin [_] [] (.a (.v 0) (.k 1)) (.a (.v 0) (.k 4)) [] tT9))) x5))
  have GG:e≠L + 4:=λ x=>by subst x;rw [CC] at C1;(injection C1 with y6y0;subst y6y0);simp at D0
  refine ec CC (by simp) λ tO _ u8=>hE tO e (λ c o c1 c2 c3 c4 x=>u8.extBut _ _ c1 (t8 _ _ c4 (tu.extBut _ _ c2 (tt.extBut _ _ c3 (tc.extBut _ _ c1 x))))) ⟨oe,u8.extBut _ _ GG C1,D0⟩
theorem zDb {elts:List aH}{x1:Nat}{pos:dM}{T:ai}{Q:Unit->ak->Prop}(Z:ZSt s.heap L l1 l2 a b (rawInt T) k)(hQ:∀ h',ZSt h' L l1 l2 a b .none k->cj (L + 4) s.heap h'->Q () {s with heap:=h'}) :
  wpAny (model prog w) A (gc (.Tuple elts x1 pos) (.ref (L + 4)) (.ref T)) Q E s:=by
 have ne:∀ {m n:Nat},m≠n->((m:ai)≠(n:ai)):=λ h=>h
 refine wpAny_letOwnedTupleGo_zip Z.z λ h' Kl AK=>hQ h' ⟨Kl,AK.extBut _ _ (ne (aB (lin [_] [] (.a (.a (.v 0) (.k 2)) (.k 1)) (.a (.v 0) (.k 4)) [] tT9))) Z.ti,?_,Z.i1.extBut AK.extBut (ne (aB (lin [_] [] (.a (.v 0) (.k 1)) (.a (.v 0) (.k 4)) [] tT9))),Z.i2.extBut AK.extBut (ne (aB (lin [_] [] (.a (.a (.v 0) (.k 1)) (.k 1)) (.a (.v 0) (.k 4)) [] tT9)))⟩ AK
 refine Eee (Z.to) λ u v e=>?_
 exact ⟨u,v,AK.extBut _ _ (ne (aB (aU _))) e⟩
end
section
variable {C:Cx}{T:Tabs}{F:Fm}{s s' sC:ak}{φ j' sK:ai->Prop}{μ sz sH:List ai}{ρ sB sP:Rho}{σ σ' sR:zA}{A:aM}{h h':aP}{own:List ai}
structure Lone (h:aP)(φ:ai->Prop)(μ:List ai)(own:List ai):Prop where
 nm:∀ b,b∈own->b∉μ
 nf:∀ b,b∈own->¬ φ b
 at_:∀ b,b∈own->∃ o,h.get? b=some o
theorem Rel.butL (R:Rel C T h φ μ σ)(nm:∀ b,b∈own->b∉μ)(nf:∀ b,b∈own->¬ φ b)(k:∀ c o,c∉own->h.get? c=some o->h'.get? c=some o)(ex:∀ b,b∈own->∃ o,h'.get? b=some o) :
  Rel C T h' φ μ σ/\Ext h φ μ h' φ μ own:=by
 have kf:∀ b,φ b->φ b/\h'.get? b=h.get? b:=λ b f=>⟨f,by refine Ee (R.frz b f) λ o e=>?_;erw [e];exact k b o (λ m=>nf b m f) e⟩
 have FK:∀ b o,h.get? b=some o->∃ o',h'.get? b=some o':=λ b o e=>by
  by_cases q:b∈own
  ·exact ex b q
  ·exact ⟨o,k b o q e⟩
 refine ⟨⟨λ b o e=>by erw [(kf b (R.base b o e)).2];exact R.keep b o e,R.base,λ b f=>let ⟨o,e⟩:=R.frz b f;FK b o e,R.len,R.nodup,λ j b e=>let ⟨o,e'⟩:=R.lt j b e;FK b o e',R.apart,λ j b mo e e'=>?_⟩,
  ⟨kf,λ _ f=>.inl f,λ _ _ e=>e,λ _ _ e=>.inl e,FK,λ b o e _ nw=>by erw [k b o nw e];exact Kept.refl _⟩⟩
 refine Ee (R.lt j b e) λ o eo=>?_
 exact Zr (R.at_ j b mo e e') kf (λ _ _ e=>e) (.inr ((k b o (λ m=>nm b m (aN.mpr ⟨j,e⟩)) eo).trans eo.symm))
theorem Lone.ext (N:Lone h φ μ own)(X:Ext h φ μ h' j' sz wr fr)(hw:∀ b,b∈own->b∉wr)(hf:∀ b,b∈own->b∉fr):Lone h' j' sz own/\∀ b,b∈own->h'.get? b=h.get? b:=by
 have e:∀ b,b∈own->h'.get? b=h.get? b:=λ b m=>by
  refine Ee (N.at_ b m) λ o ho=>?_
  erw [ho];exact (X.oth b o ho (N.nm b m) (hw b m)).exact (hf b m)
 refine ⟨⟨λ b m=>?_,λ b m=>?_,λ b m=>?_⟩,e⟩
 ·refine Ee (N.at_ b m) λ o ho=>?_;exact X.notin ho (N.nm b m)
 ·refine Ee (N.at_ b m) λ o ho=>?_;exact X.notfrz ho (N.nm b m) (N.nf b m)
 ·erw [e b m];exact N.at_ b m
structure Walk (C:Cx)(T:Tabs)(A:aM)(it:ag)(ta:aH)(own:List ai)(src:Option (Nat×List ab))(xs:List ab)(It:Nat->aP->Prop)(Sr:aP->(ai->Prop)->List ai->Prop):Prop where
 frame:∀ (k:Nat) (h h':aP),It k h->(∀ b,b∈own->h'.get? b=h.get? b)->It k h'
 live:∀ (k:Nat) (h:aP),It k h->∀ b,b∈own->∃ o,h.get? b=some o
 sr:∀ (h h':aP) (φ j':ai->Prop) (μ sz wr fr:List ai),Sr h φ μ->Ext h φ μ h' j' sz wr fr->Sr h' j' sz
 turn:∀ (k:Nat) (x:ab) (s:ak) (φ:ai->Prop) (μ:List ai) (σ:zA) (Q:ag->ak->Prop),xs[k]?=some x->It k s.heap->Rel C T s.heap φ μ σ->Sr s.heap φ μ->zU src σ True->Lone s.heap φ μ own ->
  (∀ v h' j' tk,Rel C T h' j' μ σ->Ext s.heap φ μ h' j' μ own->VP h' j' v x->It (k + 1) h'->Lone h' j' μ own->Q v {s with heap:=h',toks:=tk}) ->
  wpAny (model C.prog C.w) A (fv it) (λ r sC=>match r with | none=>False | some v=>wpAny (model C.prog C.w) A (gc ta it v) (λ _ sF=>Q v sF) NoE sC) NoE s
 done:∀ (s:ak) (φ:ai->Prop) (μ:List ai) (σ:zA) (Q:Option ag->ak->Prop),It xs.length s.heap->Rel C T s.heap φ μ σ->Sr s.heap φ μ->zU src σ True->Lone s.heap φ μ own ->
  (∀ h' tk,(∀ c o,c∉own->s.heap.get? c=some o->h'.get? c=some o)->Q none {s with heap:=h',toks:=tk})->wpAny (model C.prog C.w) A (fv it) Q NoE s
 self:∀ (k:Nat) (s:ak) (Q:ag->ak->Prop),It k s.heap->Q it s->wpAny (model C.prog C.w) A (gS it) Q NoE s
inductive Srt where
 | fz (l:Bool) (a:ai)
 | ob (i:Nat) (a:ai)
noncomputable def Srt.l:Srt->Bool
 | .fz l _=>l
 | .ob _ _=>true
noncomputable def Srt.a:Srt->ai
 | .fz _ a=>a
 | .ob _ a=>a
def Srt.ok (S:Srt)(xs:List ab)(h:aP)(φ:ai->Prop)(μ:List ai):Prop:=match S with
 | .fz l a=>φ a/\∃ vs:List ag,SAt l h a vs.toArray/\VPs h φ vs xs
 | .ob i a=>μ[i]?=some a
def Srt.stay (S:Srt)(xs:List ab)(σ:zA):Prop:=match S with
 | .fz _ _=>True
 | .ob i _=>σ[i]?=some (.lst xs)
theorem Srt.at_ {S:Srt}{xs:List ab}(R:Rel C T h φ μ σ)(o:S.ok xs h φ μ)(t:S.stay xs σ):∃ vs:List ag,SAt S.l h S.a vs.toArray/\VPs h φ vs xs:=by
 cases S with
 | fz l a=>exact o.2
 | ob i a =>
  refine Eeea (R.at_ i a _ o t) λ vs n ho hp=>?_
  exact ⟨vs,⟨_,ho,rfl,_,rfl⟩,hp⟩
theorem Srt.ext {S:Srt}{xs:List ab}(o:S.ok xs h φ μ)(X:Ext h φ μ h' j' sz wr fr):S.ok xs h' j' sz:=by
 cases S with
 | fz l a =>
  (refine Ea (o) λ f tF=>?_;try clear o;refine Eea tF λ vs h1 h2=>?_)
  exact ⟨(X.frz a f).1,vs,h1.at λ o e=>(X.frz a f).2.trans e,X.vps h2⟩
 | ob i a=>exact X.pre i a o
theorem wf (R:Rel C T h φ μ σ){xs:List ab}(V:VD h φ μ v d)(e:zy σ d=some xs):∃ S:Srt,v=.ref S.a/\S.ok xs h φ μ/\S.stay xs σ/\(∀ i,d=.obj i->S=.ob i S.a)/\((∀ i,d≠.obj i)->∃ l,S=.fz l S.a):=by
 cases d with
 | p x =>
  obtain ⟨a,vs,rfl,f,r,⟨_,ht⟩ | ⟨_,ht⟩⟩:=QN V.ip e
  ·exact ⟨.fz false a,rfl,⟨f,_,ht.t,r⟩,trivial,λ i h=>(nomatch h),λ _=>⟨_,rfl⟩⟩
  ·exact ⟨.fz true a,rfl,⟨f,_,ht,r⟩,trivial,λ i h=>(nomatch h),λ _=>⟨_,rfl⟩⟩
 | obj i =>
  refine V.mobj λ a ha=>?_
  exact ⟨.ob i a,rfl,ha,QT e,λ j h=>by (injection h with y1y0;subst y1y0);rfl,λ h=>absurd rfl (h _)⟩
 | _=>exact nn e
theorem Wc {I:ai}{ta:aH}{S:Srt}{xs:List ab}(hA:A.handled=none)(hs:∀ σ,zU src σ True->S.stay xs σ) :
  Walk C T A (.ref I) ta [I] src xs (λ k h=>SIt S.l h I S.a k) (λ h φ μ=>S.ok xs h φ μ):=by
 have Cv:∀ (k:Nat) (h:aP),SIt S.l h I S.a k->∃ o,h.get? I=some o:=λ k h x=>by
  refine Eeaa (x.obj) λ o ho hc _=>?_
  exact ⟨o,ho⟩
 refine ⟨λ k h h' x e=>x.at λ o q=>(e I (by simp)).trans q,λ k h x b m=>by rw [av] at m;erw [m];exact Cv k h x,λ h h' φ j' μ sz wr fr o X=>Srt.ext o X,?_,?_,λ k s Q x q=>VU x q⟩
 ·intro k x s φ μ σ Q hx s7 R o st N hQ
  refine Eea (Srt.at_ R o (hs σ st)) λ vs h1 h2=>?_
  refine Eea (h2.get hx) λ v hv hp=>?_
  refine vZ s7 h1 (by simpa using hv) λ h' tZ AK=>?_
  (refine Eeaa (tZ.obj) λ o' tV x6 Ae=>?_;refine Ee Ae λ fs A6=>?_)
  refine jq tV x6 A6 (by cases S.l <;> decide) ?_
  obtain ⟨R',X⟩:=R.butL (h':=h') N.nm N.nf (λ c o m e=>AK.extBut c o (λ q=>m (by simp [q])) e) λ b m=>by rw [av] at m;erw [m];exact ⟨o',tV⟩
  refine hQ v h' φ s.toks R' X (X.vp hp) tZ ⟨N.nm,N.nf,λ b m=>by rw [av] at m;erw [m];exact Cv _ _ tZ⟩
 ·intro s φ μ σ Q s7 R o st N hQ
  refine Eea (Srt.at_ R o (hs σ st)) λ vs h1 h2=>?_
  have hl:=h2.length
  exact zBY hA s7 h1 (by simp [hl]) λ h' he=>hQ h' s.toks λ c o m e=>he c o (λ q=>m (by simp [q])) e
theorem Vq {I:ai}{ta:aH}{a:Int}{m:Nat}(hA:A.handled=none) :
  Walk C T A (.ref I) ta [I] none ((ia m).map λ (j:Nat)=>bH (a + j)) (λ k h=>iO h I (a + (k:Nat)) ((m:Int) - (k:Nat)) 1) (λ _ _ _=>True):=by
 have W:=Walks.range (prog:=C.prog) (w:=C.w) hA I a 1 m
 have Cv:∀ (k:Nat) (h:aP),iO h I (a + (k:Nat)) ((m:Int) - (k:Nat)) 1->∃ o,h.get? I=some o:=λ k h x=>⟨_,x⟩
 refine ⟨λ k h h' x e=>by unfold iO at x ⊢;erw [e I (by simp)];exact x,λ k h x b m=>by rw [av] at m;erw [m];exact Cv k h x,λ h h' φ j' μ sz wr fr o X=>trivial,?_,?_,λ k s Q x q=>?_⟩
 ·intro k x s φ μ σ Q hx s7 R o st N hQ
  rw [bt,bP] at hx
  (refine Eea (hx) λ j hj Ap=>?_;try clear hx;obtain rfl:=Ap)
  have HZ:k<m:=by have:=(aq.mp hj).1;simpa using this
  have IX:j=k:=by rw [List.getElem?_range HZ] at hj;(injection hj with y2y0;subst y2y0);rfl
  subst IX
  refine W.item j s _ _ HZ (by simpa using s7) λ v h' tk hv tn hk=>?_
  (refine Ee (hv) λ t AI=>?_;try clear hv;obtain rfl:=AI)
  have Bj:iO h' I (a + ((j + 1:Nat):Nat)) ((m:Int) - ((j + 1:Nat):Nat)) 1:=by simpa using tn
  refine jq Bj rfl rfl (by decide) ?_
  obtain ⟨R',X⟩:=R.butL (h':=h') N.nm N.nf (λ c o m e=>hk c o m e) λ b m=>by rw [av] at m;erw [m];exact ⟨_,Bj⟩
  refine hQ _ h' φ tk R' X (by simpa using VP.int _ _) Bj ⟨N.nm,N.nf,λ b m=>by rw [av] at m;erw [m];exact Cv _ _ Bj⟩
 ·intro s φ μ σ Q s7 R o st N hQ
  refine W.done s Q NoE (by simpa using s7) λ h' tk hk=>hQ h' tk hk
 ·exact W.self k s _ _ (by simpa using x) q
theorem vo (h1:L<=c)(h2:c<=L + 4):c∈[L,L + 1,L + 2,L + 3,L + 4] :=
 (az.mpr ⟨c - L,lF.mpr (fh h1 (kK h2)),Nat.add_sub_of_le h1⟩:c∈(ia 5).map (L + ·))
theorem vj {P:Nat->Prop}{a b d e:Nat}(ha:P a)(hb:P b)(hc:P c)(hd:P d)(he:P e)(x:Nat)(m:x∈[a,b,c,d,e]):P x :=
 eQ.mpr ⟨ha,eQ.mpr ⟨hb,eQ.mpr ⟨hc,eQ.mpr ⟨hd,eQ.mpr ⟨he,λ _ m=>absurd m bW⟩⟩⟩⟩⟩ x m
theorem vz {elts:List aH}{x1:Nat}{pos:dM}{S1 S2:Srt}{xs ys:List ab}(hA:A.handled=none)(hs:∀ σ,zU src σ True->S1.stay xs σ/\S2.stay ys σ)(b1:(show Nat from S1.a)<L)(b2:(show Nat from S2.a)<L) :
  Walk C T A (.ref (L + 4)) (.Tuple elts x1 pos) [L,L + 1,L + 2,L + 3,L + 4] src ((xs.zip ys).map λ p=>.tuple [p.1,p.2]) (λ k h=>ZSt h L S1.a S2.a S1.l S2.l .none k) (λ h φ μ=>S1.ok xs h φ μ/\S2.ok ys h φ μ):=by
 have Cv:∀ (k:Nat) (f0:ag) (h:aP),ZSt h L S1.a S2.a S1.l S2.l f0 k->∀ b,b∈[L,L + 1,L + 2,L + 3,L + 4]->∃ o,h.get? b=some o:=λ k f0 h x b m=>by
  exact vj (P:=λ b=>∃ o,h.get? b=some o) (Eeaa (x.i1.obj) λ o ho _ _=>⟨o,ho⟩) (Eeaa (x.i2.obj) λ o ho _ _=>⟨o,ho⟩) ⟨_,x.ti⟩ (Eee (x.to) λ _ _ e=>⟨_,e⟩) ⟨_,x.z⟩ b m
 have mem:∀ c:Nat,c∉[L,L + 1,L + 2,L + 3,L + 4]->c≠L + 4/\c≠L + 3/\c≠L/\c≠L + 1:=λ c m=>by
  exact ⟨λ e=>m (e▸.tail _ (.tail _ (.tail _ (.tail _ (.head _))))),λ e=>m (e▸.tail _ (.tail _ (.tail _ (.head _)))),λ e=>m (e▸.head _),λ e=>m (e▸.tail _ (.head _))⟩
 refine ⟨λ k h h' x e=>x.at λ c o h1 h2 q=>(e c ?_).trans q,λ k h x=>Cv k _ h x,λ h h' φ j' μ sz wr fr o X=>⟨Srt.ext o.1 X,Srt.ext o.2 X⟩,?_,?_,λ k s Q x q=>wpAny_pyIter_zip x.z q⟩
 ·exact vo h1 h2
 ·intro k x s φ μ σ Q hx s7 R o st N hQ
  refine Ea (hs σ st) λ GF Hf=>?_
  refine Eea (Srt.at_ R o.1 GF) λ vs h1 h2=>?_
  refine Eea (Srt.at_ R o.2 Hf) λ ws h3 h4=>?_
  rw [bt,bP] at hx
  (refine Eea (hx) λ AR=>?_;try clear hx;obtain ⟨Kc,Ku⟩:=AR;intro hz Dn;obtain rfl:=Dn)
  refine Ea (lU.mp hz) λ Ia Ig=>?_
  refine Eea (h2.get Ia) λ Ed Kx DH=>?_
  refine Eea (h4.get Ig) λ B8 F6 AL=>?_
  refine Vo s7 h1 h3 b1 b2 (by simpa using Kx) (by simpa using F6) λ h' Z' hP hk=>?_
  refine zDb Z' λ AJ HX Bg=>?_
  have sW:L + 4<s.heap.objs.size:=bb s7.z
  have keep:∀ c o,c∉[L,L + 1,L + 2,L + 3,L + 4]->s.heap.get? c=some o->AJ.get? c=some o:=λ c o m e=>by
   refine qJ (mem c m) λ c1 c2 c3 c4=>?_
   exact (Bg.2 c c1).trans (hk c o c1 c2 c3 c4 e)
  have CI:=Cv _ _ _ HX
  refine Ea (R.butL (h':=AJ) N.nm N.nf keep CI) λ R' X=>?_
  have hT:AJ.get? s.heap.objs.size=some {cls:=.type "tuple",data:=.seq #[Ed,B8]}:=(Bg.2 _ (br sW)).trans hP
  have Cm:s.heap.get? s.heap.objs.size=none:=zd _
  have He:s.heap.objs.size∉μ:=R.notin_none Cm
  have Ew:=R'.more hT He
  have CV:Ext s.heap φ μ AJ (λ a=>φ a∨a=s.heap.objs.size) μ [L,L + 1,L + 2,L + 3,L + 4]:=X.more Cm
  refine hQ (.ref s.heap.objs.size) AJ (λ a=>φ a∨a=s.heap.objs.size) s.toks Ew CV (.tup (vs:=[Ed,B8]) (.inr rfl) (Tup.new hT) (.cons (CV.vp DH) (.cons (CV.vp AL) .nil))) HX ⟨N.nm,λ b m f=>?_,CI⟩
  rcases f with f | rfl
  ·exact N.nf b m f
  ·refine Ee (N.at_ _ m) λ o ho=>?_
   rw [Cm] at ho;cases ho
 ·intro s φ μ σ Q s7 R o st N hQ
  refine Ea (hs σ st) λ GF Hf=>?_
  refine Eea (Srt.at_ R o.1 GF) λ vs h1 h2=>?_
  refine Eea (Srt.at_ R o.2 Hf) λ ws h3 h4=>?_
  have l1:=h2.length
  have l2:=h4.length
  refine zBw hA s7 h1 h3 b1 b2 ?_ λ h' hk=>hQ h' s.toks λ c o m e=>?_
  ·simp only [ah,List.length_zip,et,List.getElem?_eq_none_iff]
   lia
  ·refine qJ (mem c m) λ c1 c2 c3 c4=>?_
   exact hk c o c1 c2 c3 c4 e
end
section
variable {C:Cx}{T:Tabs}{F:Fm}{s s' sG sC:ak}{φ j' sI sK:ai->Prop}{μ sz sJ sH:List ai}{ρ sB tD sP:Rho}{σ σ' sR:zA}{A:aM}{h h':aP}{own:List ai}{n:Nat}
theorem zEj (I:FrI F sG.heap sI sJ tD)(hf:∀ b,b∈own->sG.heap.get? b=none):∀ b,b∈own->b∉F.env.locals::F.own:=λ b m=>I.ne_own (hf b m)
theorem Go.butL (I:FrI F sG.heap sI sJ tD)(G:Go C T F sG sI sJ s φ μ ρ σ)(hf:∀ b,b∈own->sG.heap.get? b=none)(R':Rel C T h' j' μ σ)(X:Ext s.heap φ μ h' j' μ own):Go C T F sG sI sJ {s with heap:=h',toks:=tk} j' μ ρ σ:=by
 refine G.mst λ hh AC=>?_
 refine ⟨⟨h',tk,rfl⟩,R',G.fr.ext X (λ m=>I.ne_locals (hf _ m) rfl) (λ y c hc m=>?_) (λ v L hv hl _ m=>I.ne_out (hf _ m) hv hl rfl),G.ext.step X λ b m=>.inl (hf b m)⟩
 obtain ⟨c',x6,e⟩:∃ c',F.env.cells.lookup y=some c'/\c'=c:=⟨c,hc,rfl⟩
 exact I.ne_cells (hf _ m) hc rfl
theorem Rel.endL (R:Rel C T s.heap φ μ σ)(nm:∀ b,b∈own->b∉μ)(nf:∀ b,b∈own->¬ φ b)(k:∀ c o,c∉own->s.heap.get? c=some o->h'.get? c=some o):(∀ b,φ b->φ b/\h'.get? b=s.heap.get? b)/\Rel C T h' φ μ σ:=by
 have kf:∀ b,φ b->φ b/\h'.get? b=s.heap.get? b:=λ b f=>⟨f,by refine Ee (R.frz b f) λ o e=>?_;refine rwE (show s.heap.get? b=some o from e) ?_;exact k b o (λ m=>nf b m f) e⟩
 have km:∀ (j:Nat) (b:ai),μ[j]?=some b->h'.get? b=s.heap.get? b:=λ j b e=>by
  refine Ee (R.lt j b e) λ o eo=>?_
  refine rwE (show s.heap.get? b=some o from eo) ?_;exact k b o (λ m=>nm b m (aN.mpr ⟨j,e⟩)) eo
 have R':Rel C T h' φ μ σ:=⟨λ b o e=>by erw [(kf b (R.base b o e)).2];exact R.keep b o e,R.base,λ b f=>by erw [(kf b f).2];exact R.frz b f,R.len,R.nodup,λ j b e=>by erw [km j b e];exact R.lt j b e,R.apart,
  λ j b mo e e'=>Zr (R.at_ j b mo e e') kf (λ _ _ e=>e) (.inr (km j b e))⟩
 exact ⟨kf,R'⟩
theorem Go.endL {tk:Nat}(I:FrI F sG.heap sI sJ tD)(G:Go C T F sG sI sJ s φ μ ρ σ)(hf:∀ b,b∈own->sG.heap.get? b=none)(nm:∀ b,b∈own->b∉μ)(nf:∀ b,b∈own->¬ φ b)(k:∀ c o,c∉own->s.heap.get? c=some o->h'.get? c=some o) :
  Go C T F sG sI sJ {s with heap:=h',toks:=tk} φ μ ρ σ:=by
 have R:=G.rel
 refine Ea (R.endL nm nf k) λ kf R'=>?_
 have old:∀ b o,sG.heap.get? b=some o->b∉own:=λ b o e m=>by rw [hf b m] at e;cases e
 have Ac:∀ b o,sG.heap.get? b=some o->∀ o',s.heap.get? b=some o'->h'.get? b=some o':=λ b o e o' e'=>k b o' (old b o e) e'
 refine ⟨(Eee G.st λ _ _ e9=>⟨h',tk,by rw [e9]⟩),R',?_,⟨λ a f=>⟨(G.ext.frz a f).1,(kf a (G.ext.frz a f).1).2.trans (G.ext.frz a f).2⟩,G.ext.new,G.ext.pre,G.ext.fresh,λ b o e=>?_,λ b o e nm nw=>?_⟩⟩
 ·refine Eea (G.fr.loc) λ m hn hm=>?_
  have hL:F.env.locals∉own:=λ m=>I.ne_locals (hf _ m) rfl
  refine ⟨G.fr.kind,G.fr.glob,G.fr.blt,G.fr.len,⟨m,?_,λ i y hi=>⟨(hm i y hi).1,(hm i y hi).2.mono kf λ _ _ e=>e⟩⟩,λ i y kk hi hk=>?_,G.fr.uniq,G.fr.Lμ,G.fr.Lφ,λ y c hc=>?_,G.fr.cinj,λ c hc=>?_,G.fr.outsK λ v L o hv hl h1 h2 h3 _ _=>⟨⟨o,k _ _ (λ m=>I.ne_out (hf _ m) hv hl rfl) h1,rfl⟩,h2,h3⟩⟩
  ·(refine Eeeea (hn) λ o es ep ho r=>?_;try clear hn);exact ⟨o,es,ep,k _ _ hL ho,r⟩
  ·(refine Ea (G.fr.cell i y kk hi hk) λ h1 tF=>?_;refine Eeeaaa tF λ c v t6 x7 Bp Bh=>?_)
   refine ⟨h1,c,v,t6,?_,Bp.mono kf λ _ _ e=>e,Bh⟩
   (refine Eea (x7) λ o ho hd=>?_;try clear x7)
   exact ⟨o,k _ _ (λ m=>I.ne_cells (hf _ m) t6 rfl) ho,hd⟩
  ·(refine qJ (G.fr.cμ y c hc) λ AH=>?_;(refine Ee (AH) λ o h0=>?_;try clear AH);intro h1 h2 h3)
   exact ⟨⟨o,k _ _ (λ m=>I.ne_cells (hf _ m) hc rfl) h0⟩,h1,h2,h3⟩
  ·refine Ee (G.fr.own c hc) λ o ho=>?_
   exact ⟨o,k _ _ (λ m=>I.ne_own (hf _ m) (bU _ hc)) ho⟩
 ·refine Ee (G.ext.ex b o e) λ o' e'=>?_
  exact ⟨o',Ac b o e o' e'⟩
 ·rcases G.ext.oth b o e nm nw with q | ⟨hc,sl,q⟩
  ·exact .inl (Ac b o e _ q)
  ·exact .inr ⟨hc,sl,Ac b o e _ q⟩
theorem qq {σ:zA}{K:Prop}(h:zU src σ K):zU src σ True/\K:=by
 cases src with
 | none=>exact ⟨trivial,h⟩
 | some p=>exact ⟨⟨h.1,trivial⟩,h.2⟩
noncomputable def zO (C:Cx)(T:Tabs)(n:Nat)(t:Pt)(body:List St)(src:Option (Nat×List ab))(Q:Fl->Rho->zA->Prop):ab->Rho×zA->(Rho×zA->Prop)->Prop :=
 λ x a K=>Is (Ze t x a.1) λ sB=>wpSs C T n body sB a.2 λ fl tC sA=>qt fl (λ d=>Q (.ret d) tC sA) (zU src sA (K (tC,sA)))
abbrev zAc (C:Cx) (T:Tabs) (n:Nat) (F:Fm) (sG:ak) (sI:ai->Prop) (sJ own:List ai) (It:Nat->aP->Prop) (Sr:aP->(ai->Prop)->List ai->Prop) (src:Option (Nat×List ab)) (t:Pt) (body:List St) (xs:List ab) (Q:Fl->Rho->zA->Prop) (m:Nat) (s:ak):Prop :=
 ∃ k φ μ ρ σ,m=xs.length - k/\k<=xs.length/\Go C T F sG sI sJ s φ μ ρ σ/\It k s.heap/\Lone s.heap φ μ own/\Sr s.heap φ μ/\zU src σ True/\zT (zO C T n t body src Q) (xs.drop k) (ρ,σ) λ a=>Q .next a.1 a.2
theorem Vm {it:ag}{ta:aH}{t:Pt}{Bx:List fE}{body:List St}{src:Option (Nat×List ab)}{xs:List ab}{It:Nat->aP->Prop}{Sr:aP->(ai->Prop)->List ai->Prop}{Q:Fl->Rho->zA->Prop}
  (W:Walk C T A it ta own src xs It Sr) (hA:A.handled=none) (ht:trP F.ks ta=some t) (hb:∀ ρ σ Q,wpSs C T n body ρ σ Q->DS C T F A (execs Bx F.env) ρ σ Q)
  (tM:FrI F sG.heap sI sJ tD) (hf:∀ b,b∈own->sG.heap.get? b=none) (G:Go C T F sG sI sJ s φ μ ρ σ) (s7:It 0 s.heap) (N:Lone s.heap φ μ own) (Ah:Sr s.heap φ μ) (tn:zU src σ True)
  (hw:zT (zO C T n t body src Q) xs (ρ,σ) λ a=>Q .next a.1 a.2) :
  ez (model C.prog C.w) A (.forLoop ta it Bx [] F.env) (λ r s'=>match r with | .ok f=>PS C T F sG sI sJ Q f s' | .error e=>cameBackBy (model C.prog C.w) A F.env NoE e s') s:=by
 refine codeAny_forLoop_any (zAc C T n F sG sI sJ own It Sr src t body xs Q)
  (λ m s hI=>?_) xs.length ⟨0,φ,μ,ρ,σ,rfl,bd _,G,s7,N,Ah,tn,by simpa using hw⟩
 clear G s7 N Ah tn hw
 refine Eee hI λ k φ hI=>?_
 refine Eeeea hI λ μ ρ σ hm hI=>?_
 refine zF6 hI λ hk G s7 N hI=>?_
 refine Eaa hI λ Ah tn hw=>?_
 erw [hm]
 clear hm
 by_cases sW:k<xs.length
 ·have hx:xs[k]?=some xs[k]:=ay sW
  rw [fe sW] at hw
  refine Eea (Is.h hw) λ sB Fj hw=>?_
  refine au (W.turn k xs[k] s φ μ σ (λ v BA=>wpAny (model C.prog C.w) A (gv ta F.env v) (λ _ sF=>wpAny (model C.prog C.w) A (execs Bx F.env) (λ f th=>match f with
    | .next | .cont=>∃ m,m<xs.length - k/\zAc C T n F sG sI sJ own It Sr src t body xs Q m th
    | .brk=>PS C T F sG sI sJ Q .next th
    | .ret v=>PS C T F sG sI sJ Q (.ret v) th) NoE sF) NoE BA) hx s7 G.rel Ah tn N λ v h' j' tk R' X V tZ N'=>?_) (λ r sC hr=>?_) λ _ _ e=>e.elim
  ·have G1:Go C T F sG sI sJ {s with heap:=h',toks:=tk} j' μ ρ σ:=Go.butL tM G hf R' X
   refine au (uk hA t ta xs[k] ρ sB _ j' μ v ht Fj G1.rel G1.fr V) (λ _ sF G2=>?_) λ _ _ e=>e
   have tj:=zEj tM hf
   have DC:∀ b,b∈own->b∉frL F.fs:=λ b m=>tM.ne_fr (hf b m)
   refine Ea (N'.ext G2.ext tj DC) λ N2 e2=>?_
   have B':=W.frame _ _ _ tZ e2
   have B2:=W.sr _ _ _ _ _ _ _ _ (W.sr _ _ _ _ _ _ _ _ Ah X) G2.ext
   refine au (hb sB σ _ hw sF j' μ G2.rel G2.fr) (λ f th hp=>?_) λ _ _ e=>e
   (refine Eeeeeeaa (hp) λ tG tI fl AB sD G3 Io hq=>?_;try clear hp)
   have B6:=(G1.trans G2).trans G3
   refine Ea (N2.ext G3.ext tj DC) λ N3 e3=>?_
   cases Io with
   | next =>
    refine Ea (qq hq) λ q1 q2=>?_
    exact ⟨xs.length - (k + 1),ge sW (aU k),k + 1,tG,tI,AB,sD,rfl,sW,B6,W.frame _ _ _ B' e3,N3,W.sr _ _ _ _ _ _ _ _ B2 G3.ext,q1,q2⟩
   | cont =>
    refine Ea (qq hq) λ q1 q2=>?_
    exact ⟨xs.length - (k + 1),ge sW (aU k),k + 1,tG,tI,AB,sD,rfl,sW,B6,W.frame _ _ _ B' e3,N3,W.sr _ _ _ _ _ _ _ _ B2 G3.ext,q1,q2⟩
   | ret V'=>exact psI B6 (.ret V') hq
  ·cases r with
   | none=>exact hr.elim
   | some v=>exact au hr (λ _ sF h2=>au h2 (λ _ th h3=>au h3 (λ f Ab h4=>h4) λ _ _ e=>e.elim) λ _ _ e=>e.elim) λ _ _ e=>e.elim
 ·have Dl:k=xs.length:=by exact dz (hk) ((bu sW))
  subst Dl
  rw [o8] at hw
  refine au (W.done s φ μ σ (λ r sC=>r=none/\Go C T F sG sI sJ sC φ μ ρ σ) s7 G.rel Ah tn N λ h' tk kk=>⟨rfl,Go.endL tM G hf N.nm N.nf kk⟩) (λ r sC ⟨hr,G1⟩=>?_) λ _ _ e=>e.elim
  subst hr
  exact lr (psI G1 .next hw)
end
section
variable {C:Cx}{T:Tabs}{F:Fm}{s s' sG sC:ak}{φ j' sI sK:ai->Prop}{μ sz sJ sH:List ai}{ρ sB tD sP:Rho}{σ σ' sR:zA}{A:aM}{h h':aP}{own:List ai}{n:Nat}
theorem FrI.weaken (I:FrI F h φ μ ρ)(hl:sB.length=ρ.length)(hw:∀ j,j<ρ.length->sB[j]?=some none∨sB[j]?=ρ[j]?):FrI F h φ μ sB:=by
 have w:∀ {j:Nat} {o:Option ag},j<ρ.length->OptV h φ μ o ρ[j]?->OptV h φ μ o sB[j]?:=λ {j o} hj p=>by
  rcases hw j hj with e | e
  ·erw [e];exact .no o
  ·erw [e];exact p
 refine Eea (I.loc) λ m hn hm=>?_
 refine ⟨I.kind,I.glob,I.blt,hl.trans I.len,⟨m,hn,λ i x hi=>⟨(hm i x hi).1,w ?_ (hm i x hi).2⟩⟩,λ i x k hi hk=>?_,I.uniq,I.Lμ,I.Lφ,I.cμ,I.cinj,I.own,I.outs⟩
 ·erw [I.len];exact (aq.mp hi).1
 ·(refine Ea (I.cell i x k hi hk) λ h1 tF=>?_;refine Eeeaaa tF λ c v t6 x7 Bp Bh=>?_)
  exact ⟨h1,c,v,t6,x7,w (by erw [I.len];exact (aq.mp hi).1) Bp,Bh⟩
theorem Lone.one {b:ai}(h1:b∉μ)(h2:¬ φ b)(h3:h.get? b=some o):Lone h φ μ [b] :=
 ⟨λ c m=>by rw [av] at m;erw [m];exact h1,λ c m=>by rw [av] at m;erw [m];exact h2,λ c m=>by rw [av] at m;erw [m];exact ⟨o,h3⟩⟩
noncomputable def DI (C:Cx)(T:Tabs)(F:Fm)(A:aM)(E8 ta:aH)(ρ:Rho)(σ:zA)(K:List ab->Option (Nat×List ab)->zA->Prop):Prop :=
 ∀ (s:ak) (φ:ai->Prop) (μ:List ai) (X:ag->ak->Prop),Rel C T s.heap φ μ σ->FrI F s.heap φ μ ρ ->
  (∀ it s' j' sz σ' own src xs It Sr,Go C T F s φ μ s' j' sz ρ σ'->Walk C T A it ta own src xs It Sr->It 0 s'.heap->Lone s'.heap j' sz own->(∀ b,b∈own->s.heap.get? b=none)->Sr s'.heap j' sz->zU src σ' True->K xs src σ'->X it s') ->
  wpAny (model C.prog C.w) A (eval E8 F.env) (λ x sC=>wpAny (model C.prog C.w) A (gS x) X NoE sC) NoE s
theorem UK {S:Srt}{xs:List ab}{ta:aH}{X:ag->ak->Prop}(hA:A.handled=none)(G:Go C T F s φ μ s' j' sz ρ σ')(o:S.ok xs s'.heap j' sz)(t:S.stay xs σ')(hs:∀ σ,zU src σ True->S.stay xs σ)(st:zU src σ' True)(q:K xs src σ')
  (hX:∀ it s' j' sz σ' own src xs It Sr,Go C T F s φ μ s' j' sz ρ σ'->Walk C T A it ta own src xs It Sr->It 0 s'.heap->Lone s'.heap j' sz own->(∀ b,b∈own->s.heap.get? b=none)->Sr s'.heap j' sz->zU src σ' True->K xs src σ'->X it s') :
  wpAny (model C.prog C.w) A (gS (.ref S.a)) X NoE s':=by
 refine Eea (Srt.at_ G.rel o t) λ vs h1 h2=>?_
 refine zBI h1 λ h' s7 hk=>?_
 refine Ea (G.rel.grow hk) λ R' X'=>?_
 have G':Go C T F s φ μ {s' with heap:=h'} j' sz ρ σ':=G.trans (Go.of_ext (tk:=s'.toks) G.fr R' X')
 have fr:=zd s'.heap
 refine Eeaa (s7.obj) λ o' tV _ A6=>?_
 refine hX _ _ j' sz σ' [s'.heap.objs.size] src xs _ _ G' (Wc hA hs) s7 (Lone.one (G.rel.notin_none fr) (G.rel.notfrz_none fr) tV) (λ b m=>?_) (Srt.ext o X') st q
 rw [av] at m;erw [m];exact G.ext.back fr
theorem Wh (a b:Int):mj a b 1=((b - a).toNat:Int):=by
 erw [rangeSize_one]
 split
 ·next h=>exact (dN (cg (Int.sub_pos_of_lt h))).symm
 ·next h=>exact (congrArg Int.ofNat (Int.toNat_of_nonpos (eI (dJ.mp h)))).symm
theorem Vh {E8:aH}(hA:A.handled=none)(hx:DX C T F A (eval E8 F.env) ρ σ λ d σ'=>zf σ' d λ xs i=>K xs i σ'):DI C T F A E8 ta ρ σ K:=by
 intro s φ μ X R I hX
 refine hx.seq R I λ s' j' sz v d σ' G V q=>?_
 cases d with
 | p x =>
  refine Eea (q.h) λ xs e q=>?_
  obtain ⟨a,vs,rfl,f,r,⟨_,ht⟩ | ⟨_,ht⟩⟩:=QN V.ip e
  ·exact UK (S:=.fz false _) (src:=none) hA G ⟨f,_,ht.t,r⟩ trivial (λ _ _=>trivial) trivial q hX
  ·exact UK (S:=.fz true _) (src:=none) hA G ⟨f,_,ht,r⟩ trivial (λ _ _=>trivial) trivial q hX
 | obj i =>
  refine Eea (q.h) λ xs e q=>?_
  refine V.mobj λ a ha=>?_
  exact UK (S:=.ob i a) (src:=some (i,xs)) hA G ha (QT e) (λ _ st=>st.1) ⟨QT e,trivial⟩ q hX
 | rng a b =>
  refine Ea (q) λ rg q=>?_
  refine V.mrng λ r t u w f ht=>?_
  refine wpAny_pyIter_range ht (small_one rg.h.1 rg.h.2.1 rg.h.2.2.1 rg.h.2.2.2) ?_
  have sQ:mj a b 1=((b - a).toNat:Int):=Wh a b
  erw [sQ]
  have g:=aG s'.heap (o:={cls:=.type "range_iterator",data:=.fields #[rawInt a,rawInt ((b - a).toNat:Int),rawInt 1]}) rfl
  have s7:iO (s'.heap.push {cls:=.type "range_iterator",data:=.fields #[rawInt a,rawInt ((b - a).toNat:Int),rawInt 1]}) s'.heap.objs.size (a + (0:Nat)) (((b - a).toNat:Int) - (0:Nat)) 1:=by
   (refine rwE (show a + ((0:Nat):Int)=a from b9 a) ?_;refine rwE (show ((b - a).toNat:Int) - ((0:Nat):Int)=_ from Int.sub_zero _) ?_);exact g
  refine Ea (G.rel.grow (h':=s'.heap.push {cls:=.type "range_iterator",data:=.fields #[rawInt a,rawInt ((b - a).toNat:Int),rawInt 1]}) λ _ _ e=>am _ e) λ R' X'=>?_
  have G':=G.trans (Go.of_ext (tk:=s'.toks) G.fr R' X')
  have fr:=zd s'.heap
  refine hX _ _ j' sz σ' [s'.heap.objs.size] none _ _ _ G' (Vq hA) s7 (Lone.one (G.rel.notin_none fr) (G.rel.notfrz_none fr) g) (λ b m=>?_) trivial trivial q
  rw [av] at m;erw [m];exact G.ext.back fr
 | zp _ _ _ _=>exact V.izp
 | _=>exact q.elim
end
section
variable {C:Cx}{T:Tabs}{F:Fm}{s s':ak}{φ j':ai->Prop}{μ sz:List ai}{ρ sB:Rho}{σ σ':zA}{A:aM}{n:Nat}
theorem Jm {A:aM}(hA:Room n A):A.in1.in1.units<cLine:=by
 show A.units + 1 + 1<cLine
 have:=hA.units;exact lin [_,_,_] [] (.a (.a (.a (.v 0) (.k 1)) (.k 1)) (.k 1)) (.v 1) [(1,.l (.a (.a (.a (.v 0) (.m 20 (.v 2))) (.k 400)) (.k 1)) (.v 1))] tT9 this
theorem XO {A:aM}(hA:Room n A):A.in1.units<cLine:=Nat.lt_of_succ_lt (Jm hA)
theorem wJ {Q:D->zA->Prop}{m:Bool}{l:List (Int×Bool)}(hA:Room n A)(R:Rel C T s.heap φ μ σ)(I:FrI F s.heap φ μ ρ)(V:VD s.heap φ μ v d)(e:zy σ d=some (l.map zG))(hb:BitsOk l)
  (q:Zn m ((zb l).map zG) σ Q):wpAny (model C.prog C.w) A (call (.builtin "sorted") [v]) (PV C T F s φ μ ρ Q) NoE s:=by
 refine Eeeaa (uK R V e) λ a vs e1 hs vp=>?_
 erw [e1]
 have hl:vs.length=l.length:=vp.length.trans (ah ..)
 have hz:vs.toArray.size<=cG:=by (erw [aJ];erw [hl];erw [cx]);have:=hb.few;exact lin [_] [] (.v 0) (.k 16777216) [(1,.l (.a (.v 0) (.k 1)) (.k 64))] tT9 this
 have key:∀ h',(∀ b o,s.heap.get? b=some o->h'.get? b=some o)->wpAny (model C.prog C.w) A.in1 (do let l<-newList vs;let _<-cO [l] (call (.builtin "list.sort") [l]);ret l) (λ fin s'=>∃ v,fin=.done (.ret v)/\PV C T F s φ μ ρ Q v s') NoE {s with heap:=h'}:=λ h' hk=>by
  refine aa (lX ?_ (by (erw [hl];erw [cx]);have:=hb.few;exact lin [_] [] (.v 0) (.k 16777216) [(1,.l (.a (.v 0) (.k 1)) (.k 64))] tT9 this))
  have Ba:(h'.push (seqObj "list" vs.toArray 0)).get? h'.objs.size=some (seqObj "list" vs.toArray 0):=aG _ rfl
  have up:∀ b o,s.heap.get? b=some o->(h'.push (seqObj "list" vs.toArray 0)).get? b=some o:=λ b o e=>am _ (hk b o e)
  have hV:VPs (h'.push (seqObj "list" vs.toArray 0)) φ vs (l.map zG):=vp.mono λ b fb=>⟨fb,Ee (R.frz b fb) λ o ho=>(up b o ho).trans ho.symm⟩
  refine aa (aO (bX iI ⟨_,Ba,rfl⟩ lj (Jk (φ:=φ) Ba hV (λ b fb=>Ee (R.frz b fb) λ o ho=>⟨aB (bb (hk b o ho)),o,up b o ho⟩) hb (Jm hA) λ out BJ=>⟨_,rfl,?_⟩) (lK _)))
  refine Ee (lY (vs:=vs) (out:=out.toArray) Ba) λ e he=>?_
  have hD:s.heap.get? h'.objs.size=none:=by
   cases q:s.heap.get? h'.objs.size with
   | none=>rfl
   | some o=>exact absurd (bb (hk _ _ q)) (gR _)
  refine aj ⟨_,rfl,Yk (tk:=s.toks) R I (λ b o q=>?_) hD he (BJ _ _ vp) q⟩
  have hb:=hk _ _ q
  have sW:=bb hb
  exact (lL (aB sW) (by erw [lM];exact dD sW)).trans (am _ hb)
 refine nM kind_sorted plain_sorted entry_sorted (args_sorted1 _) ?_
 unfold cE.«sorted»
 refine aa (m:=checkCount "sorted" 1 1 _) (aj ?_)
 rcases hs with ⟨o,ho,hc,k,hd⟩ | ⟨o,ho,hc,k,hd⟩
 ·exact aa (gL a (.inr rfl) ho hc hd (λ h' hk=>key h' hk) hz)
 ·exact aa (gL a (.inl rfl) ho hc hd (λ h' hk=>key h' hk) hz)
theorem VS {Q:D->zA->Prop}{a:ai}{l:List (Int×Bool)}(hA:Room n A)(R:Rel C T s.heap φ μ σ)(I:FrI F s.heap φ μ ρ)(ha:μ[i]?=some a)(hi:σ[i]?=some (.lst (l.map zG)))(hb:BitsOk l)
  (q:Q (.p .none) (σ.set i (.lst ((zb l).map zG)))):wpAny (model C.prog C.w) A (call (.builtin "list.sort") [.ref a]) (PV C T F s φ μ ρ Q) NoE s:=by
 refine Eeea (R.at_ i a _ ha hi) λ vs k ho hp=>?_
 have na:¬ φ a:=λ f=>by have:=R.apart i a ha f;rw [hi] at this;cases this
 refine bX iI ⟨_,ho,rfl⟩ lj (Jk (φ:=φ) ho hp (λ b fb=>⟨λ e=>na (e▸fb),R.frz b fb⟩) hb (XO hA) λ out BJ=>⟨_,rfl,?_⟩) (lK _)
 refine Ee (lY (vs:=vs) (out:=out.toArray) ho) λ e he=>?_
 refine Ea (R.updG (mo':=.lst ((zb l).map zG)) ha hi (λ h=>nomatch h) (λ b o hb e=>(lL hb (bb e)).trans e) ⟨_,he⟩ λ kk=>⟨out,e,he,(BJ _ _ hp).mono kk⟩) λ R' X=>?_
 exact pvI (Go.of_ext (tk:=s.toks) I R' X) (.p .none) q
theorem zCU {Q:D->zA->Prop}{xs:List ab}{l:List Int}(hA:Room n A)(R:Rel C T s.heap φ μ σ)(I:FrI F s.heap φ μ ρ)(V:VP s.heap φ v (.list xs))(e:ints? xs=some l)(h4:l.length<=4)
  (q:Q (.obj σ.length) (σ++[.iset (dd l)])):wpAny (model C.prog C.w) A (call (.type "set") [v]) (PV C T F s φ μ ρ Q) NoE s:=by
 refine Eeeaaa V.ilst λ a vs e1 f hl r=>?_
 erw [e1]
 refine vh hA.hd hl (Zz r e) h4 λ D h' tk hk hD hx=>?_
 obtain ⟨o,ep⟩:∃ o,h'.get? D=some o:=Ee hx.h λ o h=>⟨o,by (refine Eeeeea (h) λ _ _ _ _ ho _=>?_;try clear h);exact ho⟩
 have x:=R.newM hk hD o ep (.iset (dd l)) λ kk=>hx
 exact pvI (Go.of_ext I x.1 x.2.1) (.obj x.2.2) q
end
section
variable {C:Cx}{T:Tabs}{F:Fm}{s s' sG sC:ak}{φ j' sI sK:ai->Prop}{μ sz sJ sH:List ai}{ρ sB tD sP:Rho}{σ σ' sR:zA}{A:aM}{h h':aP}{own:List ai}{n:Nat}
theorem zBO {Q:D->zA->Prop}{a:ai}{xs:List ab}{t:Nat}(R:Rel C T s.heap φ μ σ)(I:FrI F s.heap φ μ ρ)(ha:μ[i]?=some a)(hi:σ[i]?=some (.lst xs))(ht:t<4)
  (q:Q (.p (.bool (aZ t 1))) σ):wpAny (model C.prog C.w) A (call (.builtin "isinstance") [.ref a,.type (tyS t)]) (PV C T F s φ μ ρ Q) NoE s:=by
 refine Eeea (R.at_ i a _ ha hi) λ vs n ho hp=>?_
 have hT:s.TypeIs (.ref a) "list":=⟨_,ho,rfl⟩
 revert q
 refine Y8 t ht (λ q=>?_) (λ q=>?_) (λ q=>?_) (λ q=>?_)
 ·exact bf (dw (by decide +kernel) gp pH) ⟨hT,zY R I (.p (.bool _)) q _⟩
 ·exact nN hT hM pZ (zr R I (.p (.bool _)) q)
 ·exact bf (dw (by decide +kernel) iJ sub_list_int) ⟨hT,zY R I (.p (.bool _)) q _⟩
 ·exact bf (dw (by decide +kernel) hO p4) ⟨hT,zY R I (.p (.bool _)) q _⟩
theorem We {b:Bi}(h:ut d=some b):d=.bi b:=by cases d with | bi j=>(erw [so h];rfl) | _=>exact nn h
theorem zAl {l:List Int}{K:Int->List Int->Prop}(h:hdL l K):∃ a r,l=a::r/\K a r:=by
 cases l with
 | nil=>exact h.elim
 | cons a r=>exact ⟨a,r,rfl,h⟩
theorem zFa {Q:D->zA->Prop}{b:Bi}(Y:C.Good)(hA:Room n A)(R:Rel C T s.heap φ μ σ)(I:FrI F s.heap φ μ ρ)(sZ:VDs s.heap φ μ vs ds)(h:Zj m b ds σ Q) :
  wpAny (model C.prog C.w) A (call (qu b) vs) (PV C T F s φ μ ρ Q) NoE s:=by
 cases b with
 | len=>refine qc sZ h λ v d V h=>?_;refine Eeaa (h.h) λ xs e hf q=>?_;exact zDN R I V e hf q
 | isinst =>
  refine zAs sZ h λ v w d e V W h1=>?_
  refine Eea (h1.h) λ t e1 h2=>?_
  refine Eea (ob e1) λ b e2 e3=>?_
  refine Ea (zDM e3) λ e4 ht=>?_
  obtain rfl:=We e2
  cases W.ibi
  clear e1 h h1
  show wpAny _ _ (call (.builtin "isinstance") [v,qu b]) _ _ _
  erw [e4]
  cases d with
  | p x=>refine Eea (Is.h h2) λ r e q=>?_;exact zEh R I V.ip ht e q
  | obj i=>refine Eea (Is.h h2) λ xs e q=>?_;refine V.mobj λ a ha=>?_;exact zBO R I ha (QT e) ht q
  | _=>exact h2.elim
 | abs=>refine qc sZ h λ v d V h=>?_;refine qC V h λ a t q=>?_;exact zE1 R I q
 | max =>
  rcases uJ sZ h with ⟨v,d,rfl,V,h⟩ | ⟨v,w,d,e,rfl,V,W,h⟩
  ·refine Eea (h.h) λ xs e h=>?_;refine Eea (h.h) λ l hl h=>?_;(refine Eeea (zAl h) λ a r AQ=>?_;obtain rfl:=AQ;intro q);exact zEo hA.hd R I V e hl q
  ·refine qC V h λ a t h=>?_;refine qC W h λ b u q=>?_;exact zC8 hA.hd R I q
 | min =>
  rcases uJ sZ h with ⟨v,d,rfl,V,h⟩ | ⟨v,w,d,e,rfl,V,W,h⟩
  ·refine Eea (h.h) λ xs e h=>?_;refine Eea (h.h) λ l hl h=>?_;(refine Eeea (zAl h) λ a r CQ=>?_;obtain rfl:=CQ;intro q);exact zDE hA.hd R I V e hl q
  ·refine qC V h λ a t h=>?_;refine qC W h λ b u q=>?_;exact zC2 hA.hd R I q
 | sum=>refine qc sZ h λ v d V h=>?_;refine Eea (h.h) λ xs e h=>?_;refine Eea (h.h) λ l hl q=>?_;exact zCH hA.hd R I V e hl q
 | tuple=>refine qc sZ h λ v d V h=>?_;refine Eeaa (h.h) λ xs e hf q=>?_;exact zA5 R I V e hf q
 | list=>refine qc sZ h λ v d V h=>?_;refine Eeaa (h.h) λ xs e hf q=>?_;exact zC0 R I V e hf q
 | sorted =>
  refine qc sZ h λ v d V h=>?_
  refine h.elim (λ h=>Eeaa (h.h) λ l e hf q=>WA hA R I V e hf q) λ h=>Eeaa h λ l e hb q=>wJ hA R I V e hb q
 | set=>refine qc sZ h λ v d V h=>?_;(refine Eeaa (zAD V h) λ xs Eh=>?_;obtain rfl:=Eh;intro V h);refine Eeaa (h.h) λ l e h4 q=>?_;exact zCU hA R I V e h4 q
 | dict=>refine qc sZ h λ v d V h=>?_;(refine Eeaa (js V h) λ xs Bu=>?_;obtain rfl:=Bu;intro V h);refine Eeaaa (h.h) λ es e nd hf q=>?_;exact zAV hA.hd (nt (Y.lim.keeps R.keep)) R I V e nd hf q
 | int =>
  refine qc sZ h λ v d V h=>?_
  refine Eeaa (yG V h) λ x _ V h=>?_
  refine Eea (h.h) λ a e q=>?_
  cases x with
  | int i=>obtain rfl:=so e;refine V.mint λ t=>?_;exact call_int_int (zr R I (.p (.int _ _)) q)
  | bool b=>cases V.ibool;refine call_int_bool (zY R I (.p (.int _ _)) ?_ _);cases b <;> (obtain rfl:=so e;exact q)
  | _=>exact nn e
 | range =>
  rcases uJ sZ h with ⟨v,d,rfl,V,h⟩ | ⟨v,w,d,e,rfl,V,W,h⟩
  ·refine qC V h λ b t q=>?_;exact wZ R I q
  ·refine qC V h λ a t h=>?_;refine qC W h λ b u q=>?_;exact vv R I q
 | _=>exact h.elim
noncomputable def jP (k:Nat):Option (String×aK×String):=match aZ k 0 with
 | true=>some ("list","append","list.append")
 | false=>gd (aZ k 3) (some ("list","sort","list.sort"))
noncomputable def jt (k:Nat):Option (String×aK×String):=match aZ k 1 with
 | true=>some ("dict","get","dict.get")
 | false=>gd (aZ k 2) (some ("dict","setdefault","dict.setdefault"))
noncomputable def JH:MO->Nat->Option (String×aK×String)
 | .lst _,k=>jP k
 | .idict _,k=>jt k
 | _,_=>none
theorem Ye (h:jP k=some r):(k=0/\r=(("list",("append":aK),"list.append"):String×aK×String))∨(k=3/\r=(("list",("sort":aK),"list.sort"):String×aK×String)):=by
 cases e:aZ k 0 with
 | true=>cases ZD e;exact .inl ⟨rfl,(so h).symm⟩
 | false =>
  have h:gd (aZ k 3) (some (("list",("sort":aK),"list.sort"):String×aK×String))=some r:=by unfold jP at h;rw [e] at h;exact h
  refine Ea (og h) λ h1 h2=>?_;exact .inr ⟨ZD h1,(so h2).symm⟩
theorem YU (h:jt k=some r):(k=1/\r=(("dict",("get":aK),"dict.get"):String×aK×String))∨(k=2/\r=(("dict",("setdefault":aK),"dict.setdefault"):String×aK×String)):=by
 cases e:aZ k 1 with
 | true=>cases ZD e;exact .inl ⟨rfl,(so h).symm⟩
 | false =>
  have h:gd (aZ k 2) (some (("dict",("setdefault":aK),"dict.setdefault"):String×aK×String))=some r:=by unfold jt at h;rw [e] at h;exact h
  refine Ea (og h) λ h1 h2=>?_;exact .inr ⟨ZD h1,(so h2).symm⟩
theorem zEA {Q:D->zA->Prop}{a:ai}(hA:Room n A)(R:Rel C T s.heap φ μ σ)(I:FrI F s.heap φ μ ρ)(ha:μ[i]?=some a)(hi:σ[i]?=some mo)(sZ:VDs s.heap φ μ vs ds)(AG:JH mo k=some (ty,nm,id))(h:yO i mo k ds σ Q) :
  wpAny (model C.prog C.w) A (call (.builtin id) (.ref a::vs)) (PV C T F s φ μ ρ Q) NoE s:=by
 cases mo with
 | lst xs =>
  rcases Ye AG with ⟨rfl,e⟩ | ⟨rfl,e⟩
  ·cases e
   refine qc sZ h λ v d V h=>?_
   refine Eeaaa (yG V h) λ x _ V hf q=>?_
   exact WP R I ha hi V hf q
  ·cases e
   refine Ea (show ds=[]/\_ from h) λ e1 h=>Eeaa h λ l e2 hb q=>?_
   rw [e1] at sZ;erw [sZ.inil];rw [e2] at hi
   exact VS hA R I ha hi hb q
 | idict es =>
  (refine Eeeeeaaaa (zAp sZ (J2 h).2) λ v w d e Ds=>?_;obtain rfl:=Ds;intro _ V W h)
  refine qC V h λ q t h=>?_
  rcases YU AG with ⟨rfl,e⟩ | ⟨rfl,e⟩
  ·cases e;exact zB9 R I ha hi W h
  ·cases e;exact Xf R I ha hi W h.1 h.2
 | _=>exact h.elim
theorem vN {Q:ag×List ag->ak->Prop}{E:ag->ak->Prop}{a:ai}{pl:kS Bool}(R:Rel C T s.heap φ μ σ)(ha:μ[i]?=some a)(hi:σ[i]?=some mo)(AG:JH mo k=some (ty,nm,id))(q:Q (.builtin id,[.ref a]) s) :
  wpAny (model C.prog C.w) A (oY (.ref a) nm pl) Q E s:=by
 cases mo with
 | lst xs =>
  refine Eeea (R.at_ i a _ ha hi) λ vs n ho hp=>?_
  rcases Ye AG with ⟨rfl,e⟩ | ⟨rfl,e⟩
  ·cases e;exact getMethod_list_append ho rfl rfl q
  ·cases e;exact getMethod_list_of iI PySem.F.type_list_sort (items:=vs.toArray) ⟨_,ho,rfl,_,rfl⟩ ⟨_,ho,rfl⟩ q
 | idict es =>
  (refine Ea (R.at_ i a _ ha hi) λ _ tF=>?_;refine Eea tF λ kvs hm _=>?_)
  rcases YU AG with ⟨rfl,e⟩ | ⟨rfl,e⟩
  ·cases e;exact oH hm.typeIs ml m0 PySem.F.type_dict_get hm.mapOf.noDict q
  ·cases e;exact oH hm.typeIs ml gb PySem.F.type_dict_setdefault hm.mapOf.noDict q
 | _=>exact nn AG
theorem yw {M:Model}{f:ag}{l:List (Bool×kS ag)}{Q:Args->ak->Prop}(hl:l.any (·.1)=false)(h:wpAny M A (spliced l) (λ vs s'=>Q ⟨vs,[]⟩ s') E s):wpAny M A (evalArgs f true l []) Q E s:=by
 cases l with
 | nil =>
  unfold evalArgs
  show wpAny M A (spliced [] >>= _) Q E s
  refine aa (au h (λ vs s' h'=>aa (aj ?_)) λ _ _ x=>x)
  refine aO ?_
  exact aa (aj (aa (aj (aj h'))))
 | cons x l =>
  obtain ⟨b,x⟩:=x
  simp only [cV,dE] at hl
  (refine Ea (hl) λ CN=>?_;try clear hl;obtain rfl:=CN;intro _)
  exact evalArgs_plain h
end
mutual
noncomputable def Z5:Pt->List Nat
 | .nm i=>[i]
 | .tup ps=>idxPs ps
noncomputable def idxPs:List Pt->List Nat
 | []=>[]
 | p::ps=>Z5 p++idxPs ps
end
mutual
theorem JS:∀ (p:Pt) (x:ab) (ρ sB:Rho),Ze p x ρ=some sB->sB.length=ρ.length/\∀ j,j∉Z5 p->sB[j]?=ρ[j]?
 | .nm i,x,ρ,sB,h=>by
  obtain rfl:=so h
  exact ⟨fq,λ j hj=>dC λ (e:i=j)=>hj (av.mpr e.symm)⟩
 | .tup ps,x,ρ,sB,h=>by
  refine Eea (ob h) λ xs _ h=>?_
  exact bindPs_off ps xs ρ sB h
theorem bindPs_off:∀ (ps:List Pt) (xs:List ab) (ρ sB:Rho),bindPs ps xs ρ=some sB->sB.length=ρ.length/\∀ j,j∉idxPs ps->sB[j]?=ρ[j]?
 | [],xs,ρ,sB,h=>by
  cases xs with
  | nil=>obtain rfl:=so h;exact ⟨rfl,λ _ _=>rfl⟩
  | cons _ _=>exact nn h
 | p::ps,xs,ρ,sB,h=>by
  cases xs with
  | nil=>exact nn h
  | cons x xs =>
   refine Eea (ob h) λ sP h1 h=>?_
   refine Ea (JS p x ρ sP h1) λ a1 a2=>?_
   refine Ea (bindPs_off ps xs sP sB h) λ b1 b2=>?_
   exact ⟨b1.trans a1,λ j hj=>(b2 j λ m=>hj (bj _ m)).trans (a2 j λ m=>hj (bO _ m))⟩
end
noncomputable def Z4:List Gn->List Nat
 | []=>[]
 | .mk t _ _::gs=>Z5 t++Z4 gs
def AccAt (h:aP)(φ:ai->Prop)(B:ai)(acc:List ab):Prop:=∃ (vs:List ag) (n:Nat),h.get? B=some (listOf vs.toArray n)/\VPs h φ vs acc
section
variable {C:Cx}{T:Tabs}{F:Fm}{s s' sG sC sF:ak}{φ j' sI sK s4:ai->Prop}{μ sz sJ sH s5:List ai}{ρ sB tD sP u9:Rho}{σ σ' sR sM:zA}{A:aM}{h h':aP}{own:List ai}{n:Nat}{B:ai}
structure GC (C:Cx)(T:Tabs)(F Fo:Fm)(tw:Rho)(wr:List ai)(B:ai)(s:ak)(φ:ai->Prop)(μ:List ai)(s':ak)(j':ai->Prop)(sz:List ai)(sB:Rho)(σ':zA)(acc:List ab):Prop where
 st:∃ h tk,s'={s with heap:=h,toks:=tk}
 rel:Rel C T s'.heap j' sz σ'
 fr:FrI F s'.heap j' sz sB
 ext:Ext s.heap φ μ s'.heap j' sz wr (frL Fo.fs)
 acc:AccAt s'.heap j' B acc
 nm:B∉sz
 nf:¬ j' B
 wL:F.env.locals∈wr
 wB:B∈wr
 wx:∀ b,b∈wr->∃ o,s'.heap.get? b=some o
 fo:FrI Fo s'.heap j' sz tw
 foL:∀ a,a=F.env.locals∨a=B->Fo.env.locals≠a/\(∀ y c,Fo.env.cells.lookup y=some c->c≠a)/\∀ v L,v∈Fo.fs->v.frame=some L->L≠a
 fs:F.fs=Fo.fs
theorem AccAt.ext {acc:List ab}(x:AccAt h φ B acc)(X:Ext h φ μ h' j' sz wr fr)(nm:B∉μ)(nw:B∉wr)(nf:B∉fr):AccAt h' j' B acc:=by
 (refine Eeea (x) λ vs n e p=>?_;try clear x)
 exact ⟨vs,n,(X.oth B _ e nm nw).exact nf,X.vps p⟩
theorem UU {CT:List ai}(w:∀ b,b∈wr->∃ o,h.get? b=some o)(X:Ext h φ μ h' j' sz CT fr):∀ b,b∈wr->∃ o,h'.get? b=some o:=λ b m=>let ⟨o,e⟩:=w b m;X.ex b o e
theorem GC.nfr {acc:List ab}(G:GC C T F Fo tw wr B s φ μ sC sK sH sP sR acc):B∉frL F.fs:=λ m=>by
 refine Eea (b6.mp m) λ v hv hL=>?_
 exact (G.foL _ (.inr rfl)).2.2 v B (G.fs▸hv) hL rfl
theorem GC.go {acc:List ab}(tg:F.own=[])(Al:B≠F.env.locals)(G:GC C T F Fo tw wr B s φ μ sC sK sH sP sR acc)(G':Go C T F sC sK sH sF s4 s5 u9 sM):GC C T F Fo tw wr B s φ μ sF s4 s5 u9 sM acc:=by
 (refine Eee (G'.st) λ h2 t2 Ct=>?_;obtain rfl:=Ct)
 refine Eeea (id G.acc) λ vs nn e p=>?_
 have nw:B∉F.env.locals::F.own:=by erw [tg];simpa using Al
 refine ⟨(Eee G.st λ _ t9 e9=>⟨h2,t2,by rw [e9]⟩),G'.rel,G'.fr,G.ext.trans ((G.fs▸G'.ext).wider λ b o m _=>?_),G.acc.ext G'.ext G.nm nw G.nfr,G'.ext.notin e G.nm,G'.ext.notfrz e G.nm G.nf,G.wL,G.wB,UU G.wx G'.ext,G.fo.ext G'.ext (by erw [tg];simpa using (G.foL _ (.inl rfl)).1) (λ y c e=>by erw [tg];simpa using (G.foL _ (.inl rfl)).2.1 y c e) (λ v L hv hl _=>by erw [tg];simpa using (G.foL _ (.inl rfl)).2.2 v L hv hl),G.foL,G.fs⟩
 rw [tg,av] at m
 erw [m];exact G.wL
theorem GC.weaken {acc:List ab}(G:GC C T F Fo tw wr B s φ μ sC sK sH sP sR acc)(hl:sB.length=sP.length)(hw:∀ j,j<sP.length->sB[j]?=some none∨sB[j]?=sP[j]?):GC C T F Fo tw wr B s φ μ sC sK sH sB sR acc :=
 ⟨G.st,G.rel,G.fr.weaken hl hw,G.ext,G.acc,G.nm,G.nf,G.wL,G.wB,G.wx,G.fo,G.foL,G.fs⟩
theorem GC.trans {acc s3:List ab}(G:GC C T F Fo tw wr B s φ μ sC sK sH sP sR acc)(G':GC C T F Fo tw wr B sC sK sH sF s4 s5 u9 sM s3):GC C T F Fo tw wr B s φ μ sF s4 s5 u9 sM s3:=by
 (refine Eee (G'.st) λ h2 t2 Bk=>?_;obtain rfl:=Bk)
 exact ⟨(Eee G.st λ _ t9 e9=>⟨h2,t2,by rw [e9]⟩),G'.rel,G'.fr,G.ext.trans G'.ext,G'.acc,G'.nm,G'.nf,G'.wL,G'.wB,G'.wx,G'.fo,G'.foL,G'.fs⟩
theorem GC.butL {acc:List ab}{tk:Nat}(hL:F.env.locals∉own)(hc:∀ y c,F.env.cells.lookup y=some c->c∉own)(hB:B∉own)(Ba:Fo.env.locals∉own)(D8:∀ y c,Fo.env.cells.lookup y=some c->c∉own)(Fn:∀ v L,v∈Fo.fs->v.frame=some L->L∉own)(G:GC C T F Fo tw wr B sG sI sJ s φ μ ρ σ acc)(hf:∀ b,b∈own->sG.heap.get? b=none)(R':Rel C T h' j' μ σ)(X:Ext s.heap φ μ h' j' μ own) :
  GC C T F Fo tw wr B sG sI sJ {s with heap:=h',toks:=tk} j' μ ρ σ acc:=by
 refine Eeea (id G.acc) λ vs nn e p=>?_
 exact ⟨(Eee G.st λ _ t9 e9=>⟨h',tk,by rw [e9]⟩),R',G.fr.ext X hL hc (λ v L hv hl _=>Fn v L (G.fs▸hv) hl),G.ext.step X λ b m=>.inl (hf b m),G.acc.ext X G.nm hB (λ h=>nomatch h),G.nm,X.notfrz e G.nm G.nf,G.wL,G.wB,UU G.wx X,G.fo.ext X Ba D8 (λ v L hv hl _=>Fn v L hv hl),G.foL,G.fs⟩
theorem GC.append {acc:List ab}{x:ab}{Q:ag->ak->Prop}(Al:B≠F.env.locals)(hc:∀ y c,F.env.cells.lookup y=some c->c≠B)(G:GC C T F Fo tw wr B sG sI sJ s φ μ ρ σ acc)(V:VP s.heap φ v x)(hf:Few acc.length)
  (q:∀ s',GC C T F Fo tw wr B sG sI sJ s' φ μ ρ σ (acc++[x])->Q .none s'):wpAny (model C.prog C.w) A (call (.builtin "list.append") [.ref B,v]) Q NoE s:=by
 refine Eeea (G.acc) λ vs k ho hp=>?_
 have hl:=hp.length
 refine ma ⟨k,ho⟩ (λ h' CP hs=>?_) (by (erw [aJ];erw [hl]);exact zv hf)
 (refine Ee (CP) λ k' tV=>?_;try clear CP)
 refine Ea (G.rel.but G.nm G.nf hs tV) λ R' X=>?_
 exact q _ ⟨(Eee G.st λ _ t9 e9=>⟨h',t9,by rw [e9]⟩),R',G.fr.ext X (by simpa using mQ Al) (λ y c h=>by simpa using hc y c h) (λ v L hv hl _=>by simpa using (G.foL _ (.inr rfl)).2.2 v L (G.fs▸hv) hl),G.ext.trans (X.wider λ b o m _=>by rw [av] at m;erw [m];exact G.wB).slack,
  ⟨vs++[v],k',by erw [tV];simp [W.listOf],(X.vps hp).append (.cons (X.vp V) .nil)⟩,G.nm,G.nf,G.wL,G.wB,UU G.wx X,G.fo.ext X (by simpa using (G.foL _ (.inr rfl)).1) (λ y c h=>by simpa using (G.foL _ (.inr rfl)).2.1 y c h) (λ v L hv hl _=>by simpa using (G.foL _ (.inr rfl)).2.2 v L hv hl),G.foL,G.fs⟩
end
section
variable {C:Cx}{T:Tabs}{n:Nat}{A:aM}
noncomputable def zq (C:Cx)(T:Tabs)(n:Nat)(W:Rho->zA->(D->zA->Prop)->Prop)(t:Pt)(ifs:List Ex)(gens:List Gn)(ρ:Rho)(src:Option (Nat×List ab)):ab->List ab×zA->(List ab×zA->Prop)->Prop :=
 λ x a K=>Is (Ze t x ρ) λ sB=>wpIfs C T n ifs sB a.2 λ b sM=>Br b (wpG C T n W gens sB sM a.1 λ s3 sD=>zU src sD (K (s3,sD))) (zU src sM (K (a.1,sM)))
end
noncomputable def Z6 (sL:List aH)(env:kO):kS Bool:=forIn sL true λ c r=>if r=true then do let ok<-isTrue c env (eval c env);pure (ef ok) else pure (ef r)
noncomputable def ZN (e sT:aH)(og:Option bm)(d:Nat)(B:ai)(env:kO):kS Unit:=@eN _ (λ _=>kS Unit) og (eval sT env >>= λ x=>call (.builtin "list.append") [.ref B,x] >>= λ _=>pure ()) (λ g'=>eval g'.iter env >>= λ x=>fU g'.iter.pos >>= λ _=>foldedSetIterable g'.iter env x >>= λ x=>cO [x] (gS x) >>= λ it=>runOwn (.compStart e (d + 1) it (.ref B) env) env >>= λ _=>pure ())
theorem Ue {sT:aH}{scope:bZ}{pos:dM}{d:Nat}{it:ag}{B:ai}{env:kO}(hg:gensA[d]?=some ⟨target,iter,sL,0⟩)(hg':∀ g',gensA[d + 1]?=some g'->g'.is_async=0) :
  nx (.ListComp sT gensA scope pos) d it (.ref B) env=(fU iter.pos >>= λ _=>fv it >>= λ r=>match r with
   | none=>pure (.done .next)
   | some v=>gc target it v >>= λ _=>gv target env v >>= λ _=>Z6 sL env >>= λ ok =>
    if ok=true then (ZN (.ListComp sT gensA scope pos) sT (gensA[d + 1]?) d B env >>= λ _=>again (.compLoop (.ListComp sT gensA scope pos) d it (.ref B) env)) else again (.compLoop (.ListComp sT gensA scope pos) d it (.ref B) env)):=by
 cases hh:gensA[d + 1]? with
 | none =>
  unfold nx
  simp only [hg,hh,ZN,bind_assoc,pure_bind]
  rfl
 | some g' =>
  obtain ⟨t',i',f',a'⟩:=g'
  have ha:=hg' _ hh
  dsimp only at ha;subst ha
  unfold nx
  simp only [hg,hh,ZN,bind_assoc,pure_bind]
  rfl
section
variable {C:Cx}{T:Tabs}{F:Fm}{A:aM}{n:Nat}{s s' sG sC:ak}{φ j' sI sK:ai->Prop}{μ sz sJ sH:List ai}{ρ sB tD sP:Rho}{σ σ' sR:zA}{h h':aP}{own:List ai}{B:ai}{wr:List ai}{Fo:Fm}{tw:Rho}
noncomputable def Y0 (C:Cx)(T:Tabs)(n:Nat)(A:aM)(F Fo:Fm)(tw:Rho)(wr:List ai)(B:ai)(W:Rho->zA->(D->zA->Prop)->Prop)(gs:List Gn)(tree:kS Unit):Prop :=
 ∀ (s:ak) (φ:ai->Prop) (μ:List ai) (ρ:Rho) (σ:zA) (acc:List ab) (Q:List ab->zA->Prop),(∀ j,j∈Z4 gs->ρ[j]?=some none) ->
  GC C T F Fo tw wr B s φ μ s φ μ ρ σ acc->wpG C T n W gs ρ σ acc Q ->
  wpAny (model C.prog C.w) A tree (λ _ s'=>∃ j' sz σ' s3,GC C T F Fo tw wr B s φ μ s' j' sz ρ σ' s3/\Q s3 σ') NoE s
theorem GC.self {acc:List ab}(R:Rel C T s.heap φ μ σ)(I:FrI F s.heap φ μ ρ)(a:AccAt s.heap φ B acc)(nm:B∉μ)(nf:¬ φ B)(wL:F.env.locals∈wr)(wB:B∈wr)(wx:∀ b,b∈wr->∃ o,s.heap.get? b=some o)(fo:FrI Fo s.heap φ μ tw)(foL:∀ a,a=F.env.locals∨a=B->Fo.env.locals≠a/\(∀ y c,Fo.env.cells.lookup y=some c->c≠a)/\∀ v L,v∈Fo.fs->v.frame=some L->L≠a)(fs:F.fs=Fo.fs):GC C T F Fo tw wr B s φ μ s φ μ ρ σ acc :=
 ⟨⟨s.heap,s.toks,rfl⟩,R,I,.refl,a,nm,nf,wL,wB,wx,fo,foL,fs⟩
theorem GC.here {acc:List ab}(G:GC C T F Fo tw wr B sG sI sJ s φ μ ρ σ acc):GC C T F Fo tw wr B s φ μ s φ μ ρ σ acc:=GC.self G.rel G.fr G.acc G.nm G.nf G.wL G.wB G.wx G.fo G.foL G.fs
theorem FrI.gone (I:FrI F h φ μ ρ)(k:∀ c o,c∉own->h.get? c=some o->h'.get? c=some o)(kf:∀ b,φ b->φ b/\h'.get? b=h.get? b)(hL:F.env.locals∉own)(hC:∀ y c,F.env.cells.lookup y=some c->c∉own)(ho:∀ c,c∈F.own->c∉own)(Fn:∀ v L,v∈F.fs->v.frame=some L->L∉own):FrI F h' φ μ ρ:=by
 refine Eea (I.loc) λ m hn hm=>?_
 refine ⟨I.kind,I.glob,I.blt,I.len,⟨m,?_,λ i y hi=>⟨(hm i y hi).1,(hm i y hi).2.mono kf λ _ _ e=>e⟩⟩,λ i y kk hi hk=>?_,I.uniq,I.Lμ,I.Lφ,λ y c hc=>?_,I.cinj,λ c hc=>?_,I.outsK λ v L o hv hl h1 h2 h3 _ _=>⟨⟨o,k _ _ (Fn v L hv hl) h1,rfl⟩,h2,h3⟩⟩
 ·(refine Eeeea (hn) λ o es ep ho r=>?_;try clear hn);exact ⟨o,es,ep,k _ _ hL ho,r⟩
 ·(refine Ea (I.cell i y kk hi hk) λ h1 Ae=>?_;refine Eeeaaa Ae λ c v t6 x7 Bp Bh=>?_)
  refine ⟨h1,c,v,t6,?_,Bp.mono kf λ _ _ e=>e,Bh⟩
  (refine Eea (x7) λ o ho hd=>?_;try clear x7)
  exact ⟨o,k _ _ (hC _ _ t6) ho,hd⟩
 ·(refine qJ (I.cμ y c hc) λ CJ=>?_;(refine Ee (CJ) λ o h0=>?_;try clear CJ);intro h1 h2 h3)
  exact ⟨⟨o,k _ _ (hC _ _ hc) h0⟩,h1,h2,h3⟩
 ·refine Ee (I.own c hc) λ o e=>?_
  exact ⟨o,k _ _ (ho c hc) e⟩
theorem GC.endL {tk:Nat}{acc:List ab}(tM:FrI Fo sG.heap sI sJ tw)(tg:F.own=[])(hL:F.env.locals∉own)(hC:∀ y c,F.env.cells.lookup y=some c->c∉own)(tj:∀ b,b∈own->b∉wr)(G:GC C T F Fo tw wr B sG sI sJ s φ μ ρ σ acc)(hf:∀ b,b∈own->sG.heap.get? b=none)(N:Lone s.heap φ μ own)(k:∀ c o,c∉own->s.heap.get? c=some o->h'.get? c=some o) :
  GC C T F Fo tw wr B sG sI sJ {s with heap:=h',toks:=tk} φ μ ρ σ acc:=by
 have R:=G.rel
 refine Ea (R.endL N.nm N.nf k) λ kf R'=>?_
 have old:∀ b o,sG.heap.get? b=some o->b∉own:=λ b o e m=>by rw [hf b m] at e;cases e
 have Ac:∀ b o,sG.heap.get? b=some o->∀ o',s.heap.get? b=some o'->h'.get? b=some o':=λ b o e o' e'=>k b o' (old b o e) e'
 refine ⟨(Eee G.st λ _ _ e9=>⟨h',tk,by rw [e9]⟩),R',G.fr.gone k kf hL hC (λ c m=>by rw [tg] at m;cases m) (λ v L hv hl m=>tM.ne_out (hf _ m) (G.fs▸hv) hl rfl),⟨λ a f=>⟨(G.ext.frz a f).1,(kf a (G.ext.frz a f).1).2.trans (G.ext.frz a f).2⟩,G.ext.new,G.ext.pre,G.ext.fresh,λ b o e=>?_,λ b o e nm nw=>?_⟩,?_,G.nm,G.nf,G.wL,G.wB,λ b m=>?_,
  G.fo.gone k kf (λ m=>tM.ne_locals (hf _ m) rfl) (λ y c hc m=>tM.ne_cells (hf _ m) hc rfl) (λ c hc m=>tM.ne_own (hf _ m) (bU _ hc)) (λ v L hv hl m=>tM.ne_out (hf _ m) hv hl rfl),G.foL,G.fs⟩
 ·refine Ee (G.ext.ex b o e) λ o' e'=>?_
  exact ⟨o',Ac b o e o' e'⟩
 ·rcases G.ext.oth b o e nm nw with q | ⟨hc,sl,q⟩
  ·exact .inl (Ac b o e _ q)
  ·exact .inr ⟨hc,sl,Ac b o e _ q⟩
 ·refine Eeea (G.acc) λ vs nn e p=>?_
  exact ⟨vs,nn,k _ _ (λ m=>tj _ m G.wB) e,p.mono kf⟩
 ·refine Ee (G.wx b m) λ o ho=>?_
  exact ⟨o,k _ _ (λ q=>tj _ q m) ho⟩
theorem Je {it:ag}{sT target iter:aH}{sL:List aH}{gensA:List bm}{scope:bZ}{pos:dM}{d:Nat}{t:Pt}{ifs:List Ex}{gs:List Gn}{src:Option (Nat×List ab)}{xs BQ:List ab}{It:Nat->aP->Prop}{Sr:aP->(ai->Prop)->List ai->Prop}
  {s6:Rho->zA->(D->zA->Prop)->Prop} {Q:List ab->zA->Prop}
  (hg:gensA[d]?=some ⟨target,iter,sL,0⟩) (hg':∀ g',gensA[d + 1]?=some g'->g'.is_async=0)
  (W:Walk C T A it target own src xs It Sr) (hA:A.handled=none) (ht:trP F.ks target=some t)
  (hifs:∀ ρ σ K,wpIfs C T n ifs ρ σ K->DB C T F A (Z6 sL F.env) ρ σ K)
  (hin:Y0 C T n A F Fo tw wr B s6 gs (ZN (.ListComp sT gensA scope pos) sT (gensA[d + 1]?) d B F.env))
  (tg:F.own=[]) (Al:B≠F.env.locals) (CU:∀ y c,F.env.cells.lookup y=some c->c≠B)
  (A9:∀ j,j∈Z5 t->ρ[j]?=some none) (Dk:∀ j,j∈Z4 gs->ρ[j]?=some none) (hdis:∀ j,j∈Z5 t->j∉Z4 gs)
  (tM:FrI Fo sG.heap sI sJ tw) (tj:∀ b,b∈own->b∉wr) (hC:∀ y c,F.env.cells.lookup y=some c->c∉own) (hf:∀ b,b∈own->sG.heap.get? b=none) (G:GC C T F Fo tw wr B sG sI sJ s φ μ ρ σ BQ) (s7:It 0 s.heap) (N:Lone s.heap φ μ own) (Ah:Sr s.heap φ μ) (tn:zU src σ True)
  (hw:zT (zq C T n s6 t ifs gs ρ src) xs (BQ,σ) λ a=>Q a.1 a.2) :
  ez (model C.prog C.w) A (.compLoop (.ListComp sT gensA scope pos) d it (.ref B) F.env) (λ r s'=>match r with | .ok f=>f=.next/\∃ j' sz σ' s3,GC C T F Fo tw wr B sG sI sJ s' j' sz ρ σ' s3/\Q s3 σ' | .error e=>False) s:=by
 have hL:F.env.locals∉own:=λ m=>tj _ m G.wL
 have hB:B∉own:=λ m=>tj _ m G.wB
 have I3:=G.wL
 have DC:∀ b,b∈own->b∉frL Fo.fs:=λ b m=>tM.ne_fr (hf b m)
 have GO:=G.fs
 obtain ⟨J,mk,un⟩:∃ J:Nat->ak->Prop,(∀ k s φ μ σ acc,k<=xs.length->GC C T F Fo tw wr B sG sI sJ s φ μ ρ σ acc->It k s.heap->Lone s.heap φ μ own->Sr s.heap φ μ->zU src σ True->(zT (zq C T n s6 t ifs gs ρ src) (xs.drop k) (acc,σ) λ a=>Q a.1 a.2)->J (xs.length - k) s)/\∀ m s,J m s->∃ k φ μ σ acc,m=xs.length - k/\k<=xs.length/\GC C T F Fo tw wr B sG sI sJ s φ μ ρ σ acc/\It k s.heap/\Lone s.heap φ μ own/\Sr s.heap φ μ/\zU src σ True/\zT (zq C T n s6 t ifs gs ρ src) (xs.drop k) (acc,σ) λ a=>Q a.1 a.2 :=
  ⟨_,λ k s φ μ σ acc h1 h2 h3 h4 h5 h6 h7=>⟨k,φ,μ,σ,acc,rfl,h1,h2,h3,h4,h5,h6,h7⟩,λ _ _ h=>h⟩
 refine codeAny_loop rfl J (λ m s hI=>?_) xs.length (mk 0 _ _ _ _ _ (bd _) G s7 N Ah tn hw)
 clear G s7 N Ah tn hw
 obtain ⟨k,φ,μ,σ,acc,rfl,hk,G,s7,N,Ah,tn,hw⟩:=un _ _ hI
 clear hI un
 show wpAny _ A ((nx (.ListComp sT gensA scope pos) d it (.ref B) F.env).onRaise (λ x=>do noteFrame x F.env;theTreesLotGoes x)) _ _ s
 refine wpAny_noted ?_
 erw [Ue hg hg']
 refine aa (bx (aa ?_))
 by_cases sW:k<xs.length
 ·have hx:xs[k]?=some xs[k]:=ay sW
  rw [fe sW] at hw
  refine Eea (Is.h hw) λ sB Fj hw=>?_
  have Dh:=JS t _ _ _ Fj
  have back:∀ {s':ak} {φ μ σ acc} ,GC C T F Fo tw wr B sG sI sJ s' φ μ sB σ acc->GC C T F Fo tw wr B sG sI sJ s' φ μ ρ σ acc:=λ G=>G.weaken Dh.1.symm λ j _=>by
   by_cases q:j∈Z5 t
   ·exact .inl (A9 j q)
   ·exact .inr (Dh.2 j q).symm
  refine au (W.turn k xs[k] s φ μ σ (λ v BA=>wpAny (model C.prog C.w) A (gv target F.env v) (λ _ sF=>wpAny (model C.prog C.w) A (Z6 sL F.env) (λ ok th =>
    wpAny (model C.prog C.w) A (if ok=true then ZN (.ListComp sT gensA scope pos) sT (gensA[d + 1]?) d B F.env else pure ()) (λ _ Ab=>∃ m,m<xs.length - k/\J m Ab) NoE th) NoE sF) NoE BA) hx s7 G.rel Ah tn N λ v h' j' tk R' X V tZ N'=>?_) (λ r sC hr=>?_) λ _ _ e=>e.elim
  ·have G1:GC C T F Fo tw wr B sG sI sJ {s with heap:=h',toks:=tk} j' μ ρ σ acc:=GC.butL hL hC hB (λ m=>tM.ne_locals (hf _ m) rfl) (λ y c hc m=>tM.ne_cells (hf _ m) hc rfl) (λ v L hv hl m=>tM.ne_out (hf _ m) hv hl rfl) G hf R' X
   refine au (uk hA t target xs[k] ρ sB _ j' μ v ht Fj G1.rel G1.fr V) (λ _ sF Gx=>?_) λ _ _ e=>e
   have G2:=G1.go tg Al Gx
   have xt:∀ {s φ μ s' j' sz sB σ'},Go C T F s φ μ s' j' sz sB σ'->Ext s.heap φ μ s'.heap j' sz wr (frL Fo.fs):=λ g=>(GO▸g.ext).wider λ b o m _=>by rw [tg,av] at m;erw [m];exact I3
   refine Ea (N'.ext (xt Gx) tj DC) λ N2 e2=>?_
   have B':=W.frame _ _ _ tZ e2
   have B2:=W.sr _ _ _ _ _ _ _ _ (W.sr _ _ _ _ _ _ _ _ Ah X) Gx.ext
   refine au (hifs sB σ _ hw sF j' μ G2.rel G2.fr) (λ ok th hp=>?_) λ _ _ e=>e
   (refine Eeeea (hp) λ tG tI sD Gy hq=>?_;try clear hp)
   have G3:=G2.go tg Al Gy
   refine Ea (N2.ext (xt Gy) tj DC) λ N3 e3=>?_
   have D6:=W.frame _ _ _ B' e3
   have Ev:=W.sr _ _ _ _ _ _ _ _ B2 Gy.ext
   cases ok with
   | false =>
    refine Ea (qq (hq.f rfl)) λ q1 q2=>?_
    exact aj ⟨_,ge sW (aU k),mk (k + 1) _ tG tI sD acc sW (back G3) D6 N3 Ev q1 q2⟩
   | true =>
    refine au (hin th tG tI sB sD acc _ (λ j m=>?_) G3.here (hq.t rfl)) (λ _ Ab h4=>?_) λ _ _ e=>e
    ·erw [Dh.2 j λ q=>hdis j q m];exact Dk j m
    ·(refine Eeeeea (h4) λ Bv BL BI s3 Gz Im=>?_;try clear h4)
     refine Ea (N3.ext Gz.ext tj DC) λ N4 e4=>?_
     refine Ea (qq Im) λ q1 q2=>?_
     exact ⟨_,ge sW (aU k),mk (k + 1) _ Bv BL BI s3 sW (back (G3.trans Gz)) (W.frame _ _ _ D6 e4) N4 (W.sr _ _ _ _ _ _ _ _ Ev Gz.ext) q1 q2⟩
  ·cases r with
   | none=>exact hr.elim
   | some v =>
    refine aa (au hr (λ _ sF h2=>aa (au h2 (λ _ th h3=>aa (au h3 (λ ok Ab h4=>?_) λ _ _ e=>e.elim)) λ _ _ e=>e.elim)) λ _ _ e=>e.elim)
    cases ok with
    | true=>exact aa (au h4 (λ _ EZ h5=>aj ⟨rfl,h5⟩) λ _ _ e=>e.elim)
    | false =>
     show wpAny _ _ ((pure ():kS Unit) >>= λ _=>again (.compLoop (.ListComp sT gensA scope pos) d it (.ref B) F.env)) _ _ _
     exact aa (au h4 (λ _ EZ h5=>aj ⟨rfl,h5⟩) λ _ _ e=>e.elim)
 ·have Dl:k=xs.length:=by exact dz (hk) ((bu sW))
  subst Dl
  rw [o8] at hw
  refine au (W.done s φ μ σ (λ r sC=>r=none/\GC C T F Fo tw wr B sG sI sJ sC φ μ ρ σ acc) s7 G.rel Ah tn N λ h' tk kk=>⟨rfl,GC.endL tM tg hL hC tj G hf N kk⟩) (λ r sC ⟨hr,G1⟩=>?_) λ _ _ e=>e.elim
  subst hr
  exact aj ⟨rfl,φ,μ,σ,acc,G1,hw⟩
end
theorem qF {prog:bR}{w:b4}{A:aM}{R:lG->ak->Prop}{s:ak}{sT:aH}{ifs:List aH}{scope:bZ}{pos:dM}{d:Nat}{it acc:ag}{env:kO}(hg:gensA[d]?=some ⟨target,iter,ifs,0⟩)
  (h0:ez (model prog w) A (.compLoop (.ListComp sT gensA scope pos) d it acc env) R s)
  (h:wpAny (model prog w) A (gS it) (λ G7 s'=>ez (model prog w) A (.compLoop (.ListComp sT gensA scope pos) d G7 acc env) R s') NoE s) :
  ez (model prog w) A (.compStart (.ListComp sT gensA scope pos) d it acc env) R s:=by
 refine lh ?_
 show wpAny _ _ ((compStart (.ListComp sT gensA scope pos) d it acc env).onRaise (λ x=>do noteFrame x env;fU theWindowsPlace)) _ _ s
 refine wpAny_notedAt ?_
 unfold compStart
 have hc:clausesOf (Expr.ListComp sT gensA scope pos)=gensA:=rfl
 simp only [hc,hg]
 show wpAny _ _ (ask >>= _) _ _ s
 refine aa (dP (wpAny_ite ?_))
 split
 ·first
   | exact aa (aj (aj (mn rfl h0)))
   | exact aj (mn rfl h0)
 ·first
   | exact aa (fP (aa (bx (aa (au h (λ G7 s' h'=>aj (mn rfl h')) λ _ _ x=>x.elim)))))
   | (refine aa (fP ?_);show wpAny _ _ (fU iter.pos >>= _) _ _ s;exact aa (bx (aa (au h (λ G7 s' h'=>aj (mn rfl h')) λ _ _ x=>x.elim))))
section
variable {C:Cx}{T:Tabs}{F:Fm}{A:aM}{n:Nat}{s s' sG sC:ak}{φ j' sI sK:ai->Prop}{μ sz sJ sH:List ai}{ρ sB tD sP:Rho}{σ σ' sR:zA}{h h':aP}{own:List ai}{B:ai}{wr:List ai}{Fo:Fm}{tw:Rho}{s6:Rho->zA->(D->zA->Prop)->Prop}
theorem wp {e sT:aH}{d:Nat}(tg:F.own=[])(Al:B≠F.env.locals)(CU:∀ y c,F.env.cells.lookup y=some c->c≠B)
  (hW:∀ ρ σ K,s6 ρ σ K->DX C T F A (eval sT F.env) ρ σ K):Y0 C T n A F Fo tw wr B s6 [] (ZN e sT none d B F.env):=by
 intro s φ μ ρ σ acc Q _ G hw
 unfold ZN
 refine aa ((hW ρ σ _ hw).seq G.rel G.fr λ s' j' sz v dd σ' Gx V q=>?_)
 refine Eeaaa (yG V q) λ x _ p q1 q2=>?_
 exact aa (GC.append Al CU (G.go tg Al Gx) p q1 λ sF G2=>aj ⟨j',sz,σ',_,G2,q2⟩)
theorem Xi {sT:aH}{gensA:List bm}{scope:bZ}{pos:dM}{d:Nat}{target iter:aH}{sL:List aH}{t:Pt}{it:Ex}{ifs:List Ex}{gs:List Gn}
  (tg:F.own=[]) (Al:B≠F.env.locals) (CU:∀ y c,F.env.cells.lookup y=some c->c≠B)
  (hg:gensA[d + 1]?=some ⟨target,iter,sL,0⟩) (hg':∀ g',gensA[d + 2]?=some g'->g'.is_async=0) (Em:∀ x,foldedSetIterable iter F.env x=pure x)
  (hA:A.handled=none) (Ep:A.mark none=A) (ht:trP F.ks target=some t) (hdis:∀ j,j∈Z5 t->j∉Z4 gs)
  (hdi:∀ ρ σ K,(wpE C T n it ρ σ λ d σ'=>zf σ' d λ xs i=>K xs i σ')->DI C T F A iter target ρ σ K)
  (hifs:∀ ρ σ K,wpIfs C T n ifs ρ σ K->DB C T F A (Z6 sL F.env) ρ σ K)
  (hin:Y0 C T n A F Fo tw wr B s6 gs (ZN (.ListComp sT gensA scope pos) sT (gensA[d + 2]?) (d + 1) B F.env)) :
  Y0 C T n A F Fo tw wr B s6 (.mk t it ifs::gs) (ZN (.ListComp sT gensA scope pos) sT (some ⟨target,iter,sL,0⟩) d B F.env):=by
 intro s φ μ ρ σ acc Q A9 G hw
 have BS:wpE C T n it ρ σ λ d σ'=>zf σ' d λ xs i=>Few xs.length/\zT (zq C T n s6 t ifs gs ρ i) xs (acc,σ') λ a=>Q a.1 a.2:=hw
 refine aa ?_
 refine au (hdi ρ σ _ BS s φ μ (λ v s'=>wpAny (model C.prog C.w) A (runOwn (.compStart (.ListComp sT gensA scope pos) (d + 1) v (.ref B) F.env) F.env) (λ _ s'=>∃ j' sz σ' s3,GC C T F Fo tw wr B s φ μ s' j' sz ρ σ' s3/\Q s3 σ') NoE s') G.rel G.fr ?_) (λ x sC hx=>?_) λ _ _ e=>e.elim
 ·intro Fx s' j' sz σ' own src xs It Sr G' W s7 N hf Ah tn hq
  have G1:=G.go tg Al G'
  have loop:ez (model C.prog C.w) A (.compLoop (.ListComp sT gensA scope pos) (d + 1) Fx (.ref B) F.env) (λ r s'=>match r with | .ok f=>f=.next/\∃ j' sz σ' s3,GC C T F Fo tw wr B s φ μ s' j' sz ρ σ' s3/\Q s3 σ' | .error e=>False) s' :=
   Je hg hg' W hA ht hifs hin tg Al CU (λ j m=>A9 j (bO _ m)) (λ j m=>A9 j (bj _ m)) hdis G.fo (λ b m q=>by refine Ee (G.wx b q) λ o e=>?_;rw [hf b m] at e;cases e) (λ y c hc m=>G.fr.ne_cells (hf _ m) hc rfl) hf G1 s7 N Ah tn hq.2
  refine wpAny_runOwn ?_
  erw [Ep]
  refine fG (qF hg loop (W.self 0 _ _ s7 loop)) λ r s9 hr=>?_
  cases r with
  | ok f=>exact hr.2
  | error e=>exact hr.elim
 ·refine aa (bx (aa (gK (Em x) (aa (aO (au hx (λ Fx sF h2=>aa (au h2 (λ _ th h3=>aj h3) λ _ _ e=>e.elim)) λ _ _ e=>e.elim))))))
end
noncomputable def yx (scope:bZ):aK×aS->aK×aS:=λ xk=>(xk.1,if scope.names.lookup xk.1=some .free/\(xk.2=.cell∨xk.2=.free) then .free else .globalExplicit)
noncomputable def zV (scope:bZ):List (aK×aS):=scope.names.filter λ xk=>xk.2==.local
noncomputable def zh (ks:List (aK×aS))(scope:bZ):List (aK×aS):=ks.map (yx scope)++zV scope
noncomputable def z9 (scope:bZ)(cells:List (aK×ai)):List (aK×ai):=((scope.names.filter λ xk=>xk.2==.free).map λ xk=>(xk.1,(cells.lookup xk.1).getD 0)).reverse
noncomputable def uh (ks:List (aK×aS))(scope:bZ):Bool:=scope.kind==.function&&scope.names.all (λ xk=>xk.2 != .cell&&scope.names.lookup xk.1==some xk.2&&(xk.2 != .free || ks.any λ yk=>yk.1==xk.1&&(yk.2==.cell || yk.2==.free)))&&decide ((zV scope).map (·.1)).Nodup
theorem uZ :∀ (l:List (aK×aS)) (cs:List (aK×ai)),(∀ xk∈l,xk.2=.free->∃ c,env.cells.lookup xk.1=some c) ->
  (forIn l cs λ x r=>(match x with | (name,kind)=>if (kind==gZ)=true then do let c<-cellOf env name;pure (ef ((name,c)::r)) else pure (ef r):kS (ForInStep (List (aK×ai))))) =
   pure (((l.filter λ xk=>xk.2==.free).map λ xk=>(xk.1,(env.cells.lookup xk.1).getD 0)).reverse++cs):=by
 intro l
 induction l with
 | nil =>
  intro cs _
  exact rfl
 | cons EX l ih =>
  intro cs h
  obtain ⟨x,k⟩:=EX
  have ih:=λ KJ=>ih KJ λ xk m=>h xk (bU _ m)
  erw [fu]
  by_cases hk:k=.free
  ·subst hk
   refine Ee (h (x,.free) (by simp) rfl) λ c hc=>?_
   have x6:env.cells.lookup x=some c:=hc
   simp only [beq_self_eq_true,if_true,cellOf,x6,pure_bind,ck,bl,dg,List.reverse_cons,aI,m3]
   exact ih ((x,c)::cs)
  ·have tR:(k==gZ)=false:=by simpa using hk
   simp only [tR,ck,pure_bind,ih,cw,if_false]
theorem UY (h:∀ xk∈scope.names,xk.2=.free->∃ c,env.cells.lookup xk.1=some c):closureFor scope env=pure (z9 scope env.cells):=by
 have:=uZ (env:=env) scope.names [] h
 rw [aR] at this
 unfold closureFor
 exact (congrArg (λ m=>m >>= λ cs=>pure cs) this).trans (pure_bind _ _)
theorem yV {α:Type}:∀ {l:List (aK×α)} {x:aK} {a:α},l.lookup x=some a->(x,a)∈l
 | [],_,_,h=>by simp at h
 | (y,b)::l,x,a,h=>by
  rw [cy] at h
  cases hb:x==y with
  | true=>rw [hb] at h;simp only [sn] at h;have:x=y:=(by simpa using hb);subst this;subst h;simp
  | false=>rw [hb] at h;simp only at h;exact bU _ (yV h)
theorem Jt {α:Type}(f:aK->α){l:List (aK×α)}:(∀ ya∈l,ya.2=f ya.1)->(∃ a,(x,a)∈l)->l.lookup x=some (f x):=by
 induction l with
 | nil=>exact λ _ h=>Ee h λ a h=>nomatch h
 | cons p l ih =>
  intro hf h
  show ny x ((p.1,p.2)::l)=_
  rw [cy]
  cases hb:x==p.1 with
  | true=>rw [eq_of_beq hb];exact congrArg some (hf p (.head _))
  | false =>
   refine ih (λ ya m=>hf ya (.tail _ m)) (Ee h λ a h=>?_)
   rcases aA.mp h with h | h
   ·exact absurd (congrArg iP h) (beq_eq_false_iff_ne.mp hb)
   ·exact ⟨a,h⟩
theorem Xc (h:(x,gZ)∈scope.names):(z9 scope cells).lookup x=some ((cells.lookup x).getD 0):=by
 refine Jt (λ y=>(cells.lookup y).getD 0) (λ ya m=>?_) ⟨(cells.lookup x).getD 0,?_⟩
 ·simp only [z9,fT,az] at m
  (refine Eea (m) λ xk _ BX=>?_;try clear m;obtain rfl:=BX);rfl
 ·simp only [z9,fT,az]
  exact ⟨(x,.free),bM.mpr ⟨h,rfl⟩,rfl⟩
theorem yD {c:ai}(h:(z9 scope cells).lookup x=some c):(x,gZ)∈scope.names/\c=(cells.lookup x).getD 0:=by
 have:=yV h
 simp only [z9,fT,az,l7] at this
 (refine Eeaa (this) λ xk h1 h2 h3=>?_;try clear this)
 refine Ea (bM.mp h1) λ h4 h5=>?_
 have Hr:xk.2=.free:=by simpa using h5
 obtain ⟨y,k⟩:=xk
 dsimp only at h2 h3 Hr
 subst h2;subst Hr
 exact ⟨h4,h3.symm⟩
structure CompOk (ks:List (aK×aS))(scope:bZ):Prop where
 kind:scope.kind=.function
 nocell:∀ x∈scope.names,x.2≠.cell
 look:∀ x∈scope.names,scope.names.lookup x.1=some x.2
 free:∀ x∈scope.names,x.2=.free->∃ (i:Nat) (k:aS),ks[i]?=some (x.1,k)/\(k=.cell∨k=.free)
 nodup:((zV scope).map (·.1)).Nodup
theorem CompOk.of (h:uh ks scope=true):CompOk ks scope:=by
 simp only [uh,bG,decide_eq_true_eq,aY,beq_iff_eq,bne_iff_ne,ne_eq,f8,bv] at h
 (refine Ea (h) λ Bw=>?_;try clear h;(refine Ea (Bw) λ h1 h2=>?_;try clear Bw);intro h3)
 refine ⟨h1,λ x m=>(h2 x m).1.1,λ x m=>(h2 x m).1.2,λ x m hx=>?_,h3⟩
 rcases (h2 x m).2 with q | ⟨yk,q1,q2,q3⟩
 ·exact absurd hx q
 ·refine Ee (aN.mp q1) λ i hi=>?_
  obtain ⟨y,k⟩:=yk
  dsimp only at q2 q3
  subst q2
  exact ⟨i,k,hi,q3⟩
theorem Xr {β:Type}{k:β}(f:aK×β->aK×β)(hf:∀ p,(f p).1=p.1):∀ {l:List (aK×β)},l.lookup x=some k->(l.map f).lookup x=some (f (x,k)).2:=by
 intro l
 induction l with
 | nil=>exact λ h=>nomatch h
 | cons p r ih =>
  intro h
  show ny x (((f p).1,(f p).2)::r.map f)=_
  rw [hf p]
  have h:ny x ((p.1,p.2)::r)=some k:=h
  cases hx:x==p.1 with
  | true =>
   rw [cy,hx] at h ⊢
   rw [eq_of_beq hx,<- so h]
  | false =>
   rw [cy,hx] at h ⊢
   exact ih h
theorem Qw {env:kO}:∀ {names:List (aK×aS)} {x:aK} {k:aS},names.lookup x=some k ->
  (names.map λ (n,k)=>if (k==gZ&&env.scope.kind==.function&&env.kindOf n==some .cell) then (n,l6) else (n,k)).lookup x=some (if k=.free/\env.scope.kind=.function/\env.kindOf x=some .cell then .cell else k):=λ {names x k} h=>by
 refine (Xr _ (λ p=>?_) h).trans (congrArg some ?_)
 ·dsimp only;split <;> rfl
 ·dsimp only
  by_cases hc:k=.free/\env.scope.kind=.function/\env.kindOf x=some .cell
  ·rw [if_pos hc,if_pos (by simp [hc.1,hc.2.1,hc.2.2])]
  ·rw [if_neg hc,if_neg (by simp only [bG,beq_iff_eq];exact λ q=>hc ⟨q.1.1,q.1.2,q.2⟩)]
section
variable {C:Cx}{T:Tabs}{F:Fm}{A:aM}{n:Nat}{s s' sG sC:ak}{φ j' sI sK:ai->Prop}{μ sz sJ sH:List ai}{ρ sB tD sP:Rho}{σ σ' sR:zA}{h h':aP}{own:List ai}{B L:ai}
noncomputable def zW (F:Fm)(scope:bZ)(L:ai):Fm:=⟨pL scope (z9 scope F.env.cells) L F.env,zh F.ks scope,[],F.fs⟩
theorem FrI.clo (I:FrI F h φ μ ρ)(K:CompOk F.ks scope):∀ xk∈scope.names,xk.2=.free->∃ c,F.env.cells.lookup xk.1=some c:=λ xk m hx=>by
 refine Eeea (K.free xk m hx) λ i k hi hk=>?_
 (refine Ea (I.cell i _ k hi hk) λ _ BB=>?_;refine Eeea BB λ c v hc _=>?_)
 exact ⟨c,hc⟩
theorem wK (K:CompOk F.ks scope)(I:FrI F h φ μ ρ)(hL:h.Ns L λ _=>none)(Lμ:L∉μ)(Lφ:¬ φ L)(Ic:∀ y c,F.env.cells.lookup y=some c->c≠L)(Ba:∀ v L',v∈F.fs->v.frame=some L'->L'≠L) :
  FrI (zW F scope L) h φ μ (ρ++bJ (zV scope).length none):=by
 have hlen:=I.len
 have e1:∀ i,i<F.ks.length->(zh F.ks scope)[i]?=F.ks[i]?.map (yx scope):=λ i hi=>by
  unfold zh
  (erw [aC (by simpa using hi)];erw [bt];rfl)
 have e2:∀ i,F.ks.length<=i->(zh F.ks scope)[i]?=(zV scope)[i - F.ks.length]?:=λ i hi=>by
  unfold zh
  (erw [cC (by simpa using hi)];erw [ah];rfl)
 have r1:∀ i,i<F.ks.length->(ρ++bJ (zV scope).length (none:Option D))[i]?=ρ[i]?:=λ i hi=>aC (nZ hi hlen.symm)
 have r2:∀ i x,F.ks.length<=i->(zh F.ks scope)[i]?=some x->(ρ++bJ (zV scope).length (none:Option D))[i]?=some none:=λ i x hi hx=>by
  rw [e2 i hi] at hx
  have:=(aq.mp hx).1
  (erw [cC (by exact lin [_,_,_] [] (.v 0) (.v 1) [(1,.e (.v 0) (.v 2)),(1,.l (.v 2) (.v 1))] tT9 hlen hi)];erw [lc (by erw [hlen];exact this)];rfl)
 have out:∀ i x k,i<F.ks.length->(zh F.ks scope)[i]?=some (x,k)->acc k->k=.free/\scope.names.lookup x=some .free/\∃ k',F.ks[i]?=some (x,k')/\(k'=.cell∨k'=.free):=λ i x k hi hx hk=>by
  rw [e1 i hi,bP] at hx
  (refine Eea (hx) λ Bo=>?_;try clear hx;obtain ⟨y,k'⟩:=Bo;intro h1 h2)
  simp only [yx,l7] at h2
  (refine Ea (h2) λ CX=>?_;try clear h2;obtain rfl:=CX;intro h3)
  split at h3
  ·rename_i hc
   exact ⟨h3.symm,hc.1,k',h1,hc.2⟩
  ·subst h3;rcases hk with q | q | q <;> cases q
 have Fh:∀ i x k,F.ks.length<=i->(zh F.ks scope)[i]?=some (x,k)->k=.local/\scope.names.lookup x=some .local:=λ i x k hi hx=>by
  rw [e2 i hi] at hx
  have hm:=aN.mpr ⟨_,hx⟩
  refine Ea (bM.mp hm) λ Cb FR=>?_
  have hk:k=.local:=by simpa using FR
  subst hk
  exact ⟨rfl,K.look _ Cb⟩
 have Hz:∀ x k,scope.names.lookup x=some k->(zW F scope L).env.kindOf x=some (if k=.free/\F.env.scope.kind=.function/\F.env.kindOf x=some .cell then .cell else k):=λ x k hx=>Qw hx
 refine ⟨K.kind,I.glob,I.blt,?_,⟨_,hL,λ i x hi=>?_⟩,λ i x k hi hk=>?_,λ i j x k k' hi hj hk tR=>?_,Lμ,Lφ,λ y c hc=>?_,λ x y c hx hy=>?_,(λ c m=>by simp [zW] at m),λ v hv=>?_⟩
 ·show _=(zh F.ks scope).length
  simp [zh,hlen]
 ·by_cases sW:i<F.ks.length
  ·refine Ea (out i x _ sW hi (.inl rfl)) λ q _=>?_;cases q
  ·have Dj:F.ks.length<=i:=by exact (bu sW)
   refine Ea (Fh i x _ Dj hi) λ _ hx=>?_
   refine ⟨by erw [Hz x _ hx];simp,?_⟩
   erw [r2 i _ Dj hi];exact .no _
 ·by_cases sW:i<F.ks.length
  ·obtain ⟨rfl,hx,k',h1,h2⟩:=out i x k sW hi (by rcases hk with q | q <;> simp [acc,q])
   (refine Ea (I.cell i x k' h1 h2) λ g1 J'=>?_;refine Eeeaaa J' λ c v g2 g3 g4 _=>?_)
   refine ⟨?_,c,v,?_,g3,?_,λ q=>nomatch q⟩
   ·erw [Hz x _ hx]
    by_cases q:F.env.kindOf x=some .cell
    ·left;simp [q,I.kind]
    ·right;simp [q]
   ·show (z9 scope F.env.cells).lookup x=some c
    (erw [Xc (yV hx)];erw [g2]);rfl
   ·erw [r1 i sW];exact g4
  ·have Dj:F.ks.length<=i:=by exact (bu sW)
   refine Ea (Fh i x k Dj hi) λ q _=>?_
   subst q;rcases hk with q | q <;> cases q
 ·by_cases E2:i<F.ks.length
  ·obtain ⟨rfl,hx,k1,h1,h2⟩:=out i x k E2 hi hk
   by_cases DJ:j<F.ks.length
   ·obtain ⟨rfl,Cd,k2,h3,h4⟩:=out j x k' DJ hj tR
    exact I.uniq i j x k1 k2 h1 h3 (.inr h2) (.inr h4)
   ·refine Ea (Fh j x k' (by exact (bu DJ)) hj) λ q Cd=>?_
    rw [hx] at Cd;cases Cd
  ·refine Ea (Fh i x k (by exact (bu E2)) hi) λ q hx=>?_
   by_cases DJ:j<F.ks.length
   ·obtain ⟨rfl,Cd,k2,h3,h4⟩:=out j x k' DJ hj tR
    rw [hx] at Cd;cases Cd
   ·have Dy:(zh F.ks scope)[i]?=some (x,k):=hi
    have DD:(zh F.ks scope)[j]?=some (x,k'):=hj
    rw [e2 i (by exact (bu E2))] at Dy
    rw [e2 j (by exact (bu DJ))] at DD
    have n1:((zV scope).map (·.1))[i - F.ks.length]?=some x:=by (erw [bt];erw [Dy]);rfl
    have n2:((zV scope).map (·.1))[j - F.ks.length]?=some x:=by (erw [bt];erw [DD]);rfl
    have:=K.nodup
    have l1:=(aq.mp n1).1
    have:=(gN l1 this).mp (n1.trans n2.symm)
    exact (n7 (bu E2)).symm.trans ((congrArg (· + F.ks.length) this).trans (n7 (bu DJ)))
 ·refine Ea (yD (show (z9 scope F.env.cells).lookup y=some c from hc)) λ h1 h2=>?_
  refine Ee (I.clo K _ h1 rfl) λ c' x6=>?_
  rw [x6] at h2
  simp only [dg] at h2
  subst h2
  refine qJ (I.cμ y c x6) λ g1 g2 g3 g4=>?_
  exact ⟨g1,g2,g3,Ic y c x6⟩
 ·refine Ea (yD (show (z9 scope F.env.cells).lookup x=some c from hx)) λ h1 h2=>?_
  refine Ea (yD (show (z9 scope F.env.cells).lookup y=some c from hy)) λ h3 h4=>?_
  refine Ee (I.clo K _ h1 rfl) λ c1 t6=>?_
  refine Ee (I.clo K _ h3 rfl) λ c2 x7=>?_
  rw [t6] at h2;rw [x7] at h4
  simp only [dg] at h2 h4
  exact I.cinj x y c (h2▸t6) (h4▸x7)
 ·(refine Ea (I.outs v hv) λ k1 Gl=>?_;refine Eea Gl λ L' k2 k3=>?_)
  refine ⟨k1,L',k2,.inr ?_⟩
  have tj:=Ba v L' hv k2
  rcases k3 with k3 | ⟨o,k3,k4,k5,k6,_⟩
  ·(refine Eea (I.loc) λ m' B5=>?_;(refine Eeeeaa (B5) λ o es ep ho hd _=>?_;try clear B5);intro _)
   exact ⟨o,k3▸ho,⟨es,ep,hd⟩,k3▸I.Lμ,k3▸I.Lφ,λ m=>by simp [zW] at m,tj⟩
  ·exact ⟨o,k3,k4,k5,k6,λ m=>by simp [zW] at m,tj⟩
end
section
variable {C:Cx}{T:Tabs}{F:Fm}{A:aM}{n:Nat}{s s' sG sC:ak}{φ j' sI sK:ai->Prop}{μ sz sJ sH:List ai}{ρ sB tD sP:Rho}{σ σ' sR:zA}{h h':aP}{own:List ai}{B L:ai}{s6:Rho->zA->(D->zA->Prop)->Prop}
noncomputable def ZT (F:Fm)(L B:ai):List ai:=L::B::F.env.locals::F.own
theorem wu {it:ag}{sT target iter:aH}{sL:List aH}{sO:List bm}{scope:bZ}{pos:dM}{t:Pt}{ifs:List Ex}{gs:List Gn}{src:Option (Nat×List ab)}{xs:List ab}{It:Nat->aP->Prop}{Sr:aP->(ai->Prop)->List ai->Prop}
  {Q:List ab->zA->Prop} {RR:ag->ai->lG->ak->Prop}
  (K:CompOk F.ks scope) (hg':∀ g',sO[0]?=some g'->g'.is_async=0) (W:Walk C T A it target own src xs It Sr) (hA:A.handled=none) (ht:trP (zh F.ks scope) target=some t)
  (hix:∀ j,j∈Z5 t∨j∈Z4 gs->F.ks.length<=j/\j<F.ks.length + (zV scope).length) (hdis:∀ j,j∈Z5 t->j∉Z4 gs)
  (hifs:∀ L ρ σ K,wpIfs C T n ifs ρ σ K->DB C T (zW F scope L) A (Z6 sL (zW F scope L).env) ρ σ K)
  (hin:∀ L B,B≠L->(∀ y c,(zW F scope L).env.cells.lookup y=some c->c≠B)->Y0 C T n A (zW F scope L) F ρ (ZT F L B) B s6 gs (ZN (.ListComp sT (⟨target,iter,sL,0⟩::sO) scope pos) sT (sO[0]?) 0 B (zW F scope L).env))
  (I:FrI F s.heap φ μ ρ) (G:Go C T F s φ μ sC sK sH ρ sR) (s7:It 0 sC.heap) (N:Lone sC.heap sK sH own) (hf:∀ b,b∈own->s.heap.get? b=none) (Ah:Sr sC.heap sK sH) (tn:zU src sR True)
  (hw:zT (zq C T n s6 t ifs gs (ρ++bJ (zV scope).length none) src) xs ([],sR) λ a=>Q a.1 a.2)
  (I0:∀ B L s' j' sz σ' acc sB,s.heap.get? B=none->s.heap.get? L=none->B≠L->GC C T (zW F scope L) F ρ (ZT F L B) B s φ μ s' j' sz sB σ' acc->Q acc σ'->RR (.ref B) L (.ok .next) s') :
  wpAny (model C.prog C.w) A (newList []) (λ ac th=>wpAny (model C.prog C.w) A (newFunctionEnv scope F.env.globals (z9 scope F.env.cells) [] F.env.qual none .none (some F.env)) (λ E0 Ab =>
   ez (model C.prog C.w) A (.compStart (.ListComp sT (⟨target,iter,sL,0⟩::sO) scope pos) 0 it ac {E0 with scope:=relabel scope F.env}) (RR ac E0.locals) Ab) NoE th) NoE sC:=by
 refine cB (wpAny_newFunctionEnv K.nocell (by intro y hy;simp at hy) (λ sS z' Ad=>?_) K.kind)
 dsimp only at z' Ad ⊢
 (refine Eee (id G.st) λ hh AC Bb=>?_;obtain rfl:=Bb)
 dsimp only at *
 generalize FX:hh.push {cls:=.type "list",dict:=none,data:=.seq ([]:List ag).toArray}=H2 at z' Ad ⊢
 have hC:H2.objs.size=hh.objs.size + 1:=by (refine rwS FX ?_;erw [dR];rfl)
 have Eo:hh.objs.size≠H2.objs.size:=by erw [hC];exact aB (aU _)
 have G9:∀ b o,hh.get? b=some o->H2.get? b=some o:=λ b o e=>FX▸am _ e
 have HB:H2.get? hh.objs.size=some (PySem.W.listOf ([]:List ag).toArray 0):=FX▸aG _ rfl
 have fB:=zd hh
 have fL:hh.get? H2.objs.size=none:=dB (by erw [hC];exact cT _)
 refine Ea (G.rel.grow (h':=H2.push {cls:=.type "dict",data:=.dict #[]}) λ b o e=>am _ (G9 b o e)) λ R3 X3=>?_
 have Lμ:H2.objs.size∉sH:=G.rel.notin_none fL
 have Lφ:¬ sK H2.objs.size:=G.rel.notfrz_none fL
 obtain ⟨KR,CH⟩:∃ o,sS.get? H2.objs.size=some o:=by (refine Eeeea (z') λ o es ep ho _=>?_;try clear z');exact ⟨o,ho⟩
 refine Ea (R3.but Lμ Lφ Ad CH) λ R4 X4=>?_
 have X:Ext hh sK sH sS sK sH [H2.objs.size]:=(X3.wider (λ b o m _=>by simp at m)).trans X4
 have CA:H2.objs.size∉own:=λ m=>by refine Ee (N.at_ _ m) λ o ho=>?_;rw [fL] at ho;cases ho
 have El:hh.objs.size∉own:=λ m=>by refine Ee (N.at_ _ m) λ o ho=>?_;rw [fB] at ho;cases ho
 have ET:∀ y c,F.env.cells.lookup y=some c->c≠H2.objs.size/\c≠hh.objs.size:=λ y c hc=>by
  (refine Ea (G.fr.cμ y c hc) λ Ct=>?_;(refine Ee (Ct) λ o h0=>?_;try clear Ct);intro _)
  exact ⟨λ q=>(by rw [q,fL] at h0;cases h0),λ q=>(by rw [q,fB] at h0;cases h0)⟩
 have Gv:F.env.locals≠H2.objs.size/\F.env.locals≠hh.objs.size:=by
  refine Eea (G.fr.loc) λ m' hn _=>?_
  (refine Eeeea (hn) λ o es ep ho r=>?_;try clear hn)
  exact ⟨λ q=>(by rw [q,fL] at ho;cases ho),λ q=>(by rw [q,fB] at ho;cases ho)⟩
 have fo:FrI F sS sK sH ρ:=G.fr.ext X (by simpa using Gv.1) (λ y c hc=>by simpa using (ET y c hc).1) (λ v L hv hl _=>by simpa using G.fr.ne_out fL hv hl)
 have I':FrI (zW F scope H2.objs.size) sS sK sH (ρ++bJ (zV scope).length none):=wK K fo (by simpa using z') Lμ Lφ (λ y c hc=>(ET y c hc).1) (λ v L hv hl=>G.fr.ne_out fL hv hl)
 refine Ea (N.ext X (λ b m=>by simp only [av];rintro rfl;exact CA m) λ _ _ h=>nomatch h) λ N' e'=>?_
 have tZ:=W.frame _ _ _ s7 e'
 have F2:=W.sr _ _ _ _ _ _ _ _ Ah X
 have G':GC C T (zW F scope H2.objs.size) F ρ (ZT F H2.objs.size hh.objs.size) hh.objs.size s φ μ {s with heap:=sS,toks:=AC + ([]:List (aK×ag)).length} sK sH (ρ++bJ (zV scope).length none) sR []:=by
  refine ⟨⟨_,_,rfl⟩,R4,I',(G.ext.wider λ b o m _=>?_).trans (X.wider λ b o m _=>?_).slack,⟨[],0,?_,.nil⟩,G.rel.notin_none fB,G.rel.notfrz_none fB,by simp [ZT,zW,pL],by simp [ZT],λ b m=>?_,fo,λ a ha=>?_,rfl⟩
  ·simp only [ZT,aA] at m ⊢;exact .inr (.inr m)
  ·rw [av] at m;simp [ZT,m]
  ·show sS.get? hh.objs.size=_
   exact Ad.extBut _ _ Eo (am _ HB)
  ·simp only [ZT,aA] at m
   rcases m with rfl | rfl | rfl | m
   ·exact ⟨_,CH⟩
   ·exact ⟨_,Ad.extBut _ _ Eo (am _ HB)⟩
   ·refine Eea (fo.loc) λ m' hn _=>?_;(refine Eeeea (hn) λ o es ep ho r=>?_;try clear hn);exact ⟨o,ho⟩
   ·exact fo.own _ m
  ·rcases ha with rfl | rfl
   ·exact ⟨Gv.1,λ y c hc=>(ET y c hc).1,λ v L hv hl=>G.fr.ne_out fL hv hl⟩
   ·exact ⟨Gv.2,λ y c hc=>(ET y c hc).2,λ v L hv hl=>G.fr.ne_out fB hv hl⟩
 have Hw:∀ y c,(zW F scope H2.objs.size).env.cells.lookup y=some c->c≠hh.objs.size:=λ y c hc=>by
  (refine Ea (I'.cμ y c hc) λ Bo=>?_;(refine Ee (Bo) λ o h0=>?_;try clear Bo);intro _)
  refine Ea (yD (show (z9 scope F.env.cells).lookup y=some c from hc)) λ h1 h2=>?_
  refine Ee (fo.clo K _ h1 rfl) λ c' x6=>?_
  rw [x6] at h2;simp only [dg] at h2;subst h2
  exact (ET y c x6).2
 have Ir:∀ y c,(zW F scope H2.objs.size).env.cells.lookup y=some c->c∉own:=λ y c hc m=>by
  refine Ea (yD (show (z9 scope F.env.cells).lookup y=some c from hc)) λ h1 h2=>?_
  refine Ee (fo.clo K _ h1 rfl) λ c' x6=>?_
  rw [x6] at h2;simp only [dg] at h2;subst h2
  exact I.ne_cells (hf _ m) x6 rfl
 have hlen:=I.len
 have free:∀ j,j∈Z5 t∨j∈Z4 gs->(ρ++bJ (zV scope).length (none:Option D))[j]?=some none:=λ j m=>by
  refine Ea (hix j m) λ h1 h2=>?_
  (erw [cC (by exact lin [_,_,_] [] (.v 0) (.v 1) [(1,.e (.v 0) (.v 2)),(1,.l (.v 2) (.v 1))] tT9 hlen h1)];erw [lc (by erw [hlen];exact fh h1 h2)];rfl)
 have loop:ez (model C.prog C.w) A (.compLoop (.ListComp sT (⟨target,iter,sL,0⟩::sO) scope pos) 0 it (.ref hh.objs.size) (zW F scope H2.objs.size).env)
   (λ r s'=>match r with | .ok f=>f=.next/\∃ j' sz σ' s3,GC C T (zW F scope H2.objs.size) F ρ (ZT F H2.objs.size hh.objs.size) hh.objs.size s φ μ s' j' sz (ρ++bJ (zV scope).length none) σ' s3/\Q s3 σ' | .error e=>False) _ :=
  Je (d:=0) rfl (λ g' e=>hg' g' (by simpa using e)) W hA ht (hifs _) (by simpa using hin H2.objs.size hh.objs.size Eo Hw) rfl Eo Hw (λ j m=>free j (.inl m)) (λ j m=>free j (.inr m)) hdis I
   (λ b m q=>by
    simp only [ZT,aA] at q
    rcases q with rfl | rfl | rfl | q
    ·exact CA m
    ·exact El m
    ·exact I.ne_locals (hf _ m) rfl
    ·exact I.ne_own (hf _ m) (bU _ q)) Ir hf G' tZ N' F2 tn hw
 refine fG (qF (d:=0) rfl loop (W.self 0 _ _ tZ loop)) λ r s9 hr=>?_
 cases r with
 | ok f =>
  obtain ⟨rfl,j',sz,σ',s3,g,q⟩:=hr
  exact I0 hh.objs.size H2.objs.size s9 j' sz σ' s3 _ (G.ext.back fB) (G.ext.back fL) Eo g q
 | error e=>exact hr.elim
end
structure CompSpec (C:Cx)(T:Tabs)(n:Nat)(A:aM)(F:Fm)(sT target iter:aH)(sL:List aH)(sO:List bm)(scope:bZ)(pos:dM)(t:Pt)(it:Ex)(ifs:List Ex)(gs:List Gn)(s6:Rho->zA->(D->zA->Prop)->Prop):Prop where
 K:CompOk F.ks scope
 hg':∀ g',sO[0]?=some g'->g'.is_async=0
 ht:trP (zh F.ks scope) target=some t
 hix:∀ j,j∈Z5 t∨j∈Z4 gs->F.ks.length<=j/\j<F.ks.length + (zV scope).length
 hdis:∀ j,j∈Z5 t->j∉Z4 gs
 fold:∀ x,foldedSetIterable iter F.env x=pure x
 hdi:∀ ρ σ K,(wpE C T n it ρ σ λ d σ'=>zf σ' d λ xs i=>K xs i σ')->DI C T F A iter target ρ σ K
 hifs:∀ L ρ σ K,wpIfs C T n ifs ρ σ K->DB C T (zW F scope L) A (Z6 sL (zW F scope L).env) ρ σ K
 hin:∀ L B ρ,B≠L->(∀ y c,(zW F scope L).env.cells.lookup y=some c->c≠B)->Y0 C T n A (zW F scope L) F ρ (ZT F L B) B s6 gs (ZN (.ListComp sT (⟨target,iter,sL,0⟩::sO) scope pos) sT (sO[0]?) 0 B (zW F scope L).env)
section
variable {C:Cx}{T:Tabs}{F:Fm}{A:aM}{n:Nat}{s s' sG sC:ak}{φ j' sI sK:ai->Prop}{μ sz sJ sH:List ai}{ρ sB tD sP:Rho}{σ σ' sR:zA}{h h':aP}{own:List ai}{B L:ai}{s6:Rho->zA->(D->zA->Prop)->Prop}
 {sT target iter:aH} {sL:List aH} {sO:List bm} {scope:bZ} {pos:dM} {t:Pt} {it:Ex} {ifs:List Ex} {gs:List Gn}
theorem Ws {acc:List ab}(I:FrI F s.heap φ μ ρ)(g:GC C T (zW F scope L) F ρ (ZT F L B) B s φ μ s' j' sz sB σ' acc)(fB:s.heap.get? B=none)(fL:s.heap.get? L=none):Go C T F s φ μ s' j' sz ρ σ' :=
 ⟨g.st,g.rel,g.fo,g.ext.wider λ b o m e=>by
  simp only [ZT,aA] at m ⊢
  rcases m with rfl | rfl | m
  ·rw [fL] at e;cases e
  ·rw [fB] at e;cases e
  ·exact m⟩
theorem jN {m:Bool}{acc:List ab}{Q:D->zA->Prop}(I:FrI F s.heap φ μ ρ)(G:Go C T F s φ μ s' j' sz ρ σ')(a:AccAt s'.heap j' B acc)(nm:B∉sz)(nf:¬ j' B)(fB:s.heap.get? B=none)
  (q:Zn m acc σ' Q):∃ s4 s5 d sM,Go C T F s φ μ s' s4 s5 ρ sM/\VD s'.heap s4 s5 (.ref B) d/\Q d sM/\∀ b,b≠B->b∉sz->¬ j' b->b∉s5/\¬ s4 b:=by
 (refine Eeea (a) λ vs nn e p=>?_;try clear a)
 cases m with
 | true =>
  refine Ea (Go.adopt (mo:=.lst acc) G fB nm nf e (I.ne_locals fB) (λ y c hc=>I.ne_cells fB hc) (λ v L hv hl=>I.ne_out fB hv hl) ⟨vs,nn,e,p⟩) λ G3 g=>?_
  exact ⟨_,_,_,_,G3,.obj g,q,λ b h1 h2 h3=>⟨by simp [h1,h2],h3⟩⟩
 | false =>
  have G3:=Go.more G fB nm e (I.ne_locals fB) (λ y c hc=>I.ne_cells fB hc) (λ v L hv hl=>I.ne_out fB hv hl)
  exact ⟨_,_,_,_,G3,.p (.lst (.inr rfl) ⟨_,e,rfl,_,rfl⟩ (p.mono λ a f=>⟨.inl f,rfl⟩)),q,λ b h1 h2 h3=>⟨h2,λ f=>f.elim h3 h1⟩⟩
def zi (m:Bool)(Q:D->zA->Prop):List ab×zA->Prop:=λ a=>Zn m a.1 a.2 Q
theorem uN {m:Bool}{use:Option (ag->kS Unit)}{Q:D->zA->Prop}{X:ag->ak->Prop}(S:CompSpec C T n A F sT target iter sL sO scope pos t it ifs gs s6)(hA:A.handled=none)
  (hw:wpE C T n it ρ σ λ d σ'=>zf σ' d λ xs i=>Few xs.length/\zT (zq C T n s6 t ifs gs (ρ++bJ (zV scope).length none) i) xs ([],σ') (zi m Q))
  (R:Rel C T s.heap φ μ σ) (I:FrI F s.heap φ μ ρ)
  (k:∀ B L s' j' sz σ' acc,s.heap.get? B=none->s.heap.get? L=none->B≠L->L∉sz->¬ j' L->(∃ mm,s'.heap.Ns L mm)->Go C T F s φ μ s' j' sz ρ σ'->AccAt s'.heap j' B acc->B∉sz->¬ j' B->zi m Q (acc,σ')->compPost (model C.prog C.w) A NoE use X (.ref B) L (.ok .next) s') (Av:dM) :
  wpAny (model C.prog C.w) A (p8 (.ListComp sT (⟨target,iter,sL,0⟩::sO) scope pos) scope F.env Av (newList []) false (eval iter F.env) use) X NoE s:=by
 refine wpAny_comprehension_free (cl:=z9 scope F.env.cells) (use:=use) rfl S.fold (UY (I.clo S.K)) S.K.kind (λ x hx hl=>hl▸S.K.look x hx) ?_
 refine S.hdi ρ σ _ hw s φ μ _ R I λ Fx s' j' sz σ' own src xs It Sr G W s7 N hf Ah tn hq=>?_
 refine wu S.K S.hg' W hA S.ht S.hix S.hdis S.hifs (λ L B h1 h2=>S.hin L B ρ h1 h2) I G s7 N hf Ah tn hq.2 (Q:=λ acc σ'=>zi m Q (acc,σ')) λ B L s9 sY sV sA acc tC fB fL Al g q=>?_
 have G':=Ws I g fB fL
 refine Eea (g.fr.loc) λ mm hn _=>?_
 exact k B L s9 sY sV sA acc fB fL Al g.fr.Lμ g.fr.Lφ ⟨mm,hn⟩ G' g.acc g.nm g.nf q
theorem zCu {m:Bool}{Q:D->zA->Prop}(S:CompSpec C T n A F sT target iter sL sO scope pos t it ifs gs s6)(hA:A.handled=none)
  (hw:wpE C T n it ρ σ λ d σ'=>zf σ' d λ xs i=>Few xs.length/\zT (zq C T n s6 t ifs gs (ρ++bJ (zV scope).length none) i) xs ([],σ') (zi m Q)) :
  DX C T F A (eval (.ListComp sT (⟨target,iter,sL,0⟩::sO) scope pos) F.env) ρ σ Q:=by
 intro s φ μ R I
 erw [eval_ListComp]
 refine uN (use:=none) S hA hw R I (λ B L s' j' sz σ' acc fB fL Al Lμ Lφ hn G a nm nf q=>?_) _
 refine Ee (hn) λ mm hn=>?_
 refine ⟨mm,hn,λ h' hs=>?_⟩
 have kk:∀ c o,c∉[L]->s'.heap.get? c=some o->h'.get? c=some o:=λ c o m e=>hs.extBut c o (by simpa using m) e
 have G1:=Go.endL (own:=[L]) (tk:=s'.toks) I G (λ b m=>by rw [av] at m;erw [m];exact fL) (λ b m=>by rw [av] at m;erw [m];exact Lμ) (λ b m=>by rw [av] at m;erw [m];exact Lφ) kk
 (refine Eeea (a) λ vs nn e p=>?_;try clear a)
 obtain ⟨s4,s5,d,sM,G2,V,q2,_⟩:=jN (m:=m) I G1 ⟨vs,nn,kk _ _ (by simpa using Al) e,p.mono λ a f=>⟨f,by
  refine Ee (G.rel.frz a f) λ o eo=>?_
  erw [eo];exact kk a o (λ q=>by rw [av] at q;exact Lφ (q▸f)) eo⟩⟩ nm nf fB q
 exact pvI G2 V q2
theorem Wj {m:Bool}{Q:Fl->Rho->zA->Prop}{x:aK}{iy:Nat}{px BV:dM}(S:CompSpec C T n A F sT target iter sL sO scope pos t it ifs gs s6)(hA:A.handled=none)
  (Gs:mw (.ListComp sT (⟨target,iter,sL,0⟩::sO) scope pos) (some (.Name x px)) BV.line F.env=pure true) (hi:F.ks[iy]?=some (x,.local))
  (hw:wpE C T n it ρ σ λ d σ'=>zf σ' d λ xs i=>Few xs.length/\zT (zq C T n s6 t ifs gs (ρ++bJ (zV scope).length none) i) xs ([],σ') (zi m λ d sA=>Q .next (ρ.set iy (some d)) sA)) :
  DS C T F A (exec (.Assign [.Name x px] (.ListComp sT (⟨target,iter,sL,0⟩::sO) scope pos) BV) F.env) ρ σ Q:=by
 intro s φ μ R I
 erw [exec_Assign_Name_used _ _ _ _ Gs]
 refine aa (bx (aa ?_))
 show wpAny _ A (do let _<-p8 (.ListComp sT (⟨target,iter,sL,0⟩::sO) scope pos) scope F.env _ (newList []) false (eval iter F.env) (some (gv (.Name x px) F.env))) _ _ s
 refine aa (au (uN (use:=some (gv (.Name x px) F.env)) (X:=λ _ s'=>PS C T F s φ μ Q .next s') S hA hw R I (λ B L s' j' sz σ' acc fB fL Al Lμ Lφ hn G a nm nf q=>?_) _) (λ _ s' hq=>aj (aj hq)) λ _ _ e=>e)
 refine Ee (hn) λ mm hn=>?_
 refine Eeeeeaaa (jN (m:=m) (Q:=λ d sA=>Q .next (ρ.set iy (some d)) sA) I G a nm nf fB q) λ s4 s5 d sM G2 V q2 hb=>?_
 refine Ea (hb L (mQ Al) Lμ Lφ) λ l1 l2=>?_
 show wpAny _ A (gv (.Name x px) F.env (.ref B)) _ _ _
 erw [ll]
 refine aa (bx (qP G2.rel G2.fr V hi (.inl rfl) λ th G3=>?_))
 obtain ⟨oL,Ba⟩:∃ o,s'.heap.get? L=some o:=by (refine Eeeea (hn) λ o es ep ho _=>?_;try clear hn);exact ⟨o,ho⟩
 have nL:L∉F.env.locals::F.own:=I.ne_own fL
 have Kr:th.heap.Ns L mm:=JF hn λ o ho=>G3.ext.oth _ o ho l1 nL
 have m1:=G3.ext.notin Ba l1
 have m2:=G3.ext.notfrz Ba l1 l2
 refine ⟨mm,Kr,λ h' hs=>?_⟩
 have kk:∀ c o,c∉[L]->th.heap.get? c=some o->h'.get? c=some o:=λ c o m e=>hs.extBut c o (by simpa using m) e
 have G4:=Go.endL (own:=[L]) (tk:=th.toks) I (G2.trans G3) (λ b m=>by rw [av] at m;erw [m];exact fL) (λ b m=>by rw [av] at m;erw [m];exact m1) (λ b m=>by rw [av] at m;erw [m];exact m2) kk
 exact psI G4 .next q2
end
def SE (C:Cx)(T:Tabs)(n:Nat)(A:aM)(F:Fm)(e:aH)(x:Ex):Prop:=∀ ρ σ Q,wpE C T n x ρ σ Q->DX C T F A (eval e F.env) ρ σ Q
def SB (C:Cx)(T:Tabs)(n:Nat)(A:aM)(F:Fm)(e:aH)(x:Ex):Prop:=∀ ρ σ K,(wpE C T n x ρ σ λ d σ'=>isB d λ b=>K b σ')->DB C T F A (isTrue e F.env (eval e F.env)) ρ σ K
def SL (C:Cx)(T:Tabs)(n:Nat)(A:aM)(F:Fm)(es:List aH)(xs:List Ex):Prop:=∀ pos ρ σ Q,wpEs C T n xs ρ σ Q->DXs C T F A (spliced (backTo pos (starEach es F.env))) ρ σ λ ds σ'=>ds.length=es.length/\Q ds σ'
section
variable {C:Cx}{T:Tabs}{F:Fm}{A:aM}{n:Nat}{s s' sG sC:ak}{φ j':ai->Prop}{μ sz:List ai}{ρ sB:Rho}{σ σ':zA}{pos Av:dM}{e e' a b c o:aH}{x y z xa xb xc:Ex}{es:List aH}{xs:List Ex}
theorem SE.sb (h:SE C T n A F e x)(hp:∀ env whole,isTrue e env whole=(do let v<-whole;fU e.pos;cO [v] (mL v)):=by intros;rfl):SB C T n A F e x:=λ ρ σ K hw s φ μ R I=>by
 refine isTrue_plain ((h ρ σ _ hw).seq R I λ s' j' sz v d σ' G V q=>?_) (hp _ _)
 exact au (yz G.rel G.fr V q) (λ b sF hb=>PB.up G hb) λ _ _ e=>e
theorem wb:SL C T n A F [] []:=λ pos ρ σ Q h s φ μ R I=>aj ⟨φ,μ,[],σ,Go.refl R I,.nil,rfl,h⟩
theorem j9 (he:starEach (e::es) F.env=(false,eval e F.env)::starEach es F.env)(h1:SE C T n A F e x)(h2:SL C T n A F es xs):SL C T n A F (e::es) (x::xs):=λ pos ρ σ Q h s φ μ R I=>by
 refine wpAny_items_cons ((h1 ρ σ _ h).seq R I λ s' j' sz v d σ' G V q=>?_) he
 refine (h2 pos ρ σ' _ q).seq G.rel G.fr λ s9 sY sV vs ds sA G' V' q'=>?_
 exact ⟨sY,sV,d::ds,sA,G.trans G',.cons (G'.ext.vd V) V',congrArg (· + 1) q'.1,q'.2⟩
theorem zB1 {x:aK}(hi:aix F.ks x=some i)(hx:(x==("__debug__":aK))=false)(hc:(x==("__classdict__":aK))=false):SE C T n A F (.Name x pos) (.nm i):=λ ρ σ Q h s φ μ R I=>by
 refine Eea (zDB hi) λ k h1 h2=>?_
 refine Eea (Is.h h) λ d e h=>?_
 refine Eea (ob e) λ o e1 e2=>?_
 cases (show o=some d from e2)
 exact zBm R I h1 h2 e1 hx hc h
theorem zBP {x:aK}(Y:C.Good)(TT:TOk C T)(hg:T.glob[g]?=some (x,d))(hk:F.env.kindOf x=some .globalImplicit)(hx:(x==("__debug__":aK))=false):SE C T n A F (.Name x pos) (.gl g):=λ ρ σ Q h s φ μ R I=>by
 refine Eea (Is.h h) λ p e h=>?_
 cases hg.symm.trans e
 exact xB Y R I hk (TT.glob g x d hg) hx h
theorem zA7 {k:Const}{p:ab}(h:XU k=some p):SE C T n A F (.Constant k i pos) (.c p):=λ ρ σ Q hw s φ μ R I=>W6 R I h hw
theorem zCM (h:SL C T n A F es xs)(hl:es.length<=100000):SE C T n A F (.Tuple es k pos) (.tup xs):=λ ρ σ Q hw s φ μ R I=>by
 erw [arm_eval_Tuple]
 refine aa (bx (aa ((h pos ρ σ _ hw).seq R I λ s' j' sz vs ds σ' G V q=>?_)))
 exact au (WF G.rel G.fr V (zv (show Few vs.length from (Zs V).trans q.1▸hl)) q.2) (λ v sF hv=>PV.up G hv) λ _ _ e=>e
theorem zEm (h:SL C T n A F es xs)(hl:es.length<=100000):SE C T n A F (.List es pos) (.lst m xs):=λ ρ σ Q hw s φ μ R I=>by
 erw [arm_eval_List]
 refine aa (bx (aa ((h pos ρ σ _ hw).seq R I λ s' j' sz vs ds σ' G V q=>?_)))
 refine Ea (q) λ q0 q=>?_
 refine Eea (q.h) λ ps AN q=>?_
 have hv:=zv (show Few vs.length from (Zs V).trans q0▸hl)
 cases m with
 | true=>exact au (WE G.rel G.fr (QA V AN) hv q) (λ v sF hv=>PV.up G hv) λ _ _ e=>e
 | false=>exact au (wW G.rel G.fr (QA V AN) hv q) (λ v sF hv=>PV.up G hv) λ _ _ e=>e
theorem zCT {op:lC}(ha:SE C T n A F a x)(hb:SE C T n A F b y):SE C T n A F (.BinOp a op b pos) (.bin op x y):=λ ρ σ Q hw s φ μ R I=>by
 refine wpAny_BinOp ((ha ρ σ _ hw).seq R I λ s' j' sz v d σ' G V q=>?_)
 refine (hb ρ σ' _ q).seq G.rel G.fr λ s9 sY sV w d' sA G' W q'=>?_
 exact au (zDl G'.rel G'.fr (G'.ext.vd V) W q') (λ v sF hv=>PV.up (G.trans G') hv) λ _ _ e=>e
theorem zCA (ha:SE C T n A F a x):SE C T n A F (.UnaryOp .USub a pos) (.neg x):=λ ρ σ Q hw s φ μ R I=>by
 refine UnaryOp_ ((ha ρ σ _ hw).seq R I λ s' j' sz v d σ' G V q=>?_)
 exact au (zCL (Q:=Q) G.rel G.fr V q) (λ v sF hv=>PV.up G hv) λ _ _ e=>e
theorem zEd (ha:SE C T n A F a x):SE C T n A F (.UnaryOp .Not a pos) (.not x):=λ ρ σ Q hw s φ μ R I=>by
 refine UnaryOp_ ((ha ρ σ _ hw).seq R I λ s' j' sz v d σ' G V q=>?_)
 exact au (zCZ G.rel G.fr V q) (λ v sF hv=>PV.up G hv) λ _ _ e=>e
theorem zE8 (ha:SB C T n A F a x):SB C T n A F (.UnaryOp .Not a pos) (.not x):=λ ρ σ K hw s φ μ R I=>by
 refine isTrue_not (au (ha ρ σ (λ b σ'=>K (!b) σ') hw s φ μ R I) (λ b sF hh=>Eeeea hh λ j' sz σ' G q=>pbI G q) λ _ _ e=>e)
theorem zE0 (hc:SB C T n A F c z)(ha:SE C T n A F a x)(hb:SE C T n A F b y):SE C T n A F (.IfExp c a b pos) (.ite z x y):=λ ρ σ Q hw s φ μ R I=>by
 refine IfExp_ ((hc ρ σ _ hw).seq R I λ s' j' sz r σ' G q=>?_)
 cases r with
 | true=>exact au (ha ρ σ' Q (q.t rfl) s' j' sz G.rel G.fr) (λ v sF hv=>PV.up G hv) λ _ _ e=>e
 | false=>exact au (hb ρ σ' Q (q.f rfl) s' j' sz G.rel G.fr) (λ v sF hv=>PV.up G hv) λ _ _ e=>e
theorem zDz (hc:SB C T n A F c z)(ha:SB C T n A F a x)(hb:SB C T n A F b y):SB C T n A F (.IfExp c a b pos) (.ite z x y):=λ ρ σ K hw s φ μ R I=>by
 refine isTrue_IfExp ((hc ρ σ _ hw).seq R I λ s' j' sz r σ' G q=>?_)
 cases r with
 | true=>exact au (ha ρ σ' K (q.t rfl) s' j' sz G.rel G.fr) (λ v sF hv=>PB.up G hv) λ _ _ e=>e
 | false=>exact au (hb ρ σ' K (q.f rfl) s' j' sz G.rel G.fr) (λ v sF hv=>PB.up G hv) λ _ _ e=>e
inductive Each (P:aH->Ex->Prop):List aH->List Ex->Prop
 | nil:Each P [] []
 | cons {e:aH} {x:Ex} {es:List aH} {xs:List Ex}:P e x->Each P es xs->Each P (e::es) (x::xs)
theorem zDt {es:List aH}{xs:List Ex}(h:Each (SE C T n A F) es xs):SE C T n A F (.BoolOp .And es pos) (.and xs):=by
 induction h with
 | nil=>exact λ ρ σ Q hw=>hw.elim
 | cons h r ih=>cases r with
  | nil=>exact λ ρ σ Q hw s φ μ R I=>BoolOp_one (h ρ σ Q hw s φ μ R I)
  | cons h' t =>
   exact λ ρ σ Q hw s φ μ R I=>BoolOp_and ((h ρ σ _ hw).seq R I λ s' j' sz v d σ' G V q=>by
    (refine Eeaa (jY V q) λ r Ek=>?_;obtain rfl:=Ek;intro Ct;obtain rfl:=Ct;intro q)
    refine eA ?_
    cases r with
    | true=>exact au (ih ρ σ' Q q s' j' sz G.rel G.fr) (λ v sF hv=>PV.up G hv) λ _ _ e=>e
    | false=>exact PV.up G (zr G.rel G.fr V q))
theorem zFq {es:List aH}{xs:List Ex}(h:Each (SE C T n A F) es xs):SE C T n A F (.BoolOp .Or es pos) (.or xs):=by
 induction h with
 | nil=>exact λ ρ σ Q hw=>hw.elim
 | cons h r ih=>cases r with
  | nil=>exact λ ρ σ Q hw s φ μ R I=>BoolOp_one (h ρ σ Q hw s φ μ R I)
  | cons h' t =>
   exact λ ρ σ Q hw s φ μ R I=>BoolOp_or ((h ρ σ _ hw).seq R I λ s' j' sz v d σ' G V q=>by
    (refine Eeaa (jY V q) λ r BN=>?_;obtain rfl:=BN;intro AH;obtain rfl:=AH;intro q)
    refine eA ?_
    cases r with
    | true=>exact PV.up G (zr G.rel G.fr V q)
    | false=>exact au (ih ρ σ' Q q s' j' sz G.rel G.fr) (λ v sF hv=>PV.up G hv) λ _ _ e=>e)
theorem zDi {es:List aH}{xs:List Ex}(h:Each (SB C T n A F) es xs):SB C T n A F (.BoolOp .And es pos) (.and xs):=by
 induction h with
 | nil=>exact λ ρ σ Q hw=>hw.elim
 | cons h r ih=>cases r with
  | nil =>
   exact λ ρ σ K hw s φ μ R I=>isTrue_and ((h ρ σ K hw).seq R I λ s' j' sz r σ' G q=>by
    cases r with
    | true=>exact isTrue_and_nil (pbI G q)
    | false=>exact pbI G q)
  | cons h' t =>
   exact λ ρ σ K hw s φ μ R I=>isTrue_and ((h ρ σ _ hw).seq R I λ s' j' sz r σ' G q=>by
    cases r with
    | true=>exact au (ih ρ σ' K q s' j' sz G.rel G.fr) (λ v sF hv=>PB.up G hv) λ _ _ e=>e
    | false=>exact pbI G q)
theorem zEz {es:List aH}{xs:List Ex}(h:Each (SB C T n A F) es xs):SB C T n A F (.BoolOp .Or es pos) (.or xs):=by
 induction h with
 | nil=>exact λ ρ σ Q hw=>hw.elim
 | cons h r ih=>cases r with
  | nil =>
   exact λ ρ σ K hw s φ μ R I=>isTrue_or ((h ρ σ K hw).seq R I λ s' j' sz r σ' G q=>by
    cases r with
    | true=>exact pbI G q
    | false=>exact isTrue_or_nil (pbI G q))
  | cons h' t =>
   exact λ ρ σ K hw s φ μ R I=>isTrue_or ((h ρ σ _ hw).seq R I λ s' j' sz r σ' G q=>by
    cases r with
    | true=>exact pbI G q
    | false=>exact au (ih ρ σ' K q s' j' sz G.rel G.fr) (λ v sF hv=>PB.up G hv) λ _ _ e=>e)
theorem zCV (hA:Room n A)(ha:SE C T n A F a x)(hb:SE C T n A F b y)(hm:kc op b=false):SE C T n A F (.Compare a [op] [b] pos) (.cmp x op y):=λ ρ σ Q hw s φ μ R I=>by
 refine wpAny_Compare1 ((ha ρ σ _ hw).seq R I λ s' j' sz v d σ' G V q=>?_) hm
 refine (hb ρ σ' _ q).seq G.rel G.fr λ s9 sY sV w d' sA G' W q'=>?_
 exact au (Zq hA G'.rel G'.fr (G'.ext.vd V) W (Qt hA G'.rel) q') (λ v sF hv=>PV.up (G.trans G') hv) λ _ _ e=>e
theorem zEl (hA:Room n A)(ha:SE C T n A F a x)(hb:SE C T n A F b y)(hm:kc op b=false):SB C T n A F (.Compare a [op] [b] pos) (.cmp x op y):=λ ρ σ K hw s φ μ R I=>by
 refine wpAny_isTrue_Compare1 ((ha ρ σ _ hw).seq R I λ s' j' sz v d σ' G V q=>?_) hm
 refine (hb ρ σ' _ q).seq G.rel G.fr λ s9 sY sV w d' sA G' W q'=>?_
 refine au (Zq (Q:=λ d σ'=>isB d λ b=>K b σ') hA G'.rel G'.fr (G'.ext.vd V) W (Qt hA G'.rel) q') (λ v sF hv=>?_) λ _ _ e=>e
 (refine Eeeeeaa (hv) λ tG tI EA sD tH AA tE=>?_;try clear hv)
 exact au (yz tH.rel tH.fr AA tE) (λ b sF hb=>PB.up ((G.trans G').trans tH) hb) λ _ _ e=>e
theorem zBz (hA:Room n A)(ha:SE C T n A F a x)(hb:SE C T n A F b y)(hc:SE C T n A F c z)(hm:kc t0 c=false):SE C T n A F (.Compare a [op,t0] [b,c] pos) (.cmp2 x op y t0 z):=λ ρ σ Q hw s φ μ R I=>by
 erw [arm_eval_Compare]
 have e0:markedEach [op,t0] [b,c] (evalEach [b,c] F.env)=[eval b F.env,pM t0 c (eval c F.env)]:=rfl
 (erw [e0];erw [my hm])
 refine aa ((ha ρ σ _ hw).seq R I λ s' j' sz v d σ' G V q=>?_)
 show wpAny _ _ (do
  let rv<-cO [v] (eval b F.env)
  fU pos
  let c'<-cO [v,rv] (compareOp op v rv)
  release [v,rv] [c']
  if<-cO [c',rv] (mL c') then compareChain pos rv [t0] [eval c F.env] else pure c') _ _ _
 refine aa (aO ((hb ρ σ' _ q).seq G.rel G.fr λ s9 sY sV w d' sA G' W q'=>aa (bx (aa (aO ?_)))))
 refine au (Zq (Q:=λ d sD=>isB d λ r=>Br r (wpE C T n z ρ sD λ z sD=>wpC t0 sD d' z λ r'=>Q (.p (.bool r')) sD) (Q (.p (.bool false)) sD)) hA G'.rel G'.fr (G'.ext.vd V) W (λ i es k q a b P hi ha v hd hq p=>Qt hA G'.rel i es k q a b P hi ha v hd hq p) q') (λ Hc th hv=>?_) λ _ _ e=>e
 (refine Eeeeeaa (hv) λ tG tI EA sD tH AA tE=>?_;try clear hv)
 (refine Eeaa (jY AA tE) λ r Dt=>?_;obtain rfl:=Dt;intro A7;obtain rfl:=A7;intro tE)
 refine aa (fV (aa (aO (eA ?_))))
 have B6:=(G.trans G').trans tH
 cases r with
 | false=>exact aj (PV.up B6 (zr tH.rel tH.fr AA (tE.f rfl)))
 | true =>
  show wpAny _ _ (do
   let rv<-cO [w] (eval c F.env)
   fU pos
   operate [w,rv] (compareOp t0 w rv)) _ _ _
  refine aa (aO ((hc ρ sD _ (tE.t rfl)).seq tH.rel tH.fr λ Ab Bv BL u Gc BI Aa U CW=>aa (bx (pN ?_))))
  exact au (Zq hA Aa.rel Aa.fr (Aa.ext.vd (tH.ext.vd W)) U (λ i es k q a b P hi ha v hd hq p=>Qt hA Aa.rel i es k q a b P hi ha v hd hq p) CW) (λ v sF hv=>PV.up (B6.trans Aa) hv) λ _ _ e=>e
theorem zCe (hA:Room n A)(ha:SE C T n A F a x)(hb:SE C T n A F b y)(hc:SE C T n A F c z)(hm:kc t0 c=false):SB C T n A F (.Compare a [op,t0] [b,c] pos) (.cmp2 x op y t0 z):=λ ρ σ K hw s φ μ R I=>by
 have BS:wpE C T n x ρ σ λ x σ'=>wpE C T n y ρ σ' λ y sA=>wpC op sA x y λ r=>isB (.p (.bool r)) λ r =>
   Br r (wpE C T n z ρ sA λ z sD=>wpC t0 sD y z λ r'=>K r' sD) (K false sA):=hw
 have e1:isTrue (.Compare a [op,t0] [b,c] pos) F.env (eval (.Compare a [op,t0] [b,c] pos) F.env)=(do testChain pos (<- eval a F.env) [op,t0] [eval b F.env,pM t0 c (eval c F.env)]):=rfl
 (erw [e1];erw [my hm])
 refine aa ((ha ρ σ _ BS).seq R I λ s' j' sz v d σ' G V q=>?_)
 show wpAny _ _ (do
  let rv<-cO [v] (eval b F.env)
  fU pos
  let c'<-cO [v,rv] (compareOp op v rv)
  release [v,rv] [c']
  if<-cO [c',rv] (mL c') then testChain pos rv [t0] [eval c F.env] else pure false) _ _ _
 refine aa (aO ((hb ρ σ' _ q).seq G.rel G.fr λ s9 sY sV w d' sA G' W q'=>aa (bx (aa (aO ?_)))))
 refine au (Zq (Q:=λ d sD=>isB d λ r=>Br r (wpE C T n z ρ sD λ z sD=>wpC t0 sD d' z λ r'=>K r' sD) (K false sD)) hA G'.rel G'.fr (G'.ext.vd V) W (λ i es k q a b P hi ha v hd hq p=>Qt hA G'.rel i es k q a b P hi ha v hd hq p) q') (λ Hc th hv=>?_) λ _ _ e=>e
 (refine Eeeeeaa (hv) λ tG tI EA sD tH AA tE=>?_;try clear hv)
 (refine Eeaa (jY AA tE) λ r CJ=>?_;obtain rfl:=CJ;intro Ek;obtain rfl:=Ek;intro tE)
 refine aa (fV (aa (aO (eA ?_))))
 have B6:=(G.trans G').trans tH
 cases r with
 | false=>exact aj (pbI B6 (tE.f rfl))
 | true =>
  show wpAny _ _ (do
   let rv<-cO [w] (eval c F.env)
   fU pos
   let c<-operate [w,rv] (compareOp t0 w rv)
   cO [c] (mL c)) _ _ _
  refine aa (aO ((hc ρ sD _ (tE.t rfl)).seq tH.rel tH.fr λ Ab Bv BL u Gc BI Aa U CW=>aa (bx (aa (pN ?_)))))
  refine au (Zq (Q:=λ d σ'=>isB d λ b=>K b σ') hA Aa.rel Aa.fr (Aa.ext.vd (tH.ext.vd W)) U (λ i es k q a b P hi ha v hd hq p=>Qt hA Aa.rel i es k q a b P hi ha v hd hq p) CW) (λ Ib EZ Ci=>?_) λ _ _ e=>e
  (refine Eeeeeaa (Ci) λ HU H3 IH Hu C3 FE FG=>?_;try clear Ci)
  exact aO (au (yz C3.rel C3.fr FE FG) (λ b sF hb=>PB.up ((B6.trans Aa).trans C3) hb) λ _ _ e=>e)
end
noncomputable def zc (e:aH):Bool:=!Nat.beq e.ctorIdx 22
theorem ZW {e:aH}{es:List aH}(h:zc e=true):starEach (e::es) env=(false,eval e env)::starEach es env:=by
 cases e <;> first | rfl | exact absurd h aT
theorem all_cons {α:Type}{p:α->Bool}{a:α}{l:List α}(h:(a::l).all p=true):p a=true/\l.all p=true:=(bG ..).mp h
theorem qG :∀ {es:List aH},es.all zc=true->(backTo pos (starEach es env)).any (·.1)=false
 | [],_=>rfl
 | e::es,h=>by
  have h:=all_cons h
  erw [ZW h.1]
  show ((false || (backTo pos (starEach es env)).any (·.1)))=false
  erw [qG h.2];rfl
theorem Yu :∀ {es:List aH},es.all zc=true->(backTo pos (starEach es env)).all (!·.1)=true
 | [],_=>rfl
 | e::es,h=>by
  have h:=all_cons h
  erw [ZW h.1]
  show ((true&&(backTo pos (starEach es env)).all (!·.1)))=true
  erw [Yu h.2];rfl
theorem jZ {es:List aH}(hp:es.all zc=true)(hlen:es.length<30):methodCallForm (es.length + ([]:List lA).length) (backTo pos (starEach es env)) (backToKw pos (keywordEach [] env))=true:=by
 show ((backTo pos (starEach es env)).all (!·.1)&&true&&decide (es.length<30))=true
 (erw [Yu hp];erw [decide_eq_true hlen]);rfl
noncomputable def Q9 (e:aH):Bool:=by cases e with
 | Call f es kw p=>cases es with
  | nil=>exact false
  | cons _ _=>exact true
 | _=>exact true
theorem y5 {o:aH}{name:aK}{w:kS ag}(h:Q9 o=true):p9 o name env w=w:=by
 cases o with
 | Call f es kw p=>cases es with
  | nil=>exact absurd h aT
  | cons _ _=>cases f <;> rfl
 | _=>rfl
section
variable {C:Cx}{T:Tabs}{F:Fm}{A:aM}{n:Nat}{s s' sG sC:ak}{φ j':ai->Prop}{μ sz:List ai}{ρ sB:Rho}{σ σ':zA}{pos Av apos:dM}{e e' a b c o:aH}{x y z xa xb xc xo:Ex}{es:List aH}{xs:List Ex}
theorem QZ {E:ag->ak->Prop}{f:ag}{first:List ag}{Q:ag->ak->Prop}(hp:es.all zc=true)
  (h:wpAny (model C.prog C.w) A (spliced (backTo pos (starEach es F.env))) (λ vs sC=>(C.K.In sC.heap/\∀ a,f=.ref a->keepIn C.K (.ref a)=true)/\wpAny (model C.prog C.w) A (call f (first++vs)) Q E sC) E s) :
  wpAny (model C.prog C.w) A (lQ pos f first (backTo pos (starEach es F.env)) []) Q E s:=by
 refine callWith_of (P:=λ h=>C.K.In h/\∀ a,f=.ref a->keepIn C.K (.ref a)=true) (by show ((backTo pos (starEach es F.env)).any (·.1) || false)=false;erw [qG hp];rfl) (λ hh q=>Ea q λ X k=>?_) (yw (qG hp) h)
 by_cases hf:∃ a,f=.ref a
 ·(refine Ee (hf) λ a Bb=>?_;try clear hf;obtain rfl:=Bb)
  exact keeps_K (k a rfl) hh X
 ·refine ⟨.machine,.inr (.inl rfl),?_⟩
  have:keeperOf f=pure .machine:=by
   cases f <;> first | rfl | exact absurd ⟨_,rfl⟩ hf
  erw [this];exact rN
def zD0 (C:Cx)(T:Tabs)(n:Nat)(m:Bool)(g:D)(ds:List D)(σ:zA)(Q:D->zA->Prop):Prop:=match g with
 | .fn a=>XI m (SatCall C T n a ds σ Q)
 | .bi b=>Zj m b ds σ Q
 | _=>False
theorem V6 {m:Bool}{g:D}{Q:D->zA->Prop}(Y:C.Good)(hA:Room n A)(hF:A.frames=some F.fs)(R:Rel C T s.heap φ μ σ)(I:FrI F s.heap φ μ ρ)(V:VD s.heap φ μ v g)(W:VDs s.heap φ μ vs ds)
  (h:zD0 C T n m g ds σ Q) :
  (∀ a,v=.ref a->keepIn C.K (.ref a)=true)/\wpAny (model C.prog C.w) A (call v vs) (PV C T F s φ μ ρ Q) NoE s:=by
 cases g with
 | fn a =>
  cases V.ifn
  cases m with
  | true=>exact h.elim
  | false =>
   have sc:SatCall C T n a ds σ Q:=h
   refine ⟨λ a' e=>by (injection e with y1y0;subst y1y0);exact sc.keep,au (sc.run A s φ μ vs hA (I.out hF) R W) (λ r s' hh=>Eee hh λ h' tk hh=>Eeeeeaaaa hh λ j' sz d σ' e R' X V' q=>?_) λ _ _ e=>e⟩
   subst e
   exact pvI (Go.of_extF I R' (jk hF▸X)) V' q
 | bi b=>cases V.ibi;exact ⟨λ a e=>(by cases b <;> cases e),zFa Y hA R I W h⟩
 | _=>exact h.elim
theorem zCr {id:aK}{p:dM}{xf:Ex}(Y:C.Good)(hA:Room n A)(hF:A.frames=some F.fs)(hf:SE C T n A F (.Name id p) xf)(ha:SL C T n A F es xs)(hp:es.all zc=true):SE C T n A F (.Call (.Name id p) es [] pos) (.call m xf xs):=λ ρ σ Q h s φ μ R I=>by
 erw [nP]
 refine aa ((hf ρ σ _ h).seq R I λ s' j' sz v g σ' G V q=>?_)
 show wpAny _ _ (lQ pos v [] (backTo pos (starEach es F.env)) []) _ _ _
 refine QZ hp ((ha pos ρ σ' _ q).seq G.rel G.fr λ s9 sY sV vs ds sA G' V' q'=>?_)
 refine Ea (V6 Y hA hF G'.rel G'.fr (G'.ext.vd V) V' q'.2) λ h1 h2=>?_
 exact ⟨⟨Y.X.keeps G'.rel.keep,h1⟩,au h2 (λ v sF hv=>PV.up (G.trans G') hv) λ _ _ e=>e⟩
theorem zF5 (h:yY mo k=true):∃ r,JH mo k=some r:=by
 cases mo with
 | lst _ =>
  show ∃ r,jP k=some r
  unfold jP
  cases e:aZ k 0 with
  | true=>exact ⟨_,rfl⟩
  | false =>
   have h:(aZ k 0 || aZ k 3)=true:=h
   rw [e] at h
   exact ⟨_,by refine rwE (show aZ k 3=true from h) ?_;rfl⟩
 | idict _ =>
  show ∃ r,jt k=some r
  unfold jt
  cases e:aZ k 1 with
  | true=>exact ⟨_,rfl⟩
  | false =>
   have h:(aZ k 1 || aZ k 2)=true:=h
   rw [e] at h
   exact ⟨_,by refine rwE (show aZ k 2=true from h) ?_;rfl⟩
 | _=>exact a8 h
theorem zBx {mo':MO}{σ:zA}{Q:D->zA->Prop}(h:JH mo k=some r)(h':yO i mo' k ds σ Q):JH mo' k=some r:=by
 cases mo with
 | lst _ =>
  cases mo' with
  | lst _=>exact h
  | idict _=>rcases Ye h with ⟨rfl,rfl⟩ | ⟨rfl,rfl⟩ <;> exact h'.elim
  | _=>exact h'.elim
 | idict _=>cases mo' with
  | idict _=>exact h
  | lst _=>rcases YU h with ⟨rfl,rfl⟩ | ⟨rfl,rfl⟩ <;> exact h'.elim
  | _=>exact h'.elim
 | _=>exact nn h
theorem zAK (TT:TOk C T)(h:JH mo k=some r):T.names[k]?=some r.2.1:=by
 cases mo with
 | lst _=>rcases Ye h with ⟨rfl,rfl⟩ | ⟨rfl,rfl⟩;exact TT.n0;exact TT.n3
 | idict _=>rcases YU h with ⟨rfl,rfl⟩ | ⟨rfl,rfl⟩;exact TT.n1;exact TT.n2
 | _=>exact nn h
noncomputable def jG (F:Fm)(o:aH)(nm:aK)(es:List aH)(apos pos:dM)(v:ag):kS ag:=do
 let (f,first)<-cO [v] (calleeOf true o F.env v nm)
 let callPos<-fk true o F.env apos pos
 lQ callPos f first (backTo pos (starEach es F.env)) []
theorem WU {X:ag->ak->Prop}(hp:es.all zc=true)(hb:Q9 o=true)(hlen:es.length<30)(h:wpAny (model C.prog C.w) A (eval o F.env) (λ v s'=>wpAny (model C.prog C.w) A (jG F o nm es apos pos v) X E s') E s) :
  wpAny (model C.prog C.w) A (eval (.Call (.Attribute o nm apos) es [] pos) F.env) X E s:=by
 (erw [rc];erw [y5 hb])
 have Bz:=jZ (pos:=pos) (env:=F.env) hp hlen
 refine aa (au h (λ v s' hv=>aa (bx ?_)) λ _ _ e=>e)
 unfold methodCall
 erw [Bz]
 exact hv
theorem WK {X:ag->ak->Prop}{E:ag->ak->Prop}{a:ai}{W:ai->List D->zA->Prop}(Y:C.Good)(TT:TOk C T)(hk:T.names[k]?=some nm)(ha:SL C T n A F es xs)(hp:es.all zc=true)(hl:(apos.endLine==pos.line)=true)(R:Rel C T s.heap φ μ σ)(I:FrI F s.heap φ μ ρ)(AU:μ[i]?=some a)(hi:σ[i]?=some mo)
  (h:∃ K j,mo=.inst K j/\Is (σ[j]?.bind jJ) λ fs=>noO (look k fs) (Is (zS K k T.meth) λ f=>wpEs C T n xs ρ σ λ ds sA=>W f (.obj i::ds) sA))
  (kk:∀ f ds sA s9 sY sV vs,W f ds sA->Go C T F s φ μ s9 sY sV ρ sA->VDs s9.heap sY sV vs ds->keepIn C.K (.ref f)=true/\wpAny (model C.prog C.w) A (call (.ref f) vs) X E s9):wpAny (model C.prog C.w) A (jG F o nm es apos pos (.ref a)) X E s:=by
 (refine Eeea h λ K j q1 q=>?_;subst q1)
 have x9:fk true o F.env apos pos=pure pos:=by unfold fk;simp [hl]
 refine Eea (Is.h q) λ fs e1 q=>?_
 refine Eea (ob e1) λ mo' hj e2=>?_
 obtain rfl:=WD e2
 refine Ea (XA q) λ t5 q=>?_
 refine Eea (Is.h q) λ f Am q=>?_
 refine aa (aO (w9 Y TT hk R AU hi hj t5 Am ?_))
 refine aa (gK x9 ?_)
 refine QZ hp ((ha pos ρ σ _ q).seq R I λ s9 sY sV vs ds sA G' V' q'=>?_)
 refine Ea (kk f _ sA s9 sY sV (.ref a::vs) q'.2 G' (.cons (G'.ext.vd (.obj AU)) V')) λ k1 k2=>?_
 exact ⟨⟨Y.X.keeps G'.rel.keep,λ a' e=>by (injection e with y3y0;subst y3y0);exact k1⟩,k2⟩
theorem zAU (Y:C.Good)(TT:TOk C T)(hA:Room n A)(hF:A.frames=some F.fs)(hk:T.names[k]?=some nm)(ho:SE C T n A F o xo)(ha:SL C T n A F es xs)(hp:es.all zc=true)(hb:Q9 o=true)(hl:(apos.endLine==pos.line)=true)(hlen:es.length<30) :
  SE C T n A F (.Call (.Attribute o nm apos) es [] pos) (.meth xo k xs):=λ ρ σ Q h s φ μ R I=>by
 refine WU hp hb hlen ((ho ρ σ _ h).seq R I λ s' j' sz v g σ' G V q=>?_)
 refine Xg V q λ i a AU q=>?_
 refine Eea (q.h) λ mo hi q=>?_
 have bi:ifT (yY mo k) (wpEs C T n xs ρ σ' λ ds sA=>Get sA i λ mo'=>yO i mo' k ds sA Q)->wpAny (model C.prog C.w) A (jG F o nm es apos pos (.ref a)) (PV C T F s φ μ ρ Q) NoE s':=λ q=>by
  refine Ea (J2 q) λ hh q=>?_
  (refine Ee (zF5 hh) λ Ap=>?_;obtain ⟨ty,Lf,id⟩:=Ap;intro AG)
  obtain rfl:=il (hk.symm.trans (zAK TT AG))
  refine aa (aO (vN G.rel AU hi AG ?_))
  have x9:fk true o F.env apos pos=pure pos:=by unfold fk;simp [hl]
  refine aa (gK x9 ?_)
  refine QZ hp ((ha pos ρ σ' _ q).seq G.rel G.fr λ s9 sY sV vs ds sA G' V' q'=>?_)
  refine Eea (q'.2.h) λ mo' Dy hw=>?_
  exact ⟨⟨Y.X.keeps G'.rel.keep,λ a' e=>by cases e⟩,au (zEA hA G'.rel G'.fr (G'.ext.pre _ _ AU) Dy V' (zBx AG hw) hw) (λ v sF hv=>PV.up (G.trans G') hv) λ _ _ e=>e⟩
 cases mo with
 | inst K j =>
  refine WK (W:=λ f ds sA=>SatCall C T n f ds sA Q) Y TT hk ha hp hl G.rel G.fr AU hi ⟨K,j,rfl,q⟩ λ f ds sA s9 sY sV vs sc G' V'=>⟨sc.keep,?_⟩
  refine au (sc.run A s9 sY sV vs hA (G'.fr.out hF) G'.rel V') (λ r th hh=>?_) λ _ _ e=>e
  obtain ⟨h',tk,tG,tI,d,sD,e,R',X,AA,tE⟩:=hh
  subst e
  exact pvI ((G.trans G').trans (Go.of_extF G'.fr R' (jk hF▸X))) AA tE
 | lst _=>exact bi q
 | idict _=>exact bi q
 | _=>exact q.elim
theorem zBW (Y:C.Good)(TT:TOk C T)(hk:T.names[k]?=some nm)(ho:SE C T n A F o xo)(hb:Q9 o=true):SE C T n A F (.Attribute o nm pos) (.attr xo k):=λ ρ σ Q h s φ μ R I=>by
 (erw [arm_eval_Attribute];erw [y5 hb])
 refine aa ((ho ρ σ _ h).seq R I λ s' j' sz v g σ' G V q=>aa (bx (aa (aO ?_))))
 exact au (zBy Y TT hk G.rel G.fr V q) (λ v sF hv=>aa (wpAny_letTemporaryGo (aj (PV.up G hv)))) λ _ _ e=>e
noncomputable def uR (e:aH):Bool:=!Nat.beq e.ctorIdx 26
theorem Jn {e:aH}(h:uR e=true):UG e:=λ o i=>by
 cases e <;> first | rfl | exact absurd h aT
theorem zCG (Y:C.Good)(TT:TOk C T)(hA:Room n A)(ho:SE C T n A F o xo)(ha:SE C T n A F a x)(hs:uR a=true):SE C T n A F (.Subscript o a pos) (.sub xo x):=λ ρ σ Q h s φ μ R I=>by
 refine n8 ((ho ρ σ _ h).seq R I λ s' j' sz v d σ' G V q=>?_)
 refine (ha ρ σ' _ q).seq G.rel G.fr λ s9 sY sV w d' sA G' W q'=>?_
 exact au (zCX Y TT.gds hA (Jn hs) G'.rel G'.fr (G'.ext.vd V) W q') (λ v sF hv=>PV.up (G.trans G') hv) λ _ _ e=>e
theorem zCk {p:dM}(TT:TOk C T)(hk:T.names[k]?=some nm)(ho:SE C T n A F o xo):SE C T n A F (.Subscript o (.Constant (.str nm) i p) pos) (.subk xo k):=λ ρ σ Q h s φ μ R I=>by
 refine n8 ((ho ρ σ _ h).seq R I λ s' j' sz v d σ' G V q=>fy ?_)
 refine Xg V q λ j a AU q=>?_
 refine Eea (q.h) λ fs e1 q=>?_
 refine Eea (ob e1) λ mo hi e2=>?_
 obtain rfl:=wn e2
 refine Eea (q.h) λ d hl q=>?_
 have G':Go C T F s φ μ {s' with toks:=s'.toks + 1} j' sz ρ σ':=G.tok _
 (refine Ea (G.rel.at_ _ _ _ AU hi) λ _ Ae=>?_;refine Eea Ae λ kvs hm _=>?_)
 exact au (gu hm.typeIs gO.lookup (zAS TT.nd G'.rel G'.fr AU hi hk hl q) (Jn rfl _ _)) (λ v sF hv=>PV.up G' hv) λ _ _ e=>e
theorem W4 {l u:Option aH}{p:dM}:∀ o i,subscripted (.Slice l u none p) false o i=operate [i,o] (getItem o i):=λ _ _=>rfl
theorem zBM {p:dM}(ho:SE C T n A F o xo)(ha:SE C T n A F a x):SE C T n A F (.Subscript o (.Slice none (some a) none p) pos) (.upto xo x):=λ ρ σ Q h s φ μ R I=>by
 refine n8 ((ho ρ σ _ h).seq R I λ s' j' sz v d σ' G V q=>?_)
 refine wpAny_Slice (aj ((ha ρ σ' _ q).seq G.rel G.fr λ s9 sY sV w d' sA G' W q'=>aj ?_))
 exact au (zAR W4 G'.rel G'.fr (G'.ext.vd V) W q') (λ v sF hv=>PV.up (G.trans G') hv) λ _ _ e=>e
theorem zBs (hp:bq pre=true/\pre.length<=1000)(ha:SE C T n A F a x):SE C T n A F (.JoinedStr [.Constant (.str pre) k p1,.FormattedValue a (-1) none p2] pos) (.fstr pre x):=λ ρ σ Q h =>
 zC3 hp (ha ρ σ _ h) λ d σ' q=>q
end
section
variable {C:Cx}{T:Tabs}{F:Fm}{A:aM}{n:Nat}{s s' sG sC:ak}{φ j':ai->Prop}{μ sz:List ai}{ρ sB:Rho}{σ σ':zA}{pos Av apos:dM}{e e' a b c o:aH}{x y z xa xb xc xo:Ex}{es:List aH}{xs:List Ex}
inductive KeyL:List (Option aH)->List aK->Prop
 | nil:KeyL [] []
 | cons {x:aK} {k:Nat} {p:dM} {ks:List (Option aH)} {xs:List aK}:KeyL ks xs->KeyL (some (.Constant (.str x) k p)::ks) (x::xs)
theorem KeyL.inil (h:KeyL [] ss):ss=[]:=by cases h;rfl
theorem zC9 {es:List aH}{xs:List Ex}(hv:Each (SE C T n A F) es xs):∀ {ks:List (Option aH)} {ss:List aK} {ρ:Rho} {σ:zA} {Q:List D->zA->Prop},KeyL ks ss->ks.length=es.length->wpEs C T n xs ρ σ Q->DPs C T F A (evalPairs (pairTrees ks es F.env pos)) ss ρ σ Q:=by
 induction hv with
 | nil=>intro ks ss ρ σ Q hk hl h;cases ks with
  | nil=>cases hk.inil;exact zBJ h
  | cons _ _=>cases hl
 | cons v r ih=>intro ks ss ρ σ Q hk hl h;cases hk with
  | nil=>cases hl
  | cons k=>exact Vs (v _ _ _ h) λ d σ' q=>ih k (rp hl) q
theorem Wn {ks:List (Option aH)}(h:KeyL ks ss):ks.all (·.isSome)=true:=by
 induction h with
 | nil=>rfl
 | cons k ih=>exact ih
theorem zDW {ks:List (Option aH)}{ns:List Nat}(Y:C.Good)(hk:KeyL ks ss)(hv:Each (SE C T n A F) es xs)(h0:ks≠[])(hl:ks.length=es.length)(hlen:ks.length<=15)(nd:ss.Nodup)(hn:ns.map (T.names[·]?)=ss.map some):SE C T n A F (.Dict ks es pos) (.dct 0 ns xs):=λ ρ σ Q h=>by
 refine zDo Y h0 (Wn hk) hl hlen nd hn (zC9 hv hk hl h) λ ds σ' q=>?_
 refine Eea (Is.h q) λ mo e q=>?_
 cases so (og e).2
 exact q
theorem xK (Y:C.Good)(hk:k=1∨k=2):SE C T n A F (.Dict [] [] pos) (.dct k [] []):=λ ρ σ Q h=>by
 rcases hk with rfl | rfl
 ·exact xR Y (.inl rfl) h
 ·exact xR Y (.inr rfl) h
variable {sT target iter:aH}{sL:List aH}{sO:List bm}{scope:bZ}{t:Pt}{it:Ex}{ifs:List Ex}{gs:List Gn}
theorem zBX {m:Bool}(hA:A.handled=none)(hk:k=(zV scope).length)(S:CompSpec C T n A F sT target iter sL sO scope pos t it ifs gs λ ρ σ K=>wpE C T n xe ρ σ K) :
  SE C T n A F (.ListComp sT (⟨target,iter,sL,0⟩::sO) scope pos) (.comp m k xe t it ifs gs):=λ ρ σ Q h=>by
 subst hk
 refine zCu (m:=m) S hA ?_
 cases m <;> exact h
def SI (C:Cx)(T:Tabs)(n:Nat)(A:aM)(F:Fm)(ta:aH)(e:aH)(x:Ex):Prop:=∀ ρ σ K,(wpE C T n x ρ σ λ d σ'=>zf σ' d λ xs i=>K xs i σ')->DI C T F A e ta ρ σ K
theorem SE.si (hA:A.handled=none)(h:SE C T n A F e x):SI C T n A F ta e x:=λ ρ σ K hw=>Vh hA (h ρ σ _ hw)
theorem Srt.lt {S:Srt}{xs:List ab}(R:Rel C T s.heap φ μ σ)(o:S.ok xs s.heap φ μ):(show Nat from S.a)<s.heap.objs.size:=by
 cases S with
 | fz l a=>refine Ee (R.frz a o.1) λ o' e=>?_;exact bb e
 | ob i a=>refine Ee (R.lt i a o) λ o' e=>?_;exact bb e
theorem zDj {zn:aK}{p:dM}{elts:List aH}{x1:Nat}{tp:dM}(Y:C.Good)(TT:TOk C T)(hA:A.handled=none)(hg:T.glob[g]?=some (zn,.bi .zip))(hk:F.env.kindOf zn=some .globalImplicit)(hx:(zn==("__debug__":aK))=false)
  (ha:SE C T n A F a xa) (hb:SE C T n A F b xb) (hp:[a,b].all zc=true):SI C T n A F (.Tuple elts x1 tp) (.Call (.Name zn p) [a,b] [] pos) (.zip xa xb):=λ ρ σ K hw s φ μ X R I hX=>by
 have BS:wpEs C T n [xa,xb] ρ σ λ ds sA=>on2 ds λ x y=>qU sA x λ xs=>qU sA y λ ys=>zf sA (.zp x y xs ys) λ zs i=>K zs i sA:=hw
 erw [nP]
 refine aa (au (xB (Q:=λ d σ'=>d=.bi .zip/\σ'=σ) Y R I hk (TT.glob g zn _ hg) hx ⟨rfl,rfl⟩) (λ v s' hv=>?_) λ _ _ e=>e.elim)
 (refine Eeeeeaaa (hv) λ j' sz d σ' G V BX=>?_;try clear hv;obtain rfl:=BX;intro BH;obtain rfl:=BH)
 have e0:v=.type "zip":=V.ibi
 subst e0
 have SS:SL C T n A F [a,b] [xa,xb]:=j9 (ZW (all_cons hp).1) ha (j9 (ZW (all_cons (all_cons hp).2).1) hb wb)
 show wpAny _ _ (lQ pos (.type "zip") [] (backTo pos (starEach [a,b] F.env)) []) _ _ _
 refine QZ hp ((SS pos ρ σ' _ BS).seq G.rel G.fr λ s9 sY sV vs ds sA G' V' q'=>⟨⟨Y.X.keeps G'.rel.keep,λ a' e=>by cases e⟩,?_⟩)
 (refine Ea (q') λ hl q=>?_;try clear q')
 refine zAs V' q λ v1 v2 dx dy p1 p2 q=>?_
 refine Eea (q.h) λ Ei e1 q=>?_
 refine Eea (q.h) λ F7 e2 q=>?_
 refine Eea (Is.h q) λ os e3 q=>?_
 refine Eea (ob e3) λ x2 e4 e5=>?_
 obtain rfl:=Xn e4
 have G2:=G.trans G'
 (refine Eeaaaa (wf G'.rel p1 e1) λ S1 Hd=>?_;obtain rfl:=Hd;intro o1 t1 IP KU)
 (refine Eeaaaa (wf G'.rel p2 e2) λ S2 Bo=>?_;obtain rfl:=Bo;intro o2 t2 Lc Ix)
 refine Eea (Srt.at_ G'.rel o1 t1) λ GB h1 _=>?_
 refine Eea (Srt.at_ G'.rel o2 t2) λ Hq h2 _=>?_
 have go:∀ src,(∀ σ,zU src σ True->S1.stay Ei σ/\S2.stay F7 σ)->zU src sA True->K ((Ei.zip F7).map λ p=>.tuple [p.1,p.2]) src sA ->
   wpAny (model C.prog C.w) A (call (.type "zip") [.ref S1.a,.ref S2.a]) (λ v s=>wpAny (model C.prog C.w) A (gS v) X NoE s) NoE s9:=λ src hs st q=>by
  refine zBD h1 h2 λ h' Z keep=>?_
  refine Ea (G'.rel.grow keep) λ R' X'=>?_
  have G3:Go C T F s φ μ {s9 with heap:=h'} sY sV ρ sA:=G2.trans (Go.of_ext (tk:=s9.toks) G'.fr R' X')
  have W:=vz (C:=C) (T:=T) (A:=A) (L:=s9.heap.objs.size) (elts:=elts) (x1:=x1) (pos:=tp) (xs:=Ei) (ys:=F7) hA hs (Srt.lt G'.rel o1) (Srt.lt G'.rel o2)
  have fr:∀ c∈([s9.heap.objs.size,s9.heap.objs.size + 1,s9.heap.objs.size + 2,s9.heap.objs.size + 3,s9.heap.objs.size + 4]:List Nat),s9.heap.get? c=none:=λ c m=>dB (by
   simp only [aA,bW,or_false] at m
   rcases m with rfl | rfl | rfl | rfl | rfl <;> lia)
  refine W.self 0 _ _ Z ?_
  refine hX _ _ sY sV sA _ src _ _ _ G3 W Z ⟨λ c m=>G'.rel.notin_none (fr c m),λ c m=>G'.rel.notfrz_none (fr c m),λ c m=>W.live 0 _ Z c m⟩ (λ c m=>G2.ext.back (fr c m)) ⟨Srt.ext o1 X',Srt.ext o2 X'⟩ st q
 refine Ee (Ix λ i h=>nomatch h) λ l2 Fk=>?_
 cases dx with
 | p x1 =>
  obtain rfl:=so e5
  refine Ee (KU λ i h=>nomatch h) λ l1 Fa=>?_
  exact go none (λ σ _=>⟨by erw [Fa];trivial,by erw [Fk];trivial⟩) trivial q
 | obj i =>
  obtain rfl:=so e5
  have Fa:=IP i rfl
  have Ik:sA[i]?=some (.lst Ei):=by rw [Fa] at t1;exact t1
  exact go (some (i,Ei)) (λ σ st=>⟨by erw [Fa];exact st.1,by erw [Fk];trivial⟩) ⟨Ik,trivial⟩ q
 | _=>exact nn e5
end
def SX (C:Cx)(T:Tabs)(n:Nat)(A:aM)(F:Fm)(st:fE)(x:St):Prop:=∀ ρ σ Q,wpS C T n x ρ σ Q->DS C T F A (exec st F.env) ρ σ Q
def SS (C:Cx)(T:Tabs)(n:Nat)(A:aM)(F:Fm)(b:List fE)(xs:List St):Prop:=∀ ρ σ Q,wpSs C T n xs ρ σ Q->DS C T F A (execs b F.env) ρ σ Q
def SA (C:Cx)(T:Tabs)(n:Nat)(A:aM)(F:Fm)(e:aH)(t:Tg):Prop:=∀ d ρ σ Q,wpT C T n t d ρ σ Q->∀ (s:ak) (φ:ai->Prop) (μ:List ai) (v:ag),Rel C T s.heap φ μ σ->FrI F s.heap φ μ ρ->VD s.heap φ μ v d ->
 wpAny (model C.prog C.w) A (gv e F.env v) (λ _ s'=>∃ j' sz sB σ',Go C T F s φ μ s' j' sz sB σ'/\Q sB σ') NoE s
section
variable {C:Cx}{T:Tabs}{F:Fm}{A:aM}{n:Nat}{s s' sG sC:ak}{φ j':ai->Prop}{μ sz:List ai}{ρ sB:Rho}{σ σ':zA}{pos Av apos:dM}{e e' a b c o:aH}{x y z xa xb xc xo:Ex}{es:List aH}{xs:List Ex}
theorem Go.rho (G:Go C T F s φ μ s' j' sz sB σ'){sM:zA}(R:Rel C T h' j' sz sM)(X:Ext s'.heap j' sz h' j' sz []):Go C T F s φ μ {s' with heap:=h',toks:=tk} j' sz sB sM :=
 G.trans (Go.of_ext (tk:=tk) G.fr R X)
theorem zBk {x:aK}(hi:bix F.ks x=some i):SA C T n A F (.Name x pos) (.pt (.nm i)):=λ d ρ σ Q h s φ μ v R I V=>by
 refine Eea (Qs hi) λ k h1 h2=>?_
 erw [ll]
 exact aa (bx (qP R I V h1 h2 λ s' G=>ptI G h))
theorem zAZ (Y:C.Good)(TT:TOk C T)(hk:T.names[k]?=some nm)(ho:SE C T n A F o xo):SA C T n A F (.Attribute o nm pos) (.attr xo k):=λ d ρ σ Q h s φ μ v R I V=>by
 erw [arm_assign_Attribute]
 refine aa (aO ((ho ρ σ _ h).seq R I λ s' j' sz w g σ' G W q=>aa (bx (aa (aO ?_)))))
 refine Xl W q λ i a AU q=>?_
 refine Eeeeaa (UC q) λ K j fs hi hj q=>?_
 refine Eaa (XA q) λ hm q1 q2=>?_
 exact ji Y TT hk G.rel AU hi hj (G.ext.vd V) hm q1 λ h' tk R' X=>fV (ptI (G.rho R' X) q2)
theorem zDa (hA:Room n A)(ho:SE C T n A F o xo)(ha:SE C T n A F a x):SA C T n A F (.Subscript o a pos) (.sub xo x):=λ d ρ σ Q h s φ μ v R I V=>by
 erw [nA]
 refine aa (aO ((ho ρ σ _ h).seq R I λ s' j' sz w g σ' G W q=>aa (aO ?_)))
 refine (ha ρ σ' _ q).seq G.rel G.fr λ s9 sY sV u g' sA G' U q'=>aa (bx (aa (aO ?_)))
 have G2:=G.trans G'
 refine Xl W q' λ i a AU q'=>?_
 refine Eea (Is.h q') λ mo hi q'=>?_
 have DW:=G'.ext.pre _ _ AU
 cases mo with
 | idict es =>
  obtain ⟨k,t,_,rfl,hf,q'⟩:=Z9 U q'
  exact zC5 G'.rel DW hi (G2.ext.vd V) hf λ h' R' X=>fV (ptI (G2.rho R' X) q')
 | tdict es =>
  refine Eeaaa (js U q') λ k _ U hd q'=>?_
  refine Eeaa (Is.h q') λ kq hq hf q'=>?_
  (refine Eeea (U.itup) λ b vs Ap=>?_;obtain rfl:=Ap;intro _)
  cases hn:z5 kq es with
  | none=>rw [hn] at q';exact zCo hA G'.rel DW hi U hd hq (G2.ext.vd V) hf hn λ h' tk R' X=>fV (ptI (G2.rho R' X) q')
  | some _=>rw [hn] at q';exact q'.elim
 | _=>exact q'.elim
theorem zBH {p:dM}(TT:TOk C T)(hk:T.names[k]?=some nm)(ho:SE C T n A F o xo):SA C T n A F (.Subscript o (.Constant (.str nm) i p) pos) (.subk xo k):=λ d ρ σ Q h s φ μ v R I V=>by
 erw [nA]
 refine aa (aO ((ho ρ σ _ h).seq R I λ s' j' sz w g σ' G W q=>aa (aO (fy ?_))))
 refine aa (bx (aa (aO ?_)))
 have G':Go C T F s φ μ {s' with toks:=s'.toks + 1} j' sz ρ σ':=G.tok _
 refine Xl W q λ j a AU q=>?_
 refine Eeaa (Is.h q) λ fs e1 q1 q2=>?_
 refine Eea (ob e1) λ mo hi e2=>?_
 obtain rfl:=wn e2
 exact zBV TT.nd G'.rel AU hi hk (G.ext.vd V) q1 λ h' R' X=>fV (ptI (G'.rho R' X) q2)
inductive EachT (P:aH->Tg->Prop):List aH->List Tg->Prop
 | nil:EachT P [] []
 | cons {e:aH} {x:Tg} {es:List aH} {xs:List Tg}:P e x->zc e=true->EachT P es xs->EachT P (e::es) (x::xs)
theorem qH {e:aH}{es:List aH}(h:zc e=true):assignEach (e::es) env=(false,gv e env)::assignEach es env:=by
 cases e <;> first | rfl | exact absurd h aT
theorem Vk {es:List aH}(h:EachT (SA C T n A F) es ts):(assignEach es F.env).length=ts.length/\(assignEach es F.env).findIdx? (·.1)=none:=by
 induction h with
 | nil=>exact ⟨rfl,rfl⟩
 | cons _ hs r ih =>
  (erw [qH hs];erw [n6];erw [ih.2])
  exact ⟨congrArg (· + 1) ih.1,rfl⟩
theorem sas {es:List aH}(h:EachT (SA C T n A F) es ts):∀ {ds:List D} {ρ:Rho} {σ:zA} {Q:Rho->zA->Prop},wpTs C T n ts ds ρ σ Q->∀ (s:ak) (φ:ai->Prop) (μ:List ai) (vs:List ag),Rel C T s.heap φ μ σ->FrI F s.heap φ μ ρ->VDs s.heap φ μ vs ds ->
  wpAny (model C.prog C.w) A (fj ((assignEach es F.env).map (·.2)) vs) (λ _ s'=>∃ j' sz sB σ',Go C T F s φ μ s' j' sz sB σ'/\Q sB σ') NoE s:=by
 induction h with
 | nil =>
  intro ds ρ σ Q h s φ μ vs R I V
  cases ds with
  | nil=>cases V.inil;exact gY (ptI (Go.refl R I) h)
  | cons _ _=>exact h.elim
 | cons p hs r ih =>
  intro ds ρ σ Q h s φ μ vs R I V
  cases ds with
  | nil=>exact h.elim
  | cons d ds =>
   refine V.mcons λ v1 vr V1 W=>?_
   erw [qH hs]
   show wpAny _ _ (do cO _ (gv _ F.env _);fj _ _) _ _ _
   refine aa (aO (au (p d ρ σ _ h s φ μ _ R I V1) (λ _ s' hh=>Eeeeea hh λ j' sz sB σ' G q=>?_) λ _ _ e=>e))
   exact au (ih q s' j' sz _ G.rel G.fr (G.ext.vds W)) (λ _ s9 hh=>Eeeeea hh λ sY sV tC sA G' q'=>ptI (G.trans G') q') λ _ _ e=>e
theorem zAy {h:aP}:∀ {vs:List ag} {xs:List ab},VPs h φ vs xs->VDs h φ μ vs (xs.map .p)
 | _,[],V=>by cases V.inil;exact .nil
 | _,_::_,sZ=>by refine sZ.mcons λ v r V W=>?_;exact .cons (.p V) (zAy W)
theorem uO {a:ai}{Q:List ag->ak->Prop}{E:ag->ak->Prop}{prog:bR}{w:b4}(hh:A.handled=none)(ht:i6 s.heap a items∨s.heap.IsList a items)
  (hQ:∀ h',fY s.heap.objs.size s.heap h'->Q items.toList {s with heap:=h'}):wpAny (model prog w) A (unpackItems (.ref a) items.size none) Q E s :=
 ht.elim (λ h=>unpackItems_tuple hh h hQ) λ h=>kun_itemsOf hh h hQ
theorem JB {h:aP}(V:VD h φ μ v d)(hw:wpT C T n (.tup ts) d ρ σ Q):∃ a vs ds,v=.ref a/\(i6 h a vs.toArray∨h.IsList a vs.toArray)/\VDs h φ μ vs ds/\ts.length=vs.length/\wpTs C T n ts ds ρ σ Q:=by
 refine Eea (Is.h hw) λ ds e HV=>?_
 refine Ea (J2 HV) λ t5 Dq=>?_
 have hl:=ZD t5
 clear hw HV t5
 cases d with
 | tup sE=>obtain rfl:=so e;refine V.mtup λ a vs f t r=>?_;exact ⟨_,_,_,rfl,.inl t.t,r,hl.trans (Zs r).symm,Dq⟩
 | p x =>
  refine Eea (ob e) λ xs e1 e2=>?_
  obtain rfl:=so e2
  refine Eeeaaa (QN V.ip e1) λ a vs ev _ z=>?_
  intro t
  have r:=z
  exact ⟨_,_,_,ev,t.elim (λ t=>.inl t.2.t) λ t=>.inr t.2,zAy r,hl.trans ((ah _).trans r.length.symm),Dq⟩
 | _=>exact nn e
theorem zDX (hA:A.handled=none)(h:EachT (SA C T n A F) es ts):SA C T n A F (.Tuple es k pos) (.tup ts):=λ d ρ σ Q hw s φ μ v R I V=>by
 (refine Eeeeaaaa (JB V hw) λ a vs ds GJ=>?_;obtain rfl:=GJ;intro ht W hl hw)
 refine Ea (Vk h) λ h1 h2=>?_
 erw [assign_Tuple]
 refine aa (bx ?_)
 unfold unpack
 (erw [h2];refine rwE (show (assignEach es F.env).length=vs.toArray.size from h1.trans (hl.trans aJ.symm)) ?_)
 refine aa (aO (uO hA ht λ h' hs=>?_))
 have kk:∀ b o,s.heap.get? b=some o->h'.get? b=some o:=λ b o e=>hs b o (aB (bb e)) e
 refine Ea (R.grow kk) λ R' X=>?_
 have G:=Go.of_ext (tk:=s.toks) I R' X
 exact au (sas h hw {s with heap:=h'} φ μ vs R' G.fr (X.vds W)) (λ _ s' hh=>Eeeeea hh λ j' sz sB σ' G' q=>ptI (G.trans G') q) λ _ _ e=>e
theorem zD2:SS C T n A F [] []:=λ ρ σ Q h s φ μ R I=>lr (psI (Go.refl R I) .next h)
theorem PS.up {Q:Fl->Rho->zA->Prop}{s9:ak}(G:Go C T F s φ μ s' j' sz sB σ')(h:PS C T F s' j' sz Q fl s9):PS C T F s φ μ Q fl s9:=by
 (refine Eeeeeeaa (h) λ s4 s5 f u9 sM tB V q=>?_;try clear h)
 exact psI (G.trans tB) V q
theorem zB0 {CG:List fE}{x:St}{xs:List St}(h1:SX C T n A F st x)(h2:SS C T n A F CG xs):SS C T n A F (st::CG) (x::xs):=λ ρ σ Q h s φ μ R I=>by
 refine wpAny_execs_cons (au (h1 ρ σ _ h s φ μ R I) (λ fl s' h=>Eeeeeeaa h λ j' sz f sB σ' G hf q=>?_) λ _ _ e=>e)
 cases hf with
 | next=>exact au (h2 sB σ' Q q s' j' sz G.rel G.fr) (λ fl s9 hq=>PS.up G hq) λ _ _ e=>e
 | cont=>exact psI G .cont q
 | ret V=>exact psI G (.ret V) q
theorem Wv (I:FrI F s.heap φ μ ρ):nB F.env=false:=by
 unfold nB;erw [I.kind];rfl
noncomputable def YM (e:aH):Bool:=!(cA 8 e.ctorIdx&&cA e.ctorIdx 10)
theorem YO {e:aH}{t:Option aH}{l:Nat}(h:YM e=true):mw e t l env=pure false:=by
 cases e <;> first | rfl | exact absurd h aT
theorem zB4 (h:SE C T n A F e x)(hn:YM e=true):SX C T n A F (.Expr e pos) (.expr x):=λ ρ σ Q hw s φ μ R I=>by
 refine wpAny_Expr_any ((h ρ σ _ hw).seq R I λ s' j' sz v d σ' G V q=>?_) (Wv I) (YO hn)
 refine Eeaa (yG V q) λ x _ _ q=>?_
 exact psI G .next ((J2 q).2)
theorem zEQ {sa sb:List fE}{ya yb:List St}(hc:SB C T n A F c z)(ha:SS C T n A F sa ya)(hb:SS C T n A F sb yb):SX C T n A F (.If c sa sb pos) (.ite z ya yb):=λ ρ σ Q hw s φ μ R I=>by
 refine wpAny_If ((hc ρ σ _ hw).seq R I λ s' j' sz r σ' G q=>?_)
 cases r with
 | true=>exact au (ha ρ σ' Q (q.t rfl) s' j' sz G.rel G.fr) (λ v sF hv=>PS.up G hv) λ _ _ e=>e
 | false=>exact au (hb ρ σ' Q (q.f rfl) s' j' sz G.rel G.fr) (λ v sF hv=>PS.up G hv) λ _ _ e=>e
theorem zE4 (h:SE C T n A F e x):SX C T n A F (.Return (some e) pos) (.ret x):=λ ρ σ Q hw s φ μ R I=>by
 refine oI ((h ρ σ _ hw).seq R I λ s' j' sz v d σ' G V q=>?_)
 exact psI G (.ret V) q
theorem zB3:SX C T n A F (.Return none pos) .retN:=λ ρ σ Q hw s φ μ R I=>wpAny_Return_none (psI (Go.refl R I) (.ret (.p .none)) hw)
theorem zC7:SX C T n A F (.Continue pos) .cont:=λ ρ σ Q hw s φ μ R I=>by
 show wpAny _ _ (do fU pos;pure Flow.cont) _ _ _
 exact aa (bx (aj (psI (Go.refl R I) .cont hw)))
theorem VV :SX C T n A F st .raise:=λ ρ σ Q hw=>(show False from hw).elim
theorem zE3 {q:ab×Nat}(h:zEc ds=some q):ds=[.p q.1,.obj q.2]:=by
 cases ds with
 | nil=>exact nn h
 | cons d r=>cases r with
  | nil=>exact nn h
  | cons e r=>cases r with
   | cons _ _=>exact nn h
   | nil=>exact Eea (ob h) λ x h1 h2=>Eea (ob h2) λ i h3 h4=>so h4▸Xn h1▸zBS h3▸rfl
theorem Wf {r:ab×zA}(R:Rel C T s.heap φ μ σ)(V:VD s.heap φ μ v d)(e:Yl σ d=some r):∃ j',Rel C T s.heap j' μ r.2/\Ext s.heap φ μ s.heap j' μ []/\VP s.heap j' v r.1:=by
 cases d with
 | p x=>exact so e▸⟨φ,R,.refl,V.ip⟩
 | obj i=>exact Eea (ob e) λ xs e1 e2=>Eea V.iobj λ a ev ha=>Eaa (R.freeze ha (QT e1)) λ R' X V'=>so e2▸⟨_,R',X,ev▸V'⟩
 | tup ds =>
  refine Eea (ob e) λ q e1 e2=>?_
  refine Eea (ob e2) λ xs e3 e4=>?_
  rw [zE3 e1] at V
  refine Eeeaaa V.itup λ a vs ev f t r=>?_
  refine Eeeaa r.icons λ v1 GB h1 p1 r=>?_
  refine Eeeaa r.icons λ v2 Hq h2 p2 r=>?_
  refine Eea p2.iobj λ b hb ha=>?_
  refine Eaa (R.freeze ha (QT e3)) λ R' X V'=>?_
  (refine rwS (so e4) ?_;erw [ev])
  refine ⟨_,R',X,.tup (.inl f) t ?_⟩
  (erw [h1];erw [h2];erw [r.inil];erw [hb])
  exact .cons (X.vp p1.ip) (.cons V' .nil)
 | _=>exact nn e
theorem zCl (h:SE C T n A F e x):SX C T n A F (.Return (some e) pos) (.retF x):=λ ρ σ Q hw s φ μ R I=>by
 refine oI ((h ρ σ _ hw).seq R I λ s' j' sz v d σ' G V q=>?_)
 refine Eea (Is.h q) λ r hr q=>?_
 refine Eeaa (Wf G.rel V hr) λ s4 R' X V'=>?_
 exact psI (G.trans (Go.of_ext (tk:=s'.toks) G.fr R' X)) (.ret (.p V')) q
theorem zEq {t:Tg}{e:aH}(h:SE C T n A F e x)(ht:SA C T n A F ta t)(hn:zc ta=true)(hs:dL [ta] e pos.line F.env=pure false)(hw:cM [ta] e F.env=pure none):SX C T n A F (.Assign [ta] e pos) (.asg t x):=λ ρ σ Q BS s φ μ R I=>by
 refine wpAny_Assign_stores ((h ρ σ _ BS).seq R I λ s' j' sz v d σ' G V q=>?_) hs hw
 have e0:(assignEach [ta] F.env).map (·.2)=[gv ta F.env]:=by erw [qH hn];rfl
 erw [e0]
 show wpAny _ _ (gv ta F.env v) _ _ _
 exact au (ht d ρ σ' _ q s' j' sz v G.rel G.fr V) (λ _ s9 hh=>Eeeeea hh λ s4 s5 u9 sM tB AP=>psI (G.trans tB) .next AP) λ _ _ e=>e
theorem zAf (h1:bix F.ks x1=some i1)(h2:bix F.ks x2=some i2)(R:Rel C T s.heap φ μ σ)(I:FrI F s.heap φ μ ρ)(V1:VD s.heap φ μ v1 d1)(V2:VD s.heap φ μ v2 d2)(hq:Q ((ρ.set i2 (some d2)).set i1 (some d1)) σ) :
  wpAny (model C.prog C.w) A (fj [fN F.env x2,fN F.env x1] [v2,v1]) (λ _ s'=>∃ j' sz sB σ',Go C T F s φ μ s' j' sz sB σ'/\Q sB σ') NoE s:=by
 refine Eea (Qs h1) λ k1 a1 b1=>?_
 refine Eea (Qs h2) λ k2 a2 b2=>?_
 show wpAny _ _ (do cO [v1] (fN F.env x2 v2);cO [] (fN F.env x1 v1);fj _ _) _ _ _
 refine aa (aO (qP R I V2 a2 b2 λ s' G=>aa (aO (qP G.rel G.fr (G.ext.vd V1) a1 b1 λ s9 G'=>?_))))
 exact gY (ptI (G.trans G') hq)
theorem zFo {v3:ag}{d3:D}{i3:Nat}(h1:bix F.ks x1=some i1)(h2:bix F.ks x2=some i2)(h3:bix F.ks x3=some i3)(R:Rel C T s.heap φ μ σ)(I:FrI F s.heap φ μ ρ)(V1:VD s.heap φ μ v1 d1)(V2:VD s.heap φ μ v2 d2)(V3:VD s.heap φ μ v3 d3)(hq:Q (((ρ.set i3 (some d3)).set i2 (some d2)).set i1 (some d1)) σ) :
  wpAny (model C.prog C.w) A (fj [fN F.env x3,fN F.env x2,fN F.env x1] [v3,v2,v1]) (λ _ s'=>∃ j' sz sB σ',Go C T F s φ μ s' j' sz sB σ'/\Q sB σ') NoE s:=by
 refine Eea (Qs h3) λ k3 a3 b3=>?_
 show wpAny _ _ (do cO [v2,v1] (fN F.env x3 v3);fj [fN F.env x2,fN F.env x1] [v2,v1]) _ _ _
 refine aa (aO (qP R I V3 a3 b3 λ s' G=>?_))
 exact au (zAf h1 h2 G.rel G.fr (G.ext.vd V1) (G.ext.vd V2) hq) (λ _ s' hh=>Eeeeea hh λ j' sz sB σ' G' q=>ptI (G.trans G') q) λ _ _ e=>e
theorem xy {h:aP}(W:VDs h φ μ vs ds)(hl:k + 1=vs.length):∃ v FW d sE,vs=v::FW/\ds=d::sE/\VD h φ μ v d/\VDs h φ μ FW sE/\k=FW.length:=by
 cases W with
 | nil=>exact absurd hl (g7 k)
 | cons V W=>exact ⟨_,_,_,_,rfl,rfl,V,W,rp hl⟩
theorem zFf {h:aP}(W:VDs h φ μ vs ds)(hl:0=vs.length):vs=[]/\ds=[]:=by
 cases W with
 | nil=>exact ⟨rfl,rfl⟩
 | cons _ _=>exact absurd hl.symm (g7 _)
theorem zDv {h:aP}(W:VDs h φ μ vs ds)(hl:2=vs.length):∃ v1 v2 d1 d2,vs=[v1,v2]/\ds=[d1,d2]/\VD h φ μ v1 d1/\VD h φ μ v2 d2:=by
 refine Eeeeeaaaa (xy W hl) λ v1 GB d1 AT a1 b1 V1 W1 l1=>?_
 refine Eeeeeaaaa (xy W1 l1) λ v2 Hq d2 tY a2 b2 V2 W2 l2=>?_
 refine Ea (zFf W2 l2) λ a3 b3=>?_
 exact ⟨v1,v2,d1,d2,a1.trans (congrArg _ (a2.trans (congrArg _ a3))),b1.trans (congrArg _ (b2.trans (congrArg _ b3))),V1,V2⟩
theorem zG7 {h:aP}(W:VDs h φ μ vs ds)(hl:3=vs.length):∃ v1 v2 v3 d1 d2 d3,vs=[v1,v2,v3]/\ds=[d1,d2,d3]/\VD h φ μ v1 d1/\VD h φ μ v2 d2/\VD h φ μ v3 d3:=by
 refine Eeeeeaaaa (xy W hl) λ v1 GB d1 AT a1 b1 V1 W1 l1=>?_
 refine Eeeeeaaa (zDv W1 l1) λ v2 v3 d2 d3 a2 b2 V2 V3=>?_
 exact ⟨v1,v2,v3,d1,d2,d3,a1.trans (congrArg _ a2),b1.trans (congrArg _ b2),V1,V2,V3⟩
theorem zBd {e:aH}(hA:A.handled=none)(h:SE C T n A F e x)(h1:bix F.ks x1=some i1)(h2:bix F.ks x2=some i2)(tj:i1≠i2)(hs:dL [.Tuple [.Name x1 p1,.Name x2 p2] k tp] e pos.line F.env=pure false)
  (hw:cM [.Tuple [.Name x1 p1,.Name x2 p2] k tp] e F.env=pure (some [x1,x2])):SX C T n A F (.Assign [.Tuple [.Name x1 p1,.Name x2 p2] k tp] e pos) (.asg (.tup [.pt (.nm i1),.pt (.nm i2)]) x):=λ ρ σ Q BS s φ μ R I=>by
 refine nC ((h ρ σ _ BS).seq R I λ s' j' sz v d σ' G V q=>?_) hs hw
 refine Eeeeaaaa (JB V q) λ a vs ds ev ht W hl hw=>?_
 refine Eeeeeaaa (zDv W hl) λ v1 v2 d1 d2 a1 b1 V1 V2=>?_
 rw [a1] at ht
 rw [b1] at hw
 (erw [ev];refine rwE (show [x1,x2].length=[v1,v2].toArray.size from rfl) ?_)
 refine uO hA ht λ h' hs=>?_
 have kk:∀ b o,s'.heap.get? b=some o->h'.get? b=some o:=λ b o e=>hs b o (aB (bb e)) e
 refine Ea (G.rel.grow kk) λ R' X=>?_
 have G1:=Go.of_ext (tk:=s'.toks) G.fr R' X
 have Dq:Q .next ((ρ.set i2 (some d2)).set i1 (some d1)) σ':=ke _ _ tj▸(show Q .next ((ρ.set i1 (some d1)).set i2 (some d2)) σ' from hw)
 exact au (zAf (Q:=λ ρ σ=>Q .next ρ σ) h1 h2 R' G1.fr (X.vd V1) (X.vd V2) Dq) (λ _ s9 hh=>Eeeeea hh λ s4 s5 u9 sM tB AP=>psI ((G.trans G1).trans tB) .next AP) λ _ _ e=>e
theorem zC1 {e:aH}{i3:Nat}{p3:dM}(hA:A.handled=none)(h:SE C T n A F e x)(h1:bix F.ks x1=some i1)(h2:bix F.ks x2=some i2)(h3:bix F.ks x3=some i3)(tj:i1≠i2/\i1≠i3/\i2≠i3)(hs:dL [.Tuple [.Name x1 p1,.Name x2 p2,.Name x3 p3] k tp] e pos.line F.env=pure false)
  (hw:cM [.Tuple [.Name x1 p1,.Name x2 p2,.Name x3 p3] k tp] e F.env=pure (some [x1,x2,x3])):SX C T n A F (.Assign [.Tuple [.Name x1 p1,.Name x2 p2,.Name x3 p3] k tp] e pos) (.asg (.tup [.pt (.nm i1),.pt (.nm i2),.pt (.nm i3)]) x):=λ ρ σ Q BS s φ μ R I=>by
 refine nC ((h ρ σ _ BS).seq R I λ s' j' sz v d σ' G V q=>?_) hs hw
 refine Eeeeaaaa (JB V q) λ a vs ds ev ht W hl hw=>?_
 obtain ⟨v1,v2,v3,d1,d2,d3,a1,b1,V1,V2,V3⟩:=zG7 W hl
 rw [a1] at ht
 rw [b1] at hw
 (erw [ev];refine rwE (show [x1,x2,x3].length=[v1,v2,v3].toArray.size from rfl) ?_)
 refine uO hA ht λ h' hs=>?_
 have kk:∀ b o,s'.heap.get? b=some o->h'.get? b=some o:=λ b o e=>hs b o (aB (bb e)) e
 refine Ea (G.rel.grow kk) λ R' X=>?_
 have G1:=Go.of_ext (tk:=s'.toks) G.fr R' X
 have Dq:Q .next (((ρ.set i1 (some d1)).set i2 (some d2)).set i3 (some d3)) σ':=hw
 rw [ke _ _ tj.1,ke _ _ tj.2.1,ke _ _ tj.2.2] at Dq
 exact au (zFo (Q:=λ ρ σ=>Q .next ρ σ) h1 h2 h3 R' G1.fr (X.vd V1) (X.vd V2) (X.vd V3) Dq) (λ _ s9 hh=>Eeeeea hh λ s4 s5 u9 sM tB AP=>psI ((G.trans G1).trans tB) .next AP) λ _ _ e=>e
theorem zDZ {t:Pt}(hA:A.handled=none)(ht:trP F.ks ta=some t)(hi:SI C T n A F ta iter it)(hb:SS C T n A F body ys)(hf:∀ x,foldedSetIterable iter F.env x=pure x):SX C T n A F (.For ta iter body [] pos) (.for t it ys):=λ ρ σ Q hw s φ μ R I=>by
 refine wpAny_For ?_ hf
 refine hi ρ σ _ hw s φ μ _ R I λ Fx s' j' sz σ' own src xs It Sr G W s7 N Cm Ah tn hq=>?_
 exact Vm (n:=n) W hA ht hb I Cm G s7 N Ah tn hq.2
theorem V8 {c:aH}(hc:SB C T n A F c z)(hb:SS C T n A F body ys):SX C T n A F (.While c body [] pos) (.while z ys):=λ ρ σ Q hw s φ μ R I=>by
 refine Eee (show ∃ (Iv:Rho->zA->Prop) (m:Rho->zA->Nat),_ from hw) λ Iv m hh=>Ea hh λ hI DU=>?_
 refine wpAny_While ?_
 refine codeAny_whileLoop (λ k s'=>∃ j' sz sB σ',k=m sB σ'/\Iv sB σ'/\Go C T F s φ μ s' j' sz sB σ') (λ k s' hk=>?_) (m ρ σ) ⟨φ,μ,ρ,σ,rfl,hI,Go.refl R I⟩
 refine Eeeeeaa hk λ j' sz sB σ' ek IG G=>?_
 refine au (hc sB σ' _ (DU sB σ' IG) s' j' sz G.rel G.fr) (λ b sF AM=>Eeeea AM λ s4 s5 sM tB q=>?_) λ _ _ e=>e.elim
 cases b with
 | true =>
  refine au (hb sB sM _ (q.t rfl) sF s4 s5 tB.rel tB.fr) (λ f th h3=>Eeeeeeaa h3 λ tG tI fl AB sD tH hf tE=>?_) λ _ _ e=>e.elim
  cases hf with
  | next=>exact ⟨m AB sD,ek▸tE.2,tG,tI,AB,sD,rfl,tE.1,(G.trans tB).trans tH⟩
  | cont=>exact tE.elim
  | ret _=>exact tE.elim
 | false=>exact lr (psI (G.trans tB) .next (q.f rfl))
end
section
variable {C:Cx}{T:Tabs}{F:Fm}{A:aM}{n:Nat}{s s' sG sC:ak}{φ j':ai->Prop}{μ sz:List ai}{ρ sB:Rho}{σ σ':zA}{pos Av apos:dM}{e e' a b c o:aH}{x y z xa xb xc xo:Ex}{es:List aH}{xs:List Ex}
theorem Uk:∀ (sL:List aH) (env:kO),(forIn sL false λ c r=>if r=true then do let ok<-isTrue c env (eval c env);pure (ef ok) else pure (ef r):kS Bool)=pure false:=by
 intro sL
 induction sL with
 | nil =>
  intro _
  exact rfl
 | cons c cs ih =>
  intro env
  erw [fu]
  simp only [cw,if_false,pure_bind]
  exact ih env
theorem wd (h:Each (SB C T n A F) sL ifs):∀ ρ σ K,wpIfs C T n ifs ρ σ K->DB C T F A (Z6 sL F.env) ρ σ K:=by
 induction h with
 | nil=>exact λ ρ σ K h s φ μ R I=>aj (pbI (Go.refl R I) h)
 | cons hc r ih =>
  intro ρ σ K h s φ μ R I
  unfold Z6
  erw [fu]
  simp only [if_true,bind_assoc,pure_bind]
  refine aa ((hc ρ σ _ h).seq R I λ s' j' sz b σ' G q=>?_)
  cases b with
  | true=>exact au (ih ρ σ' K q s' j' sz G.rel G.fr) (λ b sF hb=>PB.up G hb) λ _ _ e=>e
  | false =>
   erw [Uk]
   exact aj (pbI G q)
noncomputable def Qv (e:aH):Bool:=!Nat.beq e.ctorIdx 7
theorem j4 {e:aH}(h:Qv e=true):∀ x,foldedSetIterable e env x=pure x:=λ x=>by
 cases e <;> first | rfl | exact absurd h aT
inductive EachG (C:Cx)(T:Tabs)(n:Nat)(A:aM)(F:Fm):List bm->List Gn->Prop
 | nil:EachG C T n A F [] []
 | cons {target iter:aH} {sL:List aH} {rest:List bm} {t:Pt} {it:Ex} {ifs:List Ex} {gs:List Gn}:trP F.ks target=some t->SI C T n A F target iter it->Each (SB C T n A F) sL ifs->Qv iter=true->EachG C T n A F rest gs->EachG C T n A F (⟨target,iter,sL,0⟩::rest) (.mk t it ifs::gs)
theorem EachG.async {rest:List bm}(h:EachG C T n A F rest gs)(g':bm)(e:rest[0]?=some g'):g'.is_async=0:=by
 cases h with
 | nil=>exact nn e
 | cons _ _ _ _ _=>obtain rfl:=so e;rfl
theorem zBa {Fo:Fm}{tw:Rho}{wr:List ai}{s6:Rho->zA->(D->zA->Prop)->Prop}{sT:aH}{gensA:List bm}{scope:bZ}(tg:F.own=[])(Al:B≠F.env.locals)(CU:∀ y c,F.env.cells.lookup y=some c->c≠B)
  (hA:A.handled=none) (Ep:A.mark none=A) (hW:∀ ρ σ K,s6 ρ σ K->DX C T F A (eval sT F.env) ρ σ K) :
  ∀ {rest:List bm} {gs:List Gn},EachG C T n A F rest gs->∀ d,gensA.drop (d + 1)=rest->(Z4 gs).Nodup->Y0 C T n A F Fo tw wr B s6 gs (ZN (.ListComp sT gensA scope pos) sT (gensA[d + 1]?) d B F.env):=by
 intro rest gs h
 induction h with
 | nil =>
  intro d hd _
  have:gensA[d + 1]?=none:=by
   have:=congrArg (·[0]?) hd
   simpa using this
  erw [this]
  exact wp tg Al CU hW
 | @cons target iter sL rest t it ifs gs ht hi hf hs r ih =>
  intro d hd nd
  have e0:gensA[d + 1]?=some ⟨target,iter,sL,0⟩:=by
   have:=congrArg (·[0]?) hd
   simpa using this
  have e1:gensA.drop (d + 1 + 1)=rest:=by
   have:=congrArg (·.drop 1) hd
   simpa using this
  simp only [Z4] at nd
  have e2:∀ g',gensA[d + 2]?=some g'->g'.is_async=0:=λ g' h=>by
   refine r.async g' ?_
   refine rwS e1 ?_;simpa using h
  erw [e0]
  exact Xi tg Al CU e0 e2 (j4 hs) hA Ep ht (λ j h1 h2=>(eH.mp nd).2.2 j h1 j h2 rfl) hi (wd hf) (ih (d + 1) e1 (eH.mp nd).2.1)
theorem WI {sT:aH}{sL:List aH}{sO:List bm}{t:Pt}{ifs:List Ex}{gs:List Gn}{xe:Ex}(hA:A.handled=none)(Ep:A.mark none=A)(K:CompOk F.ks scope)(ht:trP (zh F.ks scope) target=some t)(hs:Qv iter=true)(hi:SI C T n A F target iter it)
  (hifs:∀ L,Each (SB C T n A (zW F scope L)) sL ifs) (HF:∀ L,EachG C T n A (zW F scope L) sO gs) (he:∀ L,SE C T n A (zW F scope L) sT xe)
  (hix:∀ j,j∈Z5 t∨j∈Z4 gs->F.ks.length<=j/\j<F.ks.length + (zV scope).length) (nd:(Z5 t++Z4 gs).Nodup) :
  CompSpec C T n A F sT target iter sL sO scope pos t it ifs gs λ ρ σ K=>wpE C T n xe ρ σ K :=
 ⟨K,(HF 0).async,ht,hix,λ j h1 h2=>(eH.mp nd).2.2 j h1 j h2 rfl,j4 hs,hi,λ L=>wd (hifs L),λ L B ρ hB hc=>zBa (gensA:=⟨target,iter,sL,0⟩::sO) rfl hB hc hA Ep (λ ρ σ K h=>he L ρ σ K h) (HF L) 0 (by simp) (eH.mp nd).2.1⟩
theorem zBg {sT:aH}{sO:List bm}{t:Pt}{m:Bool}{x:aK}{iy k:Nat}{px BV:dM}(hA:A.handled=none)(S:CompSpec C T n A F sT target iter sL sO scope pos t it ifs gs λ ρ σ K=>wpE C T n xe ρ σ K)
  (Gs:mw (.ListComp sT (⟨target,iter,sL,0⟩::sO) scope pos) (some (.Name x px)) BV.line F.env=pure true) (hi:F.ks[iy]?=some (x,.local)) (hk:k=(zV scope).length) :
  SX C T n A F (.Assign [.Name x px] (.ListComp sT (⟨target,iter,sL,0⟩::sO) scope pos) BV) (.asg (.pt (.nm iy)) (.comp m k xe t it ifs gs)):=λ ρ σ Q h=>by
 subst hk
 refine Wj (m:=m) S hA Gs hi ?_
 cases m <;> exact h
end
end Mine.Internal
namespace Mine.Internal
open PySem PySem.Calls PyProof PyProof.Rows PySem.W PySem.SeqAt
set_option tactic.hygienic false
variable {A:aM}{F:Fm}{C:Cx}{n:Nat}
structure TX where
 mu:List (Nat×Nat)
 td:List (Nat×Nat)
noncomputable def jU (l:List (Nat×Nat))(p:dM):Bool:=l.any λ q=>q.1==p.line&&q.2==p.col
noncomputable def gix:List (aK×D)->aK->Option Nat
 | [],_=>none
 | (y,_)::r,x=>if (y==x)=true then some 0 else (gix r x).map (· + 1)
noncomputable def nix:List aK->aK->Option Nat
 | [],_=>none
 | y::r,x=>if (y==x)=true then some 0 else (nix r x).map (· + 1)
theorem uz:∀ {l:List (aK×D)} {x:aK} {i:Nat},gix l x=some i->∃ d,l[i]?=some (x,d)
 | [],_,_,e=>nn e
 | (y,d)::r,x,i,e=>by
  have e:(if (y==x)=true then some 0 else (gix r x).map (· + 1))=some i:=e
  by_cases h:(y==x)=true
  ·rw [if_pos h] at e;obtain rfl:=so e;cases eq_of_beq h;exact ⟨d,rfl⟩
  ·rw [if_neg h] at e
   (refine Eea (bP.mp e) λ j hj Bb=>?_;obtain rfl:=Bb)
   exact uz (l:=r) hj
theorem QY:∀ {l:List aK} {x:aK} {i:Nat},nix l x=some i->l[i]?=some x
 | [],_,_,e=>nn e
 | y::r,x,i,e=>by
  have e:(if (y==x)=true then some 0 else (nix r x).map (· + 1))=some i:=e
  by_cases h:(y==x)=true
  ·rw [if_pos h] at e;obtain rfl:=so e;cases eq_of_beq h;rfl
  ·rw [if_neg h] at e
   (refine Eea (bP.mp e) λ j hj A7=>?_;obtain rfl:=A7)
   exact QY (l:=r) hj
noncomputable def JP (x:aK):Bool:=x==("__debug__":aK) || x==("__classdict__":aK)
noncomputable def gdE {α:Type}(b:Bool)(k:b=true->Option α):Option α:=match b,k with
 | true,k=>k rfl
 | false,_=>none
noncomputable def bnE {α β:Type}(o:Option α)(k:∀ a,o=some a->Option β):Option β:=match o,k with
 | some a,k=>k a rfl
 | none,_=>none
noncomputable def opE {α β:Type}(o:Option α)(k:∀ a,o=some a->Option β)(d:o=none->Option β):Option β:=match o,k,d with
 | some a,k,_=>k a rfl
 | none,_,d=>d rfl
noncomputable def orE {α:Type}(o d:Option α):Option α:=@eN _ (λ _=>Option α) o d (λ a=>some a)
section
variable {β:aH->Type}
noncomputable def wA (e:aH)(k:∀ es c p,Option (β (.Tuple es c p))):Option (β e):=by
 apply @eZ (λ e=>Option (β e)) e <;> intros <;> first | exact k _ _ _ | exact none
noncomputable def WW (e:aH)(k:∀ f es kw p,Option (β (.Call f es kw p))):Option (β e):=by
 apply @eZ (λ e=>Option (β e)) e <;> intros <;> first | exact k _ _ _ _ | exact none
noncomputable def jX (e:aH)(k:∀ x p,Option (β (.Name x p))):Option (β e):=by
 apply @eZ (λ e=>Option (β e)) e <;> intros <;> first | exact k _ _ | exact none
noncomputable def ww (e:aH)(k:∀ o nm p,Option (β (.Attribute o nm p))):Option (β e):=by
 apply @eZ (λ e=>Option (β e)) e <;> intros <;> first | exact k _ _ _ | exact none
noncomputable def zET (e:aH)(k:∀ l u st p,Option (β (.Slice l u st p))):Option (β e):=by
 apply @eZ (λ e=>Option (β e)) e <;> intros <;> first | exact k _ _ _ _ | exact none
noncomputable def zFe (e:aH)(k:∀ c i p,Option (β (.Constant c i p))):Option (β e):=by
 apply @eZ (λ e=>Option (β e)) e <;> intros <;> first | exact k _ _ _ | exact none
noncomputable def zER (e:aH)(k:∀ a c sp p,Option (β (.FormattedValue a c sp p))):Option (β e):=by
 apply @eZ (λ e=>Option (β e)) e <;> intros <;> first | exact k _ _ _ _ | exact none
noncomputable def Jw (e:aH)(k:∀ x i p,Option (β (.Constant (.str x) i p))):Option (β e):=zFe e λ c i p=>by
 apply @Const.casesOn (λ c=>Option (β (.Constant c i p))) c <;> intros <;> first | exact k _ _ _ | exact none
noncomputable def zFV (e:aH)(k:∀ a p,Option (β (.FormattedValue a (-1) none p))):Option (β e):=zER e λ a c sp p =>
 @eN _ (λ sp=>Option (β (.FormattedValue a c sp p))) sp (if h:c=-1 then h▸k a p else none) λ _=>none
end
noncomputable def zDJ (ks:List (Option aH)):={ss:List aK // KeyL ks ss}
noncomputable def zAG:(ks:List (Option aH))->Option (zDJ ks)
 | []=>some ⟨[],.nil⟩
 | o::r=>match o with
  | none=>none
  | some e=>Jw (β:=λ e=>zDJ (some e::r)) e λ x _ _=>(zAG r).bind λ s=>some ⟨x::s.1,.cons s.2⟩
noncomputable def zGo (T:Tabs)(ss:List aK):={ns:List Nat // ns.map (T.names[·]?)=ss.map some}
noncomputable def zEp (T:Tabs):(ss:List aK)->Option (zGo T ss)
 | []=>some ⟨[],rfl⟩
 | x::r=>bnE (nix T.names x) λ k hk=>(zEp T r).bind λ ns=>some ⟨k::ns.1,by (erw [bl];erw [bl];erw [ns.2];erw [QY hk];rfl)⟩
structure FOk (A:aM)(F:Fm)(sc:bZ)(ks:List (aK×aS)):Prop where
 ks:F.ks=ks
 gl:∀ x,sc.names.lookup x=some .globalImplicit->F.env.kindOf x=some .globalImplicit
 fr:A.frames=some F.fs
theorem FOk.comp {sc:bZ}{ks:List (aK×aS)}(h:FOk A F sc ks)(scope:bZ)(L:ai):FOk A (zW F scope L) scope (zh ks scope) :=
 ⟨by show zh F.ks scope=_;(erw [h.ks];rfl),(λ x hx=>by
  show ik (pL scope _ L F.env) x=_
  exact (Qw (env:=F.env) hx).trans (by simp)),h.fr⟩
structure EC (T:Tabs)(sc:bZ)(ks:List (aK×aS)) where
 C:Cx
 n:Nat
 A:aM
 F:Fm
 Y:C.Good
 TT:TOk C T
 hA:Room n A
 K:FOk A F sc ks
noncomputable def EC.comp {T:Tabs}{sc:bZ}{ks:List (aK×aS)}(c:EC T sc ks)(scope:bZ)(L:ai):EC T scope (zh ks scope):=⟨c.C,c.n,c.A,zW c.F scope L,c.Y,c.TT,c.hA,c.K.comp scope L⟩
section
variable (T:Tabs)(X:TX)(sc:bZ)(ks:List (aK×aS))
noncomputable def RE (e:aH):={x:Ex // ∀ c:EC T sc ks,SE c.C T c.n c.A c.F e x/\SB c.C T c.n c.A c.F e x}
noncomputable def RL (es:List aH):={xs:List Ex // ∀ c:EC T sc ks,Each (SE c.C T c.n c.A c.F) es xs/\Each (SB c.C T c.n c.A c.F) es xs}
noncomputable def RI (target iter:aH):={x:Ex // ∀ c:EC T sc ks,SI c.C T c.n c.A c.F target iter x}
noncomputable def RG (gs:List bm):={xs:List Gn // ∀ c:EC T sc ks,EachG c.C T c.n c.A c.F gs xs}
end
section
variable {T:Tabs}{X:TX}{sc:bZ}{ks:List (aK×aS)}
theorem Yd {es:List aH}{xs:List Ex}(hs:es.all zc=true)(h:Each (SE C T n A F) es xs):SL C T n A F es xs:=by
 induction h with
 | nil=>exact wb
 | cons p r ih=>exact j9 (ZW (all_cons hs).1) p (ih (all_cons hs).2)
theorem qd {b:Bool}(h:(!b)=true):b=false:=by
 cases b with
 | true=>exact a8 h
 | false=>rfl
theorem yX {x:aK}(h:(!JP x)=true):(x==("__debug__":aK))=false/\(x==("__classdict__":aK))=false:=(dE).mp (qd h)
theorem Zb {e:aH}{x:Ex}(h:SE C T n A F e x)(hp:∀ env whole,isTrue e env whole=(do let v<-whole;fU e.pos;cO [v] (mL v)):=by intros;rfl):SE C T n A F e x/\SB C T n A F e x:=⟨h,h.sb hp⟩
theorem WN (A:aM):A.mark none=A:=rfl
noncomputable def yq (tr:∀ e,Option (RE T sc ks e)):(es:List aH)->Option (RL T sc ks es)
 | []=>some ⟨[],λ _=>⟨.nil,.nil⟩⟩
 | e::r=>(tr e).bind λ x=>(yq tr r).bind λ xs=>some ⟨x.1::xs.1,λ c=>⟨.cons (x.2 c).1 (xs.2 c).1,.cons (x.2 c).2 (xs.2 c).2⟩⟩
noncomputable def zG5 (tr:∀ e,Option (RE T sc ks e))(target iter:aH):Option (RI T sc ks target iter) :=
 wA (β:=λ t=>RI T sc ks t iter) target λ elts x1 tp=>WW (β:=λ i=>RI T sc ks (.Tuple elts x1 tp) i) iter λ f es kw p=>match es with
  | []=>none
  | a::es=>match es with
   | []=>none
   | b::es=>match es with
    | _::_=>none
    | []=>match kw with
     | _::_=>none
     | []=>jX (β:=λ f=>RI T sc ks (.Tuple elts x1 tp) (.Call f [a,b] [] p)) f λ z np =>
      gdE ([a,b].all zc) λ hs=>gdE (sc.names.lookup z==some .globalImplicit) λ h1=>gdE (!JP z) λ h2=>bnE (gix T.glob z) λ g hg=>gdE (((T.glob[g]?).bind λ p=>ut p.2)==some .zip) λ h3=>(tr a).bind λ xa=>(tr b).bind λ xb =>
       some ⟨.zip xa.1 xb.1,λ c=>Ee (uz hg) λ d hd=>zDj c.Y c.TT c.hA.hd (by rw [hd] at h3;obtain rfl:=We (eq_of_beq h3);exact hd) (c.K.gl _ (eq_of_beq h1)) (yX h2).1 (xa.2 c).1 (xb.2 c).1 hs⟩
noncomputable def trI (tr:∀ e,Option (RE T sc ks e))(target iter:aH):Option (RI T sc ks target iter) :=
 orE (zG5 tr target iter) ((tr iter).bind λ x=>some ⟨x.1,λ c=>(x.2 c).1.si c.hA.hd⟩)
noncomputable def trG (tr:∀ e,Option (RE T sc ks e)):(gs:List bm)->Option (RG T sc ks gs)
 | []=>some ⟨[],λ _=>.nil⟩
 | g::r=>gdE (g.is_async==0) λ h1=>gdE (Qv g.iter) λ h2=>bnE (trP ks g.target) λ t h3=>(trI tr g.target g.iter).bind λ it=>(yq tr g.ifs).bind λ ifs=>(trG tr r).bind λ gs =>
  some ⟨.mk t it.1 ifs.1::gs.1,λ c=>by
   obtain ⟨a,b,e,i⟩:=g
   cases (show i=0 from eq_of_beq h1)
   exact .cons (by erw [c.K.ks];exact h3) (it.2 c) (ifs.2 c).2 h2 (gs.2 c)⟩
noncomputable def zGa (a b:Nat)(ix:List Nat):Bool:=ix.all (λ j=>decide (a<=j)&&decide (j<a + b))&&decide ix.Nodup
structure CR (sT target iter:aH)(sL:List aH)(sO:List bm)(scope:bZ)(T:Tabs)(sc:bZ)(ks:List (aK×aS)) where
 t:Pt
 it:Ex
 ifs:List Ex
 gs:List Gn
 xe:Ex
 ok:∀ (pos:dM) (c:EC T sc ks),CompSpec c.C T c.n c.A c.F sT target iter sL sO scope pos t it ifs gs λ ρ σ K=>wpE c.C T c.n xe ρ σ K
noncomputable def Wx (tr:∀ (sc:bZ) (ks:List (aK×aS)) e,Option (RE T sc ks e))(sT target iter:aH)(sL:List aH)(sO:List bm)(scope:bZ):Option (CR sT target iter sL sO scope T sc ks) :=
 gdE (uh ks scope) λ h1=>gdE (Qv iter) λ h2=>bnE (trP (zh ks scope) target) λ t h3=>(trI (tr sc ks) target iter).bind λ it=>(yq (tr scope (zh ks scope)) sL).bind λ ifs=>(trG (tr scope (zh ks scope)) sO).bind λ gs=>(tr scope (zh ks scope) sT).bind λ xe =>
  gdE (zGa ks.length (zV scope).length (Z5 t++Z4 gs.1)) λ h4=>some ⟨t,it.1,ifs.1,gs.1,xe.1,λ pos c=>WI c.hA.hd (WN _) (CompOk.of (by erw [c.K.ks];exact h1)) (by erw [c.K.ks];exact h3) h2 (it.2 c) (λ L=>(ifs.2 (c.comp scope L)).2) (λ L=>gs.2 (c.comp scope L)) (λ L=>(xe.2 (c.comp scope L)).1)
   (λ j hj=>Ea (zQ (aY.mp (zQ h4).1 j (bg.mpr hj))) λ a b=>by erw [c.K.ks];exact ⟨of_decide_eq_true a,of_decide_eq_true b⟩) (of_decide_eq_true (zQ h4).2)⟩
noncomputable def zCO (X:TX)(tr:∀ e,Option (RE T sc ks e))(f:aH)(es:List aH)(pos:dM):Option (RE T sc ks (.Call f es [] pos)):=gdE (es.all zc) λ hs=>(yq tr es).bind λ xs=>orE
 (jX (β:=λ f=>RE T sc ks (.Call f es [] pos)) f λ id p=>(tr (.Name id p)).bind λ xf=>some ⟨.call (jU X.mu pos) xf.1 xs.1,λ c=>Zb (zCr c.Y c.hA c.K.fr (xf.2 c).1 (Yd hs (xs.2 c).1) hs)⟩)
 (ww (β:=λ f=>RE T sc ks (.Call f es [] pos)) f λ o nm apos=>gdE (Q9 o) λ h1=>gdE (apos.endLine==pos.line) λ h2=>gdE (cA es.length 29) λ h3=>bnE (nix T.names nm) λ k hk=>(tr o).bind λ xo=>some ⟨.meth xo.1 k xs.1,λ c=>Zb (zAU c.Y c.TT c.hA c.K.fr (QY hk) (xo.2 c).1 (Yd hs (xs.2 c).1) hs h1 h2 (kK (aw h3)))⟩)
noncomputable def zG9 (tr:∀ e,Option (RE T sc ks e)){o:aH}(xo:RE T sc ks o)(i:aH)(pos:dM):Option (RE T sc ks (.Subscript o i pos)) :=
 orE (Jw (β:=λ i=>RE T sc ks (.Subscript o i pos)) i λ nm _ _=>bnE (nix T.names nm) λ k hk=>some ⟨.subk xo.1 k,λ c=>Zb (zCk c.TT (QY hk) (xo.2 c).1)⟩)
  (orE (zET (β:=λ i=>RE T sc ks (.Subscript o i pos)) i λ l u st p=>match st with
   | some _=>none
   | none=>match l with
    | none=>match u with
     | none=>none
     | some b=>(tr b).bind λ x=>some ⟨.upto xo.1 x.1,λ c=>Zb (zBM (xo.2 c).1 (x.2 c).1)⟩
    | some _=>none)
   (gdE (uR i) λ h=>(tr i).bind λ x=>some ⟨.sub xo.1 x.1,λ c=>Zb (zCG c.Y c.TT c.hA (xo.2 c).1 (x.2 c).1 h)⟩))
noncomputable def trE (X:TX):Nat->(sc:bZ)->(ks:List (aK×aS))->(e:aH)->Option (RE T sc ks e)
 | 0,_,_,_=>none
 | f + 1,sc,ks,e=>match e with
  | .Constant k _ _=>bnE (XU k) λ p h=>some ⟨.c p,λ _=>Zb (zA7 h)⟩
  | .Name x _=>gdE (!JP x) λ h1=>opE (aix ks x) (λ i h=>some ⟨.nm i,λ c=>Zb (zB1 (by erw [c.K.ks];exact h) (yX h1).1 (yX h1).2)⟩)
   λ _=>gdE (sc.names.lookup x==some .globalImplicit) λ h2=>bnE (gix T.glob x) λ g hg=>some ⟨.gl g,λ c=>Ee (uz hg) λ _ hd=>Zb (zBP c.Y c.TT hd (c.K.gl _ (eq_of_beq h2)) (yX h1).1)⟩
  | .Tuple es _ _=>gdE (es.all zc) λ h1=>gdE (cA es.length 100000) λ h2=>(yq (trE X f sc ks) es).bind λ xs=>some ⟨.tup xs.1,λ c=>Zb (zCM (Yd h1 (xs.2 c).1) (aw h2))⟩
  | .List es pos=>gdE (es.all zc) λ h1=>gdE (cA es.length 100000) λ h2=>(yq (trE X f sc ks) es).bind λ xs=>some ⟨.lst (jU X.mu pos) xs.1,λ c=>Zb (zEm (Yd h1 (xs.2 c).1) (aw h2))⟩
  | .Dict keys es pos=>match keys with
   | []=>match es with
    | []=>match jU X.td pos with
     | true=>some ⟨.dct 2 [] [],λ c=>Zb (xK c.Y (.inr rfl))⟩
     | false=>some ⟨.dct 1 [] [],λ c=>Zb (xK c.Y (.inl rfl))⟩
    | _::_=>none
   | k::r=>(zAG (k::r)).bind λ ss=>(yq (trE X f sc ks) es).bind λ xs=>(zEp T ss.1).bind λ ns=>gdE (aZ (k::r).length es.length) λ h1=>gdE (cA (k::r).length 15) λ h2=>gdE (decide ss.1.Nodup) λ h3 =>
    some ⟨.dct 0 ns.1 xs.1,λ c=>Zb (zDW c.Y ss.2 (xs.2 c).1 (fS _ _) (du h1) (aw h2) (of_decide_eq_true h3) ns.2)⟩
  | .BinOp a op b _=>(trE X f sc ks a).bind λ x=>(trE X f sc ks b).bind λ y=>some ⟨.bin op x.1 y.1,λ c=>Zb (zCT (x.2 c).1 (y.2 c).1)⟩
  | .UnaryOp op a _=>(trE X f sc ks a).bind λ x=>match op with
   | .USub=>some ⟨.neg x.1,λ c=>Zb (zCA (x.2 c).1)⟩
   | .Not=>some ⟨.not x.1,λ c=>⟨zEd (x.2 c).1,zE8 (x.2 c).2⟩⟩
   | _=>none
  | .BoolOp op es _=>(yq (trE X f sc ks) es).bind λ xs=>match op with
   | .And=>some ⟨.and xs.1,λ c=>⟨zDt (xs.2 c).1,zDi (xs.2 c).2⟩⟩
   | .Or=>some ⟨.or xs.1,λ c=>⟨zFq (xs.2 c).1,zEz (xs.2 c).2⟩⟩
  | .IfExp a b d _=>(trE X f sc ks a).bind λ z=>(trE X f sc ks b).bind λ x=>(trE X f sc ks d).bind λ y=>some ⟨.ite z.1 x.1 y.1,λ c=>⟨zE0 (z.2 c).2 (x.2 c).1 (y.2 c).1,zDz (z.2 c).2 (x.2 c).2 (y.2 c).2⟩⟩
  | .Compare a ops bs _=>match ops with
   | []=>none
   | op::r=>match r with
    | t0::r'=>match r' with
     | _::_=>none
     | []=>match bs with
      | []=>none
      | b::s=>match s with
       | []=>none
       | b'::s'=>match s' with
        | _::_=>none
        | []=>gdE (!behindInMarks t0 b') λ h=>(trE X f sc ks a).bind λ x=>(trE X f sc ks b).bind λ y=>(trE X f sc ks b').bind λ z=>some ⟨.cmp2 x.1 op y.1 t0 z.1,λ c=>⟨zBz c.hA (x.2 c).1 (y.2 c).1 (z.2 c).1 (qd h),zCe c.hA (x.2 c).1 (y.2 c).1 (z.2 c).1 (qd h)⟩⟩
    | []=>match bs with
     | []=>none
     | b::s=>match s with
      | _::_=>none
      | []=>gdE (!behindInMarks op b) λ h=>(trE X f sc ks a).bind λ x=>(trE X f sc ks b).bind λ y=>some ⟨.cmp x.1 op y.1,λ c=>⟨zCV c.hA (x.2 c).1 (y.2 c).1 (qd h),zEl c.hA (x.2 c).1 (y.2 c).1 (qd h)⟩⟩
  | .Call fn es kw pos=>match kw with
   | []=>zCO X (trE X f sc ks) fn es pos
   | _::_=>none
  | .Attribute o nm _=>gdE (Q9 o) λ h=>bnE (nix T.names nm) λ k hk=>(trE X f sc ks o).bind λ xo=>some ⟨.attr xo.1 k,λ c=>Zb (zBW c.Y c.TT (QY hk) (xo.2 c).1 h)⟩
  | .Subscript o i pos=>(trE X f sc ks o).bind λ xo=>zG9 (trE X f sc ks) xo i pos
  | .ListComp sT gs scope pos=>match gs with
   | []=>none
   | ⟨target,iter,sL,a⟩::sO=>gdE (a==0) λ h=>(Wx (sc:=sc) (ks:=ks) (trE X f) sT target iter sL sO scope).bind λ r=>some ⟨.comp (jU X.mu pos) (zV scope).length r.xe r.t r.it r.ifs r.gs,λ c=>by
     cases (show a=0 from eq_of_beq h)
     exact Zb (zBX c.hA.hd rfl (r.ok pos c))⟩
  | .JoinedStr vs pos=>match vs with
   | []=>none
   | v::r=>match r with
    | []=>none
    | w::r=>match r with
     | _::_=>none
     | []=>Jw (β:=λ v=>RE T sc ks (.JoinedStr [v,w] pos)) v λ pre k p1=>zFV (β:=λ w=>RE T sc ks (.JoinedStr [.Constant (.str pre) k p1,w] pos)) w λ a p2 =>
      gdE (bq pre) λ h1=>gdE (cA pre.length 1000) λ h2=>(trE X f sc ks a).bind λ x=>some ⟨.fstr pre x.1,λ c=>Zb (zBs ⟨h1,aw h2⟩ (x.2 c).1)⟩
  | _=>none
end
end Mine.Internal
namespace Mine.Internal
open PySem PySem.Calls PyProof PyProof.Rows PySem.W PySem.SeqAt
set_option tactic.hygienic false
variable {sc:bZ}{env:kO}{p:dM}{v:aH}{ts:List aH}{k:Nat}
noncomputable def kOf (sc:bZ)(x:aK):Option aS:=sc.names.lookup x
noncomputable def blk (sc:bZ):ScopeKind:=if sc.kind.isAnnotationScope then .function else sc.kind
noncomputable def swC (sc scope:bZ)(t:aK)(p pos:dM):Bool:=blk sc==.function&&kOf sc t==some .local&&p.line==pos.line&&!(scope.names.any λ (n,k)=>n==t&&(k==.local || k==.cell))
theorem Wz {scope:bZ}{sT:aH}{gs:List bm}{pos:dM}{t:aK}{l:Nat}(h:env.scope=sc):mw (.ListComp sT gs scope pos) (some (.Name t p)) l env=pure (swC sc scope t p pos):=by
 subst h;rfl
noncomputable def WV (e:aH):Bool:=!Nat.ble 24 e.ctorIdx || aZ e.ctorIdx 26
noncomputable def wk (e:aH):Bool:=!Nat.beq e.ctorIdx 25
theorem UQ {t:aH}(h:WV t=true):cM [t] v env=pure none:=by
 cases t <;> first | rfl | exact absurd h aT
theorem Vj (h:wk v=true):cM [.Tuple ts k p] v env=pure none:=by
 cases v <;> first | rfl | exact absurd h aT
noncomputable def ZM (sc:bZ)(ts:List aH):List aK :=
 let line:=(ts.head?.map (·.pos.line)).getD 0
 ts.filterMap fun
  | .Name id pos=>if kOf sc id==some .local&&pos.line==line then some id else none
  | _=>none
noncomputable def swS (sc:bZ)(ts vs:List aH):Option (Option (List aK)) :=
 if (!(ts.length==2 || ts.length==3) || vs.length != ts.length || blk sc != .function)=true then some none
 else if (vs.any λ | .Starred ..=>true | _=>false)=true then some none
 else if ((ZM sc ts).length != ts.length || (ZM sc ts).eraseDups.length != (ZM sc ts).length)=true then some none
 else if (vs.all (l8 8))=true then some none
 else if (vs.all (lR 8))=true then none
 else some (some (ZM sc ts))
theorem Wu {vs:List aH}{k':Nat}{p':dM}{r:Option (List aK)}(h:env.scope=sc)(e:swS sc ts vs=some r):cM [.Tuple ts k p] (.Tuple vs k' p') env=pure r:=by
 subst h
 have e0:cM [.Tuple ts k p] (.Tuple vs k' p') env=(if (!(ts.length==2 || ts.length==3) || vs.length != ts.length || blk env.scope != .function)=true then pure none
  else if (vs.any λ | .Starred ..=>true | _=>false)=true then pure none
  else if ((ZM env.scope ts).length != ts.length || (ZM env.scope ts).eraseDups.length != (ZM env.scope ts).length)=true then pure none
  else if (vs.all (l8 8))=true then pure none
  else if (vs.all (lR 8))=true then (do unsupported "assign.tuple-of-constant-expressions:order-of-the-stores";return some (ZM env.scope ts))
  else pure (some (ZM env.scope ts))):=rfl
 erw [e0]
 unfold swS at e
 by_cases h1:(!(ts.length==2 || ts.length==3) || vs.length != ts.length || blk env.scope != .function)=true
 ·rw [if_pos h1] at e ⊢;obtain rfl:=so e;rfl
 rw [if_neg h1] at e ⊢
 by_cases h2:(vs.any λ | .Starred ..=>true | _=>false)=true
 ·rw [if_pos h2] at e ⊢;obtain rfl:=so e;rfl
 rw [if_neg h2] at e ⊢
 by_cases h3:((ZM env.scope ts).length != ts.length || (ZM env.scope ts).eraseDups.length != (ZM env.scope ts).length)=true
 ·rw [if_pos h3] at e ⊢;obtain rfl:=so e;rfl
 rw [if_neg h3] at e ⊢
 by_cases h4:(vs.all (l8 8))=true
 ·rw [if_pos h4] at e ⊢;obtain rfl:=so e;rfl
 rw [if_neg h4] at e ⊢
 by_cases h5:(vs.all (lR 8))=true
 ·rw [if_pos h5] at e;exact nn e
 rw [if_neg h5] at e ⊢
 obtain rfl:=so e;rfl
end Mine.Internal
namespace Mine.Internal
open PySem PySem.Calls PyProof PyProof.Rows PySem.W PySem.SeqAt
set_option tactic.hygienic false
variable {env:kO}{t1 t2:aH}{i1 i2:Nat}{p1 p2:dM}{x1 x2:aK}
structure TopF (F:Fm)(sc:bZ):Prop where
 sc:F.env.scope=sc
 top:∃ fs,F.fs=F.env::fs
 fr:F.env.frame=some F.env.locals
section
variable (T:Tabs)(sc:bZ)(ks:List (aK×aS))
noncomputable def RT (e:aH):={t:Tg // ∀ c:EC T sc ks,SA c.C T c.n c.A c.F e t}
noncomputable def RTs (es:List aH):={ts:List Tg // ∀ c:EC T sc ks,EachT (SA c.C T c.n c.A c.F) es ts}
noncomputable def RS (s:fE):={x:St // ∀ c:EC T sc ks,TopF c.F sc->SX c.C T c.n c.A c.F s x}
noncomputable def RSs (s:List fE):={x:List St // ∀ c:EC T sc ks,TopF c.F sc->SS c.C T c.n c.A c.F s x}
end
structure TS where
 X:TX
 fz:List Nat
section
variable {T:Tabs}{sc:bZ}{ks:List (aK×aS)}
noncomputable def zD6 (tr:∀ e,Option (RT T sc ks e)):(es:List aH)->Option (RTs T sc ks es)
 | []=>some ⟨[],λ _=>.nil⟩
 | e::r=>gdE (zc e) λ h=>(tr e).bind λ x=>(zD6 tr r).bind λ xs=>some ⟨x.1::xs.1,λ c=>.cons (x.2 c) h (xs.2 c)⟩
noncomputable def trT (X:TX)(f':Nat):Nat->(e:aH)->Option (RT T sc ks e)
 | 0,_=>none
 | f + 1,e=>match e with
  | .Name x _=>bnE (bix ks x) λ i h=>some ⟨.pt (.nm i),λ c=>zBk (by erw [c.K.ks];exact h)⟩
  | .Tuple es _ _=>(zD6 (trT X f' f) es).bind λ ts=>some ⟨.tup ts.1,λ c=>zDX c.hA.hd (ts.2 c)⟩
  | .Attribute o nm _=>bnE (nix T.names nm) λ k hk=>(trE (T:=T) X f' sc ks o).bind λ xo=>some ⟨.attr xo.1 k,λ c=>zAZ c.Y c.TT (QY hk) (xo.2 c).1⟩
  | .Subscript o a pos=>(trE (T:=T) X f' sc ks o).bind λ xo=>orE (Jw (β:=λ i=>RT T sc ks (.Subscript o i pos)) a λ nm _ _=>bnE (nix T.names nm) λ k hk=>some ⟨.subk xo.1 k,λ c=>zBH c.TT (QY hk) (xo.2 c).1⟩)
    ((trE (T:=T) X f' sc ks a).bind λ x=>some ⟨.sub xo.1 x.1,λ c=>zDa c.hA (xo.2 c).1 (x.2 c).1⟩)
  | _=>none
noncomputable def XM (X:TX)(f:Nat)(ta e:aH)(pos:dM)(hs:∀ F:Fm,F.env.scope=sc->dL [ta] e pos.line F.env=pure false)(hw:∀ F:Fm,F.env.scope=sc->cM [ta] e F.env=pure none):Option (RS T sc ks (.Assign [ta] e pos)) :=
 gdE (zc ta) λ h=>(trE (T:=T) X f sc ks e).bind λ x=>(trT X f f ta).bind λ t=>some ⟨.asg t.1 x.1,λ c q=>zEq (x.2 c).1 (t.2 c) h (hs _ q.sc) (hw _ q.sc)⟩
noncomputable def yc (e:aH):Option {q:aK×dM // e=.Name q.1 q.2}:=jX (β:=λ e=>{q:aK×dM // e=.Name q.1 q.2}) e λ x p=>some ⟨(x,p),rfl⟩
noncomputable def zGd (ts:List aH):Option {q:aH×aH // ts=[q.1,q.2]}:=match ts with
 | []=>none
 | a::r=>match r with
  | []=>none
  | b::r=>match r with
   | []=>some ⟨(a,b),rfl⟩
   | _::_=>none
noncomputable def zDF (ts:List aH):Option {q:aH×aH×aH // ts=[q.1,q.2.1,q.2.2]}:=match ts with
 | []=>none
 | a::r=>match r with
  | []=>none
  | b::r=>match r with
   | []=>none
   | c::r=>match r with
    | []=>some ⟨(a,b,c),rfl⟩
    | _::_=>none
theorem jj {a b:Nat}(h:(!Nat.beq a b)=true):a≠b:=λ e=>by subst e;rw [kD] at h;exact a8 h
theorem Qf {ta e:aH}{l:Nat}(h:YM e=true):dL [ta] e l env=pure false:=YO h
theorem w2 {c:EC T sc ks}{ts:List aH}{e:aH}{k:Nat}{p pos:dM}{x:Ex}{names:List aK}(e0:ts=[t1,t2])(e1:t1=.Name x1 p1)(e2:t2=.Name x2 p2)(hx:SE c.C T c.n c.A c.F e x)(b1:bix ks x1=some i1)(b2:bix ks x2=some i2)(hn:(names==[x1,x2])=true)(d:(!Nat.beq i1 i2)=true)
  (hs:dL [.Tuple ts k p] e pos.line c.F.env=pure false) (hw:cM [.Tuple ts k p] e c.F.env=pure (some names)):SX c.C T c.n c.A c.F (.Assign [.Tuple ts k p] e pos) (.asg (.tup [.pt (.nm i1),.pt (.nm i2)]) x):=by
 subst e0 e1 e2
 cases eq_of_beq hn
 rw [<- c.K.ks] at b1 b2
 exact zBd c.hA.hd hx b1 b2 (jj d) hs hw
theorem w3 {c:EC T sc ks}{ts:List aH}{t3 e:aH}{k i3:Nat}{p p3 pos:dM}{x3:aK}{x:Ex}{names:List aK}(e0:ts=[t1,t2,t3])(e1:t1=.Name x1 p1)(e2:t2=.Name x2 p2)(e3:t3=.Name x3 p3)(hx:SE c.C T c.n c.A c.F e x)(b1:bix ks x1=some i1)(b2:bix ks x2=some i2)(b3:bix ks x3=some i3)(hn:(names==[x1,x2,x3])=true)(d1:(!Nat.beq i1 i2)=true)(d2:(!Nat.beq i1 i3)=true)(d3:(!Nat.beq i2 i3)=true)
  (hs:dL [.Tuple ts k p] e pos.line c.F.env=pure false) (hw:cM [.Tuple ts k p] e c.F.env=pure (some names)):SX c.C T c.n c.A c.F (.Assign [.Tuple ts k p] e pos) (.asg (.tup [.pt (.nm i1),.pt (.nm i2),.pt (.nm i3)]) x):=by
 subst e0 e1 e2 e3
 cases eq_of_beq hn
 rw [<- c.K.ks] at b1 b2 b3
 exact zC1 c.hA.hd hx b1 b2 b3 ⟨jj d1,jj d2,jj d3⟩ hs hw
noncomputable def trW (X:TX)(f:Nat)(ts:List aH)(k:Nat)(p:dM)(e:aH)(pos:dM)(names:List aK)(hs:∀ F:Fm,F.env.scope=sc->dL [.Tuple ts k p] e pos.line F.env=pure false)(hw:∀ F:Fm,F.env.scope=sc->cM [.Tuple ts k p] e F.env=pure (some names)):Option (RS T sc ks (.Assign [.Tuple ts k p] e pos)) :=
 (trE (T:=T) X f sc ks e).bind λ x=>orE
  ((zGd ts).bind λ q=>(yc q.1.1).bind λ n1=>(yc q.1.2).bind λ n2=>bnE (bix ks n1.1.1) λ i1 b1=>bnE (bix ks n2.1.1) λ i2 b2=>gdE (names==[n1.1.1,n2.1.1]) λ hn=>gdE (!Nat.beq i1 i2) λ d =>
   some ⟨.asg (.tup [.pt (.nm i1),.pt (.nm i2)]) x.1,λ c h=>w2 q.2 n1.2 n2.2 (x.2 c).1 b1 b2 hn d (hs c.F h.sc) (hw c.F h.sc)⟩)
  ((zDF ts).bind λ q=>(yc q.1.1).bind λ n1=>(yc q.1.2.1).bind λ n2=>(yc q.1.2.2).bind λ n3=>bnE (bix ks n1.1.1) λ i1 b1=>bnE (bix ks n2.1.1) λ i2 b2=>bnE (bix ks n3.1.1) λ i3 b3=>gdE (names==[n1.1.1,n2.1.1,n3.1.1]) λ hn=>gdE (!Nat.beq i1 i2) λ d1=>gdE (!Nat.beq i1 i3) λ d2=>gdE (!Nat.beq i2 i3) λ d3 =>
   some ⟨.asg (.tup [.pt (.nm i1),.pt (.nm i2),.pt (.nm i3)]) x.1,λ c h=>w3 q.2 n1.2 n2.2 n3.2 (x.2 c).1 b1 b2 b3 hn d1 d2 d3 (hs c.F h.sc) (hw c.F h.sc)⟩)
noncomputable def zFY (X:TX)(f:Nat)(pos:dM)(sT:aH)(gs:List bm)(scope:bZ)(p:dM)(x:aK)(px:dM):Option (RS T sc ks (.Assign [.Name x px] (.ListComp sT gs scope p) pos)) :=
 orE (gdE (!swC sc scope x px p) λ hb=>XM X f _ _ pos (λ _ h=>(Wz (l:=pos.line) h).trans (by (erw [qd hb];rfl))) (λ _ _=>UQ rfl))
  (gdE (swC sc scope x px p) λ hb=>match gs with
   | []=>none
   | ⟨target,iter,sL,a⟩::sO=>gdE (a==0) λ ha=>bnE (bix ks x) λ iy _=>gdE (ks[iy]?==some (x,.local)) λ hk=>(Wx (T:=T) (sc:=sc) (ks:=ks) (trE X f) sT target iter sL sO scope).bind λ r =>
    some ⟨.asg (.pt (.nm iy)) (.comp (jU X.mu p) (zV scope).length r.xe r.t r.it r.ifs r.gs),λ c h=>by
     cases (show a=0 from eq_of_beq ha)
     exact zBg c.hA.hd (r.ok p c) ((Wz h.sc).trans (by (erw [hb];rfl))) (by erw [c.K.ks];exact eq_of_beq hk) rfl⟩)
noncomputable def zG4 {β:aH->Type}(e:aH)(k:∀ sT gs scope p,Option (β (.ListComp sT gs scope p))):Option (β e):=by
 apply @eZ (λ e=>Option (β e)) e <;> intros <;> first | exact k _ _ _ _ | exact none
noncomputable def trL (X:TX)(f:Nat)(ta e:aH)(pos:dM):Option (RS T sc ks (.Assign [ta] e pos)):=zG4 (β:=λ e=>RS T sc ks (.Assign [ta] e pos)) e λ sT gs scope p=>jX (β:=λ t=>RS T sc ks (.Assign [t] (.ListComp sT gs scope p) pos)) ta λ x px=>zFY X f pos sT gs scope p x px
theorem Vx {ts:List aH}{k:Nat}{p:dM}{e:aH}{l:Nat}:dL [.Tuple ts k p] e l env=pure false:=by cases e <;> rfl
noncomputable def trA (X:TX)(f:Nat)(ta e:aH)(pos:dM):Option (RS T sc ks (.Assign [ta] e pos)) :=
 orE (trL X f ta e pos) (orE (gdE (YM e) λ hn=>gdE (WV ta) λ h=>XM X f ta e pos (λ _ _=>Qf hn) (λ _ _=>UQ h))
  (wA (β:=λ t=>RS T sc ks (.Assign [t] e pos)) ta λ ts k p=>orE (gdE (wk e) λ h=>XM X f _ e pos (λ _ _=>Vx) (λ _ _=>Vj h))
   (wA (β:=λ e=>RS T sc ks (.Assign [.Tuple ts k p] e pos)) e λ vs k' p'=>bnE (swS sc ts vs) λ r hr=>match r,hr with
    | none,hr=>XM X f _ _ pos (λ _ _=>Qf rfl) (λ _ h=>Wu h hr)
    | some names,hr=>trW X f ts k p _ pos names (λ _ _=>Qf rfl) (λ _ h=>Wu h hr))))
noncomputable def JI (tr:∀ s,Option (RS T sc ks s)):(ss:List fE)->Option (RSs T sc ks ss)
 | []=>some ⟨[],λ _ _=>zD2⟩
 | s::r=>(tr s).bind λ x=>(JI tr r).bind λ xs=>some ⟨x.1::xs.1,λ c q=>zB0 (x.2 c q) (xs.2 c q)⟩
noncomputable def zG6 {β:fE->Type}(ts:List aH)(e:aH)(p:dM)(k:∀ t e p,Option (β (.Assign [t] e p))):Option (β (.Assign ts e p)) :=
 @bE _ (λ ts=>Option (β (.Assign ts e p))) ts none λ t r=>@bE _ (λ r=>Option (β (.Assign (t::r) e p))) r (k t e p) λ _ _=>none
noncomputable def zEI {β:fE->Type}(s:fE)(k:∀ t e p,Option (β (.Assign [t] e p))):Option (β s):=by
 apply @rq (λ s=>Option (β s)) s <;> intros <;> first | exact zG6 _ _ _ k | exact none
noncomputable def XJ {s:fE}:RS T sc ks s:=⟨.raise,λ _ _=>VV⟩
noncomputable def trS (Z:TS):Nat->(s:fE)->Option (RS T sc ks s)
 | 0,_=>none
 | f + 1,st=>match st with
  | .Expr e _=>gdE (YM e) λ h=>(trE (T:=T) Z.X f sc ks e).bind λ x=>some ⟨.expr x.1,λ c _=>zB4 (x.2 c).1 h⟩
  | .Assign ts e pos=>match ts with
   | []=>none
   | ta::r=>match r with
    | []=>trA Z.X f ta e pos
    | _::_=>none
  | .If c a b _=>(trE (T:=T) Z.X f sc ks c).bind λ z=>(JI (trS Z f) a).bind λ x=>(JI (trS Z f) b).bind λ y=>some ⟨.ite z.1 x.1 y.1,λ c q=>zEQ (z.2 c).2 (x.2 c q) (y.2 c q)⟩
  | .While c body orelse _=>match orelse with
   | []=>(trE (T:=T) Z.X f sc ks c).bind λ z=>(JI (trS Z f) body).bind λ ys=>some ⟨.while z.1 ys.1,λ c q=>V8 (z.2 c).2 (ys.2 c q)⟩
   | _::_=>none
  | .For ta iter body orelse _=>match orelse with
   | []=>gdE (Qv iter) λ h=>bnE (trP ks ta) λ t ht=>(trI (T:=T) (sc:=sc) (ks:=ks) (trE Z.X f sc ks) ta iter).bind λ it=>(JI (trS Z f) body).bind λ ys=>some ⟨.for t it.1 ys.1,λ c q=>zDZ c.hA.hd (by erw [c.K.ks];exact ht) (it.2 c) (ys.2 c q) (j4 h)⟩
   | _::_=>none
  | .Return v pos=>match v with
   | some e=>(trE (T:=T) Z.X f sc ks e).bind λ x=>match Z.fz.contains pos.line with
    | true=>some ⟨.retF x.1,λ c _=>zCl (x.2 c).1⟩
    | false=>some ⟨.ret x.1,λ c _=>zE4 (x.2 c).1⟩
   | none=>some ⟨.retN,λ _ _=>zB3⟩
  | .Continue _=>some ⟨.cont,λ _ _=>zC7⟩
  | .Raise exc cause pos=>match exc with
   | some e=>match cause with
    | none=>some XJ
    | some _=>some XJ
   | none=>some XJ
  | _=>some XJ
end
structure FOkS (A:aM)(F:Fm)(sc:bZ)(ks:List (aK×aS)):Prop where
 ks:F.ks=ks
 top:TopF F sc
 fr:A.frames=some F.fs
theorem FOkS.ok {A:aM}{F:Fm}{sc:bZ}{ks:List (aK×aS)}(h:FOkS A F sc ks):FOk A F sc ks:=⟨h.ks,(λ x e=>by show F.env.scope.names.lookup x=_;erw [h.top.sc];exact e),h.fr⟩
theorem zDK {C:Cx}{T:Tabs}{n:Nat}{f:ai}{fd:dS}{ps:List aK}{ks:List (aK×aS)}{body:List fE}{ds:List D}{σ:zA}{Q:D->zA->Prop}(Y:C.Good)(TT:TOk C T)(O:FnOk C f fd ps ks body)(tJ:ds.length=ps.length)
  (r:RSs T fd.scope ks body) (h:wpSs C T n r.1 (Ql ds ks.length) σ λ fl _ σ'=>Z0 σ Q fl σ'):SatCall C T (n + 1) f ds σ Q :=
 zCP Y O tJ λ F A hk hs hf ht Cm q=>(r.2 ⟨C,n,A,F,Y,TT,q,FOkS.ok ⟨hk,⟨hs,ht,Cm⟩,hf⟩⟩ ⟨hs,ht,Cm⟩) _ _ _ h
end Mine.Internal
namespace Mine.Internal
open PySem PySem.Calls PyProof PyProof.Rows PySem.W PySem.SeqAt
set_option tactic.hygienic false
variable {ps:List aK}{fd:dS}{C:Cx}{μ:List ai}{A:aM}{attr file:aK}
noncomputable def yf (p:Arguments):Option (List aK):=gd (p.posonlyargs.isEmpty&&p.vararg.isNone&&p.kwonlyargs.isEmpty&&p.kw_defaults.isEmpty&&p.kwarg.isNone&&p.defaults.isEmpty) (some (p.args.map (·.arg)))
noncomputable def jA (l:List Bool):Bool:=ee true (λ b _ r=>b&&r) l
theorem zF {l:List Bool}:∀ {i:Nat} {b:Bool},jA l=true->l[i]?=some b->b=true :=
 @ee Bool (λ l=>∀ {i:Nat} {b:Bool},jA l=true->l[i]?=some b->b=true) (λ _ e=>nn e) (λ c r ih {i b} h=>@iH (λ i=>(c::r)[i]?=some b->b=true) i (λ e=>so e▸(zQ h).1) λ _ e=>ih (zQ h).2 e) l
theorem zBr {a b d:List Arg}{c f:Option Arg}{e:List (Option aH)}{g:List aH}(h1:a=[])(h2:c=none)(h3:d=[])(h4:e=[])(h5:f=none)(h6:g=[]):Arguments.mk a b c d e f g=⟨[],b,none,[],[],none,[]⟩:=by
 subst h1 h2 h3 h4 h5 h6;rfl
theorem Yr {p:Arguments}(h:yf p=some ps):∃ as,p=⟨[],as,none,[],[],none,[]⟩/\as.map (·.arg)=ps:=by
 obtain ⟨a,b,c,d,e,f,g⟩:=p
 exact Ea (og h) λ h1 h2=>Ea (zQ h1) λ h1 h3=>Ea (zQ h1) λ h1 h4=>Ea (zQ h1) λ h1 h5=>Ea (zQ h1) λ h1 h6=>Ea (zQ h1) λ h1 h7 =>
  ⟨b,zBr (dh.mp h1) (gB.mp h7) (dh.mp h6) (dh.mp h5) (gB.mp h4) (dh.mp h3),so h2⟩
theorem uV {vals:List ag}(nd:ps.Nodup)(hl:vals.length=ps.length):∀ n∈ps,∃ v,(ps.zip vals).lookup n=some v:=λ n hn=>by
 refine Ee (aN.mp hn) λ i hi=>?_
 have:=QB nd hl.symm hi
 have sW:i<vals.length:=by erw [hl];exact (aq.mp hi).1
 exact ⟨vals[i],by (erw [this];erw [ay sW];rfl)⟩
theorem zDw:∀ {ps:List aK} {vals:List ag},ps.Nodup->vals.length=ps.length->ps.filterMap (λ n=>((ps.zip vals).lookup n).map (n,·))=ps.zip vals:=by
 intro ps vals nd hl
 apply ow
 intro i
 have key:∀ (l:List aK) (f:aK->Option (aK×ag)) (g:List (aK×ag)),l.length=g.length->(∀ (j:Nat) x y,l[j]?=some x->g[j]?=some y->f x=some y)->l.filterMap f=g:=by
  intro l f
  induction l with
  | nil=>intro g hg _;cases g with | nil=>rfl | cons _ _=>simp at hg
  | cons x l ih =>
   intro g hg h
   cases g with
   | nil=>simp at hg
   | cons y g =>
    (erw [List.filterMap_cons];erw [h 0 x y rfl rfl])
    simp only [pj,true_and]
    exact ih g (by simpa using hg) λ j a b h1 h2=>h (j + 1) a b (by simpa using h1) (by simpa using h2)
 refine rwE (key ps _ (ps.zip vals) (by simp [hl]) λ j x y hx hy=>?_) rfl
 refine Ea (lU.mp (show (ps.zip vals)[j]?=some (y.1,y.2) from hy)) λ h1 h2=>?_
 rw [hx] at h1;(injection h1 with y1y0;subst y1y0)
 (erw [QB nd hl.symm hx];erw [h2])
 rfl
theorem je {as:List Arg}(hp:fd.params=⟨[],as,none,[],[],none,[]⟩)(hd:fd.defaults=.none)(hn:as.map (·.arg)=ps)(nd:ps.Nodup)(vals:List ag)(hl:vals.length=ps.length):nu fd ⟨vals,[]⟩=pure (ps.zip vals):=by
 have e1:(ps.filter λ n=>((ps.zip vals).lookup n).isNone)=[]:=by
  rw [mR]
  intro n hm
  refine Ee (uV nd hl n hm) λ v e=>?_
  simp [e]
 have key:∀ {P:Prop},(∀ (X Y:kS (List (aK×ag))) (f:aK×ag->List (aK×ag)->kS (ForInStep (List (aK×ag)))) (g:List (aK×ag)->kS (List (aK×ag))),(nu fd ⟨vals,[]⟩=if (decide (vals.length > (as.map gi).length)&&true)=true then X else if (!(((as.map gi).take ((as.map gi).length - (eg (0 - (as.map gi).length) ([]:List ag)).length)).filter λ n=>(((as.map gi).zip vals).lookup n).isNone).isEmpty)=true then Y else (forIn (((as.map gi).drop ((as.map gi).length - (eg (0 - (as.map gi).length) ([]:List ag)).length)).zip (eg (0 - (as.map gi).length) ([]:List ag))) ((as.map gi).zip vals) f >>= g))->(∀ s,g s=pure (((as.map gi)++[]).filterMap λ n=>(s.lookup n).map (n,·)))->P)->P:=by
  obtain ⟨q1,q2,q3,q4,q5,q6,q7,q8,q9,Lk,K1,Le,K6,K4,Li⟩:=fd
  obtain rfl:=hp
  obtain rfl:=hd
  exact λ k=>k _ _ _ _ rfl λ _=>rfl
 refine key λ X Y f g e hg=>?_
 (erw [e];erw [hn];erw [hl];erw [List.drop_nil];erw [b8];erw [Nat.sub_zero];erw [if_neg (by simp)];erw [oS];erw [e1];erw [List.zip_nil_right];erw [lP];erw [pure_bind];erw [hg];erw [hn];erw [aR];erw [zDw nd hl])
 rfl
theorem YA {n:Nat}:∀ {l:List (aK×aS)} {acc:List (aK×ai)} {x:aK} {n:Nat},(acc.lookup x).isSome=true->((iV n l acc).lookup x).isSome=true
 | [],_,_,_,h=>h
 | (y,k)::r,acc,x,n,h=>by
  simp only [iV]
  split
  ·refine YA (n:=n) ?_
   erw [cy]
   split
   ·rfl
   ·exact h
  ·exact YA (n:=n) h
theorem y4:∀ {l:List (aK×aS)} {acc:List (aK×ai)} {x:aK} {n:Nat},(x,l6)∈l->((iV n l acc).lookup x).isSome=true
 | [],_,_,_,h=>nomatch h
 | (y,k)::r,acc,x,n,h=>by
  simp only [iV]
  rcases aA.mp h with e | e
  ·cases e
   simp only [beq_self_eq_true,if_true]
   exact YA (n:=n) (by simp [cy])
  ·split
   ·exact y4 e
   ·exact y4 e
noncomputable def dFn:o9->Option dS
 | .func fd=>some fd
 | _=>none
theorem zAh {d:o9}(h:dFn d=some fd):d=.func fd:=by cases d with | func x=>(erw [so h];rfl) | _=>exact nn h
noncomputable def wD:FuncBody->Option (List fE)
 | .stmts b=>some b
 | _=>none
theorem wc {d:FuncBody}{b:List fE}(h:wD d=some b):d=.stmts b:=by cases d with | stmts x=>(erw [so h];rfl) | _=>exact nn h
noncomputable def keep (fd:dS):List (aK×aS):=fd.scope.names.filter λ x=>x.2==.local || x.2==.cell
noncomputable def fnB (K:gf)(f:ai):Option (dS×List aK×List (aK×aS)×List fE):=(K.lookup f).bind λ o=>(dFn o.data).bind λ fd=>(yf fd.params).bind λ ps=>(wD fd.body).bind λ b =>
 gd (jA [pK K fd.code fd.qualname,fd.closure.isEmpty,fd.globals==cu,fd.builtins==fR,fd.defaults==.none,!fd.scope.isCoroutine,!fd.scope.isGenerator,fd.scope.kind==.function,decide (fd.scope.names.map (·.1)).Nodup,((keep fd).map (·.1)).take ps.length==ps]) (some (fd,ps,keep fd,b))
theorem qD {α:Type}:∀ {l:List (aK×α)} {x:aK} {a:α},(l.map (·.1)).Nodup->(x,a)∈l->l.lookup x=some a
 | [],_,_,_,h=>nomatch h
 | (y,b)::l,x,a,nd,h=>by
  rw [bl,bk] at nd
  erw [cy]
  rcases aA.mp h with e | e
  ·cases e;simp
  ·have:(x==y)=false:=by
    rw [beq_eq_false_iff_ne];rintro rfl;exact nd.1 (az.mpr ⟨_,e,rfl⟩)
   erw [this];exact qD nd.2 e
theorem zCv {f:ai}{q:dS×List aK×List (aK×aS)×List fE}(h:fnB C.K f=some q):FnOk C f q.1 q.2.1 q.2.2.1 q.2.2.2:=by
 refine Eea (ob h) λ o hl k1=>?_
 refine Eea (ob k1) λ fd e1 k2=>?_
 refine Eea (ob k2) λ ps hp k3=>?_
 refine Eea (ob k3) λ b hb k4=>?_
 refine Ea (og k4) λ k5 e2=>?_
 obtain rfl:=so e2
 clear h k1 k2 k3 k4 e2
 obtain ⟨oc,od,dat,sl⟩:=o
 obtain rfl:=zAh e1
 have c9:=of_decide_eq_true (zF (i:=8) k5 rfl)
 have c10:=eq_of_beq (zF (i:=9) k5 rfl)
 refine Eea (Yr hp) λ as DH AL=>?_
 have H0:((keep fd).map (·.1)).Nodup:=c9.sublist (List.filter_sublist.map _)
 have Es:ps.Nodup:=c10▸H0.sublist (gG _ _)
 exact ⟨⟨oc,od,sl,hl⟩,(zF (i:=0) k5 rfl),wc hb,λ vals hv=>je DH (eq_of_beq (zF (i:=4) k5 rfl)) AL Es vals hv,dh.mp (zF (i:=1) k5 rfl),eq_of_beq (zF (i:=2) k5 rfl),eq_of_beq (zF (i:=3) k5 rfl),qd (zF (i:=5) k5 rfl),qd (zF (i:=6) k5 rfl),eq_of_beq (zF (i:=7) k5 rfl),H0,c10,λ x k m=>Ea (bM.mp m) λ m1 m2=>⟨((f8 ..).mp m2).imp eq_of_beq eq_of_beq,qD c9 m1⟩,λ x L m=>y4 (bM.mp m).1⟩
noncomputable def trF (K:gf)(T:Tabs)(Z:TS)(fuel:Nat)(f:ai):Option (Nat×Nat×List St):=(fnB K f).bind λ r=>(JI (T:=T) (sc:=r.1.scope) (ks:=r.2.2.1) (trS Z fuel) r.2.2.2).bind λ CG=>some (r.2.1.length,r.2.2.1.length,CG.1)
theorem zK {T:Tabs}{Z:TS}{fuel n np nk:Nat}{f:ai}{CG:List St}{ds:List D}{σ:zA}{Q:D->zA->Prop}(Y:C.Good)(TT:TOk C T)(h:trF C.K T Z fuel f=some (np,nk,CG))(tJ:ds.length=np)
  (hw:wpSs C T n CG (Ql ds nk) σ λ fl _ σ'=>Z0 σ Q fl σ'):SatCall C T (n + 1) f ds σ Q:=by
 refine Eea (ob h) λ q hf h1=>?_
 refine Eea (ob h1) λ Gk _ h2=>?_
 have e:=so h2
 obtain rfl:_=np:=congrArg iP e
 obtain rfl:_=nk:=congrArg (λ t=>t.2.1) e
 obtain rfl:_=CG:=congrArg (λ t=>t.2.2) e
 exact zDK (fd:=q.1) (ps:=q.2.1) (ks:=q.2.2.1) (body:=q.2.2.2) Y TT (zCv hf) tJ Gk hw
noncomputable def Uz (K:gf)(a:ai)(x:aK)(zz:Option ai):Bool:=@eN _ (λ _=>Bool) zz (findIn K (.ref a) x==some none) (λ f=>findIn K (.ref a) x==some (some (.ref f))&&typeIn K (.ref f)==some (.type "function")&&keepIn K (.ref f))
noncomputable def Y6 (K:gf)(T:Tabs)(a:ai):Nat->List aK->Bool
 | _,[]=>true
 | k,x::r=>Uz K a x (zS a k T.meth)&&Y6 K T a (k + 1) r
noncomputable def zDg (K:gf)(T:Tabs)(a:ai):Bool :=
 findIn K (.ref a) "__getattribute__"==some (some (.builtin "object.__getattribute__"))&&findIn K (.ref a) "__getattr__"==some none&&findIn K (.ref a) "__setattr__"==some (some (.builtin "object.__setattr__"))
 && me K a&&mf K a&&Y6 K T a 0 T.names
noncomputable def zFr (d:o9):Option {q:Array ag×Nat // d=.seq q.1 q.2}:=match d with
 | .seq a n=>some ⟨(a,n),rfl⟩
 | _=>none
noncomputable def zEF (v:ag):Option {a:ai // v=.ref a}:=match v with
 | .ref a=>some ⟨a,rfl⟩
 | _=>none
noncomputable def zEY (v:ag):Option {q:Int×iT // v=.int q.1 q.2}:=match v with
 | .int i t=>some ⟨(i,t),rfl⟩
 | _=>none
structure ValP (K:gf)(v:ag)(x:ab):Prop where
 h:∀ (h:aP) (φ:ai->Prop),(∀ a o,K.lookup a=some o->h.get? a=some o/\φ a)->VP h φ v x
structure ValsP (K:gf)(vs:List ag)(xs:List ab):Prop where
 h:∀ (h:aP) (φ:ai->Prop),(∀ a o,K.lookup a=some o->h.get? a=some o/\φ a)->VPs h φ vs xs
noncomputable def zAj {K:gf}(f:∀ v x,Option (PLift (ValP K v x))):∀ vs xs,Option (PLift (ValsP K vs xs))
 | [],xs=>match xs with
  | []=>some ⟨⟨λ _ _ _=>.nil⟩⟩
  | _=>none
 | v::vs,xs=>match xs with
  | []=>none
  | x::xs=>(f v x).bind λ p=>(zAj f vs xs).bind λ q=>some ⟨⟨λ h φ k=>.cons (p.1.h h φ k) (q.1.h h φ k)⟩⟩
noncomputable def zDu (K:gf):Nat->∀ v x,Option (PLift (ValP K v x))
 | 0,_,_=>none
 | n + 1,v,x=>match x with
  | .int i=>(zEY v).bind λ p=>gdE (p.1.1==i) λ h=>some ⟨⟨λ _ _ _=>by (erw [p.2];erw [eq_of_beq h]);exact .int _ _⟩⟩
  | .tuple xs=>(zEF v).bind λ p=>(bnE (K.lookup p.1) λ o ho=>(zFr o.data).bind λ s=>gdE (o.cls==.type "tuple") λ h1=>gdE o.dict.isNone λ h2=>(zAj (zDu K n) s.1.1.toList xs).bind λ q =>
    some ⟨⟨λ h φ k=>by
     refine Ea (k _ _ ho) λ e f=>?_
     erw [p.2]
     exact .tup f ⟨⟨o,e,eq_of_beq h1,_,s.2⟩,λ o' e'=>by obtain rfl:=so (e.symm.trans e');exact gB.mp h2⟩ (q.1.h h φ k)⟩⟩)
  | _=>none
noncomputable def zAC (K:gf)(e:aK×D):Bool:=match e.2 with
 | .fn a=>pa K cu e.1==some (some (.ref a))
 | .bi b=>pa K cu e.1==some none&&gj e.1==some (qu b)&&e.1 != "__name__"
 | .p x=>(pa K cu e.1).any λ o=>o.any λ v=>(zDu K 3 v x).isSome
 | _=>false
noncomputable def zAi (K:gf)(T:Tabs):Bool :=
 decide T.names.Nodup&&T.classes.all (zDg K T)&&T.glob.all (zAC K)&&T.names.take 6==(["append","get","setdefault","sort","extend","count"]:List aK)
theorem Qk {K:gf}{T:Tabs}{a:ai}:∀ {l:List aK} {i k:Nat} {x:aK},Y6 K T a i l=true->l[k]?=some x->Uz K a x (zS a (i + k) T.meth)=true
 | [],i,k,x,_,e=>nn e
 | y::r,i,0,x,h,e=>by obtain rfl:=so e;exact (zQ h).1
 | y::r,i,k + 1,x,h,e=>by
  have:=Qk (l:=r) (i:=i + 1) (k:=k) (zQ h).2 e
  rw [cU,eU 1 k] at this
  exact this
theorem vg {T:Tabs}{a:ai}(h:zDg C.K T a=true):ClsOk C T a:=by
 refine Ea (zQ h) λ h h6=>?_
 refine Ea (zQ h) λ h h5=>?_
 refine Ea (zQ h) λ h h4=>?_
 refine Ea (zQ h) λ h h3=>?_
 refine Ea (zQ h) λ h1 h2=>?_
 refine ⟨eq_of_beq h1,eq_of_beq h2,eq_of_beq h3,h4,h5,λ k x hx hl=>?_,λ k x f hx hl=>?_⟩
 ·have:=Qk h6 hx
  rw [eV,hl] at this
  exact eq_of_beq this
 ·have:=Qk h6 hx
  rw [eV,hl] at this
  refine Ea (zQ this) λ q q3=>?_
  refine Ea (zQ q) λ q1 q2=>?_
  exact ⟨eq_of_beq q1,eq_of_beq q2,q3⟩
theorem WC {x:aK}{d:D}(Y:C.Good)(hb:∀ y:aK,y≠"__name__"->C.mb y=gj y)(h:zAC C.K (x,d)=true):jL C x d:=by
 cases d with
 | fn a=>exact ⟨.ref a,.inl (mg_of Y.X Y.g (eq_of_beq h)),λ _ _ _ _ _=>.fn a⟩
 | bi b =>
  refine Ea (zQ h) λ h h3=>?_
  refine Ea (zQ h) λ h1 h2=>?_
  exact ⟨qu b,.inr ⟨mg_none_of Y.X Y.g (eq_of_beq h1),(hb x (bne_iff_ne.mp h3)).trans (eq_of_beq h2)⟩,λ _ _ _ _ _=>.bi b⟩
 | p y =>
  refine Eea ((n9 _ _).mp h) λ o e1 h=>?_
  refine Eea ((n9 _ _).mp h) λ v e2 h=>?_
  refine Ee (gW.mp h) λ p _=>?_
  rw [e2] at e1
  exact ⟨v,.inl (mg_of Y.X Y.g e1),λ h φ μ k1 k2=>.p (p.1.h h φ λ a o e=>⟨k1 _ _ (Y.X _ _ e),k2 _ _ (Y.X _ _ e)⟩)⟩
 | _=>exact a8 h
theorem zDT {T:Tabs}(Y:C.Good)(hb:∀ y:aK,y≠"__name__"->C.mb y=gj y)(h:zAi C.K T=true)(hG:∀ a k z,Zy a k T.gds=some z->GdOk C a k z):TOk C T:=by
 refine Ea (zQ h) λ h h4=>?_
 refine Ea (zQ h) λ h h3=>?_
 refine Ea (zQ h) λ h1 h2=>?_
 have h1:=of_decide_eq_true h1
 have h2:=aY.mp h2
 have h3:=aY.mp h3
 have h4:=eq_of_beq h4
 have nth:∀ (k:Nat),k<6->T.names[k]?=(["append","get","setdefault","sort","extend","count"]:List aK)[k]?:=λ k hk=>by
  (refine rwS h4 ?_;erw [dK hk];rfl)
 exact ⟨h1,λ a m=>vg (h2 a m),λ g x d e=>WC Y hb (h3 _ (aN.mpr ⟨g,e⟩)),hG,nth 0 (by decide),nth 1 (by decide),nth 2 (by decide),nth 3 (by decide),nth 4 (by decide),nth 5 (by decide)⟩
theorem WX {T:Tabs}:Rel C T C.h₀ (λ a=>∃ o,C.h₀.get? a=some o) [] [] :=
 ⟨λ _ _ e=>e,λ _ o e=>⟨o,e⟩,λ _ f=>f,rfl,λ _ _ _ e _=>nn e,λ _ _ e=>nn e,λ _ _ e _=>nn e,λ _ _ _ e _=>nn e⟩
theorem uf {h:aP}{φ:ai->Prop}:∀ {vs:List ag} {ns:List Int},cJ vs ns->VPs h φ vs (ns.map .int)
 | _,_,.nil=>.nil
 | _,_,.cons _ _ r=>.cons (.int _ _) (uf r)
theorem Ui:Room 60 callerA:=⟨rfl,by decide +kernel,by decide +kernel⟩
theorem XF {h:aP}{φ:ai->Prop}:Out callerA h φ μ:=⟨[],rfl,λ _ m=>nomatch m⟩
section
variable {C:Cx}{T:Tabs}{n:Nat}{σ:zA}{ds:List D}{Q:D->zA->Prop}
theorem zBK {n:Nat}(r:Room (n + 1) A)(a:ai)(vs:List ag):Room n (A.under (.builtin "type.__call__" ⟨.ref a::vs,[]⟩)):=by
 have hw:(dF "type.__call__" ⟨.ref a::vs,[]⟩).weight<=1:=by
  have:(dF "type.__call__" ⟨.ref a::vs,[]⟩).weight=(dF "type.__call__" ⟨.ref a::vs,[]⟩).weight:=rfl
  first | (exact cS (by kernel_rfl)) | (exact Nat.le_of_eq_of_le (show _=0 by kernel_rfl) (bd _))
 have hu:(dF "type.__call__" ⟨.ref a::vs,[]⟩).cUnits=1:=by kernel_rfl
 refine ⟨r.hd,?_,?_⟩
 ·have e:(A.under (.builtin "type.__call__" ⟨.ref a::vs,[]⟩)).depth=A.depth + (dF "type.__call__" ⟨.ref a::vs,[]⟩).weight:=rfl
  have:=r.depth;exact lin [(A.under (dF "type.__call__" {pos:=eY a::vs})).depth,n,pC,(dF "type.__call__" {pos:=eY a::vs}).weight,A.depth] [] (.a (.a (.a (.v 0) (.m 2 (.v 1))) (.k 10)) (.k 1)) (.v 2) [(1,.l (.v 3) (.k 1)),(1,.e (.v 0) (.a (.v 4) (.v 3))),(1,.l (.a (.a (.a (.v 4) (.m 2 (.a (.v 1) (.k 1)))) (.k 10)) (.k 1)) (.v 2))] tT9 hw e this
 ·have e:(A.under (.builtin "type.__call__" ⟨.ref a::vs,[]⟩)).units=A.units + (dF "type.__call__" ⟨.ref a::vs,[]⟩).cUnits:=rfl
  have:=r.units;exact lin [(A.under (dF "type.__call__" {pos:=eY a::vs})).units,n,cLine,(dF "type.__call__" {pos:=eY a::vs}).cUnits,A.units] [] (.a (.a (.a (.v 0) (.m 20 (.v 1))) (.k 400)) (.k 1)) (.v 2) [(1,.e (.v 3) (.k 1)),(1,.e (.v 0) (.a (.v 4) (.v 3))),(1,.l (.a (.a (.a (.v 4) (.m 20 (.a (.v 1) (.k 1)))) (.k 400)) (.k 1)) (.v 2))] tT9 hu e this
theorem Out.builtin {h:aP}{φ:ai->Prop}(o:Out A h φ μ)(a:ai)(vs:List ag):Out (A.under (.builtin "type.__call__" ⟨.ref a::vs,[]⟩)) h φ μ:=by
 refine Eea (o.h) λ fs hf k=>?_
 exact ⟨fs,by show pushEnvs [] A.frames=_;exact hf,k⟩
theorem UF {cls fI:ai}(Y:C.Good)(hT:cls∈T.classes)(hm:mS C.K cls=true)(hk:keepIn C.K (.ref cls)=true)(hi:findIn C.K (.ref cls) "__init__"=some (some (.ref fI)))(hf:typeIn C.K (.ref fI)=some (.type "function"))
  (h:SatCall C T n fI (.obj (σ.length + 1)::ds) (σ++[.sdict []]++[.inst cls σ.length]) λ d σ'=>d=.p .none/\Q (.obj (σ.length + 1)) σ'):SatCall C T (n + 1) cls ds σ Q:=by
 refine ⟨hk,λ A s φ μ vs r ou R V=>?_⟩
 obtain ⟨hp,g,d,t,os⟩:=s
 have X:=Y.X.keeps R.keep
 refine make_core (makes_of X hm) (looks_findIn X hi) (λ self=>bind_fn X self hf) (.inl rfl) ?_
 refine Eaa (Rel.pushM (s:=⟨hp,g,d,t,os⟩) R mz (.sdict []) rfl λ h' e _=>⟨[],0,e,.nil⟩) λ R1 X1 m1=>?_
 refine Eaa (Rel.pushM (s:=⟨hp.push mz,g,d,t,os⟩) R1 (instObj cls hp.objs.size) (.inst cls σ.length) rfl λ h' e _=>⟨hT,hp.objs.size,by erw [aC (aq.mp m1).1];exact m1,e⟩) λ R2 X2 m2=>?_
 have hl:(σ++[MO.sdict []]).length=σ.length + 1:=by simp
 have hs:(hp.push mz).objs.size=hp.objs.size + 1:=dR ..
 simp only [hl,hs] at m2 R2 X2
 refine fG (h.code _ ⟨(hp.push mz).push (instObj cls hp.objs.size),g,d,t,os⟩ φ _ (.ref (hp.objs.size + 1)::vs) (zBK r _ _) ((ou.ext (X1.trans X2)).builtin _ _) R2 (.cons (.obj m2) ((X1.trans X2).vds V))) λ res s' hr=>?_
 rcases res with e | fl
 ·exact hr.elim
 ·cases fl with
  | ret v =>
   obtain ⟨h',tk,j',sz,d',σ',rfl,R',X',V',rfl,q⟩:=hr
   cases V'.ip.inone
   exact ⟨rfl,h',tk,j',sz,_,σ',rfl,R',(X1.trans X2).slack.trans X',.obj (X'.pre _ _ m2),q⟩
  | _=>exact hr.elim
end
set_option tactic.hygienic true
noncomputable def XB {α β:Type}(f:α->Option β):List α->Option (List β)
 | []=>some []
 | a::r=>(f a).bind λ b=>(XB f r).bind λ bs=>some (b::bs)
theorem vy {K:gf}{D:ai}{cd:kW}(e:oJ K D=some cd):∃ o,K.lookup D=some o/\o.data=.cls cd:=by
 unfold oJ at e
 cases h:K.lookup D with
 | none=>rw [h] at e;exact nn e
 | some o =>
  rw [h] at e
  obtain ⟨c,d,da,sl⟩:=o
  cases da <;> first | exact nn e | exact ⟨_,rfl,congrArg Data.cls (so e)⟩
theorem JV {α β:Type}{f:α->Option β}{a:α}{r:List α}{xs:List β}(h:XB f (a::r)=some xs):∃ b bs,f a=some b/\XB f r=some bs/\xs=b::bs:=by
 refine Eea (ob h) λ b h1 h2=>?_
 refine Eea (ob h2) λ bs h3 h4=>?_
 exact ⟨b,bs,h1,h3,(so h4).symm⟩
noncomputable def zAF:aH->Option aK
 | .Name x _=>some x
 | _=>none
theorem xE {e:aH}{x:aK}(h:zAF e=some x):∃ p,e=.Name x p:=by
 cases e with
 | Name y p=>obtain rfl:=so h;exact ⟨p,rfl⟩
 | _=>exact nn h
abbrev SV:=Option aK
variable {sv:SV}
noncomputable def QP (as:List aH):Option (List aK):=XB zAF as
noncomputable def zEE:Const->Bool
 | .none=>true
 | _=>false
noncomputable def uA:aH->Option SV
 | .Constant c _ _=>gd (zEE c) (some none)
 | .Name x _=>some (some x)
 | _=>none
noncomputable def zEb (ps:List aK):SV->Bool
 | none=>true
 | some x=>ps.contains x&&x != "__debug__"
structure SupR where
 D:ai
 self:aK
 ps:List aK
 an:List aK
 attr:aK
 sv:SV
noncomputable def zAH (m:aK->Option ag):SV->ag
 | none=>.none
 | some x=>(m x).getD .none
theorem zFg {a b:aK}(h:(a != b)=true):(a==b)=false:=beq_eq_false_iff_ne.mpr (bne_iff_ne.mp h)
section
variable {M:Model}{A:aM}{E:ag->ak->Prop}{s:ak}{env:kO}{m:aK->Option ag}{pos:dM}
theorem Qz:∀ {as:List aH} {an:List aK},QP as=some an->as.all zc=true
 | [],_,_=>rfl
 | a::r,an,e=>by
  (refine Eeeaa (JV e) λ x xs h1 h2 Bb=>?_;obtain rfl:=Bb)
  (refine Ee (xE h1) λ p A7=>?_;obtain rfl:=A7)
  exact Qz (as:=r) h2
theorem jW (hk:env.scope.kind=.function):∀ {as:List aH} {an:List aK} {Q:List ag->ak->Prop},QP as=some an->(∀ x,x∈an->env.kindOf x=some .local/\(∃ v,m x=some v)/\(x==("__debug__":aK))=false)->s.heap.Ns env.locals m->Q (an.map λ x=>(m x).getD .none) s ->
  wpAny M A (spliced (backTo pos (starEach as env))) Q E s
 | [],an,Q,e,_,_,h=>by
  obtain rfl:=so e
  exact spliced_nil h
 | a::r,an,Q,e,hl,hn,h=>by
  (refine Eeeaa (JV e) λ x l e1 hr BH=>?_;obtain rfl:=BH)
  (refine Ee (xE e1) λ p Ek=>?_;obtain rfl:=Ek)
  (refine Eaa (hl x di) λ h1 Bw=>?_;(refine Ee (Bw) λ v h2=>?_;try clear Bw);intro h3)
  refine args_cons (ic (eO hk h1 hn h2 ?_) h3)
  refine jW hk hr (λ y hy=>hl y (bU _ hy)) hn ?_
  rw [bl,h2] at h
  exact h
theorem zBA {v:aH}{Q:ag->ak->Prop}(hk:env.scope.kind=.function)(e:uA v=some sv)(hl:∀ x,sv=some x->env.kindOf x=some .local/\(∃ u,m x=some u)/\(x==("__debug__":aK))=false)(hn:s.heap.Ns env.locals m)
  (h:Q (zAH m sv) s):wpAny M A (eval v env) Q E s:=by
 cases v with
 | Name x p =>
  obtain rfl:=so e
  (refine Eaa (hl x rfl) λ h1 AO=>?_;(refine Ee (AO) λ u h2=>?_;try clear AO);intro h3)
  refine ic (eO hk h1 hn h2 ?_) h3
  have h:Q ((m x).getD .none) s:=h
  rw [h2] at h
  exact h
 | Constant c k p =>
  refine Ea (og e) λ h1 h2=>?_
  obtain rfl:=so h2
  cases c with
  | none=>exact nJ h
  | _=>exact a8 h1
 | _=>exact nn e
end
section
variable {C:Cx}{n:Nat}{A:aM}{s:ak}{R:lG->ak->Prop}
structure SupF (K:gf)(file:aK)(f D:ai)(sf:aK)(ps an:List aK)(attr:aK)(sv:SV)(fd:dS)(p0 p1 ap cp ep q0 q1 q2:dM)(as:List aH)(v:aH)(cc cda:ai)(vsC:Array ag)(tf:iT)(cdD:kW):Prop where
 at_:∃ oc od sl,K.lookup f=some ⟨oc,od,.func fd,sl⟩
 prm:yf fd.params=some (sf::ps)
 body:fd.body=.stmts [.Expr (.Call (.Attribute (.Call (.Name "super" p0) [] [] p1) "__init__" ap) as [] cp) ep,.Assign [.Attribute (.Name sf q0) attr q1] v q2]
 clo:fd.closure=[(("__class__":aK),cc)]
 code:fd.code=.ref cda
 han:QP as=some an
 hsv:uA v=some sv
 hcda:∃ oc od sl,K.lookup cda=some ⟨oc,od,.fields vsC,sl⟩
 file:vsC[2]?=some (.str file tf)
 cell:∃ oc od sl,K.lookup cc=some ⟨oc,od,.cell (some (.ref D)),sl⟩
 cls:oJ K D=some cdD
 c6:pK K fd.code fd.qualname=true
 c7:fd.globals=cu
 c8:fd.builtins=fR
 c9:fd.defaults=.none
 c10:fd.scope.isCoroutine=false
 c11:fd.scope.isGenerator=false
 c12:fd.scope.kind=.function
 c13:∀ y,y∈fd.scope.names->¬ y.2=.cell
 c14:∀ y,y∈sf::ps->fd.scope.names.lookup y=some .local
 c15:(sf::ps).Nodup
 c16:∀ y,y∈an->y∈sf::ps/\¬ y="__debug__"
 c17:zEb (sf::ps) sv=true
 c18:¬ sf="__debug__"
 c21:(ap.endLine==cp.line)=true
 c22:as.length<30
 c19:fd.scope.names.lookup ("super":aK)=some .globalImplicit
 c20:fd.scope.names.lookup ("__class__":aK)=some .free
structure SupS where
 fd:dS
 p0:dM
 p1:dM
 ap:dM
 cp:dM
 ep:dM
 q0:dM
 q1:dM
 q2:dM
 as:List aH
 v:aH
 cc:ai
 cda:ai
 vsC:Array ag
 tf:iT
 cdD:kW
def wT (K:gf)(file:aK)(f:ai)(r:SupR):Prop:=∃ S:SupS,SupF K file f r.D r.self r.ps r.an r.attr r.sv S.fd S.p0 S.p1 S.ap S.cp S.ep S.q0 S.q1 S.q2 S.as S.v S.cc S.cda S.vsC S.tf S.cdD
theorem vJ (Y:C.Good){f x c D:ai}{ox:fi}{tz:aK}{an:List aK}{p0 p1 ap cp ep q0 q1 q2:dM}{as:List aH}{v:aH}{cc cda:ai}{vsC:Array ag}{tf:iT}{cdD:kW}{vs:List ag}(S:SupF C.K file f D tz ps an attr sv fd p0 p1 ap cp ep q0 q1 q2 as v cc cda vsC tf cdD)(hfile:((C.prog.main.file:aK)==file)=true)(htop:(C.prog.main.scope.names.lookup ("super":aK)).isSome=false)
  (hg:C.mg "super"=none) (hb:C.mb "super"=some (.type "super")) (hA:Room (n + 1) A) (kp:∀ b o,C.h₀.get? b=some o->s.heap.get? b=some o) (Cu:vs.length=ps.length) (hx:s.heap.get? x=some ox) (KX:ox.cls=.ref c) (IB:notCls ox=true) (tU:mroIn C.K c (.ref D)=some true)
  (H:∀ (A':aM) (sS:aP) (tk:Nat) (so L:ai) (m:aK->Option ag) (pl:kS Bool),m=(λ y=>((tz::ps).zip (.ref x::vs)).reverse.lookup y)->Room n A'->(∀ φ μ,Out A s.heap φ μ->L∉μ->¬ φ L->Out A' sS φ μ/\∀ b,b∈frA A'->b=L∨b∈frA A)->(∀ b o,s.heap.get? b=some o->sS.get? b=some o)->sS.get? so=some (ks_superObj D x c)->s.heap.get? L=none->sS.Ns L m ->
   wpAny (model C.prog C.w) A' (oY (.ref so) "__init__" pl) (λ fx sF=>sF.heap.Ns L m/\(∃ k,(k=rt∨k=pO∨k=oK)/\Looks (model C.prog C.w) sF.heap (keeperOf fx.1) k) /\
    wpAny (model C.prog C.w) A' (call fx.1 (fx.2++an.map λ y=>(m y).getD .none)) (λ _ th=>th.heap.Ns L m/\wpAny (model C.prog C.w) A' (setAttr (.ref x) attr (zAH m sv)) (λ _ Ab=>R (.ok (.ret .none)) Ab) NoE th) NoE sF) NoE {s with heap:=sS,toks:=tk}) :
  ez (model C.prog C.w) A (.call (.ref f) ⟨.ref x::vs,[]⟩) R s:=by
 have X:=Y.X.keeps kp
 refine Eeee (S.at_) λ oc od sl hf=>?_
 refine Eeee (S.hcda) λ Ll Lj La hcda=>?_
 refine Eeee (S.cell) λ Lo K9 Lg IN=>?_
 have AN:=S.prm
 have D9:=S.body
 have GA:=S.clo
 have EK:=S.code
 have han:=S.han
 have hsv:=S.hsv
 have F6:=S.file
 have D7:=S.cls
 refine Eea (Yr AN) λ HP DH AL=>?_
 have Bf:(eY x::vs).length=(tz::ps).length:=by simp [Cu]
 have E1:nu fd ⟨.ref x::vs,[]⟩=pure ((tz::ps).zip (.ref x::vs)):=je DH S.c9 AL S.c15 _ Bf
 obtain ⟨ar,AZ,rfl,GL⟩:∃ ar AZ,HP=ar::AZ/\ar.arg=tz:=by
  cases HP with
  | nil=>simp at AL
  | cons ar AZ=>exact ⟨ar,AZ,rfl,by simpa using (dI AL).1⟩
 obtain ⟨m,hm⟩:∃ m:aK->Option ag,m=λ y=>((tz::ps).zip (.ref x::vs)).reverse.lookup y:=⟨_,rfl⟩
 have HJ:((((tz::ps).zip (eY x::vs)).reverse).map (·.1)).Nodup:=by
  (erw [List.map_reverse];erw [o0 (cS Bf.symm)])
  exact List.pairwise_reverse.mpr (S.c15.imp λ h=>h.symm)
 have ED:∀ y,y∈tz::ps->∃ v,m y=some v:=λ y hy=>by
  refine Ee (uV S.c15 Bf y hy) λ v hv=>?_
  exact ⟨v,by erw [hm];exact qD HJ (fT.mpr (mem_of_lookup hv))⟩
 have Co:m tz=some (.ref x):=by
  erw [hm];exact qD HJ (fT.mpr (by simp))
 refine ks_codeAny_call_defAt (fd:=fd) (binds:=(tz::ps).zip (.ref x::vs)) (by have:=hA.depth;exact lin [_,_,_] [] (.a (.v 0) (.k 1)) (.v 1) [(1,.l (.a (.a (.a (.v 0) (.m 2 (.a (.v 2) (.k 1)))) (.k 10)) (.k 1)) (.v 1))] tT9 this) (X _ _ hf) rfl (Y.lim.keeps kp) (codeRec_of X S.c6) D9 (.of_eq E1) (λ y hy=>S.c13 y hy) (λ y hy=>S.c14 y.1 (lk hy).1) (λ h₀ C2 Dw=>?_) S.c10 S.c11 S.c12
 rw [<- hm] at C2
 have X0:=X.keeps Dw
 have rm:=Yv (env:=callEnv fd s.heap.objs.size f) hA
 generalize tQ:callEnv fd s.heap.objs.size f=env at rm ⊢
 have eL:env.locals=s.heap.objs.size:=by refine rwS tQ ?_;rfl
 have eS:env.scope=fd.scope:=by refine rwS tQ ?_;rfl
 have eC:env.cells=[(("__class__":aK),cc)]:=by refine rwS tQ ?_;exact GA
 have eG:env.globals=cu:=by refine rwS tQ ?_;exact S.c7
 have eB:env.builtins=fR:=by refine rwS tQ ?_;exact S.c8
 have eF:env.func=some f:=by refine rwS tQ ?_;rfl
 have eD:env.code=.ref cda:=by refine rwS tQ ?_;exact EK
 have hk:env.scope.kind=.function:=by erw [eS];exact S.c12
 have Hn:env.frame=some s.heap.objs.size:=by refine rwS tQ ?_;rfl
 have hOut:∀ (h':aP) (φ:ai->Prop) (μ:List ai),(∀ b o,s.heap.get? b=some o->h'.get? b=some o)->h'.Ns s.heap.objs.size m->Out A s.heap φ μ->s.heap.objs.size∉μ->¬ φ s.heap.objs.size->Out (A.deeper env) h' φ μ/\∀ b,b∈frA (A.deeper env)->b=s.heap.objs.size∨b∈frA A:=λ h' φ μ kk DE ou FU G6=>by
  refine Eea (ou.h) λ fs tx k'=>?_
  refine ⟨⟨env::fs,iL tx,λ v hv=>?_⟩,λ b hb=>?_⟩
  ·rcases aA.mp hv with rfl | hv
   ·(refine Eeeeaa (DE) λ o es ep ho hd _=>?_;try clear DE)
    exact ⟨by erw [hk];decide,_,o,Hn,ho,⟨es,ep,hd⟩,FU,G6⟩
   ·(refine Ea (k' v hv) λ a1 Ae=>?_;refine Eeeaa Ae λ L o a2 a3 a4=>?_)
    exact ⟨a1,L,o,a2,kk _ _ a3,a4⟩
  ·rw [jk (iL tx)] at hb
   refine Eea (b6.mp hb) λ v hv hL=>?_
   rcases aA.mp hv with rfl | hv
   ·rw [Hn] at hL;exact .inl (so hL).symm
   ·exact .inr (by erw [jk tx];exact b6.mpr ⟨v,hv,hL⟩)
 have HL:env.kindOf "super"=some .globalImplicit:=by unfold ik;erw [eS];exact S.c19
 have Fp:env.kindOf "__class__"=some .free:=by unfold ik;erw [eS];exact S.c20
 have B0:∀ y,y∈tz::ps->env.kindOf y=some .local:=λ y hy=>by unfold ik;erw [eS];exact S.c14 y hy
 obtain ⟨oD,HR,HI⟩:∃ oD,h₀.get? D=some oD/\oD.data=.cls cdD:=by
  refine Eea (vy D7) λ o ho hd=>?_
  exact ⟨o,X0 _ _ ho,hd⟩
 refine ks_wpAt_mono (E:=NoE) ?_ (λ _ _ z=>z) (λ _ _ z=>z.elim)
 have tn:=Qz han
 have Bz:=jZ (pos:=cp) (env:=env) tn S.c22
 have x9:fk true (.Call (.Name "super" p0) [] [] p1) env ap cp=pure cp:=by unfold fk;simp [S.c21]
 have he:eval (.Call (.Attribute (.Call (.Name "super" p0) [] [] p1) "__init__" ap) as [] cp) env=(do
   let ov<-p9 (.Call (.Name "super" p0) [] [] p1) "__init__" env (eval (.Call (.Name "super" p0) [] [] p1) env)
   fU ap.atName
   let (f,first)<-cO [ov] (calleeOf true (.Call (.Name "super" p0) [] [] p1) env ov "__init__")
   lQ cp f first (backTo cp (starEach as env)) []):=by
  erw [rc]
  unfold methodCall
  (erw [Bz];erw [x9])
  rfl
 refine oh (ks_wpAt_Expr_any (ks_wpAt_MethodCall ?_ he) ?_ ?_)
 ·refine ks_wpAt_super_base HL Fp (by decide) eF (X0 _ _ hf) rfl (by erw [DH];rfl) eD (X0 _ _ hcda) rfl F6 hfile htop ?_
  refine ks_loadName_global hk HL (nV (by erw [eG];exact (Y.g.keeps kp).keeps Dw) hg (by erw [eB];exact (Y.b.keeps kp).keeps Dw) hb ⟨rfl,?_⟩)
  refine nI hk Fp (by erw [eC];rfl) ⟨_,X0 _ _ IN,rfl⟩ ?_
  erw [GL]
  refine eO hk (B0 _ di) (by erw [eL];exact C2) Co ?_
  refine ks_wpAny_isType_cls HR HI ⟨rfl,?_⟩
  refine ks_wpAny_call_super HR HI (Dw _ _ hx) KX (λ c e=>?_) (looks_mroIn X0 tU) (λ h' e k=>?_)
  ·have:=IB
   unfold notCls at this
   rw [e] at this
   exact a8 this
  ·refine au (H _ h' _ h₀.objs.size s.heap.objs.size m _ hm rm (λ φ μ ou FU G6=>hOut _ φ μ (λ b o e=>k b o (Dw b o e)) (C2.keeps k) ou FU G6) (λ b o e=>k b o (Dw b o e)) e (zd _) (C2.keeps k)) (λ fx sF hx=>?_) λ _ _ z=>z
   (refine Eaa (hx) λ n2 k2 EV=>?_;try clear hx)
   refine callWith_of (P:=λ h=>∃ k,(k=rt∨k=pO∨k=oK)/\Looks (model C.prog C.w) h (keeperOf fx.1) k) (by show ((backTo cp (starEach as env)).any (·.1) || false)=false;erw [qG tn];rfl) (λ _ z=>z) (yw (qG tn) ?_)
   refine jW hk han (λ y hy=>?_) (by erw [eL];exact n2) ⟨k2,?_⟩
   ·refine Ea (S.c16 y hy) λ h1 h2=>?_
    have h1:y∈tz::ps:=by simpa using h1
    exact ⟨B0 y h1,ED y h1,by simpa using h2⟩
   ·refine au EV (λ _ th h3=>?_) λ _ _ z=>z
    (refine Ea (h3) λ n3 Hh=>?_;try clear h3)
    refine oh (ks_wpAt_Assign_Attr ?_ ?_)
    ·refine rd (zBA hk hsv (λ y hy=>?_) (by erw [eL];exact n3) ?_)
     ·subst hy
      refine Ea (zQ S.c17) λ d1 d2=>?_
      have h1:y∈tz::ps:=iB.mp d1
      exact ⟨B0 y h1,ED y h1,zFg d2⟩
     ·refine ic (eO hk (B0 _ di) (by erw [eL];exact n3) Co ?_) (beq_eq_false_iff_ne.mpr S.c18)
      exact au Hh (λ _ Ab h4=>rd (aj h4)) λ _ _ z=>z
    ·cases v <;> first | rfl | (simp [uA] at hsv)
 ·unfold nB;erw [hk];rfl
 ·rfl
end
set_option tactic.hygienic false
section
variable {C:Cx}{T:Tabs}{n:Nat}{σ:zA}{Q:D->zA->Prop}
structure SupX (C:Cx)(file:aK):Prop where
 hfile:((C.prog.main.file:aK)==file)=true
 htop:(C.prog.main.scope.names.lookup ("super":aK)).isSome=false
 hg:C.mg "super"=none
 hb:C.mb "super"=some (.type "super")
 ho:pa C.K cStatics "thirdparty.any"=some none
theorem VW {f f2 D cls:ai}{self:aK}{i j k:Nat}{Kj:List (Nat×Mine.Internal.D)}(Y:C.Good)(TT:TOk C T)(SX:SupX C file)(Il:keepIn C.K (.ref f)=true)(hB:wT C.K file f ⟨D,self,[],[],attr,none⟩)(hk:T.names[k]?=some attr)(Ke:zS cls k T.meth=none)(tU:mroIn C.K cls (.ref D)=some true)
  (AE:kj C.K cls D "__init__"=some (some (.ref f2))) (ht:typeIn C.K (.ref f2)=some (.type "function")) (Kz:fnIn C.K f2=true) (hi:σ[i]?=some (.inst cls j)) (hj:σ[j]?=some (.sdict Kj))
  (h:SatCall C T n f2 [.obj i] σ λ _ σ'=>∃ fs,σ'[i]?=some (.inst cls j)/\σ'[j]?=some (.sdict fs)/\fs.length<64/\Q (.p .none) (σ'.set j (.sdict (put k (.p .none) fs)))):SatCall C T (n + 1) f [.obj i] σ Q:=by
 refine ⟨Il,λ A s φ μ vs r ou R V=>?_⟩
 refine V.mcons λ v0 vr V0 V1=>?_
 cases V1.inil
 refine V0.mobj λ x ha=>?_
 (refine Ea (Yi R ha hi hj) λ hc tF=>?_;refine Eeeeaaa tF λ dx ds nn B9 hd t II=>?_)
 refine Ee hB λ S hB=>?_
 refine vJ Y hB SX.hfile SX.htop SX.hg SX.hb r R.keep rfl II.at_ rfl II.no tU λ A' sS tk so L m pl hm rA oA kk IW hL C2=>?_
 refine Ea (R.grow kk) λ R1 X1=>?_
 have X:=Y.X.keeps R1.keep
 obtain ⟨hp,g,d,t,os⟩:=s
 cases Cc:oJ C.K cls with
 | none=>unfold kj at AE;rw [Cc] at AE;cases AE
 | some cd =>
  unfold kj at AE
  rw [Cc] at AE
  obtain ⟨of,I6,GS⟩:∃ of,sS.get? f2=some of/\of.cls=.type "function":=by
   have AS:(C.K.lookup f2).map (·.cls)=some (.type "function"):=ht
   cases z:C.K.lookup f2 with
   | none=>rw [z] at AS;cases AS
   | some of=>rw [z] at AS;exact ⟨of,X _ _ z,il AS⟩
  have H9:InstAt sS x (instObj cls dx) cls (some (dictOf ds nn)):=⟨kk _ _ II.at_,rfl,rfl,kk _ _ hd⟩
  refine ks_wpAny_getMethod_super IW (looks_opaque X SX.ho) (l₀:=cd.mro) ?_ rfl X AE I6 GS (ks_ne X H9 Cc) (by decide) ?_
  ·exact λ A Q E s k q=>aa ((looks_clsIn X Cc) A _ E s k (aj q))
  ·have gq:(sS.push {cls:=.type "method",data:=.fields #[.ref f2,.ref x]}).get? sS.objs.size=some (methodObj (.ref f2) (.ref x)):=Heap.get?_push_at rfl rfl
   have kq:∀ b o,sS.get? b=some o->(sS.push {cls:=.type "method",data:=.fields #[.ref f2,.ref x]}).get? b=some o:=λ b o e=>am _ e
   refine Ea (Rel.grow (s:=⟨sS,g,d,tk,os⟩) R1 kq) λ R2 X2=>?_
   refine ⟨C2.keeps kq,keeps_M Kz _ ⟨gq,X.keeps kq⟩,?_⟩
   refine nS (ks_codeAny_call_bound gq (fG (h.code A' ⟨sS.push {cls:=.type "method",data:=.fields #[.ref f2,.ref x]},g,d,tk + 1,os⟩ φ μ [.ref x] rA ((oA φ μ ou (R.notin_none hL) (R.notfrz_none hL)).1.ext X2) R2 (.cons (.obj ha) .nil)) λ res s' hr=>?_))
   rcases res with e | fl
   ·exact hr.elim
   ·cases fl with
    | ret v =>
     obtain ⟨h',AC,j',sz,d',σ',rfl,R',X',V',fs,e1,e2,e3,q⟩:=hr
     have EG:L∉μ:=R.notin_none hL
     have oB:=(oA φ μ ou EG (R.notfrz_none hL)).2
     refine ⟨JF (C2.keeps kq) λ o ho=>X'.oth L o ho EG (λ h=>nomatch h),?_⟩
     refine ji Y TT hk R' (X'.pre _ _ ha) e1 e2 (.p .none) Ke e3 λ AJ GI Ew CV=>?_
     exact ⟨AJ,GI,j',sz,.p .none,_,rfl,Ew,(((X1.trans X2).slack (fr:=frA A)).stepF X' (λ _ m=>nomatch m) λ b m=>(oB b m).imp (λ (e:b=L)=>e▸hL) id).trans CV.slack,.p .none,q⟩
    | _=>exact hr.elim
end
end Mine.Internal
namespace Mine.Internal
open PySem
set_option tactic.hygienic false
noncomputable def vP:List aK:=["append","get","setdefault","sort","extend","count","vars","tolds","goal","shown","flat","made","partial","cells","spot","what","new_var","post","size","domain_of"]
noncomputable def V7:List aK:=["once","bounds","var_of","vars_of","note","made_number","extreme","require_some","row","row_truth","told_truth","all_of","any_of","unlike","require_row","times","equal","compared","require_compared","is_in","post_in"]
noncomputable def zBn:List aK:=vP++V7
noncomputable def zCi:List (aK×D):=[("len",.bi .len),("isinstance",.bi .isinst),("abs",.bi .abs),("max",.bi .max),("min",.bi .min),("sum",.bi .sum),("sorted",.bi .sorted),("zip",.bi .zip),("tuple",.bi .tuple),("list",.bi .list),("int",.bi .int),("bool",.bi .bool),("dict",.bi .dict),("set",.bi .set),("range",.bi .range)]
noncomputable def zC4:List (aK×D):=[("MOST_SHOWN",.p (.int 1000)),("range_of",.fn 28),("least",.fn 35),("greatest",.fn 42),("within_figures",.fn 139),("is_made",.fn 149),("sum_of",.fn 163),("plus",.fn 168),("Functions",.fn 451),("Flat",.fn 128),("_law_next",.fn 460),("TRUTHS",.p (.tuple [.tuple [.int 0,.int 1]]))]
noncomputable def zBZ:List (aK×D):=[("is_truth",.fn 156),("contrary",.fn 175),("common_of",.fn 182),("_law_thing",.fn 465),("_law_domain",.fn 472),("_law_worth",.fn 479),("_law_is_due",.fn 486),("_law_about",.fn 493),("_law_holds",.fn 498),("_law_many",.fn 503),("TURNED",.fn 142)]
noncomputable def zDA:List ((ai×Nat)×ai):=[((128,16),104),((128,17),111),((128,18),118),((128,19),125),((451,20),203),((451,24),303),((451,26),350),((451,21),210),((451,22),215),((451,23),220),((451,28),232),((451,29),237),((451,30),244),((451,31),249),((451,32),254),((451,33),261),((451,27),266),((451,34),273),((451,25),310),((451,35),315),((451,36),385),((451,37),392),((451,38),399),((451,39),427),((451,40),434)]
noncomputable def Xd:List ((ai×aK)×aK):=[((142,"<"),">="),((142,"<="),">"),((142,">"),"<="),((142,">="),"<"),((142,"="),"!="),((142,"!="),"=")]
noncomputable def T1:Tabs where
 glob:=zCi++zC4++zBZ
 names:=zBn
 meth:=zDA
 classes:=[128,451]
 gds:=Xd
noncomputable def Z1:TS:=⟨⟨[(26,20),(27,21),(153,15),(288,16),(326,76),(358,11),(362,16),(370,86),(389,55)],[(82,20)]⟩,[]⟩
set_option tactic.hygienic true
noncomputable def JG:List St:=[(.ret (.sub (.sub (.nm 0) (.c (.int (0)))) (.c (.int (0)))))]
noncomputable def yj:List St:=[(.ret (.sub (.sub (.nm 0) (.neg (.c (.int (1))))) (.c (.int (1)))))]
noncomputable def Z3:List St:=[(.ite (.cmp (.call false (.gl 2) [(.nm 0)]) .GtE (.bin .Pow (.c (.int (10))) (.gl 15))) [.raise] []),(.ret (.nm 0))]
noncomputable def qe:List St:=[(.ret (.and [(.call false (.gl 1) [(.nm 0),(.gl 8)]),(.cmp (.call false (.gl 0) [(.nm 0)]) .Eq (.c (.int (3)))),(.cmp (.sub (.nm 0) (.c (.int (0)))) .Eq (.nm 1))]))]
noncomputable def Y2:List St:=[(.ite (.call false (.gl 20) [(.nm 0),(.c (.str "sum"))]) [(.ret (.nm 0))] []),(.ite (.not (.call false (.gl 20) [(.nm 0),(.c (.str "bit"))])) [(.ret (.tup [(.c (.str "sum")),(.tup []),(.call false (.gl 10) [(.nm 0)])]))] []),(.ret (.ite (.sub (.nm 0) (.c (.int (2)))) (.tup [(.c (.str "sum")),(.tup [(.tup [(.sub (.nm 0) (.c (.int (1)))),(.c (.int (1)))])]),(.c (.int (0)))]) (.tup [(.c (.str "sum")),(.tup [(.tup [(.sub (.nm 0) (.c (.int (1)))),(.neg (.c (.int (1))))])]),(.c (.int (1)))])))]
noncomputable def uS:List St:=[(.asg (.tup [(.pt (.nm 0)),(.pt (.nm 1))]) (.tup [(.call false (.gl 21) [(.nm 0)]),(.call false (.gl 21) [(.nm 1)])])),(.asg (.tup [(.pt (.nm 3)),(.pt (.nm 4))]) (.tup [(.call false (.gl 12) [(.sub (.nm 0) (.c (.int (1))))]),(.call false (.gl 19) [(.bin .Add (.sub (.nm 0) (.c (.int (2)))) (.bin .Mult (.nm 2) (.sub (.nm 1) (.c (.int (2))))))])])),(.for (.tup [(.nm 5),(.nm 6)]) (.sub (.nm 1) (.c (.int (1)))) [(.asg (.sub (.nm 3) (.nm 5)) (.call false (.gl 19) [(.bin .Add (.meth (.nm 3) 1 [(.nm 5),(.c (.int (0)))]) (.bin .Mult (.nm 2) (.nm 6)))]))]),(.asg (.pt (.nm 7)) (.call false (.gl 8) [(.comp false 2 (.tup [(.nm 9),(.sub (.nm 3) (.nm 9))]) (.nm 9) (.call false (.gl 6) [(.nm 3)]) [(.cmp (.sub (.nm 3) (.nm 9)) .NotEq (.c (.int (0))))] [])])),(.ret (.ite (.cmp (.nm 7) .NotEq (.tup [])) (.tup [(.c (.str "sum")),(.nm 7),(.nm 4)]) (.nm 4)))]
noncomputable def yH:List St:=[(.ret (.ite (.call false (.gl 1) [(.nm 0),(.gl 11)]) (.not (.nm 0)) (.tup [(.c (.str "bit")),(.sub (.nm 0) (.c (.int (1)))),(.not (.sub (.nm 0) (.c (.int (2)))))])))]
noncomputable def Qn:List St:=[(.asg (.pt (.nm 1)) (.c (.int (0)))),(.for (.nm 2) (.nm 0) [(.asg (.tup [(.pt (.nm 1)),(.pt (.nm 3))]) (.tup [(.call false (.gl 2) [(.nm 2)]),(.nm 1)])),(.while (.cmp (.nm 3) .Gt (.c (.int (0)))) [(.asg (.tup [(.pt (.nm 1)),(.pt (.nm 3))]) (.tup [(.nm 3),(.bin .Mod (.nm 1) (.nm 3))]))])]),(.ret (.nm 1))]
noncomputable def Qq:List St:=[(.asg (.pt (.nm 2)) (.subk (.nm 0) 14)),(.asg (.subk (.nm 0) 14) (.bin .Add (.nm 2) (.c (.int (1))))),(.ret (.bin .Mod (.ite (.cmp (.nm 2) .Lt (.call false (.gl 0) [(.subk (.nm 0) 13)])) (.sub (.subk (.nm 0) 13) (.nm 2)) (.bin .Add (.bin .Add (.bin .Add (.bin .Mult (.c (.int (5))) (.nm 2)) (.bin .FloorDiv (.nm 2) (.c (.int (3))))) (.c (.int (1)))) (.call false (.gl 0) [(.subk (.nm 0) 13)]))) (.nm 1)))]
noncomputable def QO:List St:=[(.asg (.pt (.nm 2)) (.call false (.gl 25) [(.nm 0),(.c (.int (6)))])),(.ite (.or [(.cmp (.nm 2) .Eq (.c (.int (1)))),(.cmp (.nm 2) .Eq (.c (.int (2))))]) [(.ret (.tup [(.tup [(.c (.str "bit")),(.c (.int (2))),(.cmp (.nm 2) .Eq (.c (.int (1))))]),(.ite (.cmp (.nm 2) .Eq (.c (.int (1)))) (.tup [(.c (.int (0))),(.c (.int (0))),(.c (.int (1))),(.c (.int (0)))]) (.tup [(.c (.int (0))),(.c (.int (0))),(.neg (.c (.int (1)))),(.c (.int (1)))]))]))] []),(.ite (.cmp (.nm 2) .Eq (.c (.int (3)))) [(.asg (.pt (.nm 3)) (.call false (.gl 25) [(.nm 0),(.c (.int (4)))])),(.ret (.tup [(.sub (.tup [(.c (.bool true)),(.c (.bool false)),(.c (.int (2))),(.neg (.nm 1))]) (.nm 3)),(.tup [(.c (.int (0))),(.c (.int (0))),(.c (.int (0))),(.sub (.tup [(.c (.int (1))),(.c (.int (0))),(.c (.int (2))),(.neg (.nm 1))]) (.nm 3))])]))] []),(.asg (.tup [(.pt (.nm 4)),(.pt (.nm 5)),(.pt (.nm 6)),(.pt (.nm 7))]) (.comp false 2 (.bin .Mult (.bin .Sub (.call false (.gl 25) [(.nm 0),(.c (.int (7)))]) (.c (.int (3)))) (.nm 1)) (.nm 12) (.call false (.gl 14) [(.c (.int (4)))]) [] [])),(.asg (.pt (.nm 8)) (.nm 7)),(.for (.tup [(.nm 9),(.nm 10)]) (.tup [(.tup [(.nm 4),(.c (.int (0)))]),(.tup [(.nm 5),(.c (.int (1)))]),(.tup [(.nm 6),(.c (.int (2)))])]) [(.asg (.pt (.nm 8)) (.call false (.gl 22) [(.nm 8),(.tup [(.c (.str "sum")),(.tup [(.tup [(.nm 10),(.c (.int (1)))])]),(.c (.int (0)))]),(.nm 9)]))]),(.ret (.tup [(.nm 8),(.tup [(.nm 4),(.nm 5),(.nm 6),(.nm 7)])]))]
noncomputable def qk:List St:=[(.asg (.tup [(.pt (.nm 3)),(.pt (.nm 4)),(.pt (.nm 5))]) (.tup [(.call false (.gl 25) [(.nm 0),(.c (.int (4)))]),(.bin .Sub (.bin .Add (.nm 1) (.call false (.gl 25) [(.nm 0),(.c (.int (5)))])) (.c (.int (3)))),(.lst true [])])),(.for (.nm 6) (.call false (.gl 14) [(.nm 3)]) [(.ite (.cmp (.nm 6) .Gt (.c (.int (0)))) [(.asg (.pt (.nm 4)) (.bin .Add (.bin .Add (.sub (.sub (.nm 5) (.neg (.c (.int (1))))) (.c (.int (1)))) (.c (.int (2)))) (.bin .Mult (.call false (.gl 25) [(.nm 0),(.c (.int (3)))]) (.nm 2))))] []),(.expr (.meth (.nm 5) 0 [(.tup [(.nm 4),(.bin .Add (.nm 4) (.bin .Mult (.call false (.gl 25) [(.nm 0),(.c (.int (3)))]) (.nm 2)))])]))]),(.ret (.call false (.gl 8) [(.nm 5)]))]
noncomputable def QS:List St:=[(.ret (.bin .Add (.bin .Add (.bin .Add (.bin .Mult (.sub (.nm 0) (.c (.int (0)))) (.sub (.nm 1) (.c (.int (0))))) (.bin .Mult (.sub (.nm 0) (.c (.int (1)))) (.sub (.nm 1) (.c (.int (1)))))) (.bin .Mult (.sub (.nm 0) (.c (.int (2)))) (.sub (.nm 1) (.c (.int (2)))))) (.sub (.nm 0) (.c (.int (3))))))]
noncomputable def ql:List St:=[(.asg (.pt (.nm 4)) (.call false (.gl 32) [(.nm 0),(.nm 3)])),(.asg (.pt (.nm 5)) (.c (.bool false))),(.for (.tup [(.nm 6),(.nm 7)]) (.nm 1) [(.asg (.pt (.nm 5)) (.or [(.nm 5),(.cmp2 (.nm 6) .LtE (.nm 4) .LtE (.nm 7))]))]),(.ret (.ite (.cmp (.nm 2) .Eq (.c (.int (2)))) (.not (.nm 5)) (.or [(.nm 5),(.and [(.cmp (.nm 2) .Eq (.c (.int (3)))),(.cmp (.sub (.nm 3) (.c (.int (2)))) .Eq (.c (.int (1))))])])))]
noncomputable def QM:List St:=[(.ite (.cmp (.upto (.sub (.nm 0) (.c (.int (0)))) (.c (.int (6)))) .Eq (.c (.str "linear"))) [(.ret (.sub (.nm 0) (.c (.int (2)))))] []),(.ite (.cmp (.sub (.nm 0) (.c (.int (0)))) .Eq (.c (.str "reif"))) [(.ret (.bin .Add (.tup [(.sub (.nm 0) (.c (.int (1))))]) (.sub (.sub (.nm 0) (.c (.int (2)))) (.c (.int (2))))))] []),(.ret (.bin .Add (.sub (.nm 0) (.c (.int (1)))) (.ite (.cmp (.sub (.nm 0) (.c (.int (0)))) .Eq (.c (.str "clause"))) (.sub (.nm 0) (.c (.int (2)))) (.tup [(.sub (.nm 0) (.c (.int (2))))]))))]
noncomputable def ZS:List St:=[(.asg (.pt (.nm 2)) (.sub (.nm 0) (.c (.int (0))))),(.ite (.cmp (.upto (.nm 2) (.c (.int (6)))) .Eq (.c (.str "linear"))) [(.asg (.pt (.nm 3)) (.call false (.gl 5) [(.comp false 3 (.bin .Mult (.nm 6) (.sub (.nm 1) (.nm 7))) (.tup [(.nm 6),(.nm 7)]) (.zip (.sub (.nm 0) (.c (.int (1)))) (.sub (.nm 0) (.c (.int (2))))) [] [])])),(.ret (.ite (.cmp (.nm 2) .Eq (.c (.str "linear_le"))) (.cmp (.nm 3) .LtE (.sub (.nm 0) (.c (.int (3))))) (.cmp (.cmp (.nm 3) .Eq (.sub (.nm 0) (.c (.int (3))))) .Eq (.cmp (.nm 2) .Eq (.c (.str "linear_eq"))))))] []),(.ite (.cmp (.nm 2) .Eq (.c (.str "reif"))) [(.ret (.cmp (.call false (.gl 35) [(.sub (.nm 0) (.c (.int (2)))),(.nm 1)]) .Eq (.cmp (.sub (.nm 1) (.sub (.nm 0) (.c (.int (1))))) .Eq (.c (.int (1))))))] []),(.asg (.pt (.nm 4)) (.comp false 2 (.sub (.nm 1) (.nm 6)) (.nm 6) (.sub (.nm 0) (.c (.int (1)))) [] [])),(.ite (.cmp (.nm 2) .Eq (.c (.str "clause"))) [(.ret (.or [(.cmp (.c (.int (1))) .In (.nm 4)),(.cmp (.c (.int (0))) .In (.comp false 2 (.sub (.nm 1) (.nm 6)) (.nm 6) (.sub (.nm 0) (.c (.int (2)))) [] []))]))] []),(.ret (.cmp (.sub (.nm 1) (.sub (.nm 0) (.c (.int (2))))) .Eq (.ite (.cmp (.nm 2) .Eq (.c (.str "and"))) (.call false (.gl 4) [(.nm 4)]) (.call false (.gl 3) [(.nm 4)]))))]
noncomputable def Qh:List St:=[(.asg (.pt (.nm 3)) (.lst true [(.nm 2)])),(.ite (.cmp (.comp false 3 (.nm 10) (.nm 9) (.tup [(.neg (.c (.int (1)))),(.c (.int (0))),(.c (.int (1))),(.c (.int (2)))]) [] [(.mk (.nm 10) (.meth (.nm 1) 1 [(.nm 9),(.lst false [])]) [(.not (.call false (.gl 35) [(.nm 10),(.nm 2)]))])]) .NotEq (.lst false [])) [(.ret (.c (.int (0))))] []),(.for (.nm 4) (.call false (.gl 14) [(.c (.int (3))),(.meth (.nm 0) 18 [])]) [(.asg (.pt (.nm 5)) (.lst true [])),(.for (.nm 6) (.nm 3) [(.for (.nm 7) (.comp false 4 (.nm 11) (.tup [(.nm 9),(.nm 10)]) (.meth (.nm 0) 19 [(.nm 4)]) [] [(.mk (.nm 11) (.call false (.gl 14) [(.nm 9),(.bin .Add (.nm 10) (.c (.int (1))))]) [])]) [(.ite (.cmp (.comp false 2 (.nm 9) (.nm 9) (.meth (.nm 1) 1 [(.nm 4),(.lst false [])]) [(.not (.call false (.gl 35) [(.nm 9),(.bin .Add (.nm 6) (.lst false [(.nm 7)]))]))] []) .Eq (.lst false [])) [(.expr (.meth (.nm 5) 0 [(.bin .Add (.nm 6) (.lst false [(.nm 7)]))]))] [])])]),(.asg (.pt (.nm 3)) (.nm 5))]),(.ret (.call false (.gl 0) [(.nm 3)]))]
noncomputable def b_law:List St:=[(.asg (.tup [(.pt (.nm 1)),(.pt (.nm 2)),(.pt (.nm 3)),(.pt (.nm 4))]) (.tup [(.dct 0 [13,14] [(.call false (.gl 9) [(.upto (.nm 0) (.c (.int (40))))]),(.c (.int (0)))]),(.call false (.gl 23) []),(.dct 1 [] []),(.lst true [])])),(.asg (.tup [(.pt (.nm 5)),(.pt (.nm 6)),(.pt (.nm 7))]) (.tup [(.bin .Sub (.call false (.gl 25) [(.nm 1),(.c (.int (5)))]) (.c (.int (2)))),(.call false (.gl 25) [(.nm 1),(.c (.int (2)))]),(.bin .Sub (.call false (.gl 25) [(.nm 1),(.c (.int (3)))]) (.c (.int (1))))])),(.asg (.pt (.nm 8)) (.sub (.tup [(.c (.int (1))),(.c (.int (1))),(.bin .Pow (.c (.int (10))) (.c (.int (18))))]) (.call false (.gl 25) [(.nm 1),(.c (.int (3)))]))),(.expr (.meth (.attr (.nm 2) 10) 16 [(.c (.str "x")),(.ite (.cmp (.nm 6) .Eq (.c (.int (0)))) (.tup [(.tup [(.nm 5),(.bin .Add (.nm 5) (.c (.int (2))))])]) (.tup [(.tup [(.nm 5),(.bin .Add (.nm 5) (.c (.int (1))))]),(.tup [(.bin .Add (.nm 5) (.c (.int (3)))),(.bin .Add (.nm 5) (.c (.int (3))))])]))])),(.expr (.meth (.attr (.nm 2) 10) 16 [(.c (.str "y")),(.tup [(.tup [(.nm 7),(.bin .Add (.nm 7) (.c (.int (1))))])])])),(.expr (.meth (.attr (.nm 2) 10) 16 [(.c (.str "b")),(.tup [(.tup [(.c (.int (0))),(.c (.int (1)))])])])),(.asg (.pt (.nm 9)) (.comp false 4 (.lst false [(.nm 21),(.nm 22),(.nm 23)]) (.nm 21) (.tup [(.nm 5),(.bin .Add (.nm 5) (.c (.int (1)))),(.bin .Add (.bin .Add (.nm 5) (.c (.int (2)))) (.nm 6))]) [] [(.mk (.nm 22) (.tup [(.nm 7),(.bin .Add (.nm 7) (.c (.int (1))))]) []),(.mk (.nm 23) (.tup [(.c (.int (0))),(.c (.int (1)))]) [])])),(.for (.nm 10) (.call false (.gl 14) [(.c (.int (2)))]) [(.asg (.tup [(.pt (.nm 11)),(.pt (.nm 12))]) (.call false (.gl 30) [(.nm 1),(.nm 8)])),(.asg (.pt (.nm 13)) (.call false (.gl 32) [(.nm 12),(.sub (.nm 9) (.call false (.gl 25) [(.nm 1),(.c (.int (12)))]))])),(.asg (.pt (.nm 14)) (.call false (.gl 31) [(.nm 1),(.nm 13),(.nm 8)])),(.asg (.pt (.nm 15)) (.ite (.cmp (.nm 10) .Eq (.c (.int (0)))) (.c (.int (0))) (.call false (.gl 25) [(.nm 1),(.c (.int (4)))]))),(.ite (.cmp (.nm 15) .Eq (.c (.int (0)))) [(.expr (.meth (.nm 2) 40 [(.nm 11),(.nm 14)]))] [(.asg (.pt (.nm 16)) (.meth (.nm 2) 39 [(.nm 11),(.nm 14)])),(.expr (.meth (.nm 2) 27 [(.bin .Add (.lst false [(.ite (.cmp (.nm 15) .Eq (.c (.int (2)))) (.call false (.gl 28) [(.nm 16)]) (.nm 16))]) (.ite (.cmp (.nm 15) .Eq (.c (.int (3)))) (.lst false [(.tup [(.c (.str "bit")),(.c (.int (2))),(.c (.bool true))])]) (.lst false [])))]))]),(.expr (.meth (.nm 4) 0 [(.tup [(.nm 12),(.nm 14),(.nm 15)])]))]),(.for (.nm 17) (.attr (.attr (.nm 2) 10) 7) [(.expr (.meth (.meth (.nm 3) 2 [(.call false (.gl 3) [(.bin .Add (.tup [(.neg (.c (.int (1))))]) (.call false (.gl 34) [(.nm 17)]))]),(.lst true [])]) 0 [(.nm 17)]))]),(.for (.nm 18) (.nm 9) [(.asg (.pt (.nm 19)) (.cmp (.comp false 4 (.c (.int (1))) (.tup [(.nm 21),(.nm 22),(.nm 23)]) (.nm 4) [(.not (.call false (.gl 33) [(.nm 21),(.nm 22),(.nm 23),(.nm 18)]))] []) .Eq (.lst false []))),(.ite (.cmp (.call false (.gl 36) [(.attr (.nm 2) 10),(.nm 3),(.nm 18)]) .NotEq (.call false (.gl 10) [(.nm 19)])) [(.ret (.c (.bool false)))] [])]),(.ret (.c (.bool true)))]
noncomputable def y0:List St:=[(.expr (.meth (.attr (.nm 0) 6) 0 [(.tup [(.nm 1),(.nm 2)])])),(.ret (.bin .Sub (.call false (.gl 0) [(.attr (.nm 0) 6)]) (.c (.int (1)))))]
noncomputable def um:List St:=[(.expr (.meth (.attr (.nm 0) 7) 0 [(.nm 1)]))]
noncomputable def ub:List St:=[(.ret (.call false (.gl 0) [(.attr (.nm 0) 6)]))]
noncomputable def Qr:List St:=[(.ret (.sub (.sub (.attr (.nm 0) 6) (.nm 1)) (.c (.int (1)))))]
noncomputable def ju:List St:=[(.asg (.pt (.nm 3)) (.cmp (.nm 1) .NotIn (.attr (.nm 0) 11))),(.ite (.nm 3) [(.for (.tup [(.nm 4),(.nm 5)]) (.nm 2) [(.expr (.call false (.gl 19) [(.call false (.gl 3) [(.call false (.gl 2) [(.nm 4)]),(.call false (.gl 2) [(.nm 5)])])]))]),(.asg (.sub (.attr (.nm 0) 11) (.nm 1)) (.meth (.attr (.nm 0) 10) 16 [(.fstr "#" (.meth (.attr (.nm 0) 10) 18 [])),(.nm 2)]))] []),(.ret (.tup [(.sub (.attr (.nm 0) 11) (.nm 1)),(.nm 3)]))]
noncomputable def Y1:List St:=[(.asg (.pt (.nm 2)) (.call false (.gl 21) [(.nm 1)])),(.asg (.tup [(.pt (.nm 3)),(.pt (.nm 4))]) (.tup [(.sub (.nm 2) (.c (.int (2)))),(.sub (.nm 2) (.c (.int (2))))])),(.for (.tup [(.nm 5),(.nm 6)]) (.sub (.nm 2) (.c (.int (1)))) [(.asg (.pt (.nm 7)) (.tup [(.bin .Mult (.nm 6) (.call false (.gl 17) [(.meth (.attr (.nm 0) 10) 19 [(.nm 5)])])),(.bin .Mult (.nm 6) (.call false (.gl 18) [(.meth (.attr (.nm 0) 10) 19 [(.nm 5)])]))])),(.asg (.tup [(.pt (.nm 3)),(.pt (.nm 4))]) (.tup [(.bin .Add (.nm 3) (.call false (.gl 4) [(.nm 7)])),(.bin .Add (.nm 4) (.call false (.gl 3) [(.nm 7)]))]))]),(.ret (.tup [(.nm 3),(.nm 4)]))]
noncomputable def Xa:List St:=[(.asg (.tup [(.tup [(.pt (.nm 3)),(.pt (.nm 4))]),(.pt (.nm 5))]) (.tup [(.meth (.nm 0) 21 [(.nm 2)]),(.call false (.gl 21) [(.nm 2)])])),(.ite (.cmp (.nm 1) .Eq (.c (.str "linear_le"))) [(.ite (.or [(.cmp (.nm 4) .LtE (.c (.int (0)))),(.cmp (.nm 3) .Gt (.c (.int (0))))]) [(.ret (.cmp (.nm 4) .LtE (.c (.int (0)))))] [])] [(.ite (.or [(.cmp (.nm 3) .Gt (.c (.int (0)))),(.cmp (.nm 4) .Lt (.c (.int (0))))]) [(.ret (.cmp (.nm 1) .Eq (.c (.str "linear_ne"))))] [(.ite (.cmp (.nm 3) .Eq (.nm 4)) [(.ret (.cmp (.nm 1) .Eq (.c (.str "linear_eq"))))] [])])]),(.asg (.tup [(.pt (.nm 6)),(.pt (.nm 7))]) (.tup [(.call false (.gl 29) [(.comp false 3 (.nm 10) (.tup [(.nm 9),(.nm 10)]) (.sub (.nm 5) (.c (.int (1)))) [] [])]),(.neg (.sub (.nm 5) (.c (.int (2)))))])),(.ite (.and [(.cmp (.nm 1) .NotEq (.c (.str "linear_le"))),(.cmp (.bin .Mod (.nm 7) (.nm 6)) .NotEq (.c (.int (0))))]) [(.ret (.cmp (.nm 1) .Eq (.c (.str "linear_ne"))))] []),(.ret (.tup [(.nm 1),(.call false (.gl 8) [(.comp false 3 (.bin .FloorDiv (.nm 10) (.nm 6)) (.tup [(.nm 9),(.nm 10)]) (.sub (.nm 5) (.c (.int (1)))) [] [])]),(.call false (.gl 8) [(.comp false 3 (.nm 9) (.tup [(.nm 9),(.nm 10)]) (.sub (.nm 5) (.c (.int (1)))) [] [])]),(.bin .FloorDiv (.nm 7) (.nm 6))]))]
noncomputable def Qp:List St:=[(.asg (.pt (.nm 3)) (.meth (.nm 0) 28 [(.nm 1),(.nm 2)])),(.ite (.call false (.gl 1) [(.nm 3),(.gl 11)]) [(.ret (.nm 3))] []),(.asg (.tup [(.pt (.nm 1)),(.pt (.nm 4)),(.pt (.nm 5)),(.pt (.nm 6))]) (.nm 3)),(.ite (.cmp (.nm 1) .Eq (.c (.str "linear_ne"))) [(.ret (.call false (.gl 28) [(.meth (.nm 0) 29 [(.c (.str "linear_eq")),(.nm 2)])]))] []),(.asg (.pt (.nm 7)) (.call false (.gl 8) [(.comp false 2 (.neg (.nm 9)) (.nm 9) (.nm 4) [] [])])),(.ite (.and [(.cmp (.sub (.nm 4) (.c (.int (0)))) .Lt (.c (.int (0)))),(.cmp (.nm 1) .Eq (.c (.str "linear_le")))]) [(.ret (.call false (.gl 28) [(.meth (.nm 0) 30 [(.tup [(.nm 1),(.nm 7),(.nm 5),(.bin .Sub (.neg (.nm 6)) (.c (.int (1))))])])]))] []),(.ret (.meth (.nm 0) 30 [(.ite (.cmp (.sub (.nm 4) (.c (.int (0)))) .Gt (.c (.int (0)))) (.nm 3) (.tup [(.nm 1),(.nm 7),(.nm 5),(.neg (.nm 6))]))]))]
noncomputable def b_told_truth:List St:=[(.asg (.tup [(.pt (.nm 2)),(.pt (.nm 3)),(.pt (.nm 4)),(.pt (.nm 5))]) (.nm 1)),(.ite (.and [(.cmp (.nm 3) .Eq (.tup [(.c (.int (1)))])),(.cmp (.meth (.attr (.nm 0) 10) 19 [(.sub (.nm 4) (.c (.int (0))))]) .Eq (.gl 26))]) [(.ret (.tup [(.c (.str "bit")),(.sub (.nm 4) (.c (.int (0)))),(.and [(.cmp (.nm 2) .Eq (.c (.str "linear_eq"))),(.cmp (.nm 5) .Eq (.c (.int (1))))])]))] []),(.asg (.tup [(.pt (.nm 6)),(.pt (.nm 7))]) (.meth (.nm 0) 20 [(.tup [(.c (.str "reif")),(.nm 1)]),(.gl 26)])),(.ite (.nm 7) [(.expr (.meth (.attr (.nm 0) 10) 17 [(.tup [(.c (.str "reif")),(.nm 6),(.nm 1)])]))] []),(.ret (.tup [(.c (.str "bit")),(.nm 6),(.c (.bool true))]))]
noncomputable def b_all_of:List St:=[(.asg (.pt (.nm 2)) (.lst true [])),(.for (.nm 3) (.nm 1) [(.ite (.or [(.cmp (.nm 3) .Eq (.c (.bool false))),(.cmp (.call false (.gl 28) [(.nm 3)]) .In (.nm 2))]) [(.ret (.c (.bool false)))] []),(.ite (.and [(.cmp (.nm 3) .NotEq (.c (.bool true))),(.cmp (.nm 3) .NotIn (.nm 2))]) [(.expr (.meth (.nm 2) 0 [(.nm 3)]))] [])]),(.ite (.cmp (.call false (.gl 0) [(.nm 2)]) .Lt (.c (.int (2)))) [(.ret (.ite (.cmp (.nm 2) .NotEq (.lst false [])) (.sub (.nm 2) (.c (.int (0)))) (.c (.bool true))))] []),(.expr (.meth (.nm 2) 3 [])),(.asg (.tup [(.pt (.nm 4)),(.pt (.nm 5))]) (.tup [(.call false (.gl 8) [(.comp false 2 (.sub (.nm 9) (.c (.int (1)))) (.nm 9) (.nm 2) [] [])]),(.comp false 2 (.sub (.nm 9) (.c (.int (2)))) (.nm 9) (.nm 2) [] [])])),(.ite (.cmp (.c (.bool true)) .NotIn (.nm 5)) [(.asg (.tup [(.pt (.nm 6)),(.pt (.nm 7))]) (.meth (.nm 0) 20 [(.tup [(.c (.str "or")),(.nm 4)]),(.gl 26)])),(.ite (.nm 7) [(.expr (.meth (.attr (.nm 0) 10) 17 [(.tup [(.c (.str "or")),(.nm 4),(.nm 6)])]))] []),(.ret (.tup [(.c (.str "bit")),(.nm 6),(.c (.bool false))]))] []),(.asg (.tup [(.pt (.nm 6)),(.pt (.nm 7))]) (.meth (.nm 0) 20 [(.tup [(.c (.str "all")),(.call false (.gl 8) [(.nm 2)])]),(.gl 26)])),(.ite (.and [(.nm 7),(.cmp (.c (.bool false)) .NotIn (.nm 5))]) [(.expr (.meth (.attr (.nm 0) 10) 17 [(.tup [(.c (.str "and")),(.nm 4),(.nm 6)])]))] [(.ite (.nm 7) [(.for (.nm 3) (.nm 2) [(.expr (.meth (.nm 0) 27 [(.lst false [(.tup [(.c (.str "bit")),(.nm 6),(.c (.bool false))]),(.nm 3)])]))]),(.expr (.meth (.nm 0) 27 [(.bin .Add (.lst false [(.tup [(.c (.str "bit")),(.nm 6),(.c (.bool true))])]) (.comp false 2 (.call false (.gl 28) [(.nm 9)]) (.nm 9) (.nm 2) [] []))]))] [])]),(.ret (.tup [(.c (.str "bit")),(.nm 6),(.c (.bool true))]))]
noncomputable def Y5:List St:=[(.ret (.call false (.gl 28) [(.meth (.nm 0) 31 [(.comp false 2 (.call false (.gl 28) [(.nm 3)]) (.nm 3) (.nm 1) [] [])])]))]
noncomputable def qQ:List St:=[(.ite (.or [(.cmp (.c (.bool true)) .In (.nm 1)),(.cmp (.comp false 2 (.nm 6) (.nm 6) (.nm 1) [(.and [(.cmp (.nm 6) .NotEq (.c (.bool false))),(.cmp (.call false (.gl 28) [(.nm 6)]) .In (.nm 1))])] []) .NotEq (.lst false []))]) [.retN] []),(.asg (.pt (.nm 2)) (.call false (.gl 6) [(.comp false 2 (.nm 6) (.nm 6) (.nm 1) [(.cmp (.nm 6) .NotEq (.c (.bool false)))] [])])),(.asg (.tup [(.pt (.nm 3)),(.pt (.nm 4))]) (.tup [(.comp false 2 (.sub (.nm 6) (.c (.int (1)))) (.nm 6) (.nm 2) [(.sub (.nm 6) (.c (.int (2))))] []),(.comp false 2 (.sub (.nm 6) (.c (.int (1)))) (.nm 6) (.nm 2) [(.not (.sub (.nm 6) (.c (.int (2)))))] [])])),(.expr (.meth (.attr (.nm 0) 10) 17 [(.tup [(.c (.str "clause")),(.call false (.gl 8) [(.call false (.gl 6) [(.call false (.gl 13) [(.nm 3)])])]),(.call false (.gl 8) [(.call false (.gl 6) [(.call false (.gl 13) [(.nm 4)])])])])]))]
noncomputable def qp:List St:=[(.asg (.pt (.nm 3)) (.meth (.nm 0) 28 [(.nm 1),(.nm 2)])),(.ite (.cmp (.nm 3) .Eq (.c (.bool false))) [(.expr (.meth (.attr (.nm 0) 10) 17 [(.tup [(.c (.str "clause")),(.tup []),(.tup [])])]))] [(.ite (.cmp (.nm 3) .NotEq (.c (.bool true))) [(.expr (.meth (.attr (.nm 0) 10) 17 [(.nm 3)]))] [])])]
noncomputable def ZP:List St:=[(.ite (.cmp (.nm 1) .In (.tup [(.c (.str "=")),(.c (.str "!="))])) [(.expr (.meth (.nm 0) 34 [(.ite (.cmp (.nm 1) .Eq (.c (.str "="))) (.c (.str "linear_eq")) (.c (.str "linear_ne"))),(.call false (.gl 22) [(.nm 2),(.nm 3),(.neg (.c (.int (1))))])]))] [(.ite (.cmp (.nm 1) .In (.tup [(.c (.str ">")),(.c (.str ">="))])) [(.expr (.meth (.nm 0) 38 [(.ite (.cmp (.nm 1) .Eq (.c (.str ">"))) (.c (.str "<")) (.c (.str "<="))),(.nm 3),(.nm 2)]))] [(.expr (.meth (.nm 0) 34 [(.c (.str "linear_le")),(.call false (.gl 22) [(.call false (.gl 22) [(.nm 2),(.nm 3),(.neg (.c (.int (1))))]),(.ite (.cmp (.nm 1) .Eq (.c (.str "<"))) (.c (.int (1))) (.c (.int (0)))),(.c (.int (1)))])]))])])]
noncomputable def JA:List St:=[(.asg (.pt (.nm 3)) (.lst true [])),(.for (.tup [(.nm 4),(.nm 5)]) (.nm 2) [(.expr (.meth (.nm 3) 0 [(.meth (.nm 0) 31 [(.lst false [(.meth (.nm 0) 37 [(.c (.str ">=")),(.nm 1),(.nm 4)]),(.meth (.nm 0) 37 [(.c (.str "<=")),(.nm 1),(.nm 5)])])])]))]),(.ret (.meth (.nm 0) 32 [(.nm 3)]))]
noncomputable def yp:List St:=[(.ite (.cmp (.nm 2) .Eq (.tup [])) [(.expr (.meth (.nm 0) 27 [(.lst false [])])),.retN] []),(.expr (.meth (.nm 0) 38 [(.c (.str ">=")),(.nm 1),(.sub (.sub (.nm 2) (.c (.int (0)))) (.c (.int (0))))])),(.expr (.meth (.nm 0) 38 [(.c (.str "<=")),(.nm 1),(.sub (.sub (.nm 2) (.neg (.c (.int (1))))) (.c (.int (1))))])),(.for (.nm 3) (.call false (.gl 14) [(.c (.int (1))),(.call false (.gl 0) [(.nm 2)])]) [(.asg (.tup [(.pt (.nm 4)),(.pt (.nm 5))]) (.tup [(.meth (.nm 0) 37 [(.c (.str "<=")),(.nm 1),(.sub (.sub (.nm 2) (.bin .Sub (.nm 3) (.c (.int (1))))) (.c (.int (1))))]),(.meth (.nm 0) 37 [(.c (.str ">=")),(.nm 1),(.sub (.sub (.nm 2) (.nm 3)) (.c (.int (0))))])])),(.expr (.meth (.nm 0) 27 [(.lst false [(.nm 4),(.nm 5)])]))])]
noncomputable def QC:List St:=[(.ite (.cmp (.nm 1) .In (.tup [(.c (.str "=")),(.c (.str "!="))])) [(.ret (.ite (.cmp (.nm 1) .Eq (.c (.str "="))) (.meth (.nm 0) 36 [(.nm 2),(.nm 3)]) (.call false (.gl 28) [(.meth (.nm 0) 36 [(.nm 2),(.nm 3)])])))] []),(.ite (.cmp (.nm 1) .In (.tup [(.c (.str ">")),(.c (.str ">="))])) [(.ret (.call false (.gl 28) [(.meth (.nm 0) 37 [(.sub (.gl 37) (.nm 1)),(.nm 2),(.nm 3)])]))] []),(.ret (.meth (.nm 0) 29 [(.c (.str "linear_le")),(.call false (.gl 22) [(.call false (.gl 22) [(.nm 2),(.nm 3),(.neg (.c (.int (1))))]),(.ite (.cmp (.nm 1) .Eq (.c (.str "<"))) (.c (.int (1))) (.c (.int (0)))),(.c (.int (1)))])]))]
noncomputable def Qo:List St:=[(.asg (.attr (.nm 0) 6) (.lst true [])),(.asg (.attr (.nm 0) 7) (.lst true [])),(.asg (.attr (.nm 0) 8) (.tup [(.c (.str "satisfy")),(.c .none)])),(.asg (.attr (.nm 0) 9) (.tup []))]
noncomputable def Qi:List St:=[(.asg (.attr (.nm 0) 10) (.call false (.gl 24) [])),(.asg (.attr (.nm 0) 11) (.dct 2 [] []))]
end Mine.Internal
namespace Mine.Internal
open PySem PySem.Calls PyProof PyProof.Rows PySem.W PySem.SeqAt
set_option tactic.hygienic false
variable {P:Prop}{b m:Bool}{i k j n c A B:Nat}{σ τ:zA}{K:Bool->Prop}{Q:List ab->Option (Nat×List ab)->Prop}{x y nm Dz:ab}{ρ:Rho}{r vars tolds:List ab}{ps zs rs:List (Int×Int)}{p v lo hi w gr:Int}{G:List ((ai×aK)×aK)}{ks:List (Int×Bool)}{C:Cx}{es ifs:List Ex}{op:ku}{o sT it e e':Ex}{gs:List Gn}{R:Rho->zA->Prop}{S:Fl->Rho->zA->Prop}{fd:MO}{fl:Fl}{row cells ns:List Int}{ms:Int×Int×Int×Int}{sf attr:aK}{an:List aK}{sv:SV}
structure Law1 (C:Cx):Prop where
 Y:C.Good
 TT:TOk C T1
 least:trF C.K T1 Z1 60 35=some (1,1,JG)
 greatest:trF C.K T1 Z1 60 42=some (1,1,yj)
 flat_init:trF C.K T1 Z1 60 97=some (1,1,Qo)
 new_var:trF C.K T1 Z1 60 104=some (3,3,y0)
 post:trF C.K T1 Z1 60 111=some (2,2,um)
 size:trF C.K T1 Z1 60 118=some (1,1,ub)
 domain_of:trF C.K T1 Z1 60 125=some (2,2,Qr)
 within_figures:trF C.K T1 Z1 60 139=some (1,1,Z3)
 is_made:trF C.K T1 Z1 60 149=some (2,2,qe)
 sum_of:trF C.K T1 Z1 60 163=some (1,1,Y2)
 plus:trF C.K T1 Z1 60 168=some (3,8,uS)
 contrary:trF C.K T1 Z1 60 175=some (1,1,yH)
 common_of:trF C.K T1 Z1 60 182=some (1,4,Qn)
 gath_init:trF C.K T1 Z1 60 196=some (1,1,Qi)
 once:trF C.K T1 Z1 60 203=some (3,6,ju)
 bounds:trF C.K T1 Z1 60 210=some (2,8,Y1)
 row:trF C.K T1 Z1 60 232=some (3,8,Xa)
 row_truth:trF C.K T1 Z1 60 237=some (3,8,Qp)
 told_truth:trF C.K T1 Z1 60 244=some (2,8,b_told_truth)
 all_of:trF C.K T1 Z1 60 249=some (2,8,b_all_of)
 any_of:trF C.K T1 Z1 60 254=some (2,2,Y5)
 require_some:trF C.K T1 Z1 60 266=some (2,5,qQ)
 require_row:trF C.K T1 Z1 60 273=some (3,4,qp)
 compared:trF C.K T1 Z1 60 392=some (4,4,QC)
 require_compared:trF C.K T1 Z1 60 399=some (4,4,ZP)
 is_in:trF C.K T1 Z1 60 427=some (3,6,JA)
 post_in:trF C.K T1 Z1 60 434=some (3,6,yp)
 law_next:trF C.K T1 Z1 60 460=some (2,3,Qq)
 law_thing:trF C.K T1 Z1 60 465=some (2,11,QO)
 law_domain:trF C.K T1 Z1 60 472=some (3,7,qk)
 law_worth:trF C.K T1 Z1 60 479=some (2,2,QS)
 law_is_due:trF C.K T1 Z1 60 486=some (4,8,ql)
 law_about:trF C.K T1 Z1 60 493=some (1,1,QM)
 law_holds:trF C.K T1 Z1 60 498=some (2,5,ZS)
 law_many:trF C.K T1 Z1 60 503=some (3,8,Qh)
 law:trF C.K T1 Z1 60 508=some (1,20,b_law)
def elW (C:Cx)(T:Tabs)(n:Nat)(sT:Ex):Rho->zA->(D->zA->Prop)->Prop:=λ ρ σ K=>wpE C T n sT ρ σ K
noncomputable def jn:D:=.p (.tuple [.str "satisfy",.none])
noncomputable def zE (fd:MO)(pt:D)(vars tolds:List ab)(made:List (Ky×D)):zA:=[fd,.sdict [(10,.obj 4),(11,.obj 7),(12,pt)],.inst 451 1,.sdict [(6,.obj 5),(7,.obj 6),(8,jn),(9,.p (.tuple []))],.inst 128 3,.lst vars,.lst tolds,.tdict made]
@[simp ↓] theorem zHK {α:Type}{o:Option α}{K:α->Prop}:Is o K=(match o with | some x=>K x | none=>False):=rfl
@[simp ↓] theorem zFU {α β:Type}{a:α}{f:α->Option β}:(some a).bind f=f a:=rfl
@[simp ↓,simp] theorem zHy {α:Type}:noO (none:Option α) P=P:=rfl
@[simp ↓,simp] theorem zHX :ifT true P=P:=rfl
@[simp ↓] theorem zHT {α:Type}{o:Option α}:gd b o=(match b with | true=>o | false=>none):=rfl
@[simp ↓] theorem zGw {ds:List D}{o:Option (List ab)}:jp ds o=(match o with | some xs=>.p (.tuple xs) | none=>.tup ds):=rfl
@[simp ↓,simp] theorem zEZ {es:List (Int×D)}{k:Int}{d:D}{Q:D->zA->Prop}:jO i es k d σ Q none=Q d (σ.set i (.idict (es++[(k,d)]))):=rfl
@[simp ↓,simp] theorem zIt {es:List (Ky×D)}{q:Ky}{d:D}{K:zA->Prop}:W9 i es q d σ K none=K (σ.set i (.tdict (es++[(q,d)]))):=rfl
@[simp ↓] theorem BrT {Q:Prop}:Br true P Q=P:=rfl
@[simp ↓] theorem BrF {Q:Prop}:Br false P Q=Q:=rfl
@[simp ↓] theorem zJF {K:ab->Prop}:onP (.p x) K=K x:=rfl
@[simp ↓] theorem zIy {i:Int}{K:Int->Prop}:onI (.p (.int i)) K=K i:=rfl
@[simp ↓] theorem zJr {xs:List ab}{K:List ab->Prop}:onT (.p (.tuple xs)) K=K xs:=rfl
@[simp ↓] theorem zJO :isB (.p (.bool b)) K=K b:=rfl
@[simp ↓] theorem zJH {K:Nat->Prop}:onO (.obj i) K=K i:=rfl
@[simp ↓] theorem zJE {K:D->Prop}:onN ρ i K=Is (ρ[i]?.bind id) K:=rfl
@[simp ↓] theorem idS {α:Type}{a:α}:id a=a:=rfl
@[simp ↓] theorem zI3 :XI false P=P:=rfl
@[simp ↓] theorem thN {X:Prop}:yi .next P X=P:=rfl
@[simp ↓] theorem thC {X:Prop}:yi .cont P X=X:=rfl
@[simp ↓] theorem thR {d:D}{X:Prop}:yi (.ret d) P X=X:=rfl
@[simp ↓] theorem tlN {X:D->Prop}:qt .next X P=P:=rfl
@[simp ↓] theorem tlC {X:D->Prop}:qt .cont X P=P:=rfl
@[simp ↓] theorem tlR {d:D}{X:D->Prop}:qt (.ret d) X P=X d:=rfl
@[simp ↓] theorem zGJ {acc:List ab}{K:List ab->Prop}:XL (.p x) acc K=(Few acc.length/\K (acc++[x])):=rfl
@[simp ↓] theorem drN :yC (.p .none) P=P:=rfl
@[simp ↓] theorem drI {i:Int}:yC (.p (.int i)) P=P:=rfl
@[simp ↓] theorem zIP :QD σ (.p x)=some x:=rfl
@[simp ↓] theorem zIR :QD σ (.obj i)=(σ[i]?.bind ZQ).bind λ xs=>some (.list xs):=rfl
@[simp ↓] theorem zGR {xs:List ab}:ZQ (.lst xs)=some xs:=rfl
@[simp ↓] theorem zH9 {xs:List ab}:Zc (.tuple xs)=some xs:=rfl
@[simp ↓] theorem zGV {xs:List ab}:Zc (.list xs)=some xs:=rfl
@[simp ↓] theorem zI9 {es:List (Nat×D)}:jJ (.sdict es)=some es:=rfl
@[simp ↓] theorem zIo {es:List (Nat×D)}:JE (.rdict es)=some es:=rfl
@[simp ↓] theorem zJe :zy σ (.p x)=Zc x:=rfl
@[simp ↓] theorem zIY :zy σ (.obj i)=σ[i]?.bind ZQ:=rfl
@[simp ↓] theorem zIA :isP (.p x)=some x:=rfl
@[simp ↓] theorem zJ0 :isP (.obj i)=none:=rfl
@[simp ↓] theorem zIC {i:Int}:isInt (.int i)=some i:=rfl
@[simp ↓] theorem zJ8:QU []=some []:=rfl
@[simp ↓] theorem zJl {d:D}{ds:List D}:QU (d::ds)=(isP d).bind λ x=>(QU ds).bind λ xs=>some (x::xs):=rfl
@[simp ↓] theorem zJ3 {ds:List D}:YS ds=jp ds (QU ds):=rfl
@[simp ↓] theorem zIe:ints? []=some []:=rfl
@[simp ↓] theorem zIh :ints? (x::r)=(isInt x).bind λ i=>(ints? r).bind λ l=>some (i::l):=rfl
@[simp ↓] theorem bpN :Ze (.nm i) x ρ=some (ρ.set i (some (.p x))):=rfl
@[simp ↓] theorem bpT {ps:List Pt}{xs:List ab}:Ze (.tup ps) (.tuple xs) ρ=bindPs ps xs ρ:=rfl
@[simp ↓] theorem zIM :bindPs [] [] ρ=some ρ:=rfl
@[simp ↓] theorem zJQ {p:Pt}{ps:List Pt}{xs:List ab}:bindPs (p::ps) (x::xs) ρ=(Ze p x ρ).bind λ sB=>bindPs ps xs sB:=rfl
@[simp ↓] theorem cEq {x y:D}:wpC .Eq σ x y K=Is (QD σ x) λ a=>Is (QD σ y) λ b=>Sh a b/\K (aV a b):=rfl
@[simp ↓] theorem cNe {x y:D}:wpC .NotEq σ x y K=Is (QD σ x) λ a=>Is (QD σ y) λ b=>Sh a b/\K (!PyData.eqv a b):=rfl
@[simp ↓] theorem cIs {x y:D}:wpC .Is σ x y K=Is (Qy y) λ _=>Is (isNone x) K:=rfl
@[simp ↓] theorem cLt {x y:D}:wpC .Lt σ x y K=onI x λ a=>onI y λ b=>K (decide (a<b)):=rfl
@[simp ↓] theorem cLe {x y:D}:wpC .LtE σ x y K=onI x λ a=>onI y λ b=>K (decide (a<=b)):=rfl
@[simp ↓] theorem cGe {x y:D}:wpC .GtE σ x y K=onI x λ a=>onI y λ b=>K (decide (b<=a)):=rfl
@[simp ↓] theorem cNI {x y:D}:wpC .NotIn σ x y K=jE σ x y λ b=>K (!b):=rfl
@[simp ↓] theorem inO {x:D}:jE σ x (.obj i) K=Is σ[i]? (J8 x K):=rfl
@[simp ↓,simp] theorem zJb {x:D}{es:List (Ky×D)}:J8 x K (.tdict es)=onT x λ k=>Kd (.tuple k)/\Is (keyDs k) λ q=>K (z5 q es).isSome:=rfl
@[simp ↓] theorem zJA :isNone (.p x)=XE x:=rfl
@[simp ↓] theorem nbN:XE .none=some true:=rfl
@[simp ↓] theorem ncN:Qy (.p .none)=some ():=rfl
@[simp ↓] theorem biA {x y:D}{K:D->Prop}:qv σ .Add x y K=jK σ x y K:=rfl
@[simp ↓] theorem biS {x y:D}{K:D->Prop}:qv σ .Sub x y K=onI x λ a=>onI y λ b=>K (.p (.int (a - b))):=rfl
@[simp ↓] theorem biM {x y:D}{K:D->Prop}:qv σ .Mult x y K=onI x λ a=>onI y λ b=>Fit a/\Fit b/\K (.p (.int (a * b))):=rfl
@[simp ↓] theorem biF {x y:D}{K:D->Prop}:qv σ .FloorDiv x y K=onI x λ a=>onI y λ b=>Nz b/\K (.p (.int (Int.fdiv a b))):=rfl
@[simp ↓] theorem biO {x y:D}{K:D->Prop}:qv σ .Mod x y K=onI x λ a=>onI y λ b=>Nz b/\K (.p (.int (Int.fmod a b))):=rfl
@[simp ↓] theorem biP {x y:D}{K:D->Prop}:qv σ .Pow x y K=onI x λ a=>onI y λ b=>Pw a b/\K (.p (.int (a ^ b.toNat))):=rfl
@[simp ↓] theorem adI {a:Int}{y:D}{K:D->Prop}:jK σ (.p (.int a)) y K=onI y λ b=>K (.p (.int (a + b))):=rfl
@[simp ↓] theorem adT {a:List ab}{y:D}{K:D->Prop}:jK σ (.p (.tuple a)) y K=onT y λ b=>Few (a.length + b.length)/\K (.p (.tuple (a++b))):=rfl
@[simp ↓] theorem adL {a:List ab}{y:D}{K:D->Prop}:jK σ (.p (.list a)) y K=yy a y K:=rfl
@[simp ↓] theorem zJ9 {a b:List ab}{K:D->Prop}:yy a (.p (.list b)) K=(Few (a.length + b.length)/\K (.p (.list (a++b)))):=rfl
@[simp ↓] theorem siO :QF σ (.obj i)=σ[i]?.bind yF:=rfl
@[simp ↓] theorem siP :QF σ (.p x)=(Zc x).bind ints?:=rfl
@[simp ↓] theorem zJc {es:List (Int×D)}:yF (.idict es)=some (es.map (·.1)):=rfl
@[simp ↓] theorem zJJ {ds:List D}{Q:D->zA->Prop}:Zj m .len ds σ Q=on1 ds λ d=>Is (zy σ d) λ xs=>Few xs.length/\Q (.p (.int xs.length)) σ:=rfl
@[simp ↓] theorem zIT {ds:List D}{Q:D->zA->Prop}:Zj m .isinst ds σ Q=on2 ds λ d t=>Is ((ut t).bind jH) λ t=>Xj d t σ Q:=rfl
@[simp ↓] theorem zIF {ds:List D}{Q:D->zA->Prop}:Zj m .abs ds σ Q=on1 ds λ d=>onI d λ a=>Q (.p (.int a.natAbs)) σ:=rfl
@[simp ↓] theorem zIz {ds:List D}{Q:D->zA->Prop}:Zj m .max ds σ Q=yZ ds (λ d=>Is (zy σ d) λ xs=>Is (ints? xs) λ l=>hdL l λ a r=>Q (.p (.int (z8 a r))) σ) λ d e=>onI d λ a=>onI e λ b=>Q (.p (.int (z8 a [b]))) σ:=rfl
@[simp ↓] theorem zIq {ds:List D}{Q:D->zA->Prop}:Zj m .min ds σ Q=yZ ds (λ d=>Is (zy σ d) λ xs=>Is (ints? xs) λ l=>hdL l λ a r=>Q (.p (.int (ZK a r))) σ) λ d e=>onI d λ a=>onI e λ b=>Q (.p (.int (ZK a [b]))) σ:=rfl
@[simp ↓] theorem zJd {ds:List D}{Q:D->zA->Prop}:Zj m .sum ds σ Q=on1 ds λ d=>Is (zy σ d) λ xs=>Is (ints? xs) λ l=>Q (.p (.int l.sum)) σ:=rfl
@[simp ↓] theorem zJI {ds:List D}{Q:D->zA->Prop}:Zj m .tuple ds σ Q=on1 ds λ d=>Is (zy σ d) λ xs=>Few xs.length/\Q (.p (.tuple xs)) σ:=rfl
@[simp ↓] theorem zJu {ds:List D}{Q:D->zA->Prop}:Zj m .list ds σ Q=on1 ds λ d=>Is (zy σ d) λ xs=>Few xs.length/\Zn m xs σ Q:=rfl
@[simp ↓] theorem zIN {ds:List D}{Q:D->zA->Prop}:Zj m .dict ds σ Q=on1 ds λ d=>onT d λ xs=>Is (Zx xs) λ es=>Nd (es.map (·.1))/\Few xs.length/\Q (.obj σ.length) (σ++[.idict es]):=rfl
@[simp ↓] theorem zIH {ds:List D}{Q:D->zA->Prop}:Zj m .int ds σ Q=on1 ds λ d=>onP d λ x=>Is (J6 x) λ a=>Q (.p (.int a)) σ:=rfl
@[simp ↓] theorem zIQ {ds:List D}{Q:D->zA->Prop}:Zj m .range ds σ Q=yZ ds (λ e=>onI e λ b=>Q (.rng 0 b) σ) λ d e=>onI d λ a=>onI e λ b=>Q (.rng a b) σ:=rfl
@[simp ↓] theorem o1 {d:D}{K:D->Prop}:on1 [d] K=K d:=rfl
@[simp ↓] theorem o2 {d e:D}{K:D->D->Prop}:on2 [d,e] K=K d e:=rfl
@[simp ↓] theorem zIU {d:D}{K:D->Prop}{K2:D->D->Prop}:yZ [d] K K2=K d:=rfl
@[simp ↓] theorem zJG {d e:D}{K:D->Prop}{K2:D->D->Prop}:yZ [d,e] K K2=K2 d e:=rfl
@[simp ↓] theorem rtT {xs:List ab}{Q:D->zA->Prop}:Zn true xs σ Q=Q (.obj σ.length) (σ++[.lst xs]):=rfl
@[simp ↓] theorem rtF {xs:List ab}{Q:D->zA->Prop}:Zn false xs σ Q=Q (.p (.list xs)) σ:=rfl
@[simp ↓] theorem hdC {a:Int}{r:List Int}{K:Int->List Int->Prop}:hdL (a::r) K=K a r:=rfl
@[simp ↓] theorem zHR {b:Bi}:ut (.bi b)=some b:=rfl
@[simp ↓] theorem zGA:jH .tuple=some 0:=rfl
@[simp ↓] theorem zHz:jH .int=some 2:=rfl
@[simp ↓] theorem zHe:jH .bool=some 3:=rfl
@[simp ↓] theorem zIS {t:Nat}{Q:D->zA->Prop}:Xj (.p x) t σ Q=Is (Zd x t) λ r=>Q (.p (.bool r)) σ:=rfl
@[simp ↓] theorem zGv :Zd (.bool b) 0=some false:=rfl
@[simp ↓] theorem zGM {b:Int}:Zd (.int b) 0=some false:=rfl
@[simp ↓] theorem zG1 {b:List ab}:Zd (.tuple b) 0=some true:=rfl
@[simp ↓] theorem zHj {b:Int}:Zd (.int b) 2=some true:=rfl
@[simp ↓] theorem zGh {b:List ab}:Zd (.tuple b) 2=some false:=rfl
@[simp ↓] theorem zGO {b:Int}:Zd (.int b) 3=some false:=rfl
@[simp ↓] theorem toI {a:Int}:J6 (.int a)=some a:=rfl
@[simp ↓] theorem toB {a:Bool}:J6 (.bool a)=some (b2i a):=rfl
@[simp ↓] theorem mh0 {xs:List ab}:yY (.lst xs) 0=true:=rfl
@[simp ↓] theorem mh1 {es:List (Int×D)}:yY (.idict es) 1=true:=rfl
@[simp ↓] theorem mb0 {xs:List ab}{ds:List D}{Q:D->zA->Prop}:yO i (.lst xs) 0 ds σ Q=on1 ds λ d=>onP d λ x=>Few xs.length/\Q (.p .none) (σ.set i (.lst (xs++[x]))):=rfl
@[simp ↓] theorem mb1 {es:List (Int×D)}{ds:List D}{Q:D->zA->Prop}:yO i (.idict es) 1 ds σ Q=on2 ds λ e d=>onI e λ q=>Q ((za q es).getD d) σ:=rfl
@[simp ↓] theorem mb2 {es:List (Int×D)}{ds:List D}{Q:D->zA->Prop}:yO i (.idict es) 2 ds σ Q=on2 ds λ e d=>onI e λ q=>Few es.length/\jO i es q d σ Q (za q es):=rfl
@[simp ↓] theorem suP {i:D}{Q:D->Prop}:YV G σ (.p x) i Q=Is (Zc x) λ xs=>YB xs i Q:=rfl
@[simp ↓] theorem suO {i:D}{Q:D->Prop}:YV G σ (.obj j) i Q=Is σ[j]? (YL i Q):=rfl
@[simp ↓] theorem suG {a:ai}{x:aK}{Q:D->Prop}:YV G σ (.fn a) (.p (.str x)) Q=Is (Zy a x G) λ z=>Q (.p (.str z)):=rfl
@[simp ↓] theorem zJz:Zy 142 ">=" T1.gds=some "<":=rfl
@[simp ↓,simp] theorem zIW {i:D}{Q:D->Prop}{xs:List ab}:YL i Q (.lst xs)=YB xs i Q:=rfl
@[simp ↓,simp] theorem zJ7 {i:D}{Q:D->Prop}{es:List (Int×D)}:YL i Q (.idict es)=onI i λ k=>Is (za k es) Q:=rfl
@[simp ↓,simp] theorem zJN {i:D}{Q:D->Prop}{es:List (Ky×D)}:YL i Q (.tdict es)=onT i λ k=>Kd (.tuple k)/\Is (keyDs k) λ q=>Is (z5 q es) Q:=rfl
@[simp ↓] theorem suS {xs:List ab}{k:Int}{Q:D->Prop}:YB xs (.p (.int k)) Q=(Sm k/\Is ((idx xs.length k).bind λ j=>xs[j]?) λ x=>Q (.p x)):=rfl
@[simp ↓] theorem upS {x:aK}{k:Int}{Q:D->Prop}:YJ σ (.p (.str x)) (.p (.int k)) Q=(Sm k/\Few x.cps.size/\bq (fQ x none (some k))=true/\Q (.p (.str (fQ x none (some k))))):=rfl
@[simp ↓] theorem upL {xs:List ab}{k:Int}{Q:D->Prop}:YJ σ (.p (.list xs)) (.p (.int k)) Q=(Sm k/\0<=k/\Few xs.length/\Q (.p (.list (xs.take k.toNat)))):=rfl
@[simp ↓] theorem atO {T:Tabs}{Q:D->Prop}:jV T σ (.obj i) k Q=Q0 T σ i λ K _ fs=>noO (zS K k T.meth) (Is (look k fs) Q):=rfl
@[simp ↓] theorem zJt {T:Tabs}{K:ai->Nat->List (Nat×D)->Prop}:Q0 T σ i K=Is σ[i]? λ mo=>match mo with
 | .inst C j=>Is (σ[j]?.bind jJ) λ fs=>K C j fs
 | _=>False:=rfl
@[simp ↓] theorem itP :zf σ (.p x) Q=Is (Zc x) λ xs=>Q xs none:=rfl
@[simp ↓] theorem zJ6 :zf σ (.obj i) Q=Is (σ[i]?.bind ZQ) λ xs=>Q xs (some (i,xs)):=rfl
@[simp ↓] theorem itR {a b:Int}:zf σ (.rng a b) Q=(Rg a b/\Q (ZE a b) none):=rfl
@[simp ↓] theorem zJm {xs ys:List ab}:zf σ (.zp (.p x) (.p y) xs ys) Q=Q (W8 xs ys) none:=rfl
@[simp ↓] theorem zJs :zU none σ P=P:=rfl
@[simp ↓] theorem zIE {xs:List ab}:zU (some (i,xs)) σ P=(σ[i]?=some (.lst xs)/\P):=rfl
@[simp ↓] theorem mk0 {ks:List Nat}{ds:List D}:mkD 0 ks ds=gd (aZ ks.length ds.length) (some (.rdict (ks.zip ds))):=rfl
@[simp ↓] theorem mk1 {ks:List Nat}{ds:List D}:mkD 1 ks ds=some (.idict []):=rfl
@[simp ↓] theorem mk2 {ks:List Nat}{ds:List D}:mkD 2 ks ds=some (.tdict []):=rfl
@[simp ↓] theorem fzO :Yl σ (.obj i)=(σ[i]?.bind ZQ).bind λ xs=>some (.list xs,σ.set i .dead):=rfl
@[simp ↓] theorem zJw {T:Tabs}{Q:D->zA->Prop}:wpE C T n (.nm i) ρ σ Q=onN ρ i λ d=>Q d σ:=rfl
@[simp ↓] theorem zJC {T:Tabs}{Q:D->zA->Prop}{g:Nat}:wpE C T n (.gl g) ρ σ Q=Is T.glob[g]? λ p=>Q p.2 σ:=rfl
@[simp ↓] theorem e_c {T:Tabs}{Q:D->zA->Prop}{d:ab}:wpE C T n (.c d) ρ σ Q=Q (.p d) σ:=rfl
@[simp ↓] theorem zHM {T:Tabs}{Q:D->zA->Prop}:wpE C T n (.tup es) ρ σ Q=wpEs C T n es ρ σ λ ds σ'=>Q (YS ds) σ':=rfl
@[simp ↓] theorem zHW {T:Tabs}{Q:D->zA->Prop}:wpE C T n (.lst m es) ρ σ Q=wpEs C T n es ρ σ λ ds σ'=>Is (QU ds) λ xs=>Zn m xs σ' Q:=rfl
@[simp ↓] theorem zIf {T:Tabs}{Q:D->zA->Prop}{ks:List Nat}:wpE C T n (.dct k ks es) ρ σ Q=wpEs C T n es ρ σ λ ds σ'=>Is (mkD k ks ds) λ mo=>Q (.obj σ'.length) (σ'++[mo]):=rfl
@[simp ↓] theorem zHB {T:Tabs}{Q:D->zA->Prop}{op:lC}{a b:Ex}:wpE C T n (.bin op a b) ρ σ Q=wpE C T n a ρ σ λ x σ'=>wpE C T n b ρ σ' λ y sA=>qv sA op x y λ d=>Q d sA:=rfl
@[simp ↓] theorem zIa {T:Tabs}{Q:D->zA->Prop}{a:Ex}:wpE C T n (.neg a) ρ σ Q=wpE C T n a ρ σ λ x σ'=>onI x λ i=>Q (.p (.int (-i))) σ':=rfl
@[simp ↓] theorem zHG {T:Tabs}{Q:D->zA->Prop}{a:Ex}:wpE C T n (.not a) ρ σ Q=wpE C T n a ρ σ λ x σ'=>isB x λ b=>Q (.p (.bool (!b))) σ':=rfl
@[simp ↓] theorem zHH {T:Tabs}{Q:D->zA->Prop}:wpE C T n (.and es) ρ σ Q=wpAnd C T n es ρ σ Q:=rfl
@[simp ↓] theorem zIx {T:Tabs}{Q:D->zA->Prop}:wpE C T n (.or es) ρ σ Q=wpOr C T n es ρ σ Q:=rfl
@[simp ↓] theorem zEM {T:Tabs}{Q:D->zA->Prop}{a b:Ex}:wpE C T n (.cmp a op b) ρ σ Q=wpE C T n a ρ σ λ x σ'=>wpE C T n b ρ σ' λ y sA=>wpC op sA x y λ r=>Q (.p (.bool r)) sA:=rfl
@[simp ↓] theorem zI0 {T:Tabs}{Q:D->zA->Prop}{a b c:Ex}:wpE C T n (.ite c a b) ρ σ Q=wpE C T n c ρ σ λ x σ'=>isB x λ r=>Br r (wpE C T n a ρ σ' Q) (wpE C T n b ρ σ' Q):=rfl
@[simp ↓] theorem zHi {T:Tabs}{Q:D->zA->Prop}{f:Ex}:wpE C T n (.call m f es) ρ σ Q=wpE C T n f ρ σ λ g σ'=>wpEs C T n es ρ σ' λ ds sA=>match g with
  | .fn a=>XI m (SatCall C T n a ds sA Q)
  | .bi b=>Zj m b ds sA Q
  | _=>False:=rfl
@[simp ↓] theorem zHh {T:Tabs}{Q:D->zA->Prop}:wpE C T n (.meth o k es) ρ σ Q=wpE C T n o ρ σ λ x σ'=>onO x λ i=>Is σ'[i]? λ mo=>match mo with
  | .inst K j=>Is (σ'[j]?.bind jJ) λ fs=>noO (look k fs) (Is (zS K k T.meth) λ f=>wpEs C T n es ρ σ' λ ds sA=>SatCall C T n f (.obj i::ds) sA Q)
  | mo=>ifT (yY mo k) (wpEs C T n es ρ σ' λ ds sA=>Is sA[i]? λ mo'=>yO i mo' k ds sA Q):=rfl
@[simp ↓] theorem zGF {T:Tabs}{Q:D->zA->Prop}:wpE C T n (.attr o k) ρ σ Q=wpE C T n o ρ σ λ x σ'=>jV T σ' x k λ d=>Q d σ':=rfl
@[simp ↓] theorem zIm {T:Tabs}{Q:D->zA->Prop}{i:Ex}:wpE C T n (.sub o i) ρ σ Q=wpE C T n o ρ σ λ x σ'=>wpE C T n i ρ σ' λ y sA=>YV T.gds sA x y λ d=>Q d sA:=rfl
@[simp ↓] theorem zHv {T:Tabs}{Q:D->zA->Prop}:wpE C T n (.subk o k) ρ σ Q=wpE C T n o ρ σ λ x σ'=>onO x λ i=>Is (σ'[i]?.bind JE) λ fs=>Is (look k fs) λ d=>Q d σ':=rfl
@[simp ↓] theorem zGH {T:Tabs}{Q:D->zA->Prop}{i:Ex}:wpE C T n (.upto o i) ρ σ Q=wpE C T n o ρ σ λ x σ'=>wpE C T n i ρ σ' λ y sA=>YJ sA x y λ d=>Q d sA:=rfl
@[simp ↓] theorem zGN {T:Tabs}{Q:D->zA->Prop}{t:Pt}:wpE C T n (.comp m k sT t it ifs gs) ρ σ Q=wpE C T n it ρ σ λ d σ'=>zf σ' d λ xs i=>Few xs.length/\zT (zq C T n (elW C T n sT) t ifs gs (ρ++bJ k none) i) xs ([],σ') (zi m Q):=rfl
@[simp ↓] theorem zId {T:Tabs}{Q:D->zA->Prop}{a b:Ex}:wpE C T n (.zip a b) ρ σ Q=wpE C T n a ρ σ λ x σ'=>wpE C T n b ρ σ' λ y sA=>Is (zy sA x) λ xs=>Is (zy sA y) λ ys=>Q (.zp x y xs ys) sA:=rfl
@[simp ↓] theorem zHd {T:Tabs}{Q:D->zA->Prop}{p:aK}:wpE C T n (.fstr p e) ρ σ Q=wpE C T n e ρ σ λ x σ'=>onI x λ i=>Sm i/\Q (.p (.str (p++ae (toString i)))) σ':=rfl
@[simp ↓] theorem elA {T:Tabs}{Q:D->zA->Prop}:elW C T n sT ρ σ Q=wpE C T n sT ρ σ Q:=rfl
@[simp ↓] theorem esN {T:Tabs}{R:List D->zA->Prop}:wpEs C T n [] ρ σ R=R [] σ:=rfl
@[simp ↓] theorem esC {T:Tabs}{R:List D->zA->Prop}:wpEs C T n (e::es) ρ σ R=wpE C T n e ρ σ λ d σ'=>wpEs C T n es ρ σ' λ ds sA=>R (d::ds) sA:=rfl
@[simp ↓] theorem anO {T:Tabs}{Q:D->zA->Prop}:wpAnd C T n [e] ρ σ Q=wpE C T n e ρ σ Q:=rfl
@[simp ↓] theorem anC {T:Tabs}{Q:D->zA->Prop}{r:List Ex}:wpAnd C T n (e::e'::r) ρ σ Q=wpE C T n e ρ σ λ x σ'=>isB x λ b=>Br b (wpAnd C T n (e'::r) ρ σ' Q) (Q (.p (.bool false)) σ'):=rfl
@[simp ↓] theorem orO {T:Tabs}{Q:D->zA->Prop}:wpOr C T n [e] ρ σ Q=wpE C T n e ρ σ Q:=rfl
@[simp ↓] theorem orC {T:Tabs}{Q:D->zA->Prop}{r:List Ex}:wpOr C T n (e::e'::r) ρ σ Q=wpE C T n e ρ σ λ x σ'=>isB x λ b=>Br b (Q (.p (.bool true)) σ') (wpOr C T n (e'::r) ρ σ' Q):=rfl
@[simp ↓] theorem ifN {T:Tabs}{K:Bool->zA->Prop}:wpIfs C T n [] ρ σ K=K true σ:=rfl
@[simp ↓] theorem ifC {T:Tabs}{K:Bool->zA->Prop}:wpIfs C T n (e::es) ρ σ K=wpE C T n e ρ σ λ x σ'=>isB x λ b=>Br b (wpIfs C T n es ρ σ' K) (K false σ'):=rfl
@[simp ↓] theorem gnN {T:Tabs}{W:Rho->zA->(D->zA->Prop)->Prop}{acc:List ab}{K:List ab->zA->Prop} :wpG C T n W [] ρ σ acc K=W ρ σ λ d σ'=>XL d acc λ s3=>K s3 σ':=rfl
@[simp ↓] theorem gnC {T:Tabs}{W:Rho->zA->(D->zA->Prop)->Prop}{acc:List ab}{K:List ab->zA->Prop}{t:Pt}:wpG C T n W (.mk t it ifs::gs) ρ σ acc K=wpE C T n it ρ σ λ d σ'=>zf σ' d λ xs i=>Few xs.length/\zT (zq C T n W t ifs gs ρ i) xs (acc,σ') λ a=>K a.1 a.2:=rfl
@[simp ↓] theorem tP {T:Tabs}{d:D}{p:Pt}:wpT C T n (.pt p) d ρ σ R=VZ p d ρ λ sB=>R sB σ:=rfl
@[simp ↓] theorem tgN {d:D}{K:Rho->Prop}:VZ (.nm i) d ρ K=K (ρ.set i (some d)):=rfl
@[simp ↓] theorem tA {T:Tabs}{d:D}:wpT C T n (.attr o k) d ρ σ R=wpE C T n o ρ σ λ x σ'=>onO x λ i=>Q0 T σ' i λ K j fs=>noO (zS K k T.meth) (Lt64 fs.length/\R ρ (σ'.set j (.sdict (put k d fs)))):=rfl
@[simp ↓] theorem tS {T:Tabs}{d:D}{i:Ex}:wpT C T n (.sub o i) d ρ σ R=wpE C T n o ρ σ λ x σ'=>wpE C T n i ρ σ' λ y sA=>onO x λ i=>UN sA i y d λ sD=>R ρ sD:=rfl
@[simp ↓] theorem tK {T:Tabs}{d:D}:wpT C T n (.subk o k) d ρ σ R=wpE C T n o ρ σ λ x σ'=>onO x λ i=>Is (σ'[i]?.bind JE) λ fs=>Few fs.length/\R ρ (σ'.set i (.rdict (put k d fs))):=rfl
@[simp ↓] theorem tT {T:Tabs}{d:D}{ts:List Tg}:wpT C T n (.tup ts) d ρ σ R=Is (Q8 d) λ ds=>ifT (aZ ts.length ds.length) (wpTs C T n ts ds ρ σ R):=rfl
@[simp ↓] theorem tsN {T:Tabs}:wpTs C T n [] [] ρ σ R=R ρ σ:=rfl
@[simp ↓] theorem tsC {T:Tabs}{t:Tg}{ts:List Tg}{d:D}{ds:List D}:wpTs C T n (t::ts) (d::ds) ρ σ R=wpT C T n t d ρ σ λ sB σ'=>wpTs C T n ts ds sB σ' R:=rfl
@[simp ↓] theorem ptT {ds:List D}:Q8 (.tup ds)=some ds:=rfl
@[simp ↓] theorem ptP {xs:List ab}:Q8 (.p (.tuple xs))=some (xs.map .p):=rfl
@[simp ↓] theorem sSu {y d:D}{K:zA->Prop}:UN σ i y d K=Is σ[i]? λ mo=>match mo with
 | .idict es=>onI y λ k=>Few es.length/\K (σ.set i (.idict (QX k d es)))
 | .tdict es=>onT y λ k=>Kd (.tuple k)/\Is (keyDs k) λ q=>Few es.length/\W9 i es q d σ K (z5 q es)
 | _=>False:=rfl
@[simp ↓] theorem zHo {T:Tabs}:wpS C T n (.expr e) ρ σ S=wpE C T n e ρ σ λ d σ'=>yC d (S .next ρ σ'):=rfl
@[simp ↓] theorem zHE {T:Tabs}{t:Tg}:wpS C T n (.asg t e) ρ σ S=wpE C T n e ρ σ λ d σ'=>wpT C T n t d ρ σ' λ sB sA=>S .next sB sA:=rfl
@[simp ↓] theorem zFd {T:Tabs}{c:Ex}{a b:List St}:wpS C T n (.ite c a b) ρ σ S=wpE C T n c ρ σ λ x σ'=>isB x λ r=>Br r (wpSs C T n a ρ σ' S) (wpSs C T n b ρ σ' S):=rfl
@[simp ↓] theorem zHI {T:Tabs}{t:Pt}{b:List St}:wpS C T n (.for t it b) ρ σ S=wpE C T n it ρ σ λ d σ'=>zf σ' d λ xs i=>Few xs.length/\zT (zO C T n t b i S) xs (ρ,σ') λ a=>S .next a.1 a.2:=rfl
@[simp ↓] theorem zHF {T:Tabs}:wpS C T n (.ret e) ρ σ S=wpE C T n e ρ σ λ d σ'=>S (.ret d) ρ σ':=rfl
@[simp ↓] theorem zHr {T:Tabs}:wpS C T n (.retF e) ρ σ S=wpE C T n e ρ σ λ d σ'=>Is (Yl σ' d) λ x=>S (.ret (.p x.1)) ρ x.2:=rfl
@[simp ↓] theorem zHp {T:Tabs} :wpS C T n .cont ρ σ S=S .cont ρ σ:=rfl
@[simp ↓] theorem ssN {T:Tabs} :wpSs C T n [] ρ σ S=S .next ρ σ:=rfl
@[simp ↓] theorem fsA {T:Tabs}{ρ:Rho}{σ:zA}{t:Pt}{b:List St}{i:Option (Nat×List ab)}{a:Rho×zA}{K:Rho×zA->Prop}:zO C T n t b i S x a K=Is (Ze t x a.1) λ sB=>wpSs C T n b sB a.2 λ fl tC sA=>qt fl (λ d=>S (.ret d) tC sA) (zU i sA (K (tC,sA))):=rfl
@[simp ↓] theorem csA {T:Tabs}{W:Rho->zA->(D->zA->Prop)->Prop}{t:Pt}{i:Option (Nat×List ab)}{a:List ab×zA}{K:List ab×zA->Prop}:zq C T n W t ifs gs ρ i x a K=Is (Ze t x ρ) λ sB=>wpIfs C T n ifs sB a.2 λ b sM=>Br b (wpG C T n W gs sB sM a.1 λ s3 sD=>zU i sD (K (s3,sD))) (zU i sM (K (a.1,sM))):=rfl
@[simp ↓] theorem ix0 {m:Nat}:idx m 0=some 0:=rfl
@[simp ↓] theorem ix1 {m:Nat}:idx m 1=some 1:=rfl
@[simp ↓] theorem ix2 {m:Nat}:idx m 2=some 2:=rfl
@[simp ↓] theorem ix3 {m:Nat}:idx m 3=some 3:=rfl
@[simp ↓] theorem ixn {m:Nat}:idx m (j:Int)=some j:=rfl
@[simp ↓] theorem ixm {m:Nat}:idx (m + 1) (-1)=some m:=rfl
@[simp ↓] theorem zEu {a:Bool}:aV (.bool a) (.bool b)=(a==b):=rfl
@[simp ↓] theorem zFD {a:Int}{b:Int}:aV (.int a) (.int b)=(a==b):=rfl
@[simp ↓] theorem zFI {a:aK}{b:aK}:aV (.str a) (.str b)=(a==b):=rfl
@[simp ↓] theorem zEs {a:List ab}{b:List ab}:aV (.list a) (.list b)=bB a b:=rfl
@[simp ↓] theorem zCy {a:List ab}{b:List ab}:aV (.tuple a) (.tuple b)=bB a b:=rfl
@[simp ↓] theorem qNN:bB [] []=true:=rfl
@[simp ↓] theorem qCN {a:List ab}:bB (x::a) []=false:=rfl
@[simp ↓] theorem anT :(true&&b)=b:=rfl
@[simp ↓] theorem ntT:(!true)=false:=rfl
@[simp ↓] theorem ntF:(!false)=true:=rfl
@[simp ↓] theorem zF4:(ae "sum"==ae "sum")=true:=rfl
@[simp ↓] theorem zEw:(ae "bit"==ae "sum")=false:=rfl
@[simp ↓] theorem zEG:(ae "bit"==ae "bit")=true:=rfl
@[simp ↓] theorem zFl:(ae "sum"==ae "bit")=false:=rfl
@[simp ↓] theorem vX:(ae "linear"==ae "linear")=true:=rfl
@[simp ↓] theorem vT:(ae "clause"==ae "linear")=false:=rfl
@[simp ↓] theorem zCw:(ae "and"==ae "linear")=false:=rfl
@[simp ↓] theorem zDq:(ae "or"==ae "linear")=false:=rfl
@[simp ↓] theorem zBL:(ae "reif"==ae "linear")=false:=rfl
@[simp ↓] theorem Uh:(ae "linear_le"==ae "linear_le")=true:=rfl
@[simp ↓] theorem Uo:(ae "linear_le"==ae "linear_eq")=false:=rfl
@[simp ↓] theorem Ug:(ae "linear_le"==ae "linear_ne")=false:=rfl
@[simp ↓] theorem zE2:(ae "reif"==ae "reif")=true:=rfl
@[simp ↓] theorem zAN:(ae "clause"==ae "reif")=false:=rfl
@[simp ↓] theorem zEt:(ae "and"==ae "reif")=false:=rfl
@[simp ↓] theorem zFk:(ae "or"==ae "reif")=false:=rfl
@[simp ↓] theorem Ve:(ae "clause"==ae "clause")=true:=rfl
@[simp ↓] theorem zCx:(ae "and"==ae "clause")=false:=rfl
@[simp ↓] theorem zEn:(ae "or"==ae "clause")=false:=rfl
@[simp ↓] theorem zES:(ae "and"==ae "and")=true:=rfl
@[simp ↓] theorem zFG:(ae "or"==ae "and")=false:=rfl
@[simp ↓] theorem zHl:(ae ">="==ae "=")=false:=rfl
@[simp ↓] theorem zHm:(ae ">="==ae "!=")=false:=rfl
@[simp ↓] theorem zHk:(ae ">="==ae ">")=false:=rfl
@[simp ↓] theorem zH0:(ae ">="==ae ">=")=true:=rfl
@[simp ↓] theorem zH6:(ae ">="==ae "<")=false:=rfl
@[simp ↓] theorem zHt:(ae "<="==ae "=")=false:=rfl
@[simp ↓] theorem zGI:(ae "<="==ae "!=")=false:=rfl
@[simp ↓] theorem zGW:(ae "<="==ae ">")=false:=rfl
@[simp ↓] theorem zGP:(ae "<="==ae ">=")=false:=rfl
@[simp ↓] theorem zHu:(ae "<="==ae "<")=false:=rfl
@[simp ↓] theorem zHb:(ae "<"==ae "=")=false:=rfl
@[simp ↓] theorem zGK:(ae "<"==ae "!=")=false:=rfl
@[simp ↓] theorem zHw:(ae "<"==ae ">")=false:=rfl
@[simp ↓] theorem zHa:(ae "<"==ae ">=")=false:=rfl
@[simp ↓] theorem zHn:(ae "<"==ae "<")=true:=rfl
@[simp ↓] theorem zGX:(ae "="==ae ">=")=false:=rfl
@[simp ↓] theorem zHg:(ae "!="==ae ">=")=false:=rfl
@[simp ↓] theorem zHf:(ae ">"==ae ">=")=false:=rfl
@[simp ↓] theorem zGT:(ae "="==ae "<=")=false:=rfl
@[simp ↓] theorem zGE:(ae "!="==ae "<=")=false:=rfl
@[simp ↓] theorem zGQ:(ae ">"==ae "<=")=false:=rfl
@[simp ↓] theorem zH1:(ae ">="==ae "<=")=false:=rfl
@[simp ↓] theorem zHc:(ae "="==ae "<")=false:=rfl
@[simp ↓] theorem zGS:(ae "!="==ae "<")=false:=rfl
@[simp ↓] theorem zGD:(ae ">"==ae "<")=false:=rfl
@[simp ↓] theorem zCz:fQ "linear_le" none (some 6)=ae "linear":=rfl
@[simp ↓] theorem zFc:fQ "clause" none (some 6)=ae "clause":=rfl
@[simp ↓] theorem zGz:fQ "and" none (some 6)=ae "and":=rfl
@[simp ↓] theorem zH8:fQ "or" none (some 6)=ae "or":=rfl
@[simp ↓] theorem zFT:fQ "reif" none (some 6)=ae "reif":=rfl
@[simp ↓] theorem zJq {ds:List D}{Q:D->zA->Prop}:Zj m .set ds σ Q=on1 ds λ d=>onL d λ xs=>Is (ints? xs) λ l=>l.length<=4/\Q (.obj σ.length) (σ++[.iset (dd l)]):=rfl
@[simp ↓] theorem zII {xs:List ab}{K:List ab->Prop}:onL (.p (.list xs)) K=K xs:=rfl
@[simp ↓] theorem zIr {ds:List D}{Q:D->zA->Prop}:Zj m .sorted ds σ Q=on1 ds λ d=>(Is (QF σ d) λ l=>Lt64 l.length/\Zn m ((zg l).map .int) σ Q)∨∃ l,zy σ d=some (l.map zG)/\BitsOk l/\Zn m ((zb l).map zG) σ Q:=rfl
@[simp ↓] theorem mh3 {xs:List ab}:yY (.lst xs) 3=true:=rfl
@[simp ↓] theorem mb3 {xs:List ab}{ds:List D}{Q:D->zA->Prop}:yO i (.lst xs) 3 ds σ Q=(ds=[]/\∃ l,xs=l.map zG/\BitsOk l/\Q (.p .none) (σ.set i (.lst ((zb l).map zG)))):=rfl
@[simp ↓] theorem cGt {x y:D}:wpC .Gt σ x y K=onI x λ a=>onI y λ b=>K (decide (b<a)):=rfl
@[simp ↓] theorem cIn {x y:D}:wpC .In σ x y K=jE σ x y K:=rfl
@[simp ↓] theorem inP {x:D}:jE σ x (.p y) K=Is (Zc y) λ xs=>Yh xs x K:=rfl
@[simp ↓] theorem zIJ {x:D}{xs:List ab}:J8 x K (.lst xs)=Yh xs x K:=rfl
@[simp ↓] theorem inS {xs:List ab}:Yh xs (.p x) K=(Sh (.tuple xs) x/\K (xs.any λ z=>aV z x)):=rfl
@[simp ↓] theorem zJD {α:Type}{f:α->Bool}:kL [] f=false:=rfl
@[simp ↓] theorem zJv {α:Type}{f:α->Bool}{a:α}{l:List α}:kL (a::l) f=(f a || kL l f):=rfl
@[simp ↓] theorem orF :(false || b)=b:=rfl
@[simp ↓] theorem orT :(true || b)=true:=rfl
@[simp ↓] theorem anF :(false&&b)=false:=rfl
@[simp ↓] theorem tyl:jH .list=some 1:=rfl
@[simp ↓] theorem zGb {b:List ab}:Zd (.tuple b) 3=some false:=rfl
@[simp ↓] theorem zGy :Zd (.bool b) 3=some true:=rfl
@[simp ↓] theorem zGC :Zd (.bool b) 2=some true:=rfl
@[simp ↓] theorem zGZ {b:Int}:Zd (.int b) 1=some false:=rfl
@[simp ↓] theorem zFW {b:List ab}:Zd (.tuple b) 1=some false:=rfl
@[simp ↓] theorem b2t:b2i true=1:=rfl
@[simp ↓] theorem b2f:b2i false=0:=rfl
@[simp ↓] theorem zGL {T:Tabs}{Q:D->zA->Prop}{a b c:Ex}{t0:ku}:wpE C T n (.cmp2 a op b t0 c) ρ σ Q=wpE C T n a ρ σ λ x σ'=>wpE C T n b ρ σ' λ y sA=>wpC op sA x y λ r =>
   Br r (wpE C T n c ρ sA λ z sD=>wpC t0 sD y z λ r'=>Q (.p (.bool r')) sD) (Q (.p (.bool false)) sA):=rfl
@[simp ↓] theorem zF9 {T:Tabs}{c:Ex}{b:List St}:wpS C T n (.while c b) ρ σ S=∃ (I:Rho->zA->Prop) (m:Rho->zA->Nat),I ρ σ/\∀ ρ σ,I ρ σ->wpE C T n c ρ σ λ x σ'=>isB x λ r=>Br r (wpSs C T n b ρ σ' λ fl sB sA=>yi fl (I sB sA/\m sB sA<m ρ σ) False) (S .next ρ σ'):=rfl
@[simp ↓] theorem zGY {T:Tabs}:wpS C T n .retN ρ σ S=S (.ret (.p .none)) ρ σ:=rfl
@[simp ↓] theorem ptL {xs:List ab}:Q8 (.p (.list xs))=some (xs.map .p):=rfl
@[simp ↓] theorem zDR {a:List ab}:aV (.tuple a) (.bool b)=false:=rfl
@[simp ↓] theorem zCY {a:List ab}:aV (.bool b) (.tuple a)=false:=rfl
@[simp ↓] theorem qCC {a b:List ab}:bB (x::a) (y::b)=(aV x y&&bB a b):=rfl
@[simp ↓] theorem qNC {a:List ab}:bB [] (x::a)=false:=rfl
@[simp ↓] theorem zJg {α β:Type}{f:α->β}{a:α}{l:List α}:nD f (a::l)=f a::nD f l:=rfl
@[simp ↓] theorem zIs {α β:Type}{f:α->β}:nD f []=[]:=rfl
@[simp ↓] theorem zJL {α:Type}{a:α}{l:List α}:(a::l)[0]?=some a:=rfl
@[simp ↓] theorem zIp {α:Type}{a:α}{l:List α}:(a::l)[n + 1]?=l[n]?:=rfl
@[simp ↓] theorem zID {α:Type}{a b:α}{l:List α}:(a::l).set 0 b=b::l:=rfl
@[simp ↓] theorem zJf {α:Type}{a b:α}{l:List α}:(a::l).set (n + 1) b=a::l.set n b:=rfl
@[simp ↓] theorem zIG {α:Type}{a:α}{l:List α}:(a::l).length=l.length + 1:=rfl
@[simp ↓] theorem zJ1 {α:Type}:([]:List α).length=0:=rfl
@[simp ↓] theorem zJP {α:Type}{a:α}:bJ 0 a=[]:=rfl
@[simp ↓] theorem zJo {α:Type}{a:α}:bJ (n + 1) a=a::bJ n a:=rfl
@[simp ↓] theorem zJp {α:Type}{a:α}{l m:List α}:a::l++m=a::(l++m):=rfl
@[simp ↓] theorem zJn {α:Type}{m:List α}:[]++m=m:=rfl
@[simp ↓] theorem zJy {α β:Type}{a:α}{b:β}{l:List α}{m:List β}:(a::l).zip (b::m)=(a,b)::l.zip m:=rfl
@[simp ↓] theorem zJM {α β:Type}{m:List β}:([]:List α).zip m=[]:=rfl
@[simp ↓] theorem zJk:T1.glob[0]?=some ((ae "len":aK),(.bi .len:D)):=rfl
@[simp ↓] theorem zJ5:T1.glob[1]?=some ((ae "isinstance":aK),(.bi .isinst:D)):=rfl
@[simp ↓] theorem zJ2:T1.glob[2]?=some ((ae "abs":aK),(.bi .abs:D)):=rfl
@[simp ↓] theorem zJi:T1.glob[3]?=some ((ae "max":aK),(.bi .max:D)):=rfl
@[simp ↓] theorem zJ4:T1.glob[4]?=some ((ae "min":aK),(.bi .min:D)):=rfl
@[simp ↓] theorem zJx:T1.glob[5]?=some ((ae "sum":aK),(.bi .sum:D)):=rfl
@[simp ↓] theorem zIZ:T1.glob[6]?=some ((ae "sorted":aK),(.bi .sorted:D)):=rfl
@[simp ↓] theorem zIv:T1.glob[8]?=some ((ae "tuple":aK),(.bi .tuple:D)):=rfl
@[simp ↓] theorem zJB:T1.glob[9]?=some ((ae "list":aK),(.bi .list:D)):=rfl
@[simp ↓] theorem zHS:T1.glob[10]?=some ((ae "int":aK),(.bi .int:D)):=rfl
@[simp ↓] theorem zHL:T1.glob[11]?=some ((ae "bool":aK),(.bi .bool:D)):=rfl
@[simp ↓] theorem zHP:T1.glob[12]?=some ((ae "dict":aK),(.bi .dict:D)):=rfl
@[simp ↓] theorem zHx:T1.glob[13]?=some ((ae "set":aK),(.bi .set:D)):=rfl
@[simp ↓] theorem zI8:T1.glob[14]?=some ((ae "range":aK),(.bi .range:D)):=rfl
@[simp ↓] theorem zI2:T1.glob[15]?=some ((ae "MOST_SHOWN":aK),(.p (.int 1000):D)):=rfl
@[simp ↓] theorem zIj:T1.glob[17]?=some ((ae "least":aK),(.fn 35:D)):=rfl
@[simp ↓] theorem zIb:T1.glob[18]?=some ((ae "greatest":aK),(.fn 42:D)):=rfl
@[simp ↓] theorem zHU:T1.glob[19]?=some ((ae "within_figures":aK),(.fn 139:D)):=rfl
@[simp ↓] theorem zHV:T1.glob[20]?=some ((ae "is_made":aK),(.fn 149:D)):=rfl
@[simp ↓] theorem zHO:T1.glob[21]?=some ((ae "sum_of":aK),(.fn 163:D)):=rfl
@[simp ↓] theorem zHQ:T1.glob[22]?=some ((ae "plus":aK),(.fn 168:D)):=rfl
@[simp ↓] theorem zI6:T1.glob[23]?=some ((ae "Functions":aK),(.fn 451:D)):=rfl
@[simp ↓] theorem zIi:T1.glob[24]?=some ((ae "Flat":aK),(.fn 128:D)):=rfl
@[simp ↓] theorem zHJ:T1.glob[25]?=some ((ae "_law_next":aK),(.fn 460:D)):=rfl
@[simp ↓] theorem zI4:T1.glob[26]?=some ((ae "TRUTHS":aK),(.p (.tuple [.tuple [.int 0,.int 1]]):D)):=rfl
@[simp ↓] theorem zHC:T1.glob[28]?=some ((ae "contrary":aK),(.fn 175:D)):=rfl
@[simp ↓] theorem zHZ:T1.glob[29]?=some ((ae "common_of":aK),(.fn 182:D)):=rfl
@[simp ↓] theorem zHD:T1.glob[30]?=some ((ae "_law_thing":aK),(.fn 465:D)):=rfl
@[simp ↓] theorem zI5:T1.glob[31]?=some ((ae "_law_domain":aK),(.fn 472:D)):=rfl
@[simp ↓] theorem zIk:T1.glob[32]?=some ((ae "_law_worth":aK),(.fn 479:D)):=rfl
@[simp ↓] theorem zHY:T1.glob[33]?=some ((ae "_law_is_due":aK),(.fn 486:D)):=rfl
@[simp ↓] theorem zI7:T1.glob[34]?=some ((ae "_law_about":aK),(.fn 493:D)):=rfl
@[simp ↓] theorem zHA:T1.glob[35]?=some ((ae "_law_holds":aK),(.fn 498:D)):=rfl
@[simp ↓] theorem zIn:T1.glob[36]?=some ((ae "_law_many":aK),(.fn 503:D)):=rfl
@[simp ↓] theorem zIc:T1.glob[37]?=some ((ae "TURNED":aK),(.fn 142:D)):=rfl
@[simp ↓] theorem zFZ:zS 128 6 T1.meth=none:=rfl
@[simp ↓] theorem zGr:zS 128 7 T1.meth=none:=rfl
@[simp ↓] theorem zGq:zS 128 8 T1.meth=none:=rfl
@[simp ↓] theorem zG2:zS 128 9 T1.meth=none:=rfl
@[simp ↓] theorem zFw:zS 451 10 T1.meth=none:=rfl
@[simp ↓] theorem zFy:zS 451 11 T1.meth=none:=rfl
@[simp ↓] theorem zFC:zS 451 12 T1.meth=none:=rfl
@[simp ↓] theorem zFN:zS 128 16 T1.meth=some 104:=rfl
@[simp ↓] theorem zFL:zS 128 17 T1.meth=some 111:=rfl
@[simp ↓] theorem zFE:zS 128 18 T1.meth=some 118:=rfl
@[simp ↓] theorem zFP:zS 128 19 T1.meth=some 125:=rfl
@[simp ↓] theorem zFM:zS 451 20 T1.meth=some 203:=rfl
@[simp ↓] theorem zFA:zS 451 21 T1.meth=some 210:=rfl
@[simp ↓] theorem zFx:zS 451 28 T1.meth=some 232:=rfl
@[simp ↓] theorem zFB:zS 451 29 T1.meth=some 237:=rfl
@[simp ↓] theorem zFv:zS 451 30 T1.meth=some 244:=rfl
@[simp ↓] theorem zFJ:zS 451 31 T1.meth=some 249:=rfl
@[simp ↓] theorem zFF:zS 451 32 T1.meth=some 254:=rfl
@[simp ↓] theorem zFO:zS 451 27 T1.meth=some 266:=rfl
@[simp ↓] theorem zFz:zS 451 34 T1.meth=some 273:=rfl
@[simp ↓] theorem zFt:zS 451 37 T1.meth=some 392:=rfl
@[simp ↓] theorem zFH:zS 451 38 T1.meth=some 399:=rfl
@[simp ↓] theorem zFK:zS 451 39 T1.meth=some 427:=rfl
@[simp ↓] theorem zFu:zS 451 40 T1.meth=some 434:=rfl
@[simp ↓] theorem zIL {pt:D}{made:List (Ky×D)}:(zE fd pt vars tolds made++τ)[0]?=some fd:=rfl
@[simp ↓] theorem zIV {pt:D}{made:List (Ky×D)}:(zE fd pt vars tolds made++τ)[1]?=some (.sdict [(10,.obj 4),(11,.obj 7),(12,pt)]):=rfl
@[simp ↓] theorem zIu {pt:D}{made:List (Ky×D)}:(zE fd pt vars tolds made++τ)[2]?=some (.inst 451 1):=rfl
@[simp ↓] theorem zIX {pt:D}{made:List (Ky×D)}:(zE fd pt vars tolds made++τ)[3]?=some (.sdict [(6,.obj 5),(7,.obj 6),(8,jn),(9,.p (.tuple []))]):=rfl
@[simp ↓] theorem zIK {pt:D}{made:List (Ky×D)}:(zE fd pt vars tolds made++τ)[4]?=some (.inst 128 3):=rfl
@[simp ↓] theorem zJa {pt:D}{made:List (Ky×D)}:(zE fd pt vars tolds made++τ)[5]?=some (.lst vars):=rfl
@[simp ↓] theorem zJj {pt:D}{made:List (Ky×D)}:(zE fd pt vars tolds made++τ)[6]?=some (.lst tolds):=rfl
@[simp ↓] theorem zJh {pt:D}{made:List (Ky×D)}:(zE fd pt vars tolds made++τ)[7]?=some (.tdict made):=rfl
@[simp ↓] theorem zJK {pt:D}{made:List (Ky×D)}{x:MO}:(zE fd pt vars tolds made++τ).set 0 x=zE x pt vars tolds made++τ:=rfl
@[simp ↓] theorem zIO {pt:D}{made:List (Ky×D)}{v:List ab}:(zE fd pt vars tolds made++τ).set 5 (.lst v)=zE fd pt v tolds made++τ:=rfl
@[simp ↓] theorem zIw {pt:D}{made:List (Ky×D)}{v:List ab}:(zE fd pt vars tolds made++τ).set 6 (.lst v)=zE fd pt vars v made++τ:=rfl
@[simp ↓] theorem zIB {pt:D}{made:List (Ky×D)}{m:List (Ky×D)}:(zE fd pt vars tolds made++τ).set 7 (.tdict m)=zE fd pt vars tolds m++τ:=rfl
theorem Zg {Q:D->zA->Prop}(h:jr fl=some (.p x))(q:Q (.p x) σ):Z0 σ Q fl (σ++τ) :=
 ⟨.p x,σ,h,by
  have:=Kp.cut (σ:=σ) (σ':=σ++τ) (d:=.p x) σ.length (aQ _) rfl λ i mo hi e=>.inl (by rwa [aC hi] at e)
  rwa [iQ] at this,q⟩
theorem zD {σ':zA}{Q:D->zA->Prop}{d:D}(h:jr fl=some d)(q:Q d σ'):Z0 σ Q fl σ':=⟨d,σ',h,.all,q⟩
def Lm (k:Nat)(i:Int):Prop:=i.natAbs<=k
noncomputable def big:Nat:=10 ^ 30
theorem Lm.le {m:Nat}{i:Int}(h:Lm k i)(e:cA k m=true):Lm m i:=af h (aw e)
theorem Lm.add {a b:Int}(x:Lm j a)(y:Lm k b):Lm (j + k) (a + b):=af (Int.natAbs_add_le a b) (dj x y)
theorem Lm.sub {a b:Int}(x:Lm j a)(y:Lm k b):Lm (j + k) (a - b):=af (Int.natAbs_sub_le a b) (dj x y)
theorem Lm.mul {a b:Int}(x:Lm j a)(y:Lm k b):Lm (j * k) (a * b):=by unfold Lm;erw [Int.natAbs_mul];exact Nat.mul_le_mul x y
theorem Lm.neg {a:Int}(x:Lm j a):Lm j (-a):=by unfold Lm;erw [Int.natAbs_neg];exact x
theorem zj {i:Int}(h:Lm big i):Fit i:=b5 h (bI (show big<2 ^ 100 from bI (aU _) (nB9 rfl)) (f6 (oD9 rfl) (oD9 rfl)))
theorem J9 {i:Int}(h0:i≠0)(h:Lm big i):Nz i:=⟨h0,b5 h (bI (show big<2 ^ 100 from bI (aU _) (nB9 rfl)) (f6 (oD9 rfl) (oD9 rfl)))⟩
theorem zEN:Pw 10 1000:=⟨by decide,by decide +kernel⟩
theorem zDx (h:i<=big):¬ (10:Int) ^ (1000:Int).toNat<=(i:Int):=λ e=>by
 have e:((10 ^ 1000:Nat):Int)<=(i:Int):=e
 exact absurd (af (dW.mp e) h) (rL.mpr (bI (show big<10 ^ 31 from bI (aU _) (nB9 rfl)) (f6 (oD9 rfl) (oD9 rfl))))
theorem qz {α:Type}(σ:List α)(x y:α):(σ++[x]).set σ.length y=σ++[y]:=by
 (erw [m4 _ _ (aQ _)];erw [kz]);rfl
theorem ul {p:Prop}[Decidable p]{Q:Prop}(h1:p->P)(h2:¬ p->Q):Br (decide p) P Q:=by
 by_cases h:p
 ·erw [decide_eq_true h];exact h1 h
 ·erw [decide_eq_false h];exact h2 h
theorem UH {Q:Prop}(h1:b=true->P)(h2:b=false->Q):Br b P Q:=by
 cases b with
 | true=>exact h1 rfl
 | false=>exact h2 rfl
theorem WY {p:Prop}[Decidable p]{P Q:Prop}:Br (decide p) P Q=((p->P)/\(¬ p->Q)):=propext ⟨λ h=>⟨λ q=>h.t (decide_eq_true q),λ q=>h.f (decide_eq_false q)⟩,λ h=>ul h.1 h.2⟩
theorem zHs {Q:Prop}:Br b P Q=((b=true->P)/\(b=false->Q)):=propext ⟨λ h=>⟨h.t,h.f⟩,λ h=>UH h.1 h.2⟩
theorem Yb (h:zA9 y=true):Sh x y:=by
 have:y.depth=0:=by cases y <;> first | rfl | exact a8 h
 show min _ _<=64
 (erw [this];erw [Nat.min_zero]);exact bd _
theorem yM (h:zA9 x=true):Sh x y:=by
 have:x.depth=0:=by cases x <;> first | rfl | exact a8 h
 show min _ _<=64
 (erw [this];erw [Nat.zero_min]);exact bd _
theorem sh1 {y:ab}:Sh .none y=True:=eq_true (yM rfl)
theorem sh2 {b:Bool}{y:ab}:Sh (.bool b) y=True:=eq_true (yM rfl)
theorem sh3 {b:Int}{y:ab}:Sh (.int b) y=True:=eq_true (yM rfl)
theorem sh4 {b:aK}{y:ab}:Sh (.str b) y=True:=eq_true (yM rfl)
theorem sh5 {y:ab}:Sh y .none=True:=eq_true (Yb rfl)
theorem sh6 {b:Bool}{y:ab}:Sh y (.bool b)=True:=eq_true (Yb rfl)
theorem sh7 {b:Int}{y:ab}:Sh y (.int b)=True:=eq_true (Yb rfl)
theorem sh8 {b:aK}{y:ab}:Sh y (.str b)=True:=eq_true (Yb rfl)
theorem sh9 {y:ab}:Sh (.tuple []) y=True:=eq_true (af (f9 _ _) (by decide))
theorem zE5 {y:ab}:Sh y (.tuple [])=True:=eq_true (af (de _ _) (by decide))
theorem zD7 {y:ab}:Sh (.list []) y=True:=eq_true (af (f9 _ _) (by decide))
theorem zDO {y:ab}:Sh y (.list [])=True:=eq_true (af (de _ _) (by decide))
theorem JU:bq "clause"=true:=by decide +kernel
theorem WT:bq "and"=true:=by decide +kernel
theorem zAn:bq "or"=true:=by decide +kernel
theorem xV:bq "reif"=true:=by decide +kernel
theorem JQ:bq "linear"=true:=by decide +kernel
theorem JY:(ae "clause").cps.size<=100000:=by decide +kernel
theorem wX:(ae "and").cps.size<=100000:=by decide +kernel
theorem zAd:(ae "or").cps.size<=100000:=by decide +kernel
theorem xF:(ae "reif").cps.size<=100000:=by decide +kernel
theorem YK:(ae "linear_le").cps.size<=100000:=by decide +kernel
theorem zC {T:Tabs}{s:St}{ss:List St}(h:wpS C T n s ρ σ λ fl sB σ'=>yi fl (wpSs C T n ss sB σ' S) (S fl sB σ')):wpSs C T n (s::ss) ρ σ S:=h
theorem zL {α:Type}{step:ab->α->(α->Prop)->Prop}{xs:List ab}{a:α}{K:α->Prop}(h:step x a λ a'=>zT step xs a' K):zT step (x::xs) a K:=h
theorem zu {α:Type}{step:ab->α->(α->Prop)->Prop}{a:α}{K:α->Prop}(h:K a):zT step [] a K:=h
theorem ZY {pt:D}{made:List (Ky×D)}:(zE fd pt vars tolds made++τ).length=8 + τ.length:=eU τ.length 8
theorem xI :idx n (j:Int)=some j:=rfl
theorem SXL:(type_of% @WY)/\(type_of% @sh1)/\(type_of% @sh2)/\(type_of% @sh3)/\(type_of% @sh4)/\(type_of% @sh5)/\(type_of% @sh6)/\(type_of% @sh7)/\(type_of% @sh8)/\(type_of% @sh9)/\(type_of% @zE5)/\(type_of% @zD7)/\(type_of% @zDO)/\(type_of% @JU)/\(type_of% @WT)/\(type_of% @zAn)/\(type_of% @xV)/\(type_of% @JQ)/\(type_of% @JY)/\(type_of% @wX)/\(type_of% @zAd)/\(type_of% @xF)/\(type_of% @YK)/\(type_of% @decide_true)/\(type_of% @decide_false)/\(type_of% @true_and)/\(type_of% @and_true)/\(type_of% @a5.{0})/\(type_of% @qz)/\(type_of% @aR.{0})/\(type_of% @beq_self_eq_true.{0})/\(type_of% @cZ)/\(type_of% @eJ)/\(type_of% @bd)/\(type_of% @oM.{0})/\(type_of% @pb)/\(type_of% @pn) :=
 ⟨@WY,@sh1,@sh2,@sh3,@sh4,@sh5,@sh6,@sh7,@sh8,@sh9,@zE5,@zD7,@zDO,@JU,@WT,@zAn,@xV,@JQ,@JY,@wX,@zAd,@xF,@YK,@decide_true,@decide_false,@true_and,@and_true,@a5.{0},@qz,@aR.{0},@beq_self_eq_true.{0},@cZ,@eJ,@bd,@oM.{0},@pb,@pn⟩
theorem zD1 {a b:Nat}(h:a + (b + 1)<=90000):a<=90000:=af (aF a (b + 1)) h
theorem zDn {α:Type}{l:List α}{x:α}{b:Nat}(h:l.length + (b + 1)<=90000):(l++[x]).length + b<=90000:=by
 (erw [ao];erw [cU];erw [eU _ b]);exact h
theorem few {a:Nat}(h:a<=90000):a<=100000:=af h (nB9 rfl)
section
variable {α:Type}{step:ab->List ab×zA->(List ab×zA->Prop)->Prop}{f:α->ab}{p:α->Bool}{h:α->ab}{σ:zA}{K:List ab×zA->Prop}
theorem qb (xs:List α):∀ (acc:List ab),acc.length + xs.length<=90000->(∀ x,x∈xs->∀ (acc:List ab) (K:List ab×zA->Prop),acc.length<=100000->K (acc++[h x],σ)->step (f x) (acc,σ) K)->K (acc++xs.map h,σ)->zT step (xs.map f) (acc,σ) K:=by
 induction xs with
 | nil=>intro acc _ _ k;rw [kC,aR] at k;exact k
 | cons x xs ih=>exact λ acc hl hs k=>hs x (.head _) acc _ (few (zD1 hl)) (ih _ (zDn hl) (λ y m=>hs y (.tail _ m)) (by erw [aI];exact k))
theorem Qd (xs:List α):∀ (acc:List ab),acc.length + xs.length<=90000->(∀ x,x∈xs->∀ (acc:List ab) (K:List ab×zA->Prop),acc.length<=100000->(p x=true->K (acc++[h x],σ))->(p x=false->K (acc,σ))->step (f x) (acc,σ) K)->K (acc++(xs.filter p).map h,σ)->zT step (xs.map f) (acc,σ) K:=by
 induction xs with
 | nil=>intro acc _ _ k;rw [ls,kC,aR] at k;exact k
 | cons x xs ih =>
  intro acc hl hs k
  rw [ck] at k
  refine hs x (.head _) acc _ (few (zD1 hl)) (λ e=>?_) (λ e=>?_)
  ·rw [e] at k
   exact ih _ (zDn hl) (λ y m=>hs y (.tail _ m)) (by erw [aI];exact k)
  ·rw [e] at k
   exact ih _ (af (aL (cT _) _) hl) (λ y m=>hs y (.tail _ m)) k
end
local macro_rules | `(tactic| walk_at "ds")=>`(tactic| dsimp [Ql,zCE,zDP,XS,Xq,-Int.reducePow])
local macro_rules | `(tactic| walk_at "sx")=>`(tactic| simp only [SXL,Sm,Few,Lt64,Rg,Int.reduceLE,Int.reduceLT,Int.reduceNeg,Int.reduceToNat,Nat.reduceLeDiff,Nat.reduceLT,↓reduceIte,reduceCtorEq])
local macro_rules | `(tactic| walk_at "st")=>`(tactic| ((try walk_at "ds");(try walk_at "ds");repeat (walk_at "sx";(try walk_at "ds");try walk_at "ds")))
local macro_rules | `(tactic| walk_at "go")=>`(tactic| (walk_at "st";repeat (refine zC ?_;walk_at "st")))
theorem zAm (a:Lm k lo)(b:Lm k hi)(h1:lo<=v)(h2:v<=hi):Lm k v:=by unfold Lm at *;omega
theorem yR (h1:-(k:Int)<=v)(h2:v<=k):Lm k v:=by unfold Lm;omega
theorem i3 {r:Int}(h0:0<=r)(h1:r<3):r=0∨r=1∨r=2:=by
 obtain ⟨k,rfl⟩:=cz h0
 match k,cK.mp h1 with
 | 0,_=>exact .inl rfl
 | 1,_=>exact .inr (.inl rfl)
 | 2,_=>exact .inr (.inr rfl)
section
variable {C:Cx}{n:Nat}{σ:zA}{Q:D->zA->Prop}
@[elab_as_elim] theorem z7 {α:Type}{a x:α}{motive:α->Prop}(m:x∈[a])(h:motive a):motive x:=by cases av.mp m;exact h
@[elab_as_elim] theorem Zo {α:Type}{a x:α}{l:List α}{motive:α->Prop}(m:x∈a::l)(h:motive a)(k:x∈l->motive x):motive x:=by
 rcases aA.mp m with rfl | m
 ·exact h
 ·exact k m
theorem zBG (L:Law1 C)(q:Q (.p (.int lo)) σ):SatCall C T1 (n + 1) 35 [.p (.tuple (.tuple [.int lo,.int hi]::r))] σ Q:=by
 refine zK L.Y L.TT L.least rfl ?_
 unfold JG
 walk_at "go"
 exact zD rfl q
theorem XG (L:Law1 C)(q:Q (.p (.int hi)) σ):SatCall C T1 (n + 1) 42 [.p (.tuple (r++[.tuple [.int lo,.int hi]]))] σ Q:=by
 refine zK L.Y L.TT L.greatest rfl ?_
 unfold yj
 walk_at "go"
 simp only [ao,a9,b8,eV,ixm,fc,a5]
 walk_at "go"
 exact zD rfl q
theorem Y4 (L:Law1 C){i:Int}(h:Lm big i)(q:Q (.p (.int i)) σ):SatCall C T1 (n + 1) 139 [.p (.int i)] σ Q:=by
 refine zK L.Y L.TT L.within_figures rfl ?_
 unfold Z3
 walk_at "go"
 exact ⟨zEN,λ hh=>absurd hh (zDx h),λ _=>zD rfl q⟩
theorem yl (L:Law1 C){i:Int}{k:aK}(q:Q (.p (.bool false)) σ):SatCall C T1 (n + 1) 149 [.p (.int i),.p (.str k)] σ Q:=by
 refine zK L.Y L.TT L.is_made rfl ?_
 unfold qe
 walk_at "go"
 exact zD rfl q
theorem Q7 (L:Law1 C){i:Bool}{k:aK}(q:Q (.p (.bool false)) σ):SatCall C T1 (n + 1) 149 [.p (.bool i),.p (.str k)] σ Q:=by
 refine zK L.Y L.TT L.is_made rfl ?_
 unfold qe
 walk_at "go"
 exact zD rfl q
theorem qi (L:Law1 C){j k:aK}{a b:ab}(q:Q (.p (.bool (j==k))) σ):SatCall C T1 (n + 1) 149 [.p (.tuple [.str j,a,b]),.p (.str k)] σ Q:=by
 refine zK L.Y L.TT L.is_made rfl ?_
 unfold qe
 walk_at "go"
 exact zD rfl q
end
inductive Th where
 | tru (b:Bool)
 | num (i:Int)
 | bit (x:Int) (s:Bool)
 | sum (ps:List (Int×Int)) (c:Int)
variable {t1 t2 other value:Th}{us:List Th}
noncomputable def zR (ps:List (Int×Int)):List ab:=ps.map λ p=>.tuple [.int p.1,.int p.2]
noncomputable def JD (ps:List (Int×Int))(c:Int):ab:=.tuple [.str "sum",.tuple (zR ps),.int c]
noncomputable def enc:Th->ab
 | .tru b=>.bool b
 | .num i=>.int i
 | .bit x s=>.tuple [.str "bit",.int x,.bool s]
 | .sum ps c=>JD ps c
noncomputable def zJ:Th->List (Int×Int)
 | .tru _=>[]
 | .num _=>[]
 | .bit x s=>if s then [(x,1)] else [(x,-1)]
 | .sum ps _=>ps
noncomputable def cOf:Th->Int
 | .tru b=>if b then 1 else 0
 | .num i=>i
 | .bit _ s=>if s then 0 else 1
 | .sum _ c=>c
noncomputable def isT:Th->Bool
 | .tru _=>true
 | .num _=>false
 | .bit _ _=>true
 | .sum _ _=>false
noncomputable def neg:Th->Th
 | .tru b=>.tru (!b)
 | .bit x s=>.bit x (!s)
 | t=>t
section
variable {C:Cx}{n:Nat}{σ:zA}{Q:D->zA->Prop}
theorem ZO (L:Law1 C){t:Th}(h:isT t=true)(q:Q (.p (enc (neg t))) σ):SatCall C T1 (n + 1) 175 [.p (enc t)] σ Q:=by
 refine zK L.Y L.TT L.contrary rfl ?_
 unfold yH
 cases t with
 | tru b=>unfold enc;walk_at "go";exact zD rfl q
 | bit x s=>unfold enc;walk_at "go";exact zD rfl q
 | num i=>cases h
 | sum ps c=>cases h
theorem yT (L:Law1 C){t:Th}(q:Q (.p (JD (zJ t) (cOf t))) σ):SatCall C T1 (n + 2) 163 [.p (enc t)] σ Q:=by
 refine zK L.Y L.TT L.sum_of rfl ?_
 unfold Y2
 cases t with
 | tru b =>
  unfold enc
  walk_at "go"
  refine Q7 L ?_
  walk_at "go"
  refine Q7 L ?_
  walk_at "go"
  cases b <;> exact zD rfl q
 | num i =>
  unfold enc
  walk_at "go"
  refine yl L ?_
  walk_at "go"
  refine yl L ?_
  walk_at "go"
  exact zD rfl q
 | bit x s =>
  unfold enc
  walk_at "go"
  refine qi L ?_
  walk_at "go"
  refine qi L ?_
  cases s <;> walk_at "go" <;> exact zD rfl q
 | sum ps c =>
  unfold enc JD
  walk_at "go"
  refine qi L ?_
  walk_at "go"
  exact zD rfl q
end
noncomputable def comL (l:List Int)(f:Nat):Nat:=l.foldl (λ f a=>mT a.natAbs f) f
theorem xZ:∀ {l:List Int} {f:Nat},comL l f ∣ f/\∀ a,a∈l->((comL l f:Nat):Int) ∣ a
 | [],f=>⟨Nat.dvd_refl f,λ _ m=>nomatch m⟩
 | a::l,f=>by
  have ih:=xZ (l:=l) (f:=mT a.natAbs f)
  refine ⟨re ih.1 (Nat.gcd_dvd_right _ _),λ b m=>?_⟩
  refine Zo m ?_ λ m=>?_
  ·exact m5.mp (by erw [Int.natAbs_natCast];exact re ih.1 (Nat.gcd_dvd_left _ _))
  ·exact ih.2 b m
section
variable {C:Cx}{n:Nat}{σ:zA}{Q:D->zA->Prop}{d0 d2:Option D}
noncomputable def zG3:D->Int
 | .p (.int r)=>r
 | _=>0
noncomputable def zEC (ρ:Rho):Nat:=(zG3 ((ρ[3]?.bind id).getD (.p .none))).toNat
theorem WS {K:Fl->Rho->zA->Prop}(f r:Nat)(hf:f<=big/\r<=big)(k:K .next [d0,some (.p (.int (mT f r:Nat))),d2,some (.p (.int 0))] σ) :
  wpS C T1 n (.while (.cmp (.nm 3) .Gt (.c (.int (0)))) [(.asg (.tup [(.pt (.nm 1)),(.pt (.nm 3))]) (.tup [(.nm 3),(.bin .Mod (.nm 1) (.nm 3))]))]) [d0,some (.p (.int (f:Nat))),d2,some (.p (.int (r:Nat)))] σ K:=by
 erw [zF9]
 refine ⟨λ ρ σ'=>σ'=σ/\∃ f' r':Nat,(f'<=big/\r'<=big)/\mT f' r'=mT f r/\ρ=[d0,some (.p (.int (f':Nat))),d2,some (.p (.int (r':Nat)))],λ ρ _=>zEC ρ,⟨rfl,f,r,hf,rfl,rfl⟩,λ ρ σ' h=>?_⟩
 obtain ⟨rfl,f',r',hb,hg,rfl⟩:=h
 walk_at "st"
 refine ⟨λ hr=>?_,λ hr=>?_⟩
 ·have hr:0<r':=cK.mp hr
  refine zC ?_
  walk_at "st"
  refine ⟨J9 (λ e=>absurd (Int.ofNat.inj e) (br hr)) hb.2,?_⟩
  walk_at "st"
  refine rwE (show (f':Int).fmod (r':Int)=((f' % r':Nat):Int) from Int.fmod_eq_emod_of_nonneg _ (bn _)) ?_
  refine ⟨⟨r',f' % r',⟨hb.2,af (Nat.mod_le _ _) hb.1⟩,?_,rfl⟩,?_⟩
  ·refine rwS hg ?_
   (erw [ru f' r'];erw [Nat.gcd_rec r' f'];exact ru _ _)
  ·exact lE _ hr
 ·have hr:r'=0:=Nat.eq_zero_of_not_pos λ h=>hr (cK.mpr h)
  subst hr
  rw [oi] at hg
  rw [<- hg] at k
  exact k
theorem Vb {K:Rho×zA->Prop}{S:Fl->Rho->zA->Prop}:∀ (l:List Int) (f:Nat) (u2 u3:Option D),f<=big->(∀ a,a∈l->Lm big a)->(∀ v2 v3,K ([d0,some (.p (.int (comL l f:Nat))),v2,v3],σ)) ->
  zT (zO C T1 n (.nm 2) [(.asg (.tup [(.pt (.nm 1)),(.pt (.nm 3))]) (.tup [(.call false (.gl 2) [(.nm 2)]),(.nm 1)])),(.while (.cmp (.nm 3) .Gt (.c (.int (0)))) [(.asg (.tup [(.pt (.nm 1)),(.pt (.nm 3))]) (.tup [(.nm 3),(.bin .Mod (.nm 1) (.nm 3))]))])] none S) (l.map .int) ([d0,some (.p (.int (f:Nat))),u2,u3],σ) K:=by
 intro l
 induction l with
 | nil=>exact λ f u2 u3 _ _ k=>k u2 u3
 | cons a l ih =>
  intro f u2 u3 hf hl k
  show zO _ _ _ _ _ _ _ (bH a) _ (λ a'=>zT _ (l.map .int) a' K)
  walk_at "st"
  refine zC ?_
  walk_at "st"
  refine zC ?_
  refine WS a.natAbs f ⟨hl a (.head _),hf⟩ ?_
  walk_at "st"
  refine ih _ _ _ ?_ (λ b m=>hl b (.tail _ m)) λ v2 v3=>k v2 v3
  by_cases h0:f=0
  ·subst h0;erw [oi];exact hl a (.head _)
  ·exact af (Nat.gcd_le_right _ (kn h0)) hf
theorem zA6 (L:Law1 C){l:List Int}(hl:l.length<=100)(hb:∀ a,a∈l->Lm big a)(q:Q (.p (.int (comL l 0:Nat))) σ):SatCall C T1 (n + 1) 182 [.p (.list (l.map .int))] σ Q:=by
 refine zK L.Y L.TT L.common_of rfl ?_
 unfold Qn
 walk_at "st"
 refine zC ?_
 walk_at "st"
 refine zC ?_
 walk_at "st"
 refine ⟨by erw [ah];exact af hl (nB9 rfl),Vb l 0 _ _ (bd _) hb λ v2 v3=>?_⟩
 walk_at "go"
 exact zD rfl q
end
noncomputable def Yx (k:Int):List (Int×Int)->Option Int
 | []=>none
 | e::r=>if e.1=k then some e.2 else Yx k r
theorem Q5 {k:Int}{e:Int×Int}{r:List (Int×Int)}:Yx k (e::r)=if e.1=k then some e.2 else Yx k r:=rfl
noncomputable def zP (k:Int)(es:List (Int×Int)):Int:=(Yx k es).getD 0
noncomputable def qT (k v:Int):List (Int×Int)->List (Int×Int)
 | []=>[(k,v)]
 | e::r=>if e.1=k then (e.1,v)::r else e::qT k v r
theorem Q4 {k:Int}{e:Int×Int}{r:List (Int×Int)}:qT k v (e::r)=if e.1=k then (e.1,v)::r else e::qT k v r:=rfl
noncomputable def QI (es:List (Int×Int)):List (Int×D):=es.map λ e=>(e.1,.p (.int e.2))
theorem JR (k:Int):∀ es:List (Int×Int),za k (QI es)=(Yx k es).map λ v=>D.p (.int v):=by
 intro es
 induction es with
 | nil=>rfl
 | cons e r ih =>
  unfold za QI at *
  erw [Q5]
  (erw [bl];erw [bV])
  by_cases h:e.1=k
  ·(erw [decide_eq_true h];erw [if_pos h]);rfl
  ·(erw [decide_eq_false h];erw [if_neg h]);exact ih
theorem vY (k v:Int):∀ es:List (Int×Int),QX k (.p (.int v)) (QI es)=QI (qT k v es):=by
 intro es
 induction es with
 | nil=>rfl
 | cons e r ih =>
  show QX _ _ ((e.1,.p (.int e.2))::QI r)=_
  (erw [uP];erw [Q4])
  by_cases h:e.1=k
  ·(erw [if_pos h];erw [if_pos h]);rfl
  ·(erw [if_neg h];erw [if_neg h];erw [ih]);rfl
theorem Uq (es:List (Int×Int)):(QI es).length=es.length:=ah ..
theorem Ja (es:List (Int×Int)):(QI es).map (·.1)=es.map (·.1):=by unfold QI;erw [bz];rfl
theorem Xw:∀ ps:List (Int×Int),Zx (zR ps)=some (QI ps):=by
 intro ps
 induction ps with
 | nil=>rfl
 | cons p ps ih =>
  show ((Zx (zR ps)).bind λ l=>some ((p.1,D.p (.int p.2))::l))=_
  erw [ih];rfl
theorem zl (ps:List (Int×Int)):(zR ps).length=ps.length:=ah ..
noncomputable def ZJ (k:Int)(es:List (Int×Int))(ps:List (Int×Int)):List (Int×Int):=ps.foldl (λ es p=>qT p.1 (zP p.1 es + k * p.2) es) es
noncomputable def Qe (es:List (Int×Int))(l:List Int):List (Int×Int):=(l.filter λ x=>!(zP x es==0)).map λ x=>(x,zP x es)
noncomputable def QJ (k:Int)(p1 p2:List (Int×Int)):List (Int×Int):=Qe (ZJ k p1 p2) (zg ((ZJ k p1 p2).map (·.1)))
noncomputable def wN:List (Int×Int)->Int->Th
 | [],c=>.num c
 | p::ps,c=>.sum (p::ps) c
theorem mkTh_ps {c:Int}:zJ (wN ps c)=ps/\cOf (wN ps c)=c:=by cases ps <;> exact ⟨rfl,rfl⟩
theorem mem_insI {a x:Int}{l:List Int}:x∈qN a l ↔ x=a∨x∈l:=by
 induction l with
 | nil=>exact ⟨λ m=>.inl (av.mp m),λ h=>h.elim (λ e=>av.mpr e) λ m=>nomatch m⟩
 | cons b r ih =>
  erw [QW]
  split
  ·exact aA
  ·rw [aA,ih,aA]
   exact ⟨λ h=>h.elim (λ e=>.inr (.inl e)) λ h=>h.elim .inl λ m=>.inr (.inr m),λ h=>h.elim (λ e=>.inr (.inl e)) λ h=>h.elim .inl λ m=>.inr (.inr m)⟩
theorem mem_sortI {x:Int}{l:List Int}:x∈zg l ↔ x∈l:=by
 induction l with
 | nil=>exact rj
 | cons a r ih=>rw [YW,mem_insI,ih,aA]
theorem Uf {a:Int}{l:List Int}:(qN a l).length=l.length + 1:=by
 induction l with
 | nil=>rfl
 | cons b r ih =>
  erw [QW]
  split
  ·rfl
  ·exact congrArg (· + 1) ih
theorem Zk {l:List Int}:(zg l).length=l.length:=by
 induction l with
 | nil=>rfl
 | cons a r ih=>(erw [YW];erw [Uf]);exact congrArg (· + 1) ih
theorem XY {a:Int}{l:List Int}(h:l.Nodup)(n:a∉l):(qN a l).Nodup:=by
 induction l with
 | nil=>exact bk.mpr ⟨n,.nil⟩
 | cons b r ih =>
  erw [QW]
  refine Ea (bk.mp h) λ h1 h2=>?_
  split
  ·exact bk.mpr ⟨n,h⟩
  ·exact bk.mpr ⟨λ m=>(mem_insI.mp m).elim (λ e=>n (e▸.head _)) h1,ih h2 λ m=>n (.tail _ m)⟩
theorem Us {l:List Int}(h:l.Nodup):(zg l).Nodup:=by
 induction l with
 | nil=>exact h
 | cons a r ih =>
  refine Ea (bk.mp h) λ h1 h2=>?_
  erw [YW]
  exact XY (ih h2) λ m=>h1 (mem_sortI.mp m)
theorem VH {o:Option Int}:(o.map λ v=>D.p (.int v)).getD (.p (.int 0))=.p (.int (o.getD 0)):=by cases o <;> rfl
theorem xL {x:Int}:∀ {es:List (Int×Int)} {y:Int},y∈(qT x v es).map (·.1)->y=x∨y∈es.map (·.1):=by
 intro es
 induction es with
 | nil=>exact λ m=>.inl (av.mp m)
 | cons e r ih =>
  intro y m
  rw [Q4] at m
  by_cases h:e.1=x
  ·rw [if_pos h] at m;exact .inr m
  ·rw [if_neg h] at m
   refine Zo m ?_ λ m=>?_
   ·exact .inr (.head _)
   ·exact (ih m).imp id (.tail _)
theorem zDU {x:Int}:∀ {es:List (Int×Int)},(es.map (·.1)).Nodup->((qT x v es).map (·.1)).Nodup:=by
 intro es
 induction es with
 | nil=>exact λ _=>bk.mpr ⟨bW,.nil⟩
 | cons e r ih =>
  intro h
  refine Ea (bk.mp h) λ h1 h2=>?_
  erw [Q4]
  by_cases q:e.1=x
  ·erw [if_pos q];exact h
  ·erw [if_neg q]
   exact bk.mpr ⟨λ m=>(xL m).elim q h1,ih h2⟩
theorem xW {x:Int}:∀ {es:List (Int×Int)},(qT x v es).length<=es.length + 1:=by
 intro es
 induction es with
 | nil=>exact aQ _
 | cons e r ih =>
  erw [Q4]
  split
  ·exact cT _
  ·exact bp ih
theorem xg {P:Int->Prop}{x:Int}(hv:P v):∀ {es:List (Int×Int)},(∀ e,e∈es->P e.2)->∀ e,e∈qT x v es->P e.2:=by
 intro es
 induction es with
 | nil=>exact λ _ e m=>by refine z7 m ?_;exact hv
 | cons e r ih =>
  intro h e' m
  rw [Q4] at m
  by_cases q:e.1=x
  ·rw [if_pos q] at m
   refine Zo m ?_ λ m=>?_
   ·exact hv
   ·exact h e' (.tail _ m)
  ·rw [if_neg q] at m
   refine Zo m ?_ λ m=>?_
   ·exact h e (.head _)
   ·exact ih (λ e m=>h e (.tail _ m)) e' m
theorem jx {P:Int->Prop}(h0:P 0){x:Int}:∀ {es:List (Int×Int)},(∀ e,e∈es->P e.2)->P (zP x es):=by
 intro es
 induction es with
 | nil=>exact λ _=>h0
 | cons e r ih =>
  intro h
  show P ((Yx x (e::r)).getD 0)
  erw [Q5]
  split
  ·exact h e (.head _)
  ·exact ih λ e m=>h e (.tail _ m)
noncomputable def zB (row:List Int)(p:Int):Int:=row.getD p.toNat 0
noncomputable def zZ (row:List Int):List (Int×Int)->List Int
 | []=>[]
 | p::r=>p.2 * zB row p.1::zZ row r
noncomputable def zH (row:List Int)(t:Th):Int:=cOf t + (zZ row (zJ t)).sum
theorem zB7 {x:Int}:∀ {es:List (Int×Int)},(zZ row (qT x (zP x es + v) es)).sum=(zZ row es).sum + v * zB row x:=by
 intro es
 induction es with
 | nil=>show (0 + v) * zB row x + 0=0 + v * zB row x;(erw [fF];erw [b9];erw [fF];rfl)
 | cons e r ih =>
  have e0:zP x (e::r)=if e.1=x then e.2 else zP x r:=by unfold zP;erw [Q5];split <;> rfl
  (erw [Q4];erw [e0])
  by_cases q:e.1=x
  ·(erw [if_pos q];erw [if_pos q])
   show (e.2 + v) * zB row e.1 + (zZ row r).sum=(e.2 * zB row e.1 + (zZ row r).sum) + v * zB row x
   (erw [q];erw [rB])
   exact be (liZ [] [e.snd * zB row x,v * zB row x,(zZ row r).sum] (.a (.a (.v 0) (.v 1)) (.v 2)) (.a (.a (.v 0) (.v 2)) (.v 1)) [] tT9) (liZ [] [e.snd * zB row x,(zZ row r).sum,v * zB row x] (.a (.a (.v 0) (.v 1)) (.v 2)) (.a (.a (.v 0) (.v 2)) (.v 1)) [] tT9)
  ·(erw [if_neg q];erw [if_neg q])
   show e.2 * zB row e.1 + (zZ row (qT x (zP x r + v) r)).sum=(e.2 * zB row e.1 + (zZ row r).sum) + v * zB row x
   erw [ih]
   exact be (liZ [] [e.snd * zB row e.fst,(zZ row r).sum,v * zB row x] (.a (.v 0) (.a (.v 1) (.v 2))) (.a (.a (.v 0) (.v 1)) (.v 2)) [] tT9) (liZ [] [e.snd * zB row e.fst,(zZ row r).sum,v * zB row x] (.a (.a (.v 0) (.v 1)) (.v 2)) (.a (.v 0) (.a (.v 1) (.v 2))) [] tT9)
theorem wy {k:Int}:∀ {ps es:List (Int×Int)},(zZ row (ZJ k es ps)).sum=(zZ row es).sum + k * (zZ row ps).sum:=by
 intro ps
 induction ps with
 | nil=>intro es;show (zZ row es).sum=(zZ row es).sum + k * 0;(erw [dU];erw [b9];rfl)
 | cons p ps ih =>
  intro es
  show (zZ row (ZJ k (qT p.1 (zP p.1 es + k * p.2) es) ps)).sum=(zZ row es).sum + k * (p.2 * zB row p.1 + (zZ row ps).sum)
  (erw [ih];erw [zB7];erw [gC];erw [lV])
  exact be (liZ [] [(zZ row es).sum,k * (p.snd * zB row p.fst),k * (zZ row ps).sum] (.a (.a (.v 0) (.v 1)) (.v 2)) (.a (.v 0) (.a (.v 1) (.v 2))) [] tT9) (liZ [] [(zZ row es).sum,k * (p.snd * zB row p.fst),k * (zZ row ps).sum] (.a (.v 0) (.a (.v 1) (.v 2))) (.a (.a (.v 0) (.v 1)) (.v 2)) [] tT9)
noncomputable def qL (row:List Int)(es:List (Int×Int))(l:List Int):Int:=(l.map λ x=>zP x es * zB row x).sum
theorem Vr {es:List (Int×Int)}{l:List Int}:(zZ row (Qe es l)).sum=qL row es l:=by
 induction l with
 | nil=>rfl
 | cons x l ih =>
  unfold Qe at *
  erw [ck]
  by_cases h:zP x es=0
  ·have hb:(zP x es==0)=true:=beq_iff_eq.mpr h
   (erw [hb])
   show (zZ row _).sum=zP x es * zB row x + qL row es l
   (erw [ih];erw [h])
   exact be (liZ [] [qL row es l,zB row x] (.v 0) (.a (.m 0 (.v 1)) (.v 0)) [] tT9) (liZ [] [zB row x,qL row es l] (.a (.m 0 (.v 0)) (.v 1)) (.v 1) [] tT9)
  ·have hb:(zP x es==0)=false:=beq_eq_false_iff_ne.mpr h
   (erw [hb])
   exact congrArg (zP x es * zB row x + ·) ih
theorem vO {es:List (Int×Int)}:∀ {l:List Int},qL row es (zg l)=qL row es l:=by
 have KO:∀ (a:Int) (l:List Int),qL row es (qN a l)=zP a es * zB row a + qL row es l:=λ a l=>by
  induction l with
  | nil=>rfl
  | cons b r ih =>
   erw [QW]
   split
   ·rfl
   ·show zP b es * zB row b + qL row es (qN a r)=_ + (zP b es * zB row b + qL row es r)
    erw [ih]
    exact be (liZ [] [zP b es * zB row b,zP a es * zB row a,qL row es r] (.a (.v 0) (.a (.v 1) (.v 2))) (.a (.v 1) (.a (.v 0) (.v 2))) [] tT9) (liZ [] [zP a es * zB row a,zP b es * zB row b,qL row es r] (.a (.v 0) (.a (.v 1) (.v 2))) (.a (.v 1) (.a (.v 0) (.v 2))) [] tT9)
 intro l
 induction l with
 | nil=>rfl
 | cons a r ih=>(erw [YW];erw [KO];erw [ih]);rfl
theorem vK :∀ {es:List (Int×Int)},(es.map (·.1)).Nodup->qL row es (es.map (·.1))=(zZ row es).sum:=by
 intro es
 induction es with
 | nil=>exact λ _=>rfl
 | cons e r ih =>
  intro h
  refine Ea (bk.mp h) λ h1 h2=>?_
  have e0:zP e.1 (e::r)=e.2:=by unfold zP;erw [Q5];erw [if_pos rfl];rfl
  have e1:(r.map (·.1)).map (λ x=>zP x (e::r) * zB row x)=(r.map (·.1)).map λ x=>zP x r * zB row x:=cr λ x m=>by
   have:zP x (e::r)=zP x r:=by unfold zP;erw [Q5];erw [if_neg λ q:e.1=x=>h1 (show e.1∈r.map (·.1) from q.symm▸m)];rfl
   erw [this];rfl
  show zP e.1 (e::r) * zB row e.1 + ((r.map (·.1)).map λ x=>zP x (e::r) * zB row x).sum=e.2 * zB row e.1 + (zZ row r).sum
  (erw [e0];erw [e1])
  exact congrArg (e.2 * zB row e.1 + ·) (ih h2)
structure VOk (A c:Nat)(t:Th):Prop where
 keys:∀ p,p∈zJ t->0<=p.1/\p.1<3
 nd:((zJ t).map (·.1)).Nodup
 co:∀ p,p∈zJ t->Lm A p.2
 nz:∀ p,p∈zJ t->p.2≠0
 cn:Lm c (cOf t)
theorem zF0 {l:List Int}(n:l.Nodup)(h:∀ x,x∈l->0<=x/\x<3):l.length<=3:=n.length_le_of_subset (l₂:=[0,1,2]) λ x m=>by
 rcases i3 (h x m).1 (h x m).2 with e | e | e
 ·exact e▸.head _
 ·exact e▸.tail _ (.head _)
 ·exact e▸.tail _ (.tail _ (.head _))
theorem VOk.len {t:Th}(h:VOk A c t):(zJ t).length<=3:=by
 refine rwS (ah (λ p:Int×Int=>p.1)) ?_
 exact zF0 h.nd λ x m=>by (refine Eea (az.mp m) λ p mp q=>?_;obtain rfl:=q);exact h.keys p mp
theorem jD {k:Int}:∀ {ps es:List (Int×Int)},(∀ e,e∈es->Lm A e.2)->(∀ p,p∈ps->Lm B (k * p.2))->(es.map (·.1)).Nodup ->
  (∀ e,e∈ZJ k es ps->Lm (A + ps.length * B) e.2)/\((ZJ k es ps).map (·.1)).Nodup/\(ZJ k es ps).length<=es.length + ps.length/\∀ y,y∈(ZJ k es ps).map (·.1)->y∈es.map (·.1)∨y∈ps.map (·.1):=by
 intro ps
 induction ps generalizing A with
 | nil=>exact λ h _ nd=>⟨by (erw [Nat.zero_mul];exact h),nd,aQ _,λ y m=>.inl m⟩
 | cons p ps ih =>
  intro es h hp nd
  have h1:∀ e,e∈qT p.1 (zP p.1 es + k * p.2) es->Lm (A + B) e.2:=xg ((jx (P:=Lm A) (bd _) h).add (hp p (.head _))) λ e m=>af (h e m) (aF _ _)
  refine qJ (ih h1 (λ q m=>hp q (.tail _ m)) (zDU nd)) λ q1 q2 q3 q4=>?_
  refine ⟨λ e m=>by have:=q1 e m;unfold Lm at *;(erw [a9];erw [rx]);exact lin [e.snd.natAbs,A,ps.length * B,B] [] (.v 0) (.a (.v 1) (.a (.v 2) (.v 3))) [(1,.l (.v 0) (.a (.a (.v 1) (.v 3)) (.v 2)))] tT9 this,q2,af q3 (by have:=xW (x:=p.1) (v:=zP p.1 es + k * p.2) (es:=es);erw [a9];exact lin [_,_,_] [] (.a (.v 0) (.v 1)) (.a (.v 2) (.a (.v 1) (.k 1))) [(1,.l (.v 0) (.a (.v 2) (.k 1)))] tT9 this),λ y m=>?_⟩
  rcases q4 y m with m | m
  ·exact (xL m).elim (λ e=>.inr (e▸.head _)) .inl
  ·exact .inr (.tail _ m)
theorem vq {es:List (Int×Int)}{l:List Int}:(Qe es l).map (·.1)=l.filter λ x=>!(zP x es==0):=by unfold Qe;erw [bz];exact List.map_id' _
noncomputable def qV (k:Int)(t1 t2:Th):Th:=wN (QJ k (zJ t1) (zJ t2)) (cOf t1 + k * cOf t2)
theorem yh {k:Int}(h1:VOk A c t1)(hB:∀ p,p∈zJ t2->Lm B (k * p.2)):zH row (qV k t1 t2)=zH row t1 + k * zH row t2:=by
 unfold zH qV
 (erw [mkTh_ps.2];erw [mkTh_ps.1])
 unfold QJ
 (erw [Vr];erw [vO];erw [vK (jD h1.co hB h1.nd).2.1];erw [wy];erw [gC])
 exact be (liZ [] [cOf t1,k * cOf t2,(zZ row (zJ t1)).sum,k * (zZ row (zJ t2)).sum] (.a (.a (.v 0) (.v 1)) (.a (.v 2) (.v 3))) (.a (.a (.v 0) (.v 2)) (.a (.v 1) (.v 3))) [] tT9) (liZ [] [cOf t1,(zZ row (zJ t1)).sum,k * cOf t2,k * (zZ row (zJ t2)).sum] (.a (.a (.v 0) (.v 1)) (.a (.v 2) (.v 3))) (.a (.a (.v 0) (.v 2)) (.a (.v 1) (.v 3))) [] tT9)
theorem j0 {k:Int}{d:Nat}(h1:VOk A c t1)(hB:∀ p,p∈zJ t2->Lm B (k * p.2))(hd:Lm d (k * cOf t2))(hk:∀ p,p∈zJ t2->0<=p.1/\p.1<3)(hl:(zJ t2).length<=3):VOk (A + 3 * B) (c + d) (qV k t1 t2):=by
 have M:=jD h1.co hB h1.nd
 have e:zJ (qV k t1 t2)=Qe (ZJ k (zJ t1) (zJ t2)) (zg ((ZJ k (zJ t1) (zJ t2)).map (·.1))):=mkTh_ps.1
 have hm:∀ p,p∈zJ (qV k t1 t2)->p.1∈(ZJ k (zJ t1) (zJ t2)).map (·.1)/\Lm (A + 3 * B) p.2/\p.2≠0:=λ p m=>by
  rw [e] at m
  refine Eea (az.mp m) λ x mx q=>?_
  obtain rfl:=q
  refine Ea (bM.mp mx) λ m1 m2=>?_
  exact ⟨mem_sortI.mp m1,jx (P:=Lm _) (bd _) λ e m=>af (M.1 e m) (aL (iR _ hl) _),λ q=>by have q:zP x (ZJ k (zJ t1) (zJ t2))=0:=q;rw [q] at m2;exact a8 m2⟩
 refine ⟨λ p m=>?_,?_,λ p m=>(hm p m).2.1,λ p m=>(hm p m).2.2,?_⟩
 ·rcases M.2.2.2 _ (hm p m).1 with q | q
  ·(refine Eea (az.mp q) λ p' mp q'=>?_;refine rwS q' ?_);exact h1.keys p' mp
  ·(refine Eea (az.mp q) λ p' mp q'=>?_;refine rwS q' ?_);exact hk p' mp
 ·(erw [e];erw [vq]);exact (Us M.2.1).filter _
 ·show Lm _ (cOf (wN _ _));erw [mkTh_ps.2];exact h1.cn.add hd
section
variable {C:Cx}{n:Nat}{σ:zA}{Q:D->zA->Prop}
theorem wU (L:Law1 C){k:Int}{d0 d1 d4:Option D}{u7:Option D}{S:Fl->Rho->zA->Prop}(hk:Lm big k){K:Rho×zA->Prop}:∀ (ps es:List (Int×Int)) (u5 u6:Option D),A + ps.length * B<=big->es.length + ps.length<=1000->(∀ e,e∈es->Lm A e.2)->(∀ p,p∈ps->Lm B (k * p.2)/\Lm big p.2/\-9223372036854775808<=p.1/\p.1<9223372036854775808) ->
  (∀ v5 v6,K ([d0,d1,some (.p (.int k)),some (.obj σ.length),d4,v5,v6,u7],σ++[.idict (QI (ZJ k es ps))])) ->
  zT (zO C T1 (n + 1) (.tup [(.nm 5),(.nm 6)]) [(.asg (.sub (.nm 3) (.nm 5)) (.call false (.gl 19) [(.bin .Add (.meth (.nm 3) 1 [(.nm 5),(.c (.int (0)))]) (.bin .Mult (.nm 2) (.nm 6)))]))] none S) (zR ps)
   ([d0,d1,some (.p (.int k)),some (.obj σ.length),d4,u5,u6,u7],σ++[.idict (QI es)]) K:=by
 intro ps
 induction ps generalizing A with
 | nil=>exact λ es u5 u6 _ _ _ _ h=>h u5 u6
 | cons p ps ih =>
  intro es u5 u6 hb hl he hp h
  rw [a9] at hb hl
  refine qJ (hp p (.head _)) λ h1 h2 h3 h4=>?_
  have hv:Lm (A + B) (zP p.1 es + k * p.2):=(jx (P:=Lm A) (bd _) he).add h1
  have HY:A + B + ps.length * B<=big:=af (cS (by rw [rx,cU,eU B])) hb
  show zO _ _ _ _ _ _ _ (ch [.int p.1,.int p.2]) _ (λ a'=>zT _ (zR ps) a' K)
  walk_at "go"
  (erw [JR];erw [VH])
  refine ⟨zj hk,zj h2,?_⟩
  walk_at "go"
  refine Y4 L (af hv (af (aF _ _) HY)) ?_
  walk_at "go"
  erw [vY]
  exact ⟨by erw [Uq];exact lin [_,_] [] (.v 0) (.k 100000) [(1,.l (.a (.v 0) (.a (.v 1) (.k 1))) (.k 1000))] tT9 hl,ih _ _ _ HY (by have:=xW (x:=p.1) (v:=zP p.1 es + k * p.2) (es:=es);unfold zP at this;exact lin [_,_,_] [] (.a (.v 0) (.v 1)) (.k 1000) [(1,.l (.a (.v 2) (.a (.v 1) (.k 1))) (.k 1000)),(1,.l (.v 0) (.a (.v 2) (.k 1)))] tT9 hl this) (xg hv λ e m=>af (he e m) (aF _ _)) (λ q m=>hp q (.tail _ m)) λ v5 v6=>h v5 v6⟩
theorem VM {x:Int}:∀ {es:List (Int×Int)},x∈es.map (·.1)->Yx x es=some (zP x es):=by
 intro es
 induction es with
 | nil=>exact λ m=>nomatch m
 | cons e r ih =>
  intro m
  unfold zP at *
  erw [Q5]
  by_cases q:e.1=x
  ·erw [if_pos q];rfl
  ·erw [if_neg q]
   refine ih ?_
   rcases aA.mp m with e' | m
   ·exact absurd e'.symm q
   ·exact m
theorem uq (L:Law1 C){k:Int}(hk:Lm big k)(h1:VOk A c t1)(hb:cA (A + 3 * B) big=true)(h2:∀ p,p∈zJ t2->Lm B (k * p.2)/\Lm big p.2/\0<=p.1/\p.1<3)(hl:(zJ t2).length<=3)(hc:Lm big (cOf t2)/\Lm big (cOf t1 + k * cOf t2))
  (q:Q (.p (enc (qV k t1 t2))) σ):SatCall C T1 (n + 3) 168 [.p (enc t1),.p (enc t2),.p (.int k)] σ Q:=by
 have hb:=aw hb
 have M:=jD h1.co (λ p m=>(h2 p m).1) h1.nd
 have ln:=h1.len
 have sm:∀ x,0<=x/\x<3->-9223372036854775808<=x/\x<9223372036854775808:=λ x h=>by exact ⟨bh (oD9 rfl) h.1,dm h.2 (oD9 rfl)⟩
 have hx:∀ x,x∈(ZJ k (zJ t1) (zJ t2)).map (·.1)->0<=x/\x<3:=λ x m=>by
  rcases M.2.2.2 x m with q | q
  ·(refine Eea (az.mp q) λ p' mp q'=>?_;refine rwS q' ?_);exact h1.keys p' mp
  ·(refine Eea (az.mp q) λ p' mp q'=>?_;refine rwS q' ?_);exact (h2 p' mp).2.2
 refine zK L.Y L.TT L.plus rfl ?_
 unfold uS
 walk_at "go"
 refine yT L ?_
 walk_at "go"
 refine yT L ?_
 unfold JD
 walk_at "go"
 erw [Xw]
 refine ⟨by erw [Ja];exact h1.nd,by erw [zl];exact af ln (nB9 rfl),zj hk,zj hc.1,Y4 L hc.2 ?_⟩
 walk_at "go"
 refine ⟨by erw [zl];exact af hl (nB9 rfl),wU L hk (A:=A) (B:=B) _ _ _ _ (af (aL (iR _ hl) _) hb) (by exact lin [_,_] [] (.a (.v 0) (.v 1)) (.k 1000) [(1,.l (.v 1) (.k 3)),(1,.l (.v 0) (.k 3))] tT9 hl ln) h1.co (λ p m=>⟨(h2 p m).1,(h2 p m).2.1,sm _ (h2 p m).2.2⟩) λ v5 v6=>?_⟩
 walk_at "go"
 simp only [Ja]
 generalize hm:ZJ k (zJ t1) (zJ t2)=E at *
 have hE:E.length<=6:=af M.2.2.1 (dj ln hl)
 have hs:(zg (E.map (·.1))).length<=6:=by (erw [Zk];erw [ah]);exact hE
 refine .inl ?_
 walk_at "st"
 refine ⟨by erw [ah];exact lin [_] [] (.a (.v 0) (.k 1)) (.k 64) [(1,.l (.v 0) (.k 6))] tT9 hE,by erw [ah];exact af hs (nB9 rfl),Qd (f:=.int) (h:=λ x=>.tuple [.int x,.int (zP x E)]) (p:=λ x=>!(zP x E==0)) (zg (E.map (·.1))) [] (af (aL hs 0) (by decide)) (λ x m acc K ha k1 k0=>?_) ?_⟩
 ·have hg:=VM (mem_sortI.mp m)
  walk_at "go"
  simp only [JR,hg,lu]
  walk_at "go"
  refine UH (λ e=>?_) (λ e=>?_)
  ·exact ⟨ha,k1 e⟩
  ·exact k0 e
 unfold zi
 erw [a6]
 have e2:((zg (E.map (·.1))).filter λ x=>!(zP x E==0)).map (λ x=>ch [.int x,.int (zP x E)])=zR (QJ k (zJ t1) (zJ t2)):=by
  unfold QJ Qe zR;(erw [hm];erw [bz]);rfl
 erw [e2]
 have hP:(QJ k (zJ t1) (zJ t2)).length<=6:=by unfold QJ Qe;(erw [hm];erw [ah]);exact af (cH _ _) hs
 unfold qV at q
 generalize QJ k (zJ t1) (zJ t2)=P at *
 walk_at "go"
 refine ⟨by erw [zl];exact af hP (nB9 rfl),?_⟩
 cases P with
 | nil =>
  unfold zR
  walk_at "go"
  exact Zg rfl q
 | cons p P =>
  have e:zR (p::P)=.tuple [.int p.1,.int p.2]::zR P:=rfl
  erw [e]
  walk_at "go"
  exact Zg rfl q
end
section
variable {C:Cx}{n:Nat}{fd:MO}{pt:D}{vars tolds:List ab}{made:List (Ky×D)}{τ:zA}{Q:D->zA->Prop}
theorem qh (L:Law1 C)(h:vars.length<=10000)(q:Q (.p (.int vars.length)) (zE fd pt (vars++[.tuple [nm,Dz]]) tolds made++τ)):SatCall C T1 (n + 1) 104 [.obj 4,.p nm,.p Dz] (zE fd pt vars tolds made++τ) Q:=by
 refine zK L.Y L.TT L.new_var rfl ?_
 unfold y0
 walk_at "go"
 refine ⟨by exact af h (nB9 rfl),?_⟩
 walk_at "go"
 refine ⟨by simp;exact af h (nB9 rfl),zD rfl ?_⟩
 simpa using q
theorem Q1 (L:Law1 C){By:ab}(h:tolds.length<=10000)(q:Q (.p .none) (zE fd pt vars (tolds++[By]) made++τ)):SatCall C T1 (n + 1) 111 [.obj 4,.p By] (zE fd pt vars tolds made++τ) Q:=by
 refine zK L.Y L.TT L.post rfl ?_
 unfold um
 walk_at "go"
 exact ⟨by exact af h (nB9 rfl),zD rfl q⟩
theorem w1 (L:Law1 C)(h:vars.length<=10000)(q:Q (.p (.int vars.length)) (zE fd pt vars tolds made++τ)):SatCall C T1 (n + 1) 118 [.obj 4] (zE fd pt vars tolds made++τ) Q:=by
 refine zK L.Y L.TT L.size rfl ?_
 unfold ub
 walk_at "go"
 exact ⟨by exact af h (nB9 rfl),zD rfl q⟩
theorem Ub (L:Law1 C)(hk:k<=10000)(h:vars[k]?=some (.tuple [nm,Dz]))(q:Q (.p Dz) (zE fd pt vars tolds made++τ)):SatCall C T1 (n + 1) 125 [.obj 4,.p (.int k)] (zE fd pt vars tolds made++τ) Q:=by
 refine zK L.Y L.TT L.domain_of rfl ?_
 unfold Qr
 walk_at "go"
 simp only [fc,h]
 walk_at "go"
 exact ⟨⟨by exact of_decide_eq_true rfl,by lia⟩,zD rfl q⟩
end
noncomputable def jQ (k:Nat):ab:=.str (ae "#"++ae (toString (k:Int)))
noncomputable def zw (rs:List (Int×Int)):ab:=.tuple (zR rs)
noncomputable def trD:ab:=.tuple [.tuple [.int 0,.int 1]]
theorem Xs {q:Ky}{d:D}{es:List (Ky×D)}(h:z5 q es=none):z5 q (es++[(q,d)])=some d:=by
 unfold z5 at *
 rw [ij] at h
 (erw [oN];erw [h])
 simp
theorem zCS (h:k<=10000):-9223372036854775808<=(k:Int)/\(k:Int)<9223372036854775808:=⟨bh (oD9 rfl) (bn k),gw (dW.mpr h) (oD9 rfl)⟩
section
variable {C:Cx}{n:Nat}{fd:MO}{pt:D}{vars tolds:List ab}{made:List (Ky×D)}{τ:zA}{Q:D->zA->Prop}
theorem xw (L:Law1 C){k:List ab}{q:Ky}{Dz:ab}{j:Int}(hd:Kd (.tuple k))(hq:keyDs k=some q)(h:z5 q made=some (.p (.int j)))(hQ:Q (.p (.tuple [.int j,.bool false])) (zE fd pt vars tolds made++τ)) :
  SatCall C T1 (n + 2) 203 [.obj 2,.p (.tuple k),.p Dz] (zE fd pt vars tolds made++τ) Q:=by
 refine zK L.Y L.TT L.once rfl ?_
 unfold ju
 walk_at "go"
 simp only [hq,h,Option.isSome_some]
 refine ⟨hd,?_⟩
 walk_at "go"
 simp only [hq,h]
 walk_at "go"
 exact ⟨hd,zD rfl hQ⟩
theorem wF (L:Law1 C){k:List ab}{q:Ky}(hv:vars.length<=10000)(hm:made.length<=10000)(hd:Kd (.tuple k))(hq:keyDs k=some q)(h:z5 q made=none)
  (hQ:Q (.p (.tuple [.int vars.length,.bool true])) (zE fd pt (vars++[.tuple [jQ vars.length,trD]]) tolds (made++[(q,.p (.int vars.length))])++τ)) :
  SatCall C T1 (n + 2) 203 [.obj 2,.p (.tuple k),.p trD] (zE fd pt vars tolds made++τ) Q:=by
 refine zK L.Y L.TT L.once rfl ?_
 unfold ju trD at *
 walk_at "go"
 simp only [hq,h,Option.isSome_none]
 refine ⟨hd,?_⟩
 walk_at "go"
 refine Y4 L (nB9 rfl) ?_
 walk_at "go"
 refine w1 L hv ?_
 walk_at "go"
 refine ⟨zCS hv,qh L hv ?_⟩
 walk_at "go"
 simp only [hq,h]
 refine ⟨hd,af hm (nB9 rfl),?_⟩
 walk_at "go"
 simp only [hq,Xs h]
 refine ⟨hd,?_⟩
 walk_at "go"
 exact zD rfl hQ
end
inductive Df where
 | reif (zs:List (Int×Int)) (c:Int)
 | or (vs:List Int)
 | all (ks:List (Int×Bool))
variable {X ds sE:List Df}{d:Df}
noncomputable def leD (zs:List (Int×Int))(c:Int):ab:=.tuple [.str "linear_le",.tuple ((zs.map (·.1)).map .int),.tuple ((zs.map (·.2)).map .int),.int c]
noncomputable def wS:Df->List ab
 | .reif zs c=>[.str "reif",leD zs c]
 | .or vs=>[.str "or",.tuple (vs.map .int)]
 | .all ks=>[.str "all",.tuple (ks.map zG)]
noncomputable def ZX:List Int->Ky
 | []=>.nil
 | x::r=>.cons (.int x) (ZX r)
noncomputable def zFb (p:Int×Bool):Ky:=.cons (.str "bit") (.cons (.int p.1) (.cons (.int (cond p.2 1 0)) .nil))
noncomputable def yA:List (Int×Bool)->Ky
 | []=>.nil
 | x::r=>.cons (zFb x) (yA r)
noncomputable def Zu:Df->Ky
 | .reif zs c=>.cons (.str "reif") (.cons (.cons (.str "linear_le") (.cons (ZX (zs.map (·.1))) (.cons (ZX (zs.map (·.2))) (.cons (.int c) .nil)))) .nil)
 | .or vs=>.cons (.str "or") (.cons (ZX vs) .nil)
 | .all ks=>.cons (.str "all") (.cons (yA ks) .nil)
theorem j3:∀ vs:List Int,keyDs (vs.map .int)=some (ZX vs):=by
 intro vs
 induction vs with
 | nil=>rfl
 | cons x r ih=>(erw [bl];erw [Zh];erw [ih]);rfl
theorem zCf:∀ ks:List (Int×Bool),keyDs (ks.map zG)=some (yA ks):=by
 intro ks
 induction ks with
 | nil=>rfl
 | cons x r ih=>(erw [bl];erw [Zh];erw [ih]);rfl
theorem zEP (zs:List (Int×Int))(c:Int):Za (leD zs c)=some (.cons (.str "linear_le") (.cons (ZX (zs.map (·.1))) (.cons (ZX (zs.map (·.2))) (.cons (.int c) .nil)))):=by
 show keyDs [_,_,_,_]=_
 (erw [Zh];erw [Zh];erw [Zh];erw [J0];erw [j3];erw [J0];erw [j3]);rfl
theorem wi (d:Df):keyDs (wS d)=some (Zu d):=by
 cases d with
 | reif zs c=>(show keyDs [_,_]=_;erw [Zh];erw [Zh];erw [zEP]);rfl
 | or vs=>(show keyDs [_,_]=_;erw [Zh];erw [Zh];erw [J0];erw [j3]);rfl
 | all ks=>(show keyDs [_,_]=_;erw [Zh];erw [Zh];erw [J0];erw [zCf]);rfl
theorem y9:∀ vs:List Int,bC (vs.map .int)=0:=by
 intro vs
 induction vs with
 | nil=>rfl
 | cons x r ih=>show max 0 (bC (r.map .int))=0;erw [ih];rfl
theorem WG:∀ ks:List (Int×Bool),bC (ks.map zG)<=1:=by
 intro ks
 induction ks with
 | nil=>exact bd _
 | cons x r ih=>show max 1 (bC (r.map zG))<=1;exact lJ.mpr ⟨aQ _,ih⟩
theorem zAu (d:Df):Kd (.tuple (wS d)):=by
 show mK _<=6
 cases d with
 | reif zs c=>show max 0 (max (max 0 (max (bC ((zs.map (·.1)).map .int) + 1) (max (bC ((zs.map (·.2)).map .int) + 1) (max 0 0))) + 1) 0) + 1<=6;(erw [y9];erw [y9]);decide
 | or vs=>show max 0 (max (bC (vs.map .int) + 1) 0) + 1<=6;erw [y9];decide
 | all ks=>have:=WG ks;show max 0 (max (bC (ks.map zG) + 1) 0) + 1<=6;exact bp (lJ.mpr ⟨bd _,lJ.mpr ⟨by exact lin [_] [] (.a (.v 0) (.k 1)) (.k 5) [(1,.l (.v 0) (.k 1))] tT9 this,bd _⟩⟩)
noncomputable def J3 (k:Ky):Int:=match k with
 | .int i=>i
 | _=>0
noncomputable def hdK (k:Ky):Ky:=match k with
 | .cons a _=>a
 | _=>.nil
noncomputable def tlK (k:Ky):Ky:=match k with
 | .cons _ r=>r
 | _=>.nil
noncomputable def qI:Ky->List Int
 | .cons a r=>J3 a::qI r
 | _=>[]
noncomputable def y8:Ky->List (Int×Bool)
 | .cons a r=>(J3 (hdK (tlK a)),decide (J3 (hdK (tlK (tlK a)))=1))::y8 r
 | _=>[]
noncomputable def zDe (k:Ky):Df :=
 bif decide (hdK k=.str "reif") then .reif ((qI (hdK (tlK (hdK (tlK k))))).zip (qI (hdK (tlK (tlK (hdK (tlK k))))))) (J3 (hdK (tlK (tlK (tlK (hdK (tlK k)))))))
 else bif decide (hdK k=.str "or") then .or (qI (hdK (tlK k))) else .all (y8 (hdK (tlK k)))
theorem YE:∀ vs:List Int,qI (ZX vs)=vs:=by
 intro vs
 induction vs with
 | nil=>rfl
 | cons p ps ih=>show _::qI (ZX ps)=_;erw [ih];rfl
theorem Wa:∀ vs:List (Int×Bool),y8 (yA vs)=vs:=by
 intro vs
 induction vs with
 | nil=>rfl
 | cons p ps ih =>
  obtain ⟨x,s⟩:=p
  show (x,_)::y8 (yA ps)=_
  erw [ih]
  cases s <;> rfl
theorem zDr:∀ zs:List (Int×Int),(zs.map (·.1)).zip (zs.map (·.2))=zs:=by
 intro zs
 induction zs with
 | nil=>rfl
 | cons z zs ih=>show z::_=z::zs;exact congrArg (z::·) ih
theorem UJ {a b:String}(h:(ae a==ae b)=false):decide (Ky.str (ae a)=Ky.str (ae b))=false :=
 decide_eq_false λ e=>by have:ae a=ae b:=congrArg (λ k=>match k with | Ky.str s=>s | _=>default) e;rw [this,beq_self_eq_true] at h;exact a8 h
theorem xA (d:Df):zDe (Zu d)=d:=by
 unfold zDe
 cases d with
 | reif zs c=>(refine rwE (show hdK (Zu (.reif zs c))=.str "reif" from rfl) ?_;erw [decide_eq_true rfl]);show Df.reif ((qI (ZX (zs.map (·.1)))).zip (qI (ZX (zs.map (·.2))))) c=_;(erw [YE];erw [YE];erw [zDr];rfl)
 | or vs=>(refine rwE (show hdK (Zu (.or vs))=.str "or" from rfl) ?_;erw [UJ (a:="or") (b:="reif") rfl];erw [decide_eq_true rfl]);show Df.or (qI (ZX vs))=_;(erw [YE];rfl)
 | all ks=>(refine rwE (show hdK (Zu (.all ks))=.str "all" from rfl) ?_;erw [UJ (a:="all") (b:="reif") rfl];erw [UJ (a:="all") (b:="or") rfl]);show Df.all (y8 (yA ks))=_;(erw [Wa];rfl)
theorem zDh {d':Df}(h:Zu d=Zu d'):d=d':=by (refine rwS (xA d) ?_;erw [h];exact xA d')
inductive Td where
 | le (zs:List (Int×Int)) (c:Int)
 | reif (z:Int) (zs:List (Int×Int)) (c:Int)
 | bo (mx:Bool) (vs:List Int) (z:Int)
 | cl (us ds:List Int)
variable {ts sN tl dn:List Td}{H:Td->Bool}
noncomputable def zN:Td->ab
 | .le zs c=>leD zs c
 | .reif z zs c=>.tuple [.str "reif",.int z,leD zs c]
 | .bo mx vs z=>.tuple [.str (bif mx then ae "or" else ae "and"),.tuple (vs.map .int),.int z]
 | .cl us ds=>.tuple [.str "clause",.tuple (us.map .int),.tuple (ds.map .int)]
noncomputable def qX (l:List (Int×Bool)):List Int:=(l.filter (·.2)).map (·.1)
noncomputable def ZZ (l:List (Int×Bool)):List Int:=(l.filter λ p=>!p.2).map (·.1)
noncomputable def zo (l:List (Int×Bool)):Td:=.cl (zg (dd (qX (zb l)))) (zg (dd (ZZ (zb l))))
noncomputable def flp (p:Int×Bool):Int×Bool:=(p.1,!p.2)
noncomputable def Zf (j:Int):Df->List Td
 | .reif zs c=>[.reif j zs c]
 | .or vs=>[.bo true vs j]
 | .all ks=>bif ks.all (·.2) then [.bo false (ks.map (·.1)) j] else (ks.map λ k=>zo [(j,false),k])++[zo ((j,true)::ks.map flp)]
noncomputable def ze:Nat->List Df->List ab
 | _,[]=>[]
 | k,_::r=>.tuple [jQ k,trD]::ze (k + 1) r
noncomputable def zm:Nat->List Df->List (Ky×D)
 | _,[]=>[]
 | k,d::r=>(Zu d,.p (.int k))::zm (k + 1) r
theorem qK :k + 1 + n=k + (n + 1):=by rw [cU,eU 1]
theorem XW:∀ (ds:List Df) (k:Nat) (d:Df),ze k (ds++[d])=ze k ds++[.tuple [jQ (k + ds.length),trD]]:=by
 intro ds
 induction ds with
 | nil=>exact λ _ _=>rfl
 | cons e r ih=>intro k d;show _::ze (k + 1) (r++[d])=_;(erw [ih];erw [qK];rfl)
theorem Xz:∀ (ds:List Df) (k:Nat) (d:Df),zm k (ds++[d])=zm k ds++[(Zu d,.p (.int ((k + ds.length:Nat):Int)))]:=by
 intro ds
 induction ds with
 | nil=>exact λ _ _=>rfl
 | cons e r ih=>intro k d;show _::zm (k + 1) (r++[d])=_;(erw [ih];erw [qK];rfl)
theorem YG:∀ (ds:List Df) (k:Nat),(ze k ds).length=ds.length:=by
 intro ds
 induction ds with
 | nil=>exact λ _=>rfl
 | cons _ r ih=>exact λ k=>congrArg (· + 1) (ih (k + 1))
theorem uv:∀ (ds:List Df) (k:Nat),(zm k ds).length=ds.length:=by
 intro ds
 induction ds with
 | nil=>exact λ _=>rfl
 | cons _ r ih=>exact λ k=>congrArg (· + 1) (ih (k + 1))
theorem YT:∀ (ds:List Df) (k:Nat),clM 8 (.tdict (zm k ds))=true:=by
 intro ds
 induction ds with
 | nil=>exact λ _=>rfl
 | cons _ r ih=>exact λ k=>ih (k + 1)
noncomputable def jg (q:Ky):Nat->List Df->Option Nat
 | _,[]=>none
 | k,d::r=>if Zu d=q then some k else jg q (k + 1) r
theorem wQ (q:Ky):∀ (ds:List Df) (k:Nat),z5 q (zm k ds)=(jg q k ds).map λ j=>D.p (.int (j:Nat)):=by
 intro ds
 induction ds with
 | nil=>exact λ _=>rfl
 | cons d r ih =>
  intro k
  have:=ih (k + 1)
  unfold z5 at *
  show (dY _ (_::zm (k + 1) r)).map _=(if _ then _ else _:Option Nat).map _
  erw [bV]
  by_cases h:Zu d=q
  ·(erw [decide_eq_true h];erw [if_pos h]);rfl
  ·(erw [decide_eq_false h];erw [if_neg h]);exact this
theorem xu :∀ {ds:List Df} {k j:Nat},jg (Zu d) k ds=some j->∃ i,j=k + i/\ds[i]?=some d:=by
 intro ds
 induction ds with
 | nil=>exact λ h=>nn h
 | cons e r ih =>
  intro k j h
  unfold jg at h
  by_cases q:Zu e=Zu d
  ·rw [if_pos q] at h
   exact ⟨0,(so h).symm,congrArg some (zDh q)⟩
  ·rw [if_neg q] at h
   refine Eea (ih h) λ i h1 h2=>?_
   exact ⟨i + 1,h1.trans qK,h2⟩
noncomputable def stt (fd:MO)(pt:D)(vb:List ab)(ds:List Df)(ts:List Td):zA:=zE fd pt (vb++ze 3 ds) (ts.map zN) (zm 3 ds)
@[simp ↓] theorem YR {pt:D}{vb:List ab}:stt fd pt vb ds ts=zE fd pt (vb++ze 3 ds) (ts.map zN) (zm 3 ds):=rfl
section
variable {C:Cx}{n:Nat}{fd:MO}{pt:D}{vb:List ab}{ds:List Df}{ts:List Td}{τ:zA}{Q:D->zA->Prop}
theorem UP (L:Law1 C){d:Df}(h3:vb.length=3)(tJ:ds.length<=1000)
  (old:∀ i,ds[i]?=some d->Q (.p (.tuple [.int ((3 + i:Nat):Int),.bool false])) (stt fd pt vb ds ts++τ))
  (new:Q (.p (.tuple [.int ((3 + ds.length:Nat):Int),.bool true])) (stt fd pt vb (ds++[d]) ts++τ)) :
  SatCall C T1 (n + 2) 203 [.obj 2,.p (.tuple (wS d)),.p trD] (stt fd pt vb ds ts++τ) Q:=by
 have Bf:(vb++ze 3 ds).length=3 + ds.length:=by (erw [ao];erw [YG];erw [h3];rfl)
 have E6:=wQ (Zu d) ds 3
 unfold stt at *
 cases hf:jg (Zu d) 3 ds with
 | some j =>
  rw [hf] at E6
  refine Eea (xu hf) λ i hj he=>?_
  refine xw L (zAu d) (wi d) E6 ?_
  erw [hj];exact old i he
 | none =>
  rw [hf] at E6
  refine wF L (by erw [Bf];exact lin [_] [] (.a (.k 3) (.v 0)) (.k 10000) [(1,.l (.v 0) (.k 1000))] tT9 tJ) (by erw [uv];exact af tJ (nB9 rfl)) (zAu d) (wi d) E6 ?_
  erw [Bf]
  rw [XW,Xz,<- aI] at new
  exact new
end
theorem zX {X:List Int}(h:0<=p/\p<row.length):zB (row++X) p=zB row p:=by
 unfold zB
 have:p.toNat<row.length:=by exact lin [p.toNat,row.length] [p] (.a (.v 0) (.k 1)) (.v 1) [(1,.L (.a (.v 0) (.k 1)) (.c (.v 1))),(1,.E (.c (.v 0)) (.v 0))] tT9 h.2 (dN h.1)
 (erw [aX];erw [aC this];erw [aX];rfl)
theorem yI (h:k=row.length):zB (row++[v]) k=v:=by
 unfold zB
 (erw [bT];erw [h];erw [aX];erw [a5]);rfl
def In (k:Nat)(vs:List Int):Prop:=∀ v,v∈vs->0<=v/\v<(k:Int)
noncomputable def zk (row:List Int)(zs:List (Int×Int)):Int:=(zs.map λ z=>z.1 * zB row z.2).sum
noncomputable def bw (row:List Int)(p:Int×Bool):Int:=bif p.2 then zB row p.1 else 1 - zB row p.1
noncomputable def b2z (b:Bool):Int:=bif b then 1 else 0
noncomputable def ZG (row:List Int):Df->Bool
 | .reif zs c=>decide (zk row zs<=c)
 | .or vs=>vs.any λ v=>zB row v==1
 | .all ks=>ks.all λ p=>bw row p==1
noncomputable def qB:Df->List Int
 | .reif zs _=>zs.map (·.2)
 | .or vs=>vs
 | .all ks=>ks.map (·.1)
theorem qM {X:List Int}(h:In row.length (zs.map (·.2))):zk (row++X) zs=zk row zs:=by
 unfold zk
 refine congrArg List.sum (cr λ z m=>?_)
 erw [zX (h _ (az.mpr ⟨z,m,rfl⟩))];rfl
theorem qg {α:Type}{l:List α}{f g:α->Bool}(h:∀ a,a∈l->f a=g a):l.any f=l.any g:=by
 induction l with
 | nil=>rfl
 | cons a l ih=>(erw [cV];erw [cV];erw [h a (.head _)];erw [ih λ b m=>h b (.tail _ m)];rfl)
theorem z6 {α:Type}{l:List α}{f g:α->Bool}(h:∀ a,a∈l->f a=g a):l.all f=l.all g:=by
 induction l with
 | nil=>rfl
 | cons a l ih=>(erw [c5];erw [c5];erw [h a (.head _)];erw [ih λ b m=>h b (.tail _ m)];rfl)
theorem wj {X:List Int}{p:Int×Bool}(h:0<=p.1/\p.1<row.length):bw (row++X) p=bw row p:=by unfold bw;erw [zX h];rfl
theorem xQ {X:List Int}(h:In row.length (qB d)):ZG (row++X) d=ZG row d:=by
 cases d with
 | reif zs c=>show decide (zk _ _<=c)=_;erw [qM h];rfl
 | or vs=>exact qg λ v m=>by erw [zX (h v m)];rfl
 | all ks=>exact z6 λ p m=>by erw [wj (h p.1 (az.mpr ⟨p,m,rfl⟩))];rfl
noncomputable def run:List Int->List Df->List Int
 | row,[]=>row
 | row,d::r=>run (row++[b2z (ZG row d)]) r
theorem YZ :∀ {ds:List Df} {row:List Int},run row (ds++X)=run (run row ds) X:=by
 intro ds
 induction ds with
 | nil=>exact rfl
 | cons d r ih=>exact ih
theorem run_len:∀ {ds:List Df} {row:List Int},(run row ds).length=row.length + ds.length/\∃ Y,run row ds=row++Y:=by
 intro ds
 induction ds with
 | nil=>exact ⟨rfl,[],(aR _).symm⟩
 | cons d r ih =>
  intro row
  refine Ea (ih (row:=row++[b2z (ZG row d)])) λ h1 h=>Ee h λ Y h2=>?_
  refine ⟨?_,[b2z (ZG row d)]++Y,?_⟩
  ·show (run (row++[b2z (ZG row d)]) r).length=row.length + (r.length + 1)
   (erw [h1];erw [ao];erw [aD]);exact qK
  ·show run (row++[b2z (ZG row d)]) r=_
   erw [h2];exact aI ..
def B01 (i:Int):Prop:=i=0∨i=1
theorem zAx :B01 (b2z b):=by cases b;exact .inl rfl;exact .inr rfl
theorem uL:∀ {ds:List Df} {row:List Int} {i:Nat} {d:Df},ds[i]?=some d->∃ r X,run row ds=r++X/\r.length=row.length + i/\zB (run row ds) ((row.length + i:Nat):Int)=b2z (ZG r d):=by
 intro ds
 induction ds with
 | nil=>exact λ h=>nn h
 | cons e ds ih =>
  intro row i d h
  cases i with
  | zero =>
   obtain rfl:=so h
   refine Ee (run_len (ds:=ds) (row:=row++[b2z (ZG row e)])).2 λ Y hY=>?_
   have hY:run row (e::ds)=(row++[b2z (ZG row e)])++Y:=hY
   refine ⟨row,[b2z (ZG row e)]++Y,hY.trans (aI ..),rfl,?_⟩
   erw [hY]
   erw [zX (by simp;exact bF _)]
   exact yI rfl
  | succ i =>
   refine Eeeaa (ih (row:=row++[b2z (ZG row e)]) (i:=i) h) λ r X h1 h2 h3=>?_
   rw [ao,aD,qK] at h2 h3
   exact ⟨r,X,h1,h2,h3⟩
structure Gm where
 low:Int
 hole:Bool
 base:Int
variable {g:Gm}
structure GOk (g:Gm):Prop where
 low:Lm 2 g.low
 base:Lm 1 g.base
noncomputable def xd (g:Gm):List (Int×Int):=bif g.hole then [(g.low,g.low + 1),(g.low + 3,g.low + 3)] else [(g.low,g.low + 2)]
noncomputable def xs (g:Gm):List Int:=[g.low,g.low + 1,bif g.hole then g.low + 3 else g.low + 2]
structure BR (g:Gm)(row:List Int):Prop where
 h:∃ p q r,row=[p,q,r]/\p∈xs g/\(q=g.base∨q=g.base + 1)/\B01 r
theorem BR.len (h:BR g row):row.length=3:=by (refine Eeeea h.h λ p q r e _=>?_;erw [e];rfl)
noncomputable def ZU (g:Gm)(x:Int):List (Int×Int):=match x.toNat with
 | 0=>xd g
 | 1=>[(g.base,g.base + 1)]
 | _=>[(0,1)]
noncomputable def Yz (rs:List (Int×Int)):Int×Int:=((rs.headD (0,0)).1,(rs.getLastD (0,0)).2)
noncomputable def Bd (g:Gm)(x:Int):Int×Int:=Yz (ZU g x)
theorem XV (G:GOk g)(x:Int):(Lm 100 (Bd g x).1/\Lm 100 (Bd g x).2)/\(Bd g x).1<=(Bd g x).2:=by
 have up:∀ {a k:Int},0<=k->a<=a + k:=λ h=>gx h
 unfold Bd ZU xd
 split
 ·cases g.hole
  ·exact ⟨⟨G.low.le rfl,(G.low.add (k:=2) (b:=2) (aQ _)).le rfl⟩,up (by decide)⟩
  ·exact ⟨⟨G.low.le rfl,(G.low.add (k:=3) (b:=3) (aQ _)).le rfl⟩,up (by decide)⟩
 ·exact ⟨⟨G.base.le rfl,(G.base.add (k:=1) (b:=1) (aQ _)).le rfl⟩,up (by decide)⟩
 ·exact ⟨⟨bd _,Nat.succ_pos _⟩,bn 1⟩
noncomputable def vb0 (g:Gm):List ab:=[.tuple [.str "x",zw (xd g)],.tuple [.str "y",zw [(g.base,g.base + 1)]],.tuple [.str "b",zw [(0,1)]]]
def Tv (g:Gm)(x:Int):Prop:=ZU g x=[(0,1)]
theorem YX (h:BR g row):∀ x:Int,0<=x->x<3->((Bd g x).1<=zB row x/\zB row x<=(Bd g x).2)/\(Tv g x->B01 (zB row x)):=by
 (refine Eeeeaaa h.h λ p q r e hp hq hr=>?_)
 intro x x0 x3
 erw [e]
 have up:∀ {a k:Int},0<=k->a<=a + k:=λ h=>gx h
 rcases i3 x0 x3 with rfl | rfl | rfl
 ·show ((Yz (xd g)).1<=p/\p<=(Yz (xd g)).2)/\(xd g=[(0,1)]->B01 p)
  unfold xd
  unfold xs at hp
  cases hh:g.hole
  ·rw [hh] at hp
   have hp:p∈[g.low,g.low + 1,g.low + 2]:=hp
   simp only [aA,bW,or_false] at hp
   refine ⟨?_,λ e=>?_⟩
   ·show g.low<=p/\p<=g.low + 2
    rcases hp with e | e | e <;> rw [e]
    ·exact ⟨bF _,up (by decide)⟩
    ·exact ⟨up (by decide),nQ (by decide) _⟩
    ·exact ⟨up (by decide),bF _⟩
   have e:[(g.low,g.low + 2)]=[((0:Int),(1:Int))]:=e
   injection e with e
   injection e with e1 e2
   rw [e1] at e2
   exact nomatch e2
  ·rw [hh] at hp
   have hp:p∈[g.low,g.low + 1,g.low + 3]:=hp
   simp only [aA,bW,or_false] at hp
   refine ⟨?_,λ e=>?_⟩
   ·show g.low<=p/\p<=g.low + 3
    rcases hp with e | e | e <;> rw [e]
    ·exact ⟨bF _,up (by decide)⟩
    ·exact ⟨up (by decide),nQ (by decide) _⟩
    ·exact ⟨up (by decide),bF _⟩
   have e:[(g.low,g.low + 1),(g.low + 3,g.low + 3)]=[((0:Int),(1:Int))]:=e
   injection e with e e'
   exact nomatch e'
 ·show (g.base<=q/\q<=g.base + 1)/\([(g.base,g.base + 1)]=[(0,1)]->B01 q)
  refine ⟨by (rcases hq with e | e <;> rw [e]);exact ⟨bF _,up (by decide)⟩;exact ⟨up (by decide),bF _⟩,λ e=>?_⟩
  injection e with e
  injection e with e1 e2
  rw [e1] at hq
  exact hq
 ·show ((0:Int)<=r/\r<=1)/\(_->B01 r)
  exact ⟨hr.elim (λ e=>by rw [e];decide) (λ e=>by rw [e];decide),λ _=>hr⟩
theorem Jx {x:Int}(h:2<=x):Tv g x:=by
 unfold Tv ZU
 (refine Ee (cz (bh (by decide) h)) λ k e=>?_)
 subst e
 erw [bT]
 match k,h with
 | k + 2,_=>rfl
theorem JK (h:BR g row){x:Int}(x0:0<=x)(x1:x<((3 + ds.length:Nat):Int))(T:Tv g x):B01 (zB (run row ds) x):=by
 by_cases h3:x<3
 ·refine Ee (run_len (ds:=ds) (row:=row)).2 λ Y e=>?_
  erw [e]
  erw [zX (by erw [h.len];exact ⟨x0,h3⟩)]
  exact (YX h x x0 h3).2 T
 ·obtain ⟨i,rfl⟩:∃ i:Nat,x=((3 + i:Nat):Int):=⟨(x - 3).toNat,by omega⟩
  have hi:i<ds.length:=by exact lin [_,_] [] (.a (.v 0) (.k 1)) (.v 1) [(1,.L (.a (.c (.a (.k 3) (.v 0))) (.k 1)) (.c (.a (.k 3) (.v 1))))] tT9 x1
  refine Eeeaa (uL (row:=row) (ay hi)) λ r X _ _ h3=>?_
  rw [h.len] at h3
  erw [h3];exact zAx
noncomputable def bnd (B:Int->Int×Int):List (Int×Int)->Int×Int->Int×Int
 | [],p=>p
 | (x,a)::ps,(l,h)=>bnd B ps (l + ZK (a * (B x).1) [a * (B x).2],h + z8 (a * (B x).1) [a * (B x).2])
theorem zFs {B:Int->Int×Int}{x a l h:Int}:bnd B ((x,a)::ps) (l,h)=bnd B ps (l + ZK (a * (B x).1) [a * (B x).2],h + z8 (a * (B x).1) [a * (B x).2]):=rfl
theorem zEi {x:Int}:ZU g x≠[]:=by
 unfold ZU xd
 split
 ·cases g.hole <;> exact fS _ _
 ·exact fS _ _
 ·exact fS _ _
theorem Wg:∀ (ds:List Df) (k i:Nat),i<ds.length->(ze k ds)[i]?=some (.tuple [jQ (k + i),trD]):=by
 intro ds
 induction ds with
 | nil=>exact λ k i h=>absurd h (im i)
 | cons e ds ih =>
  intro k i h
  cases i with
  | zero=>rfl
  | succ i =>
   have:=ih (k + 1) i (mG h)
   rw [qK] at this
   exact this
theorem zBf {x:Int}(x0:0<=x)(x1:x<((3 + ds.length:Nat):Int)):∃ nm,(vb0 g++ze 3 ds)[x.toNat]?=some (.tuple [nm,zw (ZU g x)]):=by
 refine Ee (cz x0) λ k e=>?_
 subst e
 unfold ZU
 erw [bT]
 match k with
 | 0=>exact ⟨_,rfl⟩
 | 1=>exact ⟨_,rfl⟩
 | 2=>exact ⟨_,rfl⟩
 | k + 3=>exact ⟨_,Wg ds 3 k (by exact lin [_,_] [] (.a (.v 0) (.k 1)) (.v 1) [(1,.L (.a (.c (.a (.v 0) (.k 3))) (.k 1)) (.c (.a (.k 3) (.v 1))))] tT9 x1)⟩
section
variable {C:Cx}{n:Nat}{g:Gm}{fd:MO}{pt:D}{ds:List Df}{ts:List Td}{τ:zA}{Q:D->zA->Prop}
theorem zDD (L:Law1 C)(h:rs≠[]):(∀ {Q:D->zA->Prop},Q (.p (.int (Yz rs).1)) σ->SatCall C T1 (n + 1) 35 [.p (zw rs)] σ Q)/\∀ {Q:D->zA->Prop},Q (.p (.int (Yz rs).2)) σ->SatCall C T1 (n + 1) 42 [.p (zw rs)] σ Q:=by
 constructor
 ·intro Q q
  cases rs with
  | nil=>exact absurd rfl h
  | cons p r=>exact zBG L q
 ·intro Q q
  have e:=List.dropLast_concat_getLast h
  have e2:Yz rs=((rs.headD (0,0)).1,(rs.getLast h).2):=by unfold Yz;(refine rwE List.getLastD_eq_getLast? ?_;erw [List.getLast?_eq_some_getLast h]);rfl
  have e3:zw rs=.tuple (zR rs.dropLast++[.tuple [.int (rs.getLast h).1,.int (rs.getLast h).2]]):=by
   unfold zw zR
   (refine rwS (cI (f:=λ p:Int×Int=>ch [.int p.1,.int p.2])) ?_;refine rwS aW ?_;erw [e];rfl)
  erw [e3]
  rw [e2] at q
  exact XG L q
theorem Jz (L:Law1 C)(tJ:ds.length<=900){x:Int}(x0:0<=x)(x1:x<((3 + ds.length:Nat):Int))(q:Q (.p (zw (ZU g x))) (stt fd pt (vb0 g) ds ts++τ)):SatCall C T1 (n + 1) 125 [.obj 4,.p (.int x)] (stt fd pt (vb0 g) ds ts++τ) Q:=by
 refine Ee (zBf (g:=g) x0 x1) λ nm e=>?_
 refine Ee (cz x0) λ k e2=>?_
 subst e2
 rw [bT] at e
 exact Ub L (by exact lin [_,_] [] (.v 0) (.k 10000) [(1,.l (.v 1) (.k 900)),(1,.L (.a (.c (.v 0)) (.k 1)) (.c (.a (.k 3) (.v 1))))] tT9 tJ x1) e q
theorem Vu (L:Law1 C)(G:GOk g)(tJ:ds.length<=900){d1 d2:Option D}{S:Fl->Rho->zA->Prop}{K:Rho×zA->Prop}:∀ (ps:List (Int×Int)) (l h:Int) (u5 u6 u7:Option D),(∀ p,p∈ps->(0<=p.1/\p.1<3)/\Lm big p.2) ->
  (∀ v5 v6 v7,K ([some (.obj 2),d1,d2,some (.p (.int (bnd (Bd g) ps (l,h)).1)),some (.p (.int (bnd (Bd g) ps (l,h)).2)),v5,v6,v7],stt fd pt (vb0 g) ds ts++τ)) ->
  zT (zO C T1 (n + 1) (.tup [(.nm 5),(.nm 6)]) [(.asg (.pt (.nm 7)) (.tup [(.bin .Mult (.nm 6) (.call false (.gl 17) [(.meth (.attr (.nm 0) 10) 19 [(.nm 5)])])),(.bin .Mult (.nm 6) (.call false (.gl 18) [(.meth (.attr (.nm 0) 10) 19 [(.nm 5)])]))])),(.asg (.tup [(.pt (.nm 3)),(.pt (.nm 4))]) (.tup [(.bin .Add (.nm 3) (.call false (.gl 4) [(.nm 7)])),(.bin .Add (.nm 4) (.call false (.gl 3) [(.nm 7)]))]))] none S) (zR ps)
   ([some (.obj 2),d1,d2,some (.p (.int l)),some (.p (.int h)),u5,u6,u7],stt fd pt (vb0 g) ds ts++τ) K:=by
 intro ps
 induction ps with
 | nil=>exact λ l h u5 u6 u7 _ hk=>hk u5 u6 u7
 | cons p ps ih =>
  intro l h u5 u6 u7 hb hk
  obtain ⟨x,a⟩:=p
  refine Ea (hb (x,a) (.head _)) λ hx ha=>?_
  have HW:x<((3 + ds.length:Nat):Int):=by have:=hx.2;dsimp only at this;exact liZ [_] [_] (.a (.v 0) (.k 1)) (.c (.a (.k 3) (.v 0))) [(1,.L (.a (.v 0) (.k 1)) (.k 3))] tT9 hx.2
  have ce:=zDD (n:=n) (σ:=stt fd pt (vb0 g) ds ts++τ) L (zEi (g:=g) (x:=x))
  have B:=XV G x
  have fB:∀ i,Lm 100 i->Fit i:=λ i h=>zj (h.le rfl)
  show zO _ _ _ _ _ _ _ (ch [.int x,.int a]) _ (λ a'=>zT _ (zR ps) a' K)
  walk_at "go"
  refine Jz L tJ hx.1 HW ?_
  walk_at "go"
  refine ce.1 ?_
  walk_at "go"
  refine ⟨zj ha,fB _ B.1.1,Jz L tJ hx.1 HW ?_⟩
  walk_at "go"
  refine ce.2 ?_
  walk_at "go"
  refine ⟨zj ha,fB _ B.1.2,?_⟩
  walk_at "go"
  exact ih _ _ _ _ _ (λ q m=>hb q (.tail _ m)) λ v5 v6 v7=>hk v5 v6 v7
noncomputable def bounds (g:Gm)(t:Th):Int×Int:=bnd (Bd g) (zJ t) (cOf t,cOf t)
theorem vC (L:Law1 C)(G:GOk g)(tJ:ds.length<=900){t:Th}(V:VOk A c t)(hA:cA A big=true)(q:Q (.p (.tuple [.int (bounds g t).1,.int (bounds g t).2])) (stt fd pt (vb0 g) ds ts++τ)) :
  SatCall C T1 (n + 3) 210 [.obj 2,.p (enc t)] (stt fd pt (vb0 g) ds ts++τ) Q:=by
 refine zK L.Y L.TT L.bounds rfl ?_
 unfold Y1
 walk_at "go"
 refine yT L ?_
 unfold JD
 walk_at "go"
 refine ⟨by erw [zl];exact af V.len (nB9 rfl),Vu L G tJ _ _ _ _ _ _ (λ p m=>⟨V.keys p m,(V.co p m).le hA⟩) λ v5 v6 v7=>?_⟩
 walk_at "go"
 exact zD rfl q
end
theorem mn2 (x y:Int):ZK x [y]=min x y:=by
 (erw [UZ];erw [uj])
 rcases mU x y with h | h
 ·(erw [Int.min_eq_left h];erw [if_neg (dJ.mpr h)];rfl)
 ·erw [Int.min_eq_right h];split
  ·rfl
  ·exact be (dJ.mp ‹_›) h
theorem mx2 (x y:Int):z8 x [y]=max x y:=by
 (erw [jh];erw [uB])
 rcases mU x y with h | h
 ·erw [Int.max_eq_right h];split
  ·rfl
  ·exact be h (dJ.mp ‹_›)
 ·(erw [Int.max_eq_left h];erw [if_neg (dJ.mpr h)];rfl)
theorem zDL {a:Int}(h1:lo<=v)(h2:v<=hi):ZK (a * lo) [a * hi]<=a * v/\a * v<=z8 (a * lo) [a * hi]:=by
 (erw [mn2];erw [mx2])
 rcases mU 0 a with h | h
 ·exact ⟨bh (Int.min_le_left ..) (lf h1 h),bh (lf h2 h) (Int.le_max_right ..)⟩
 ·exact ⟨bh (Int.min_le_right ..) (lg h h2),bh (lg h h1) (Int.le_max_left ..)⟩
theorem zCF {B:Int->Int×Int}{l:List Int}:∀ {ps:List (Int×Int)} {lo hi c:Int},(∀ p,p∈ps->(B p.1).1<=zB l p.1/\zB l p.1<=(B p.1).2)->lo<=c/\c<=hi->(bnd B ps (lo,hi)).1<=c + (zZ l ps).sum/\c + (zZ l ps).sum<=(bnd B ps (lo,hi)).2:=by
 intro ps
 induction ps with
 | nil=>exact λ _ hc=>by show _<=_ + 0/\_ + 0<=_;erw [b9];exact hc
 | cons p ps ih =>
  obtain ⟨x,a⟩:=p
  intro lo hi c h hc
  have h1:=h (x,a) (.head _)
  have h2:=zDL (a:=a) h1.1 h1.2
  have h3:=ih (lo:=lo + ZK (a * (B x).1) [a * (B x).2]) (hi:=hi + z8 (a * (B x).1) [a * (B x).2]) (c:=c + a * zB l x) (λ p m=>h p (.tail _ m)) ⟨pP hc.1 h2.1,pP hc.2 h2.2⟩
  show (bnd B ps _).1<=c + (a * zB l x::zZ l ps).sum/\c + (a * zB l x::zZ l ps).sum<=(bnd B ps _).2
  (erw [List.sum_cons];refine rwS (gQ ..) ?_);exact h3
theorem wo {t:Th}(V:VOk A c t)(h:BR g row):(bounds g t).1<=zH row t/\zH row t<=(bounds g t).2 :=
 zCF (λ p m=>(YX h p.1 (V.keys p m).1 (V.keys p m).2).1) ⟨bF _,bF _⟩
structure LeOk (g:Gm)(zs:List (Int×Int))(k:Int):Prop where
 refs:In 3 (zs.map (·.2))
 ne:zs≠[]
 len:zs.length<=3
 nz:∀ z,z∈zs->z.1≠0
 co:∀ z,z∈zs->Lm big z.1
 one:∀ a v,zs=[(a,v)]->Tv g v->(0<=k∨a<=k)/\(k<0∨k<a)
noncomputable def Qg (h:Int)(ps:List (Int×Int)):List (Int×Int):=ps.map λ p=>(p.2.fdiv h,p.1)
theorem zB2 {h:Int}:∀ {ps:List (Int×Int)},(∀ p,p∈ps->h ∣ p.2)->h * zk row (Qg h ps)=(zZ row ps).sum:=by
 intro ps
 induction ps with
 | nil=>exact λ _=>dU h
 | cons p ps ih =>
  intro hp
  show h * (p.2.fdiv h * zB row p.1 + zk row (Qg h ps))=p.2 * zB row p.1 + (zZ row ps).sum
  (erw [gC];erw [ih λ q m=>hp q (.tail _ m)];refine rwS (lV ..) ?_;erw [iS (hp p (.head _))];rfl)
theorem zDI {h e:Int}(h0:0<h)(hp:∀ p,p∈ps->h ∣ p.2):zk row (Qg h ps)<=(-e).fdiv h ↔ e + (zZ row ps).sum<=0:=by
 rw [gy _ (cg h0),mV h0,ry,zB2 hp]
 omega
theorem zDC {t:Th}{h:Int}(V:VOk A c t)(hA:cA A big=true)(h0:0<h)(hp:∀ p,p∈zJ t->h ∣ p.2)(b1:(bounds g t).1<=0)(b2:0<(bounds g t).2):LeOk g (Qg h (zJ t)) ((-cOf t).fdiv h):=by
 have HG:∀ p,p∈zJ t->Lm big (p.2.fdiv h)/\p.2.fdiv h≠0:=λ p m=>by
  have:=(V.co p m).le hA
  refine ⟨?_,λ e=>V.nz p m ?_⟩
  ·unfold Lm at *
   erw [gy _ (cg h0)]
   exact af (Int.natAbs_ediv_le_natAbs _ _) this
  ·have:=iS (hp p m)
   rw [e,dU] at this;exact this.symm
 refine ⟨λ v m=>?_,λ e=>?_,by unfold Qg;erw [ah];exact V.len,λ z m=>?_,λ z m=>?_,λ a v e T=>?_⟩
 ·rw [show (Qg h (zJ t)).map (·.2)=(zJ t).map (·.1) by unfold Qg;rw [bz];rfl] at m
  (refine Eea (az.mp m) λ p mp q=>?_;refine rwS q ?_);exact V.keys p mp
 ·have e:=bY.mp e
  unfold bounds at b1 b2
  rw [e] at b1 b2
  exact absurd (dm b2 b1) (rf _)
 ·(refine Eea (az.mp m) λ p mp q=>?_;refine rwS q ?_);exact (HG p mp).2
 ·(refine Eea (az.mp m) λ p mp q=>?_;refine rwS q ?_);exact (HG p mp).1
 ·cases AN:zJ t with
  | nil=>rw [AN] at e;exact nomatch e
  | cons p r =>
   rw [AN] at e
   obtain ⟨e1,e2⟩:=dI e
   obtain rfl:=bY.mp e2
   obtain ⟨e3,e4⟩:=dT e1
   have T':Bd g p.1=(0,1):=by unfold Bd;(erw [e4];erw [T]);rfl
   have hb:bounds g t=(cOf t + ZK (p.2 * 0) [p.2 * 1],cOf t + z8 (p.2 * 0) [p.2 * 1]):=by unfold bounds;erw [AN];show bnd _ [(p.1,p.2)] _=_;(erw [zFs];erw [T']);rfl
   rw [hb] at b1 b2
   have ea:h * a=p.2:=by refine rwS (e3 ..) ?_;exact iS (hp p (by erw [AN];exact .head _))
   have key:∀ w:Int,w<=(-cOf t).fdiv h ↔ w * h<=-cOf t:=λ w=>by erw [gy _ (cg h0)];exact mV h0
   have k0:=key 0
   have ka:=key a
   rw [ry a h,ea] at ka
   rw [mD] at k0
   have b1:cOf t + ZK (p.2 * 0) [p.2 * 1]<=0:=b1
   have b2:0<cOf t + z8 (p.2 * 0) [p.2 * 1]:=b2
   rw [mn2,dU,nE] at b1
   rw [mx2,dU,nE] at b2
   omega
section
variable {C:Cx}{n:Nat}{g:Gm}{fd:MO}{pt:D}{ds:List Df}{ts:List Td}{τ:zA}{Q:D->zA->Prop}
noncomputable def leS:ab:=.str "linear_le"
theorem zAa (L:Law1 C)(G:GOk g)(tJ:ds.length<=900){t:Th}(V:VOk A c t)(hA:cA A big=true)
  (q1:∀ b:Bool,(∀ row,BR g row->decide (zH row t<=0)=b)->Q (.p (.bool b)) (stt fd pt (vb0 g) ds ts++τ))
  (q2:∀ zs k,LeOk g zs k->(∀ row,BR g row->decide (zH row t<=0)=decide (zk row zs<=k))->Q (.p (leD zs k)) (stt fd pt (vb0 g) ds ts++τ)) :
  SatCall C T1 (n + 4) 232 [.obj 2,.p leS,.p (enc t)] (stt fd pt (vb0 g) ds ts++τ) Q:=by
 have tn:zE fd pt (vb0 g++ze 3 ds) (ts.map zN) (zm 3 ds)++τ=stt fd pt (vb0 g) ds ts++τ:=rfl
 have hin:=λ row (h:BR g row)=>wo V h
 refine zK L.Y L.TT L.row rfl ?_
 unfold Xa leS
 refine zC ?_
 walk_at "st"
 refine vC L G tJ V hA ?_
 walk_at "st"
 refine yT L ?_
 unfold JD
 walk_at "st"
 refine zC ?_
 walk_at "st"
 refine zC ?_
 walk_at "st"
 refine ⟨λ h=>?_,λ h=>⟨λ h1=>?_,λ h1=>?_⟩⟩
 ·walk_at "go"
  erw [decide_eq_true h]
  exact zD rfl (q1 true λ row hr=>decide_eq_true (bh (hin row hr).2 h))
 ·walk_at "go"
  erw [decide_eq_false h]
  exact zD rfl (q1 false λ row hr=>decide_eq_false λ e=>absurd (dm h1 (bh (hin row hr).1 e)) (rf _))
 ·have len:=V.len
  have AN:(zR (zJ t)).length<=100000:=by erw [zl];exact af len (nB9 rfl)
  have tL:([]:List ab).length + (zJ t).length<=90000:=af (aL len 0) (by decide)
  walk_at "st"
  refine zC ?_
  walk_at "st"
  refine ⟨AN,qb (f:=λ p:Int×Int=>.tuple [.int p.1,.int p.2]) (h:=λ p=>.int p.2) (zJ t) [] tL (λ p m acc K ha k=>by walk_at "st";exact ⟨ha,k⟩) ?_⟩
  unfold zi
  erw [a6]
  have e0:(zJ t).map (λ p=>bH p.2)=((zJ t).map (·.2)).map .int:=(bz ..).symm
  erw [e0]
  walk_at "st"
  have hb:∀ a,a∈(zJ t).map (·.2)->Lm big a:=λ a m=>by (refine Eea (az.mp m) λ p mp q=>?_;refine rwS q ?_);exact (V.co p mp).le hA
  refine zA6 L (by erw [ah];exact af len (by decide)) hb ?_
  generalize hg:comL ((zJ t).map (·.2)) 0=gg
  have Fc:∀ p,p∈zJ t->(gg:Int) ∣ p.2:=λ p m=>hg▸(xZ (l:=(zJ t).map (·.2)) (f:=0)).2 p.2 (az.mpr ⟨p,m,rfl⟩)
  have tj:zJ t≠[]:=λ e=>by
   unfold bounds at h h1
   rw [e] at h h1
   exact h1 (dZ.mp h)
  have IS:0<gg:=by
   cases BK:zJ t with
   | nil=>exact absurd BK tj
   | cons p r =>
    have m:p∈zJ t:=by erw [BK];exact .head _
    refine kn λ e=>V.nz p m ?_
    have:=Fc p m
    rw [e] at this
    exact Int.zero_dvd.mp this
  have Iu:Lm big (gg:Int):=by
   cases BK:zJ t with
   | nil=>exact absurd BK tj
   | cons p r =>
    have m:p∈zJ t:=by erw [BK];exact .head _
    have h1:=m5.mpr (Fc p m)
    exact af (Nat.le_of_dvd (kn λ e=>V.nz p m (Int.natAbs_eq_zero.mp e)) h1) ((V.co p m).le hA)
  have C4:(0:Int)<gg:=cK.mpr IS
  have nz:Nz (gg:Int):=J9 (mE C4) Iu
  walk_at "go"
  refine ⟨AN,qb (f:=λ p:Int×Int=>.tuple [.int p.1,.int p.2]) (h:=λ p=>.int (p.2.fdiv gg)) (zJ t) [] tL (λ p m acc K ha k=>by walk_at "st";exact ⟨nz,ha,k⟩) ?_⟩
  unfold zi
  erw [a6]
  walk_at "st"
  refine ⟨by erw [ah];exact af len (nB9 rfl),AN,qb (f:=λ p:Int×Int=>.tuple [.int p.1,.int p.2]) (h:=λ p=>.int p.1) (zJ t) [] tL (λ p m acc K ha k=>by walk_at "st";exact ⟨ha,k⟩) ?_⟩
  walk_at "st"
  refine ⟨by erw [ah];exact af len (nB9 rfl),nz,?_⟩
  have fin:=q2 (Qg gg (zJ t)) ((-cOf t).fdiv gg) (zDC V hA C4 Fc (dJ.mp h1) (dZ.mp h)) λ row hr=>decide_eq_decide.mpr (zDI C4 Fc).symm
  have e1:leD (Qg gg (zJ t)) ((-cOf t).fdiv gg)=.tuple [.str "linear_le",.tuple ((zJ t).map λ p=>.int (p.2.fdiv gg)),.tuple ((zJ t).map λ p=>.int p.1),.int ((-cOf t).fdiv gg)]:=by
   unfold leD Qg;(erw [bz];erw [bz];erw [bz];erw [bz]);rfl
  rw [e1] at fin
  exact zD rfl fin
end
noncomputable def J5 (n:Nat):KasT (Array Nat)->Bool
 | .ret p=>(ia n).all (λ i=>p.toList.contains i)&&(p.toList.all (λ i=>eR i n)&&aZ p.toList.length n)
 | .ask _ _ k=>J5 n (k true)&&J5 n (k false)
theorem vB {lt:Nat->Nat->Bool}:∀ {t:KasT (Array Nat)},J5 n t=true->((ia n).all (λ i=>(qo lt t).toList.contains i)&&((qo lt t).toList.all (λ i=>eR i n)&&aZ (qo lt t).toList.length n))=true:=by
 intro t
 induction t with
 | ret p=>exact λ h=>h
 | ask i j k ih =>
  intro h
  refine Ea (zQ h) λ h1 h2=>?_
  refine rwE (show qo lt (.ask i j k)=qo lt (k (lt i j)) from rfl) ?_
  cases lt i j
  ·exact ih false h2
  ·exact ih true h1
structure SortOk (l:List (Int×Bool)):Prop where
 ok:BitsOk l
 mem:∀ p,p∈zb l ↔ p∈l
 len:(zb l).length=l.length
theorem Y3 {l:List (Int×Bool)}(h2:eR l.length 2=false)(h:J5 l.length (kx l.length)=true)(hb:BitsOk l):SortOk l:=by
 have h:=vB (lt:=ltB l) h
 refine Ea (zQ h) λ h1 h=>?_
 refine Ea (zQ h) λ h3 h4=>?_
 have e:zb l=US l (qo (ltB l) (kx l.length)):=by unfold zb;erw [h2];rfl
 have at_:∀ i,i<l.length->atB l i∈l:=λ i hi=>by
  unfold atB
  (erw [aX];erw [ay hi])
  exact kR hi
 refine ⟨hb,λ p=>?_,?_⟩
 ·erw [e]
  unfold US
  constructor
  ·intro m
   (refine Eea (az.mp m) λ i mi q=>?_;refine rwS q ?_)
   exact at_ i (Nat.blt_eq.mp (aY.mp h3 i mi))
  ·intro m
   refine Ee (aN.mp m) λ i hi=>?_
   have sW:=(aq.mp hi).1
   refine az.mpr ⟨i,iB.mp (aY.mp h1 i (lF.mpr sW)),?_⟩
   unfold atB
   (erw [aX];erw [hi]);rfl
 ·erw [e]
  unfold US
  erw [ah]
  exact du h4
theorem jv {l:List (Int×Bool)}(h:eR l.length 2=true)(hb:BitsOk l):SortOk l:=by
 have e:zb l=l:=by unfold zb;erw [h];rfl
 refine ⟨hb,λ p=>?_,?_⟩ <;> erw [e]
 ·exact rj
 ·rfl
theorem Qu {l:List (Int×Bool)}(h:l.length<=4):SortOk l:=by
 have hn:∀ k,k<=4->k=0∨k=1∨k=2∨k=3∨k=4:=by decide
 rcases hn _ h with h | h | h | h | h
 ·exact jv (by erw [h];rfl) ⟨by erw [h];decide,by erw [h];rfl⟩
 ·exact jv (by erw [h];rfl) ⟨by erw [h];decide,by erw [h];rfl⟩
 ·exact Y3 (by erw [h];rfl) (by erw [h];rfl) (vi h)
 ·exact Y3 (by erw [h];rfl) (by erw [h];rfl) (Vt h)
 ·exact Y3 (by erw [h];rfl) (by erw [h];rfl) ⟨by erw [h];decide,by erw [h];rfl⟩
theorem mem_ups {l:List (Int×Bool)}{x:Int}:(x∈qX l ↔ (x,true)∈l)/\(x∈ZZ l ↔ (x,false)∈l):=by
 unfold qX ZZ
 refine ⟨⟨λ m=>?_,λ m=>az.mpr ⟨_,bM.mpr ⟨m,rfl⟩,rfl⟩⟩,λ m=>?_,λ m=>az.mpr ⟨_,bM.mpr ⟨m,rfl⟩,rfl⟩⟩
 ·refine Eea (az.mp m) λ p mp q=>?_
  refine Ea (bM.mp mp) λ m1 m2=>?_
  exact (show (x,true)=p from kA q.symm (show true=p.2 from m2.symm))▸m1
 ·refine Eea (az.mp m) λ p mp q=>?_
  refine Ea (bM.mp mp) λ m1 m2=>?_
  exact (show (x,false)=p from kA q.symm (show false=p.2 by cases hp:p.2;rfl;rw [hp] at m2;exact a8 m2))▸m1
theorem qf {l:List (Int×Bool)}(h:l.length<=4){x:Int}:(x∈zg (dd (qX (zb l))) ↔ (x,true)∈l)/\(x∈zg (dd (ZZ (zb l))) ↔ (x,false)∈l):=by
 have S:=Qu h
 exact ⟨mem_sortI.trans (mem_dd.trans (mem_ups.1.trans (S.mem _))),mem_sortI.trans (mem_dd.trans (mem_ups.2.trans (S.mem _)))⟩
noncomputable def mxL (l:List Int):Int:=match l with
 | []=>0
 | a::r=>z8 a r
noncomputable def mnL (l:List Int):Int:=match l with
 | []=>0
 | a::r=>ZK a r
noncomputable def zI (row:List Int):Td->Bool
 | .le zs c=>decide (zk row zs<=c)
 | .reif z zs c=>decide (zk row zs<=c)==(zB row z==1)
 | .bo mx vs z=>zB row z==bif mx then mxL (vs.map (zB row)) else mnL (vs.map (zB row))
 | .cl us ds=>(us.any λ v=>zB row v==1) || ds.any λ v=>zB row v==0
noncomputable def qZ:Td->List Int
 | .le zs _=>zs.map (·.2)
 | .reif z zs _=>z::zs.map (·.2)
 | .bo _ vs z=>vs++[z]
 | .cl us ds=>us++ds
noncomputable def zGj:Td->List Int
 | .le zs _=>zs.map (·.1)
 | .reif _ zs _=>zs.map (·.1)
 | _=>[]
noncomputable def neT:Td->Prop
 | .bo _ vs _=>vs≠[]
 | _=>True
structure TdOk (k:Nat)(t:Td):Prop where
 refs:In k (qZ t)
 len:(qZ t).length<=20
 co:∀ z,z∈zGj t->Lm big z
 ne:neT t
theorem ue {X:List Int}{t:Td}(h:In row.length (qZ t)):zI (row++X) t=zI row t:=by
 cases t with
 | le zs c=>show decide (zk _ _<=c)=_;erw [qM h];rfl
 | reif z zs c =>
  show (decide (zk _ _<=c)==(zB _ z==1))=_
  (erw [qM λ v m=>h v (.tail _ m)];erw [zX (h z (.head _))];rfl)
 | bo mx vs z =>
  have e:vs.map (zB (row++X))=vs.map (zB row):=cr λ v m=>zX (h v (bO _ m))
  show (zB _ z==bif mx then mxL (vs.map (zB (row++X))) else mnL (vs.map (zB (row++X))))=_
  (erw [e];erw [zX (h z (bj _ (.head _)))];rfl)
 | cl us ds =>
  show ((us.any _) || (ds.any _))=_
  (erw [qg (f:=λ v=>zB (row++X) v==1) (g:=λ v=>zB row v==1) λ v m=>by refine rwE (zX (h v (bO _ m))) ?_;rfl])
  (erw [qg (f:=λ v=>zB (row++X) v==0) (g:=λ v=>zB row v==0) λ v m=>by refine rwE (zX (h v (bj _ m))) ?_;rfl])
  rfl
theorem JO {l:List (Int×Bool)}(h:l.length<=4):zI row (zo l)=l.any λ p=>bw row p==1:=by
 have hb:∀ p:Int×Bool,(bw row p==1)=bif p.2 then zB row p.1==1 else zB row p.1==0:=λ p=>by
  obtain ⟨x,s⟩:=p
  cases s
  ·show (1 - zB row x==1)=(zB row x==0)
   by_cases h:zB row x=0
   ·erw [h];rfl
   ·rw [beq_eq_false_iff_ne.mpr h];exact beq_eq_false_iff_ne.mpr (by omega)
  ·rfl
 rw [iz]
 show ((kL _ _) || (kL _ _))=true ↔ _
 rw [f8,bv,bv,bv]
 constructor
 ·rintro (⟨x,m,e⟩ | ⟨x,m,e⟩)
  ·exact ⟨_,(qf h).1.mp m,by erw [hb];exact e⟩
  ·exact ⟨_,(qf h).2.mp m,by erw [hb];exact e⟩
 ·rintro ⟨⟨x,s⟩,m,e⟩
  rw [hb] at e
  cases s
  ·exact .inr ⟨x,(qf h).2.mpr m,e⟩
  ·exact .inl ⟨x,(qf h).1.mpr m,e⟩
@[elab_as_elim] theorem B01.el {P:Int->Prop}{x:Int}(h:B01 x)(h0:P 0)(h1:P 1):P x:=h.elim (λ e=>e▸h0) λ e=>e▸h1
theorem zGl:∀ {l:List Int} {a:Int},B01 a->(∀ v,v∈l->B01 v)->z8 a l=b2z (a==1 || l.any (·==1))/\ZK a l=b2z (a==1&&l.all (·==1)):=by
 intro l
 induction l with
 | nil=>exact λ ha _=>ha.el ⟨rfl,rfl⟩ ⟨rfl,rfl⟩
 | cons b l ih =>
  intro a ha h
  have hb:=h b (.head _)
  have i0:=ih (a:=0) (.inl rfl) λ v m=>h v (.tail _ m)
  have i1:=ih (a:=1) (.inr rfl) λ v m=>h v (.tail _ m)
  exact ha.el (hb.el ⟨i0.1,i0.2⟩ ⟨i1.1,i0.2⟩) (hb.el ⟨i1.1,i0.2⟩ ⟨i1.1,i1.2⟩)
theorem mxv {l:List Int}(hn:l≠[])(h:∀ v,v∈l->B01 v):mxL l=b2z (l.any (·==1))/\mnL l=b2z (l.all (·==1)):=by
 cases l with
 | nil=>exact absurd rfl hn
 | cons a r=>exact zGl (h a (.head _)) λ v m=>h v (.tail _ m)
noncomputable def tvD (g:Gm):Df->Prop
 | .reif _ _=>True
 | .or vs=>∀ v,v∈vs->Tv g v
 | .all ks=>∀ p,p∈ks->Tv g p.1
noncomputable def coD:Df->List Int
 | .reif zs _=>zs.map (·.1)
 | _=>[]
structure DfOk (g:Gm)(k:Nat)(d:Df):Prop where
 refs:In k (qB d)
 len:(qB d).length<=3
 ne:qB d≠[]
 tv:tvD g d
 co:∀ z,z∈coD d->Lm big z
theorem In.up {m:Nat}{vs:List Int}(h:In k vs)(e:k<=m):In m vs:=λ v x=>⟨(h v x).1,dm (h v x).2 (dW.mpr e)⟩
theorem wO {l:List (Int×Bool)}(h:l.length<=4)(hr:∀ p,p∈l->0<=p.1/\p.1<(k:Int)):TdOk k (zo l):=by
 have S:=Qu h
 refine ⟨λ v m=>?_,?_,λ z m=>(nomatch m),trivial⟩
 ·rcases bg.mp m with m | m
  ·exact hr _ ((qf h).1.mp m)
  ·exact hr _ ((qf h).2.mp m)
 ·have hu:∀ l:List Int,(dd l).length<=l.length:=λ l=>by
   induction l with
   | nil=>exact aQ _
   | cons a r ih =>
    show (if a∈r then dd r else a::dd r).length<=r.length + 1
    split
    ·exact fK ih
    ·exact bp ih
  show (zg _++zg _).length<=20
  (erw [ao];erw [Zk];erw [Zk])
  have h1:=hu (qX (zb l))
  have h2:=hu (ZZ (zb l))
  unfold qX ZZ at *
  rw [ah] at h1 h2
  have h3:=cH (λ p:Int×Bool=>p.2) (zb l)
  have h4:=cH (λ p:Int×Bool=>!p.2) (zb l)
  have:=S.len
  omega
theorem xX (S:DfOk g k d){t:Td}(ht:t∈Zf (k:Int) d):TdOk (k + 1) t/\(k:Int)∈qZ t:=by
 have hk:0<=(k:Int)/\(k:Int)<((k + 1:Nat):Int):=⟨bn k,cK.mpr (aU k)⟩
 have old:In (k + 1) (qB d):=S.refs.up (cT k)
 have len:=S.len
 cases d with
 | reif zs c =>
  refine z7 ht ?_
  exact ⟨⟨λ v m=>by refine Zo m ?_ λ m=>?_;exact hk;exact old v m,af (bp len) (by decide),S.co,trivial⟩,.head _⟩
 | or vs =>
  refine z7 ht ?_
  refine ⟨⟨λ v m=>?_,?_,λ z m=>(nomatch m),S.ne⟩,bj _ (.head _)⟩
  ·rcases bg.mp m with m | m
   ·exact old v m
   ·refine z7 m ?_;exact hk
  ·show (vs++[_]).length<=20
   (erw [ao];erw [aD]);exact af (bp len) (by decide)
 | all ks =>
  have len:ks.length<=3:=by have:(ks.map (·.1)).length<=3:=len;rwa [ah] at this
  have Ey:∀ p,p∈ks->0<=p.1/\p.1<((k + 1:Nat):Int):=λ p m=>old p.1 (az.mpr ⟨p,m,rfl⟩)
  have e:Zf (k:Int) (.all ks)=bif ks.all (·.2) then [.bo false (ks.map (·.1)) k] else (ks.map λ x=>zo [((k:Int),false),x])++[zo (((k:Int),true)::ks.map flp)]:=rfl
  rw [e] at ht
  cases hs:ks.all (·.2)
  ·rw [hs] at ht
   rcases bg.mp ht with m | m
   ·(refine Eea (az.mp m) λ p mp q=>?_;refine rwS q ?_)
    refine ⟨wO (show 2<=4 by decide) λ x m=>?_,bj _ ((qf (l:=[((k:Int),false),p]) (show 2<=4 by decide)).2.mpr (.head _))⟩
    refine Zo m ?_ λ m=>?_
    ·exact hk
    ·refine z7 m ?_;exact Ey p mp
   ·refine z7 m ?_
    have h4:(((k:Int),true)::ks.map flp).length<=4:=by (erw [a9];erw [ah]);exact bp len
    refine ⟨wO h4 λ x m=>?_,bO _ ((qf h4).1.mpr (.head _))⟩
    refine Zo m ?_ λ m=>?_
    ·exact hk
    ·(refine Eea (az.mp m) λ p mp q=>?_;refine rwS q ?_);exact Ey p mp
  ·rw [hs] at ht
   refine z7 ht ?_
   refine ⟨⟨λ v m=>?_,?_,λ z m=>(nomatch m),S.ne⟩,bj _ (.head _)⟩
   ·rcases bg.mp m with m | m
    ·exact old v m
    ·refine z7 m ?_;exact hk
   ·show (ks.map (λ p:Int×Bool=>p.1)++[_]).length<=20
    (erw [ao];erw [aD];erw [ah]);exact af (bp len) (by decide)
theorem jl {p:Int×Bool}(h:B01 (zB row p.1)):(bw row (flp p)==1)=!(bw row p==1):=by
 obtain ⟨x,s⟩:=p
 have h:B01 (zB row x):=h
 have key:∀ y,B01 y->((y==1)=!((1 - y)==1))/\(((1 - y)==1)=!(y==1)):=λ y h=>h.el ⟨rfl,rfl⟩ ⟨rfl,rfl⟩
 cases s
 ·exact (key _ h).1
 ·exact (key _ h).2
theorem zGs {α:Type}{l:List α}:(l.all λ _=>true)=true:=aY.mpr λ _ _=>rfl
theorem jf {l:List Int}(S:DfOk g k d)(hk:l.length=k)(Fq:∀ v,v∈qB d->Tv g v->B01 (zB l v))(hw:B01 w):(Zf (k:Int) d).all (zI (l++[w]))=decide (w=b2z (ZG l d)):=by
 have hz:zB (l++[w]) (k:Int)=w:=yI hk.symm
 have old:∀ v,v∈qB d->zB (l++[w]) v=zB l v:=λ v m=>zX (by erw [hk];exact S.refs v m)
 have tv:=S.tv
 have ne:=S.ne
 have len:=S.len
 cases d with
 | reif zs c =>
  show ((decide (zk (l++[w]) zs<=c)==(zB (l++[w]) k==1))&&true)=decide (w=b2z (decide (zk l zs<=c)))
  (erw [hz];erw [qM (by rw [hk];exact S.refs)])
  generalize decide (zk l zs<=c)=b
  cases b <;> exact hw.el rfl rfl
 | or vs =>
  show ((zB (l++[w]) k==mxL (vs.map (zB (l++[w]))))&&true)=decide (w=b2z (vs.any λ v=>zB l v==1))
  have e:vs.map (zB (l++[w]))=vs.map (zB l):=cr old
  have tv:∀ v,v∈vs->Tv g v:=tv
  (erw [hz];erw [e];erw [(mxv (l:=vs.map (zB l)) (λ e=>ne (bY.mp e)) λ v m=>by (refine Eea (az.mp m) λ x mx q=>?_;refine rwS q ?_);exact Fq x mx (tv x mx)).1];erw [ed])
  show ((w==b2z (vs.any λ v=>zB l v==1))&&true)=_
  generalize (vs.any λ v=>zB l v==1)=b
  cases b <;> exact hw.el rfl rfl
 | all ks =>
  have len:ks.length<=3:=by have:(ks.map (·.1)).length<=3:=len;rwa [ah] at this
  have tv:∀ p,p∈ks->Tv g p.1:=tv
  have hr:∀ p,p∈ks->p.1∈qB (.all ks):=λ p m=>az.mpr ⟨p,m,rfl⟩
  have hb:∀ p,p∈ks->B01 (zB l p.1):=λ p m=>Fq _ (hr p m) (tv p m)
  have I5:∀ p,p∈ks->bw (l++[w]) p=bw l p:=λ p m=>by unfold bw;(erw [old _ (hr p m)];rfl)
  have e:Zf (k:Int) (.all ks)=bif ks.all (·.2) then [.bo false (ks.map (·.1)) k] else (ks.map λ x=>zo [((k:Int),false),x])++[zo (((k:Int),true)::ks.map flp)]:=rfl
  erw [e]
  cases hs:ks.all (·.2)
  ·show ((ks.map λ x=>zo [((k:Int),false),x])++[zo (((k:Int),true)::ks.map flp)]).all (zI (l++[w]))=decide (w=b2z (ks.all λ p=>bw l p==1))
   (erw [cQ];erw [gh])
   have e1:(ks.all (zI (l++[w]) ∘ λ x=>zo [((k:Int),false),x]))=ks.all λ p=>(w==0) || (bw l p==1):=z6 λ p m=>by
    show zI (l++[w]) (zo [((k:Int),false),p])=_
    erw [JO (l:=[((k:Int),false),p]) (show 2<=4 by decide)]
    show ((1 - zB (l++[w]) k==1) || ((bw (l++[w]) p==1) || false))=_
    (erw [hz];erw [I5 p m];erw [cW])
    exact hw.el rfl rfl
   have e2:zI (l++[w]) (zo (((k:Int),true)::ks.map flp))=((w==1) || ks.any λ p=>!(bw l p==1)):=by
    erw [JO (by rw [a9,ah];exact bp len)]
    show ((zB (l++[w]) k==1) || ((ks.map flp).any λ p=>bw (l++[w]) p==1))=_
    (erw [hz];erw [ed])
    refine congrArg _ (qg λ p m=>?_)
    show (bw (l++[w]) (flp p)==1)=_
    rw [show bw (l++[w]) (flp p)=bw l (flp p) by unfold bw flp;rw [old _ (hr p m)]]
    exact jl (hb p m)
   rw [e1]
   show (_&&(zI (l++[w]) (zo (((k:Int),true)::ks.map flp))&&true))=_
   (erw [e2];erw [cZ];erw [fD])
   have e3:(ks.all λ p=>!!(bw l p==1))=ks.all λ p=>bw l p==1:=z6 λ p _=>kM _
   erw [e3]
   refine hw.el ?_ ?_
   ·show ((ks.all λ _=>true)&&!(ks.all λ p=>bw l p==1))=decide ((0:Int)=_)
    erw [zGs]
    cases ks.all λ p=>bw l p==1 <;> rfl
   ·show ((ks.all λ p=>bw l p==1)&&true)=decide ((1:Int)=_)
    cases ks.all λ p=>bw l p==1 <;> rfl
  ·show ((zB (l++[w]) k==mnL ((ks.map (·.1)).map (zB (l++[w]))))&&true)=decide (w=b2z (ks.all λ p=>bw l p==1))
   have e:(ks.map (·.1)).map (zB (l++[w]))=(ks.map (·.1)).map (zB l):=cr old
   rw [hz,e,(mxv (l:=(ks.map (·.1)).map (zB l)) (λ e=>ne (bY.mp e)) λ v m=>by (refine Eea (az.mp m) λ x mx q=>?_;refine rwS q ?_);(refine Eea (az.mp mx) λ p mp q=>?_;refine rwS q ?_);exact hb p mp).2,gh,gh]
   have e2:(ks.all (((·==1) ∘ zB l) ∘ λ p:Int×Bool=>p.1))=ks.all λ p=>bw l p==1:=z6 λ p m=>by
    show (zB l p.1==1)=(bw l p==1)
    unfold bw
    refine rwE (show p.2=true from aY.mp hs p m) ?_;rfl
   erw [e2]
   generalize (ks.all λ p=>bw l p==1)=b
   cases b <;> exact hw.el rfl rfl
structure Inv (g:Gm)(ds:List Df)(ts:List Td):Prop where
 st:∀ i d,ds[i]?=some d->DfOk g (3 + i) d
 td:∀ t,t∈ts->TdOk (3 + ds.length) t
 df:∀ i d,ds[i]?=some d->∀ t,t∈Zf ((3 + i:Nat):Int) d->t∈ts
theorem Inv.nil :Inv g [] []:=⟨λ i d h=>(nomatch h),λ t m=>(nomatch m),λ i d h=>nomatch h⟩
theorem TdOk.up {m:Nat}{t:Td}(h:TdOk k t)(e:k<=m):TdOk m t:=⟨h.refs.up e,h.len,h.co,h.ne⟩
theorem Inv.snoc (I:Inv g ds ts)(S:DfOk g (3 + ds.length) d):Inv g (ds++[d]) (ts++Zf ((3 + ds.length:Nat):Int) d):=by
 refine ⟨λ i e he=>?_,λ t m=>?_,λ i e he t m=>?_⟩
 ·rcases Zl ds he with he | ⟨rfl,rfl⟩
  ·exact I.st i e he
  ·exact S
 ·(erw [ao];erw [aD])
  rcases bg.mp m with m | m
  ·exact (I.td t m).up (cT _)
  ·exact (xX S m).1
 ·rcases Zl ds he with he | ⟨rfl,rfl⟩
  ·exact bO _ (I.df i e he t m)
  ·exact bj _ m
theorem Inv.post {t:Td}(I:Inv g ds ts)(h:TdOk (3 + ds.length) t):Inv g ds (ts++[t]):=by
 refine ⟨I.st,λ u m=>?_,λ i e he u m=>bO _ (I.df i e he u m)⟩
 rcases bg.mp m with m | m
 ·exact I.td u m
 ·refine z7 m ?_;exact h
structure Stp (g:Gm)(ds:List Df)(ts:List Td)(sE:List Df)(sN:List Td)(m:Nat)(P:List Int->Bool):Prop where
 inv:Inv g sE sN
 ex:∃ X Y,sE=ds++X/\sN=ts++Y/\∀ row,BR g row->Y.all (zI (run row sE))=P row
 len:sE.length + sN.length<=ds.length + ts.length + m
section
variable {g:Gm}{ds sE Ck:List Df}{ts sN CD:List Td}{m k:Nat}{P R:List Int->Bool}
theorem Stp.refl (I:Inv g ds ts):Stp g ds ts ds ts 0 λ _=>true:=⟨I,⟨[],[],(aR _).symm,(aR _).symm,λ _ _=>rfl⟩,aQ _⟩
theorem Stp.to (a:Stp g ds ts sE sN m P)(h:∀ row,BR g row->P row=R row)(e:m<=k):Stp g ds ts sE sN k R :=
 ⟨a.inv,Ee a.ex λ X q=>Ee q λ Y q=>⟨X,Y,q.1,q.2.1,λ row hr=>(q.2.2 row hr).trans (h row hr)⟩,af a.len (aL e _)⟩
theorem Zp (h:BR g row):(run row ds).length=3 + ds.length:=by (erw [run_len.1];erw [h.len];rfl)
theorem UO (I:Inv g ds ts)(h:BR g row){t:Td}(mt:t∈ts):zI (run row (ds++X)) t=zI (run row ds) t:=by
 erw [YZ]
 refine Ee (run_len (ds:=X) (row:=run row ds)).2 λ Y e=>?_
 erw [e]
 exact ue (by erw [Zp h];exact (I.td t mt).refs)
theorem Stp.trans (a:Stp g ds ts sE sN m P)(b:Stp g sE sN Ck CD k R):Stp g ds ts Ck CD (m + k) λ r=>P r&&R r:=by
 refine ⟨b.inv,?_,af b.len (af (Nat.add_le_add_right a.len k) (cS (cU ..)))⟩
 obtain ⟨X,Y,rfl,rfl,h1⟩:=a.ex
 obtain ⟨X',Y',rfl,rfl,h2⟩:=b.ex
 refine ⟨X++X',Y++Y',aI ..,aI ..,λ row hr=>?_⟩
 (erw [cQ];erw [h2 row hr];refine rwS (h1 row hr) ?_)
 congr 1
 exact z6 λ t mt=>UO a.inv hr (bj _ mt)
theorem VX {j:Int}(S:DfOk g (3 + ds.length) d):(Zf j d).length<=4:=by
 have len:=S.len
 cases d with
 | reif zs c=>exact (by decide:1<=4)
 | or vs=>exact (by decide:1<=4)
 | all ks =>
  have len:ks.length<=3:=by have:(ks.map (·.1)).length<=3:=len;rwa [ah] at this
  show la (bif ks.all (·.2) then [.bo false (ks.map (·.1)) j] else (ks.map λ x=>zo [(j,false),x])++[zo ((j,true)::ks.map flp)])<=4
  cases ks.all (·.2)
  ·show (_++[_]).length<=4
   (erw [ao];erw [ah]);exact bp len
  ·exact (by decide:1<=4)
theorem Stp.new (I:Inv g ds ts)(S:DfOk g (3 + ds.length) d):Stp g ds ts (ds++[d]) (ts++Zf ((3 + ds.length:Nat):Int) d) 5 λ _=>true:=by
 refine ⟨I.snoc S,⟨_,_,rfl,rfl,λ row hr=>?_⟩,by have:=VX (j:=((3 + ds.length:Nat):Int)) S;(erw [ao];erw [ao];erw [aD]);exact lin [_,_,_] [] (.a (.a (.v 0) (.k 1)) (.a (.v 1) (.v 2))) (.a (.a (.v 0) (.v 1)) (.k 5)) [(1,.l (.v 2) (.k 4))] tT9 this⟩
 have e:run row (ds++[d])=run row ds++[b2z (ZG (run row ds) d)]:=by erw [YZ];rfl
 (erw [e];erw [jf S (Zp hr) (λ v m T=>by have:=S.refs v m;exact JK hr this.1 this.2 T) zAx])
 exact decide_eq_true rfl
theorem Stp.post {t:Td}(I:Inv g ds ts)(h:TdOk (3 + ds.length) t):Stp g ds ts ds (ts++[t]) 1 λ row=>zI (run row ds) t :=
 ⟨I.post h,⟨[],[t],(aR _).symm,rfl,λ row _=>by show (_&&true)=_;exact cZ _⟩,by (erw [ao];erw [aD]);exact aQ _⟩
noncomputable def thB (l:List Int):Th->Bool
 | .tru b=>b
 | .bit x s=>bw l (x,s)==1
 | _=>false
structure Tr (g:Gm)(ds:List Df)(t:Th)(f:List Int->Bool):Prop where
 T:isT t=true
 var:∀ x s,t=.bit x s->(0<=x/\x<((3 + ds.length:Nat):Int))/\Tv g x
 w:∀ row,BR g row->thB (run row ds) t=f row
variable {t:Th}{f f':List Int->Bool}
theorem Tr.to (h:Tr g ds t f)(e:∀ row,BR g row->f row=f' row):Tr g ds t f':=⟨h.T,h.var,λ row hr=>(h.w row hr).trans (e row hr)⟩
theorem Tr.app (h:Tr g ds t f):Tr g (ds++X) t f:=by
 refine ⟨h.T,λ x s e=>?_,λ row hr=>?_⟩
 ·have:=h.var x s e
  erw [ao]
  exact ⟨⟨this.1.1,by exact liZ [_,_] [_] (.a (.v 0) (.k 1)) (.c (.a (.k 3) (.a (.v 0) (.v 1)))) [(1,.L (.a (.v 0) (.k 1)) (.c (.a (.k 3) (.v 0))))] tT9 this.1.2⟩,this.2⟩
 ·refine rwS (h.w row hr) ?_
  erw [YZ]
  refine Ee (run_len (ds:=X) (row:=run row ds)).2 λ Y e=>?_
  rw [e]
  cases t with
  | bit x s =>
   have:=(h.var x s rfl).1
   show (bw _ (x,s)==1)=(bw _ (x,s)==1)
   rw [wj (by rw [Zp hr];exact this)]
  | _=>rfl
theorem Tr.old (h:Tr g ds t f)(o:Stp g ds ts sE sN m P):Tr g sE t f:=by
 refine Ee o.ex λ X q=>Ee q λ Y q=>?_
 erw [q.1];exact h.app
theorem Tr.b01 (h:Tr g ds t f)(hr:BR g row){x:Int}{s:Bool}(e:t=.bit x s):B01 (zB (run row ds) x):=JK hr (h.var x s e).1.1 (h.var x s e).1.2 (h.var x s e).2
theorem Tr.neg (h:Tr g ds t f):Tr g ds (Mine.Internal.neg t) λ row=>!f row:=by
 have hT:=h.T
 cases t with
 | tru b=>exact ⟨rfl,λ x s e=>(nomatch e),λ row hr=>congrArg (!·) (h.w row hr)⟩
 | bit x s =>
  refine ⟨rfl,λ y u e=>?_,λ row hr=>?_⟩
  ·injection e with e1 e2
   subst e1
   exact h.var x s rfl
  ·refine rwS (h.w row hr) ?_
   exact jl (p:=(x,s)) (h.b01 hr rfl)
 | num i=>exact nomatch hT
 | sum ps c=>exact nomatch hT
theorem Tr.tru :Tr g ds (.tru b) λ _=>b:=⟨rfl,λ x s e=>(nomatch e),λ _ _=>rfl⟩
end
theorem ud:∀ {a b:List Int},bB (a.map .int) (b.map .int)=decide (a=b):=by
 intro a
 induction a with
 | nil=>intro b;cases b <;> rfl
 | cons x a ih =>
  intro b
  cases b with
  | nil=>rfl
  | cons y b =>
   show (decide (x=y)&&bB (a.map .int) (b.map .int))=_
   erw [ih]
   by_cases h:x=y
   ·subst h
    by_cases h2:a=b
    ·(erw [h2];erw [decide_eq_true rfl];erw [decide_eq_true rfl];erw [decide_eq_true rfl]);rfl
    ·(erw [decide_eq_true rfl];erw [decide_eq_false h2];erw [decide_eq_false λ e=>h2 (dI e).2]);rfl
   ·(erw [decide_eq_false h];erw [decide_eq_false λ e=>h (dI e).1]);rfl
theorem vM {p q:Int×Int}:aV (.tuple [.int p.1,.int p.2]) (.tuple [.int q.1,.int q.2])=decide (p=q):=by
 have e:aV (.tuple [.int p.1,.int p.2]) (.tuple [.int q.1,.int q.2])=bB ([p.1,p.2].map .int) ([q.1,q.2].map .int):=rfl
 (erw [e];erw [ud])
 exact decide_eq_decide.mpr ⟨λ h=>by injection h with h1 h;injection h with h2;exact kA h1 h2,λ h=>by (erw [h];rfl)⟩
theorem zCI {x:Int}:aV (zw (ZU g x)) trD=decide (ZU g x=[(0,1)]):=by
 unfold zw trD
 cases h:ZU g x with
 | nil=>rfl
 | cons p r =>
  show (aV (.tuple [.int p.1,.int p.2]) (.tuple [.int ((0:Int),(1:Int)).1,.int ((0:Int),(1:Int)).2])&&bB (zR r) [])=_
  erw [vM]
  cases r with
  | nil =>
   show (_&&true)=_
   erw [cZ]
   exact decide_eq_decide.mpr ⟨λ h=>by (erw [h];rfl),λ h=>(dI h).1⟩
  | cons q r =>
   show (_&&false)=_
   erw [eJ]
   exact (decide_eq_false λ e=>absurd (congrArg la e) (show ¬ r.length + 1 + 1=1 by exact br (b7 _ _)):decide (p::q::r=[(0,1)])=false).symm
theorem zHN (h:x.depth<=64):Sh x y:=af (f9 _ _) h
theorem LeOk.df {c:Int}(Z:LeOk g zs c):DfOk g (3 + k) (.reif zs c):=⟨Z.refs.up (aF 3 k),by show (zs.map _).length<=3;erw [ah];exact Z.len,λ e=>Z.ne (bY.mp e),trivial,λ z m=>by (refine Eea (az.mp m) λ p mp q=>?_;refine rwS q ?_);exact Z.co p mp⟩
section
variable {C:Cx}{n:Nat}{g:Gm}{fd:MO}{pt:D}{ds:List Df}{ts:List Td}{τ:zA}{Q:D->zA->Prop}
theorem zDV (I:Inv g ds ts)(h:ds[i]?=some d)(hr:BR g row):zB (run row ds) ((3 + i:Nat):Int)=b2z (ZG (run row ds) d):=by
 refine Eeeaa (uL (row:=row) h) λ r X h1 h2 h3=>?_
 rw [hr.len] at h2 h3
 (erw [h3];erw [h1])
 exact congrArg b2z (xQ (by erw [h2];exact (I.st i d h).refs)).symm
theorem zFi :(b2z b==1)=b:=by cases b <;> rfl
theorem Q6 (I:Inv g ds ts)(h:ds[i]?=some d):Tr g ds (.bit ((3 + i:Nat):Int) true) λ row=>ZG (run row ds) d:=by
 have hi:=(aq.mp h).1
 refine ⟨rfl,λ x s e=>?_,λ row hr=>?_⟩
 ·injection e with e1 e2
  subst e1
  exact ⟨⟨bn _,by exact liZ [_,_] [] (.a (.c (.a (.k 3) (.v 0))) (.k 1)) (.c (.a (.k 3) (.v 1))) [(1,.l (.a (.v 0) (.k 1)) (.v 1))] tT9 hi⟩,Jx (by exact liZ [_] [] (.k 2) (.c (.a (.k 3) (.v 0))) [] tT9)⟩
 ·show (zB (run row ds) ((3 + i:Nat):Int)==1)=_
  erw [zDV I h hr];exact zFi
theorem y2 {m:Nat}(h:ds.length + ts.length<=m)(hm:cA m 10000=true):(ts.map zN).length<=10000:=by erw [ah];have:=aw hm;exact lin [_,_,_] [] (.v 0) (.k 10000) [(1,.l (.a (.v 1) (.v 0)) (.v 2)),(1,.l (.v 2) (.k 10000))] tT9 h this
theorem uX (L:Law1 C){k:Int}(I:Inv g ds ts)(sQ:ds.length + ts.length<=800)(Z:LeOk g zs k)
  (q:∀ t' sE sN,Stp g ds ts sE sN 5 (λ _=>true)->Tr g sE t' (λ row=>decide (zk row zs<=k))->Q (.p (enc t')) (stt fd pt (vb0 g) sE sN++τ)) :
  SatCall C T1 (n + 3) 244 [.obj 2,.p (leD zs k)] (stt fd pt (vb0 g) ds ts++τ) Q:=by
 have tn:∀ ds ts,zE fd pt (vb0 g++ze 3 ds) (ts.map zN) (zm 3 ds)++τ=stt fd pt (vb0 g) ds ts++τ:=λ _ _=>rfl
 have base:∀ {X:List Df} {row:List Int},BR g row->zk (run row X) zs=zk row zs:=λ {X row} hr=>by
  refine Ee (run_len (ds:=X) (row:=row)).2 λ Y e=>?_
  erw [e]
  exact qM (by erw [hr.len];exact Z.refs)
 refine zK L.Y L.TT L.told_truth rfl ?_
 unfold b_told_truth
 have once:wpSs C T1 (n + 2) (b_told_truth.drop 2) [some (.obj 2),some (.p (leD zs k)),some (.p leS),some (.p (.tuple ((zs.map (·.1)).map .int))),some (.p (.tuple ((zs.map (·.2)).map .int))),some (.p (.int k)),none,none] (stt fd pt (vb0 g) ds ts++τ) λ fl _ σ'=>Z0 (stt fd pt (vb0 g) ds ts++τ) Q fl σ':=by
  unfold b_told_truth
  simp only [eg]
  walk_at "go"
  refine UP L (d:=.reif zs k) rfl (by exact lin [_,_] [] (.v 0) (.k 1000) [(1,.l (.a (.v 0) (.v 1)) (.k 800))] tT9 sQ) (λ i hi=>?_) ?_
  ·walk_at "go"
   exact zD rfl (q _ ds ts ((Stp.refl I).to (λ _ _=>rfl) (by decide)) ((Q6 I hi).to λ row hr=>by show decide (zk _ _<=_)=_;(erw [base hr];rfl)))
  ·have N:=Stp.new I (Z.df (k:=ds.length))
   have fin:=q _ _ _ N ((Q6 N.inv (a5)).to λ row hr=>by show decide (zk _ _<=_)=_;(erw [base hr];rfl))
   have e:Zf ((3 + ds.length:Nat):Int) (.reif zs k)=[.reif ((3 + ds.length:Nat):Int) zs k]:=rfl
   rw [YR,e,aW,cI] at fin
   walk_at "go"
   refine Q1 L (y2 sQ rfl) ?_
   walk_at "go"
   exact zD rfl fin
 unfold b_told_truth at once
 simp only [eg] at once
 unfold leD leS at *
 refine zC ?_
 walk_at "st"
 refine zC ?_
 walk_at "st"
 have e1:bB ((zs.map (·.1)).map .int) [.int 1]=decide (zs.map (·.1)=[1]):=ud (b:=[1])
 erw [e1]
 refine ⟨af (de _ _) (by decide:1<=64),ul (λ h=>?_) (λ h=>?_)⟩
 ·have h1:∃ v,zs=[(1,v)]:=by
   cases zs with
   | nil=>exact nomatch h
   | cons z r =>
    obtain ⟨e9,e2⟩:=dI h
    obtain rfl:=bY.mp e2
    exact ⟨z.2,congrArg (λ a:Int=>[(a,z.2)]) e9⟩
  obtain ⟨v,rfl⟩:=h1
  have hv:=Z.refs v (.head _)
  walk_at "st"
  refine Jz L (ds:=ds) (by exact lin [_,_] [] (.v 0) (.k 900) [(1,.l (.a (.v 0) (.v 1)) (.k 800))] tT9 sQ) hv.1 (by have:=hv.2;exact liZ [_] [_] (.a (.v 0) (.k 1)) (.c (.a (.k 3) (.v 0))) [(1,.L (.a (.v 0) (.k 1)) (.c (.k 3)))] tT9 hv.2) ?_
  walk_at "st"
  have e2:aV (zw (ZU g v)) (.tuple [.tuple [.int 0,.int 1]])=decide (ZU g v=[(0,1)]):=zCI
  erw [e2]
  refine ⟨af (de _ _) (by decide:2<=64),ul (λ T=>?_) (λ _=>?_)⟩
  ·have h0:=Z.one 1 v rfl T
   have hk:k=0:=by omega
   subst hk
   walk_at "go"
   refine zD rfl (q (.bit v false) ds ts ((Stp.refl I).to (λ _ _=>rfl) (by decide)) ⟨rfl,λ x s e=>?_,λ row hr=>?_⟩)
   ·injection e with e3 e4
    subst e3
    exact ⟨⟨hv.1,by exact liZ [_] [_] (.a (.v 0) (.k 1)) (.c (.a (.k 3) (.v 0))) [(1,.L (.a (.v 0) (.k 1)) (.c (.k 3)))] tT9 hv.2⟩,T⟩
   ·show ((1 - zB (run row ds) v)==1)=decide (1 * zB row v + 0<=0)
    have b:=JK (ds:=ds) hr hv.1 (by exact liZ [_] [_] (.a (.v 0) (.k 1)) (.c (.a (.k 3) (.v 0))) [(1,.L (.a (.v 0) (.k 1)) (.c (.k 3)))] tT9 hv.2) T
    have e5:zB (run row ds) v=zB row v:=by
     refine Ee (run_len (ds:=ds) (row:=row)).2 λ Y e=>?_
     erw [e]
     exact zX (by erw [hr.len];exact hv)
    rw [e5] at b ⊢
    exact b.el rfl rfl
  ·exact once
 ·exact once
end
theorem LeOk.turn {k:Int}(Z:LeOk g zs k):LeOk g (zs.map λ z=>(-z.1,z.2)) (-k - 1)/\∀ row,zk row (zs.map λ z=>(-z.1,z.2))=-zk row zs:=by
 refine ⟨⟨?_,λ e=>Z.ne (bY.mp e),by erw [ah];exact Z.len,λ z m=>?_,λ z m=>?_,λ a v e T=>?_⟩,λ row=>?_⟩
 ·erw [bz];exact Z.refs
 ·(refine Eea (az.mp m) λ p mp q=>?_;refine rwS q ?_)
  exact Int.neg_ne_zero.mpr (Z.nz p mp)
 ·(refine Eea (az.mp m) λ p mp q=>?_;refine rwS q ?_)
  exact (Z.co p mp).neg
 ·cases zs with
  | nil=>exact nomatch e
  | cons z r =>
   obtain ⟨e1,e2⟩:=dI e
   obtain rfl:=bY.mp e2
   obtain ⟨e3,e4⟩:=dT e1
   have:=Z.one z.1 z.2 rfl (by erw [e4];exact T)
   omega
 ·clear Z
  induction zs with
  | nil=>rfl
  | cons z zs ih =>
   show -z.1 * zB row z.2 + zk row _=-(z.1 * zB row z.2 + zk row zs)
   (erw [ih];erw [kY]);exact be (liZ [] [z.fst * zB row z.snd,zk row zs] (.a (.g (.v 0)) (.g (.v 1))) (.g (.a (.v 0) (.v 1))) [] tT9) (liZ [] [z.fst * zB row z.snd,zk row zs] (.g (.a (.v 0) (.v 1))) (.a (.g (.v 0)) (.g (.v 1))) [] tT9)
theorem VOk.num {i:Int}(h:Lm c i):VOk 0 c (.num i):=⟨λ p m=>(nomatch m),.nil,λ p m=>(nomatch m),λ p m=>(nomatch m),h⟩
theorem zt {i:Int}:zH row (.num i)=i:=b9 i
noncomputable def j1 (s:Int)(one other:Th):Th:=qV 1 (qV (-1) one other) (.num s)
theorem Lm.m1 {a:Int}(h:Lm A a):Lm A (-1 * a):=(Int.neg_one_mul a).symm▸h.neg
theorem s01 {s:Int}(hs:s=0∨s=1):Lm 1 s/\Lm 1 (1 * s):=by
 rcases hs with rfl | rfl
 ·exact ⟨aw rfl,aw rfl⟩
 ·exact ⟨aw rfl,aw rfl⟩
theorem WB {s:Int}{one:Th}{A1 c1 A2 c2:Nat}(hs:s=0∨s=1)(V1:VOk A1 c1 one)(V2:VOk A2 c2 other):VOk (A1 + 3 * A2) (c1 + c2) (qV (-1) one other)/\VOk (A1 + 3 * A2 + 3 * 0) (c1 + c2 + 1) (j1 s one other)/\∀ row,zH row (j1 s one other)=zH row one - zH row other + s:=by
 have P:=j0 (k:=-1) V1 (λ p m=>(V2.co p m).m1) V2.cn.m1 V2.keys V2.len
 refine ⟨P,j0 (t2:=.num s) (k:=1) P (λ p m=>(nomatch m)) (s01 hs).2 (λ p m=>(nomatch m)) (bd _),λ row=>?_⟩
 unfold j1
 (erw [yh (t2:=.num s) (B:=0) P λ p m=>(nomatch m)];erw [yh V1 λ p m=>(V2.co p m).m1];erw [zt])
 exact be (liZ [] [zH row one,zH row other,s] (.a (.a (.v 0) (.m (-1) (.v 1))) (.m 1 (.v 2))) (.a (.s (.v 0) (.v 1)) (.v 2)) [] tT9) (liZ [] [zH row one,zH row other,s] (.a (.s (.v 0) (.v 1)) (.v 2)) (.a (.a (.v 0) (.m (-1) (.v 1))) (.m 1 (.v 2))) [] tT9)
noncomputable def A0:Nat:=10 ^ 21
noncomputable def c0:Nat:=10 ^ 25
section
variable {C:Cx}{n:Nat}{g:Gm}{fd:MO}{pt:D}{ds:List Df}{ts:List Td}{τ:zA}{Q:D->zA->Prop}
theorem xr (L:Law1 C){one:Th}{s:Int}(hs:s=0∨s=1)(V1:VOk A0 c0 one)(V2:VOk A0 c0 other)(q:Q (.p (enc (j1 s one other))) σ) :
  SatCall C T1 (n + 3) 168 [.p (enc one),.p (enc other),.p (.int (-1))] σ λ d σ'=>SatCall C T1 (n + 3) 168 [d,.p (.int s),.p (.int 1)] σ' Q:=by
 have D:=WB (s:=s) hs V1 V2
 refine uq L (A:=A0) (B:=A0) (c:=c0) (nB9 rfl) V1 rfl (λ p m=>⟨(V2.co p m).m1,(V2.co p m).le rfl,V2.keys p m⟩) V2.len ⟨V2.cn.le rfl,(V1.cn.add V2.cn.m1).le rfl⟩ ?_
 exact uq L (t2:=.num s) (A:=A0 + 3 * A0) (B:=0) (c:=c0 + c0) (nB9 rfl) D.1 rfl (λ p m=>(nomatch m)) (bd _) ⟨by show Lm big s;exact af (show s.natAbs<=1 from (s01 hs).1) (nB9 rfl),(D.1.cn.add (s01 hs |>.2)).le rfl⟩ q
theorem Yo (L:Law1 C)(G:GOk g){t:Th}(V:VOk A c t)(hA:cA A big=true)(I:Inv g ds ts)(sQ:ds.length + ts.length<=800)
  (q:∀ t' sE sN,Stp g ds ts sE sN 5 (λ _=>true)->Tr g sE t' (λ row=>decide (zH row t<=0))->Q (.p (enc t')) (stt fd pt (vb0 g) sE sN++τ)) :
  SatCall C T1 (n + 5) 237 [.obj 2,.p leS,.p (enc t)] (stt fd pt (vb0 g) ds ts++τ) Q:=by
 have tn:∀ ds ts,zE fd pt (vb0 g++ze 3 ds) (ts.map zN) (zm 3 ds)++τ=stt fd pt (vb0 g) ds ts++τ:=λ _ _=>rfl
 have BU:=λ {Q}=>zAa (n:=n) (fd:=fd) (pt:=pt) (ts:=ts) (τ:=τ) (Q:=Q) L G (ds:=ds) (by exact lin [_,_] [] (.v 0) (.k 900) [(1,.l (.a (.v 0) (.v 1)) (.k 800))] tT9 sQ) V hA
 refine zK L.Y L.TT L.row_truth rfl ?_
 unfold Qp leS at *
 refine zC ?_
 walk_at "st"
 refine BU (λ b hb=>?_) λ zs k Z hb=>?_
 ·walk_at "go"
  exact zD rfl (q (.tru b) ds ts ((Stp.refl I).to (λ _ _=>rfl) (by decide)) (Tr.tru.to λ row hr=>(hb row hr).symm))
 ·have Z':=Z.turn
  have By:=λ {zs k} (Z:LeOk g zs k) {Q}=>uX (n:=n + 1) (fd:=fd) (pt:=pt) (τ:=τ) (Q:=Q) L I sQ Z
  unfold leD at *
  walk_at "st"
  refine zC ?_
  walk_at "st"
  refine zC ?_
  walk_at "st"
  refine zC ?_
  walk_at "st"
  refine zC ?_
  walk_at "st"
  have hz:((zs.map (·.1)).map bH).length<=100000:=by (erw [ah];erw [ah]);exact af Z.len (nB9 rfl)
  refine ⟨hz,qb (f:=.int) (h:=λ a=>.int (-a)) (zs.map (·.1)) [] (by erw [ah];exact af (aL Z.len 0) (by decide)) (λ a m acc K ha k=>by walk_at "st";exact ⟨ha,k⟩) ?_⟩
  unfold zi
  erw [a6]
  walk_at "st"
  refine ⟨by (erw [ah];erw [ah]);exact af Z.len (nB9 rfl),?_⟩
  have e1:(zs.map (·.1)).map (λ a=>bH (-a))=((zs.map λ z=>(-z.1,z.2)).map (·.1)).map .int:=by (erw [bz];erw [bz];erw [bz]);rfl
  have e2:(zs.map (·.2))=((zs.map λ z=>(-z.1,z.2)).map (·.2)):=by erw [bz];rfl
  have hg:∃ z r,zs=z::r:=by
   cases zs with
   | nil=>exact absurd rfl Z.ne
   | cons z r=>exact ⟨z,r,rfl⟩
  obtain ⟨z,r,HE⟩:=hg
  have h0:((zs.map (·.1)).map bH)[0]?=some (.int z.1):=by erw [HE];rfl
  refine zC ?_
  walk_at "st"
  simp only [h0]
  walk_at "st"
  refine ⟨λ CO=>?_,λ CO=>?_⟩
  ·walk_at "go"
   erw [e1]
   erw [e2]
   refine By Z'.1 λ t' sE sN o T=>?_
   walk_at "go"
   refine ZO L T.T ?_
   walk_at "go"
   exact zD rfl (q (neg t') sE sN o (T.neg.to λ row hr=>by
    (erw [Z'.2];erw [hb row hr])
    by_cases h:zk row zs<=k
    ·(erw [decide_eq_true h];refine rwE (decide_eq_false (by exact dZ.mpr (liZ [] [k,zk row zs] (.a (.s (.g (.v 0)) (.k 1)) (.k 1)) (.g (.v 1)) [(1,.L (.v 1) (.v 0))] tT9 h))) ?_);rfl
    ·(erw [decide_eq_false h];erw [decide_eq_true (by exact liZ [] [zk row zs,k] (.g (.v 0)) (.s (.g (.v 1)) (.k 1)) [(1,.L (.a (.v 1) (.k 1)) (.v 0))] tT9 (dZ.mp h))]);rfl))
  ·have x9:0<z.1:=by have:=Z.nz z (by erw [HE];exact .head _);omega
   refine zC ?_
   walk_at "st"
   simp only [h0]
   walk_at "st"
   refine ⟨λ _=>?_,λ h=>absurd x9 h⟩
   refine By Z λ t' sE sN o T=>?_
   walk_at "go"
   exact zD rfl (q t' sE sN o (T.to λ row hr=>(hb row hr).symm))
theorem Jp (L:Law1 C)(G:GOk g){t:Th}(V:VOk A c t)(hA:cA A big=true)(I:Inv g ds ts)(sQ:ds.length + ts.length<=800)
  (q:∀ sE sN,Stp g ds ts sE sN 1 (λ row=>decide (zH row t<=0))->Q (.p .none) (stt fd pt (vb0 g) sE sN++τ)) :
  SatCall C T1 (n + 5) 273 [.obj 2,.p leS,.p (enc t)] (stt fd pt (vb0 g) ds ts++τ) Q:=by
 have tn:∀ ds ts,zE fd pt (vb0 g++ze 3 ds) (ts.map zN) (zm 3 ds)++τ=stt fd pt (vb0 g) ds ts++τ:=λ _ _=>rfl
 have BU:=λ {Q}=>zAa (n:=n) (fd:=fd) (pt:=pt) (ts:=ts) (τ:=τ) (Q:=Q) L G (ds:=ds) (by exact lin [_,_] [] (.v 0) (.k 900) [(1,.l (.a (.v 0) (.v 1)) (.k 800))] tT9 sQ) V hA
 refine zK L.Y L.TT L.require_row rfl ?_
 unfold qp leS at *
 refine zC ?_
 walk_at "st"
 refine BU (λ b hb=>?_) λ zs k Z hb=>?_
 ·cases b
  ·have fin:=q ds (ts++[.cl [] []]) ((Stp.post (t:=.cl [] []) I ⟨λ v m=>(nomatch m),bd _,λ z m=>(nomatch m),trivial⟩).to (λ row hr=>(hb row hr).symm) (by decide))
   rw [YR,aW,cI] at fin
   walk_at "go"
   refine Q1 L (y2 sQ rfl) ?_
   walk_at "go"
   exact zD rfl fin
  ·walk_at "go"
   exact zD rfl (q ds ts ((Stp.refl I).to (λ row hr=>(hb row hr).symm) (by decide)))
 ·have fin:=q ds (ts++[.le zs k]) ((Stp.post (t:=.le zs k) I ⟨Z.refs.up (aF 3 _),by show (zs.map _).length<=20;rw [ah];exact af Z.len (by decide),λ z m=>by (refine Eea (az.mp m) λ p mp q=>?_;refine rwS q ?_);exact Z.co p mp,trivial⟩).to (λ row hr=>by
   rw [hb row hr]
   show decide (zk _ _<=_)=_
   refine Ee (run_len (ds:=ds) (row:=row)).2 λ Y e=>?_
   rw [e,qM (by rw [hr.len];exact Z.refs)]) (by decide))
  rw [YR,aW,cI] at fin
  unfold leD at *
  have e3:zN (.le zs k)=.tuple [.str "linear_le",.tuple ((zs.map (·.1)).map .int),.tuple ((zs.map (·.2)).map .int),.int k]:=rfl
  rw [e3] at fin
  walk_at "go"
  refine Q1 L (y2 sQ rfl) ?_
  walk_at "go"
  exact zD rfl fin
end
section
variable {C:Cx}{n:Nat}{g:Gm}{fd:MO}{pt:D}{ds:List Df}{ts:List Td}{τ:zA}{Q:D->zA->Prop}
theorem VL {s:Int}{one:Th}(hs:s=0∨s=1)(V1:VOk A0 c0 one)(V2:VOk A0 c0 other):VOk (A0 + 3 * A0 + 3 * 0) (c0 + c0 + 1) (j1 s one other)/\∀ row,zH row (j1 s one other)=zH row one - zH row other + s:=(WB hs V1 V2).2
theorem zAw (L:Law1 C)(G:GOk g){b:Bool}{one:Th}(V1:VOk A0 c0 one)(V2:VOk A0 c0 other)(I:Inv g ds ts)(sQ:ds.length + ts.length<=800)
  (q:∀ t' sE sN,Stp g ds ts sE sN 5 (λ _=>true)->Tr g sE t' (λ row=>decide (zH row one - zH row other + (bif b then 1 else 0)<=0))->Q (.p (enc t')) (stt fd pt (vb0 g) sE sN++τ)) :
  SatCall C T1 (n + 6) 392 [.obj 2,.p (.str (bif b then ae "<" else ae "<=")),.p (enc one),.p (enc other)] (stt fd pt (vb0 g) ds ts++τ) Q:=by
 refine zK L.Y L.TT L.compared rfl ?_
 unfold QC
 cases b with
 | true =>
  have W:=VL (.inr rfl) V1 V2
  refine zC ?_
  walk_at "st"
  refine zC ?_
  walk_at "st"
  refine zC ?_
  walk_at "st"
  refine xr (n:=n + 2) L (.inr rfl) V1 V2 ?_
  refine Yo (n:=n) L G W.1 rfl I sQ λ t' sE sN o T=>?_
  exact zD rfl (q t' sE sN o (T.to λ row _=>by erw [W.2];rfl))
 | false =>
  have W:=VL (.inl rfl) V1 V2
  refine zC ?_
  walk_at "st"
  refine zC ?_
  walk_at "st"
  refine zC ?_
  walk_at "st"
  refine xr (n:=n + 2) L (.inl rfl) V1 V2 ?_
  refine Yo (n:=n) L G W.1 rfl I sQ λ t' sE sN o T=>?_
  exact zD rfl (q t' sE sN o (T.to λ row _=>by erw [W.2];rfl))
theorem zCD (L:Law1 C)(G:GOk g){one:Th}(V1:VOk A0 c0 one)(V2:VOk A0 c0 other)(I:Inv g ds ts)(sQ:ds.length + ts.length<=800)
  (q:∀ t' sE sN,Stp g ds ts sE sN 5 (λ _=>true)->Tr g sE t' (λ row=>decide (zH row one<=zH row other))->Q (.p (enc t')) (stt fd pt (vb0 g) sE sN++τ)) :
  SatCall C T1 (n + 6) 392 [.obj 2,.p (.str "<="),.p (enc one),.p (enc other)] (stt fd pt (vb0 g) ds ts++τ) Q :=
 zAw (b:=false) L G V1 V2 I sQ λ t' sE sN o T=>q t' sE sN o (T.to λ row _=>decide_eq_decide.mpr ((b9 (zH row one - zH row other)).symm▸⟨fX,eI⟩))
theorem zDH (L:Law1 C)(G:GOk g){one:Th}(V1:VOk A0 c0 one)(V2:VOk A0 c0 other)(I:Inv g ds ts)(sQ:ds.length + ts.length<=800)
  (q:∀ t' sE sN,Stp g ds ts sE sN 5 (λ _=>true)->Tr g sE t' (λ row=>decide (zH row other<=zH row one))->Q (.p (enc t')) (stt fd pt (vb0 g) sE sN++τ)) :
  SatCall C T1 (n + 7) 392 [.obj 2,.p (.str ">="),.p (enc one),.p (enc other)] (stt fd pt (vb0 g) ds ts++τ) Q:=by
 refine zK L.Y L.TT L.compared rfl ?_
 unfold QC
 refine zC ?_
 walk_at "st"
 refine zC ?_
 walk_at "st"
 refine zAw (b:=true) (n:=n) L G V1 V2 I sQ λ t' sE sN o T=>?_
 refine ZO L T.T ?_
 exact zD rfl (q (neg t') sE sN o (T.neg.to λ row _=>by
  show (!decide (zH row one - zH row other + 1<=0))=_
  by_cases h:zH row other<=zH row one
  ·(erw [decide_eq_true h];refine rwE (decide_eq_false (by exact dZ.mpr (liZ [] [zH row one,zH row other] (.a (.k 0) (.k 1)) (.a (.s (.v 0) (.v 1)) (.k 1)) [(1,.L (.v 1) (.v 0))] tT9 h))) ?_);rfl
  ·(erw [decide_eq_false h];erw [decide_eq_true (by omega)]);rfl))
theorem yQ (L:Law1 C)(G:GOk g){one:Th}(V1:VOk A0 c0 one)(V2:VOk A0 c0 other)(I:Inv g ds ts)(sQ:ds.length + ts.length<=800)
  (q:∀ sE sN,Stp g ds ts sE sN 1 (λ row=>decide (zH row one<=zH row other))->Q (.p .none) (stt fd pt (vb0 g) sE sN++τ)) :
  SatCall C T1 (n + 6) 399 [.obj 2,.p (.str "<="),.p (enc one),.p (enc other)] (stt fd pt (vb0 g) ds ts++τ) Q:=by
 refine zK L.Y L.TT L.require_compared rfl ?_
 unfold ZP
 have W:=VL (.inl rfl) V1 V2
 refine zC ?_
 walk_at "st"
 refine zC ?_
 walk_at "st"
 refine zC ?_
 walk_at "st"
 refine xr (n:=n + 2) L (.inl rfl) V1 V2 ?_
 refine Jp (n:=n) L G W.1 rfl I sQ λ sE sN o=>?_
 walk_at "go"
 exact zD rfl (q sE sN (o.to (λ row _=>by erw [W.2];exact decide_eq_decide.mpr ((b9 (zH row one - zH row other)).symm▸⟨fX,eI⟩)) (aQ _)))
theorem Yy (L:Law1 C)(G:GOk g){one:Th}(V1:VOk A0 c0 one)(V2:VOk A0 c0 other)(I:Inv g ds ts)(sQ:ds.length + ts.length<=800)
  (q:∀ sE sN,Stp g ds ts sE sN 1 (λ row=>decide (zH row other<=zH row one))->Q (.p .none) (stt fd pt (vb0 g) sE sN++τ)) :
  SatCall C T1 (n + 7) 399 [.obj 2,.p (.str ">="),.p (enc one),.p (enc other)] (stt fd pt (vb0 g) ds ts++τ) Q:=by
 refine zK L.Y L.TT L.require_compared rfl ?_
 unfold ZP
 refine zC ?_
 walk_at "st"
 refine zC ?_
 walk_at "st"
 refine zC ?_
 walk_at "st"
 refine yQ (n:=n) L G V2 V1 I sQ λ sE sN o=>?_
 walk_at "go"
 exact zD rfl (q sE sN o)
end
section
variable {fd:MO}{pt:D}{vars tolds x8 tW:List ab}{made tX:List (Ky×D)}{τ X:zA}{Q:D->zA->Prop}
theorem yK (h:8<=i):(zE fd pt vars tolds made++τ)[i]?=τ[i - 8]?:=by
 erw [cC (by show 8<=i;exact h)];rfl
theorem Zi (hm:clM 8 (.tdict tX)=true)(e:jr fl=some (.p x))(q:Q (.p x) (zE fd pt x8 tW tX++τ)):Z0 (zE fd pt vars tolds made++τ) Q fl (zE fd pt x8 tW tX++(τ++X)):=by
 refine ⟨_,_,e,?_,q⟩
 have key:=Kp.cut (σ:=zE fd pt vars tolds made++τ) (σ':=zE fd pt x8 tW tX++(τ++X)) (d:=.p x) (8 + τ.length) (by erw [ZY];exact aQ _) rfl λ i mo hi e=>by
  by_cases h8:8<=i
  ·rw [yK h8,aC (fh h8 hi)] at e
   exact .inl (by erw [yK h8];exact e)
  ·have up:∀ m,clM 8 m=true->clM (8 + τ.length) m=true:=λ m=>jF (aF _ _) m
   match i,h8,e with
   | 0,_,e=>exact .inl e
   | 1,_,e=>exact .inl e
   | 2,_,e=>exact .inl e
   | 3,_,e=>exact .inl e
   | 4,_,e=>exact .inl e
   | 5,_,e=>obtain rfl:=so e;exact .inr rfl
   | 6,_,e=>obtain rfl:=so e;exact .inr rfl
   | 7,_,e=>obtain rfl:=so e;exact .inr (up _ hm)
   | i + 8,h8,_=>exact absurd (b7 8 i) h8
 rwa [<- aI,po ZY] at key
end
theorem Ym {p q:Int×Bool}:aV (zG p) (zG q)=decide (p=q):=by
 obtain ⟨x,s⟩:=p
 obtain ⟨y,u⟩:=q
 show (true&&(decide (x=y)&&((s==u)&&true)))=_
 by_cases h:x=y
 ·subst h
  cases s <;> cases u <;> simp
 ·(erw [decide_eq_false h];erw [decide_eq_false λ e=>h (congrArg iP e)]);rfl
theorem YI {p:Int×Bool}:Sh x (zG p):=af (de _ _) (by decide:1<=64)
noncomputable def zDp:Th->Option (Int×Bool)
 | .bit x s=>some (x,s)
 | _=>none
noncomputable def ZL (us:List Th):List (Int×Bool):=us.filterMap zDp
noncomputable def isB? (b:Bool):Th->Bool
 | .tru c=>c==b
 | _=>false
noncomputable def qr (us:List Th):Th->Bool
 | .bit x s=>decide ((x,!s)∈ZL us)
 | _=>false
noncomputable def yu (us:List Th):Bool:=us.any (isB? true) || us.any (qr us)
theorem mem_bitsT {x:Int}{s:Bool}:(x,s)∈ZL us ↔ .bit x s∈us:=by
 unfold ZL
 rw [b6]
 constructor
 ·rintro ⟨t,m,e⟩
  cases t with
  | bit y u=>have:=so e;injection this with e1 e2;subst e1;subst e2;exact m
  | _=>exact nn e
 ·exact λ m=>⟨_,m,rfl⟩
theorem Vw (h:∀ t,t∈us->isT t=true){q:Int×Bool}:(us.map enc).any (λ z=>aV z (zG q))=decide (q∈ZL us):=by
 rw [iz,bv,decide_eq_true_iff]
 constructor
 ·rintro ⟨z,m,e⟩
  obtain ⟨t,mt,rfl⟩:=az.mp m
  have hT:=h t mt
  cases t with
  | tru b=>exact nomatch e
  | num i=>exact nomatch hT
  | sum ps c=>exact nomatch hT
  | bit x s =>
   have e:aV (zG (x,s)) (zG q)=true:=e
   rw [Ym] at e
   obtain rfl:=of_decide_eq_true e
   exact mem_bitsT.mpr mt
 ·intro m
  exact ⟨zG q,az.mpr ⟨.bit q.1 q.2,mem_bitsT.mp m,rfl⟩,by erw [Ym];exact decide_eq_true rfl⟩
theorem zBF (h:∀ t,t∈us->isT t=true):(us.map enc).any (λ z=>aV z (.bool b))=us.any (isB? b):=by
 erw [ed]
 exact qg λ t m=>by
  have hT:=h t m
  cases t with
  | tru c=>rfl
  | bit x s=>rfl
  | num i=>exact nomatch hT
  | sum ps c=>exact nomatch hT
theorem Um (h:∀ t,t∈us->isT t=true)(ht:us.any (isB? true)=false):(us.filter λ t=>!isB? false t).map enc=(ZL us).map zG:=by
 induction us with
 | nil=>rfl
 | cons t us ih =>
  rw [cV,dE] at ht
  have ih:=ih (λ t m=>h t (.tail _ m)) ht.2
  have hT:=h t (.head _)
  cases t with
  | tru c =>
   cases c
   ·exact ih
   ·exact nomatch ht.1
  | bit x s=>exact congrArg (zG (x,s)::·) ih
  | num i=>exact nomatch hT
  | sum ps c=>exact nomatch hT
theorem QH:∀ l:List Int,ints? (l.map .int)=some l:=by
 intro l
 induction l with
 | nil=>rfl
 | cons x r ih=>(erw [bl];erw [zCR];erw [ih]);rfl
theorem uT:∀ {l:List ab},bB l []=l.isEmpty:=by
 intro l
 cases l <;> rfl
theorem Jh :(ZL us).length<=us.length:=List.length_filterMap_le ..
section
variable {C:Cx}{n:Nat}{fd:MO}{pt:D}{τ:zA}{Q:D->zA->Prop}{vars tolds:List ab}{made:List (Ky×D)}
theorem XR (L:Law1 C)(hm:clM 8 (.tdict made)=true)(hT:∀ t,t∈us->isT t=true)(hl:us.length<=4)(ht:tolds.length<=10000)
  (q:Q (.p .none) (zE fd pt vars (tolds++bif yu us then [] else [zN (zo (ZL us))]) made++τ)):SatCall C T1 (n + 2) 266 [.obj 2,.p (.list (us.map enc))] (zE fd pt vars tolds made++τ) Q:=by
 have hlen:(us.map enc).length<=100000:=by erw [ah];exact af hl (nB9 rfl)
 have tL:([]:List ab).length + us.length<=90000:=af (aL hl 0) (by decide)
 refine zK L.Y L.TT L.require_some rfl ?_
 unfold qQ
 unfold yu at q
 refine zC ?_
 walk_at "st"
 erw [zBF hT]
 cases h1:us.any (isB? true)
 case true =>
  rw [h1] at q
  walk_at "st"
  refine zC ?_
  walk_at "st"
  exact zD rfl (by rw [show (bif true || us.any (qr us) then ([]:List ab) else [zN (zo (ZL us))])=[] from rfl,aR] at q;exact q)
 case false =>
 rw [h1] at q
 walk_at "st"
 refine ⟨hlen,Qd (f:=enc) (h:=enc) (p:=qr us) us [] tL (λ t m acc K ha k1 k0=>?_) ?_⟩
 ·have hc:∀ Q:D->zA->Prop,Q (.p (enc (neg t))) (zE fd pt vars tolds made++τ)->SatCall C T1 (n + 1) 175 [.p (enc t)] (zE fd pt vars tolds made++τ) Q:=λ Q q=>ZO L (hT t m) q
  have Cj:=hT t m
  cases t with
  | num i=>exact nomatch Cj
  | sum ps c=>exact nomatch Cj
  | tru b =>
   have e:enc (.tru b)=.bool b:=rfl
   rw [e] at hc ⊢
   cases b with
   | true =>
    have:us.any (isB? true)=true:=bv.mpr ⟨_,m,rfl⟩
    rw [h1] at this;exact nomatch this
   | false=>walk_at "st";exact k0 rfl
  | bit x s =>
   have e:enc (.bit x s)=zG (x,s):=rfl
   have e2:enc (neg (.bit x s))=zG (x,!s):=rfl
   rw [e,e2] at hc
   erw [e]
   rw [e] at k1
   walk_at "st"
   refine rwE (show aV (zG (x,s)) (.bool false)=false from rfl) ?_
   walk_at "st"
   refine hc _ ?_
   walk_at "st"
   erw [Vw hT]
   refine ⟨YI,UH (λ h=>?_) (λ h=>?_)⟩
   ·exact ⟨ha,k1 h⟩
   ·exact k0 h
 erw [a6]
 unfold zi
 walk_at "st"
 erw [uT]
 cases h2:us.any (qr us)
 case true =>
  rw [h2] at q
  have e:((us.filter (qr us)).map enc).isEmpty=false:=by
   obtain ⟨t,m,e⟩:=bv.mp h2
   cases hf:us.filter (qr us) with
   | nil=>have:=bM.mpr ⟨m,e⟩;rw [hf] at this;exact nomatch this
   | cons a r=>rfl
  erw [e]
  walk_at "st"
  refine zC ?_
  walk_at "st"
  exact zD rfl (by rw [show (bif false || true then ([]:List ab) else [zN (zo (ZL us))])=[] from rfl,aR] at q;exact q)
 case false =>
 rw [h2] at q
 have e:((us.filter (qr us)).map enc).isEmpty=true:=by
  erw [mR.mpr λ t m e=>by have:us.any (qr us)=true:=bv.mpr ⟨t,m,e⟩;rw [h2] at this;exact nomatch this];rfl
 erw [e]
 walk_at "st"
 refine zC ?_
 walk_at "st"
 refine ⟨hlen,Qd (f:=enc) (h:=enc) (p:=λ t=>!isB? false t) us [] tL (λ t m acc K ha k1 k0=>?_) ?_⟩
 ·have Cj:=hT t m
  cases t with
  | num i=>exact nomatch Cj
  | sum ps c=>exact nomatch Cj
  | tru b =>
   have e:enc (.tru b)=.bool b:=rfl
   erw [e]
   rw [e] at k1
   cases b with
   | true=>walk_at "st";exact ⟨ha,k1 rfl⟩
   | false=>walk_at "st";exact k0 rfl
  | bit x s =>
   have e:enc (.bit x s)=zG (x,s):=rfl
   erw [e]
   rw [e] at k1
   walk_at "st"
   refine rwE (show aV (zG (x,s)) (.bool false)=false from rfl) ?_
   walk_at "st"
   exact ⟨ha,k1 rfl⟩
 erw [Um hT h1]
 erw [a6]
 have HH:(ZL us).length<=4:=af Jh hl
 have S:=Qu HH
 have En:(zb (ZL us)).length<=4:=by erw [S.len];exact HH
 unfold zi
 walk_at "st"
 refine .inr ⟨ZL us,rfl,S.ok,?_⟩
 unfold zo at q
 generalize zb (ZL us)=l' at q En ⊢
 have H4:(l'.map zG).length<=100000:=by erw [ah];exact af En (nB9 rfl)
 have Cr:([]:List ab).length + l'.length<=90000:=af (aL En 0) (by decide)
 have C':∀ p,zG p=.tuple [.str "bit",.int p.1,.bool p.2]:=λ _=>rfl
 have hu:(qX l').length<=4:=af (by unfold qX;erw [ah];exact cH _ _) En
 have hd:(ZZ l').length<=4:=af (by unfold ZZ;erw [ah];exact cH _ _) En
 have DG:∀ l:List Int,l.length<=4->(dd l).length<=4:=λ l h=>by
  refine af ?_ h
  clear h
  induction l with
  | nil=>exact aQ _
  | cons a r ih =>
   show (if a∈r then dd r else a::dd r).length<=r.length + 1
   split
   ·exact fK ih
   ·exact bp ih
 walk_at "st"
 refine zC ?_
 walk_at "st"
 refine ⟨H4,Qd (f:=zG) (h:=λ p=>.int p.1) (p:=λ p=>p.2) l' [] Cr (λ p m acc K ha k1 k0=>?_) ?_⟩
 ·erw [C' p]
  obtain ⟨x,s⟩:=p
  cases s with
  | true=>walk_at "st";exact ⟨ha,k1 rfl⟩
  | false=>walk_at "st";exact k0 rfl
 refine rwE (show ((l'.filter λ p=>p.2).map λ p=>bH p.1)=(qX l').map .int from (bz ..).symm) ?_
 erw [a6]
 unfold zi
 walk_at "st"
 refine ⟨H4,Qd (f:=zG) (h:=λ p=>.int p.1) (p:=λ p=>!p.2) l' [] Cr (λ p m acc K ha k1 k0=>?_) ?_⟩
 ·erw [C' p]
  obtain ⟨x,s⟩:=p
  cases s with
  | true=>walk_at "st";exact k0 rfl
  | false=>walk_at "st";exact ⟨ha,k1 rfl⟩
 refine rwE (show ((l'.filter λ p=>!p.2).map λ p=>bH p.1)=(ZZ l').map .int from (bz ..).symm) ?_
 erw [a6]
 walk_at "go"
 simp only [QH]
 walk_at "st"
 have IK:∀ l,yF (MO.iset l)=some l:=λ _=>rfl
 simp only [IK]
 have h1:=DG _ hu
 have h2:=DG _ hd
 refine ⟨hu,.inl ⟨by exact lin [_] [] (.a (.v 0) (.k 1)) (.k 64) [(1,.l (.v 0) (.k 4))] tT9 h1,by (erw [ah];erw [Zk]);exact af h1 (nB9 rfl),hd,.inl ⟨by exact lin [_] [] (.a (.v 0) (.k 1)) (.k 64) [(1,.l (.v 0) (.k 4))] tT9 h2,by rw [ah,Zk];exact af h2 (nB9 rfl),?_⟩⟩⟩
 refine Q1 (τ:=τ++[.iset (dd (qX l'))]++[.iset (dd (ZZ l'))]) L ht ?_
 walk_at "st"
 rw [aI τ]
 exact Zi hm rfl q
end
noncomputable def nxt (t:Th)(ks:List (Int×Bool)):Option (List (Int×Bool)):=match t with
 | .tru b=>bif b then some ks else none
 | .bit x s=>bif decide ((x,!s)∈ks) then none else bif decide ((x,s)∈ks) then some ks else some (ks++[(x,s)])
 | _=>none
noncomputable def yt:List Th->List (Int×Bool)->Option (List (Int×Bool))
 | [],ks=>some ks
 | t::ts,ks=>(nxt t ks).bind (yt ts)
theorem UA {l:List (Int×Bool)}{q:Int×Bool}:(l.map zG).any (λ z=>aV z (zG q))=decide (q∈l):=by
 rw [ed,iz,bv,decide_eq_true_iff]
 constructor
 ·rintro ⟨p,m,e⟩
  have e:aV (zG p) (zG q)=true:=e
  rw [Ym] at e
  rwa [<- of_decide_eq_true e]
 ·exact λ m=>⟨q,m,by show aV (zG q) (zG q)=true;erw [Ym];exact decide_eq_true rfl⟩
theorem zB5 {l:List (Int×Bool)}:(l.map zG).any (λ z=>aV z (.bool b))=false:=by
 erw [ed]
 exact kN.mpr λ p _=>aT
section
variable {C:Cx}{n:Nat}{σ:zA}{d0 d1 d2 d4 d5 d6 d7:Option D}{K:Rho×zA->Prop}{S:Fl->Rho->zA->Prop}
theorem vS (L:Law1 C):∀ (ts:List Th) (ks:List (Int×Bool)) (u3:Option D),ks.length + ts.length<=900->(∀ t,t∈ts->isT t=true) ->
  (yt ts ks=none->∀ ρ (AV:List (Int×Bool)),S (.ret (.p (.bool false))) ρ (σ++[.lst (AV.map zG)])) ->
  (∀ AV,yt ts ks=some AV->∀ v3,K ([d0,d1,some (.obj σ.length),v3,d4,d5,d6,d7],σ++[.lst (AV.map zG)])) ->
  zT (zO C T1 (n + 1) (.nm 3) [(.ite (.or [(.cmp (.nm 3) .Eq (.c (.bool false))),(.cmp (.call false (.gl 28) [(.nm 3)]) .In (.nm 2))]) [(.ret (.c (.bool false)))] []),(.ite (.and [(.cmp (.nm 3) .NotEq (.c (.bool true))),(.cmp (.nm 3) .NotIn (.nm 2))]) [(.expr (.meth (.nm 2) 0 [(.nm 3)]))] [])] none S)
   (ts.map enc) ([d0,d1,some (.obj σ.length),u3,d4,d5,d6,d7],σ++[.lst (ks.map zG)]) K:=by
 intro ts
 induction ts with
 | nil=>exact λ ks u3 _ _ _ h=>h ks rfl u3
 | cons t ts ih =>
  intro ks u3 hl ht h0 h1
  rw [a9] at hl
  have hc:∀ Q:D->zA->Prop,Q (.p (enc (neg t))) (σ++[.lst (ks.map zG)])->SatCall C T1 (n + 1) 175 [.p (enc t)] (σ++[.lst (ks.map zG)]) Q:=λ Q q=>ZO (t:=t) L (ht t (.head _)) q
  have AS:∀ t,t∈ts->isT t=true:=λ t m=>ht t (.tail _ m)
  have hk:(ks.map zG).length<=100000:=by erw [ah];exact lin [_,_] [] (.v 0) (.k 100000) [(1,.l (.a (.v 0) (.a (.v 1) (.k 1))) (.k 900))] tT9 hl
  cases t with
  | num i=>exact nomatch ht _ (.head _)
  | sum ps c=>exact nomatch ht _ (.head _)
  | tru b =>
   show zO _ _ _ _ _ _ _ (.bool b) _ (λ a'=>zT _ (ts.map enc) a' K)
   cases b with
   | false =>
    walk_at "go"
    exact h0 rfl _ _
   | true =>
    have x6:∀ Q:D->zA->Prop,Q (.p (.bool false)) (σ++[.lst (ks.map zG)])->SatCall C T1 (n + 1) 175 [.p (.bool true)] (σ++[.lst (ks.map zG)]) Q:=hc
    walk_at "go"
    refine x6 _ ?_
    walk_at "st"
    erw [zB5]
    walk_at "go"
    exact ih ks _ (eT hl) AS h0 h1
  | bit x s =>
   have x6:∀ Q:D->zA->Prop,Q (.p (zG (x,!s))) (σ++[.lst (ks.map zG)])->SatCall C T1 (n + 1) 175 [.p (zG (x,s))] (σ++[.lst (ks.map zG)]) Q:=hc
   have BE:yt (.bit x s::ts) ks=(bif decide ((x,!s)∈ks) then none else bif decide ((x,s)∈ks) then some ks else some (ks++[(x,s)])).bind (yt ts):=rfl
   rw [BE] at h0 h1
   show zO _ _ _ _ _ _ _ (zG (x,s)) _ (λ a'=>zT _ (ts.map enc) a' K)
   have hf:aV (zG (x,s)) (.bool false)=false:=rfl
   have Kq:aV (zG (x,s)) (.bool true)=false:=rfl
   walk_at "go"
   erw [hf]
   walk_at "go"
   refine x6 _ ?_
   walk_at "st"
   erw [UA]
   cases m1:decide ((x,!s)∈ks)
   case true =>
    rw [m1] at h0
    walk_at "go"
    exact ⟨YI,h0 rfl _ _⟩
   case false =>
   rw [m1] at h0 h1
   walk_at "st"
   refine ⟨YI,?_⟩
   walk_at "go"
   erw [Kq]
   walk_at "st"
   erw [UA]
   cases m2:decide ((x,s)∈ks)
   case true =>
    rw [m2] at h0 h1
    walk_at "go"
    exact ⟨YI,ih ks _ (eT hl) AS h0 h1⟩
   case false =>
   rw [m2] at h0 h1
   walk_at "st"
   refine ⟨YI,?_⟩
   walk_at "go"
   have e:ks.map zG++[zG (x,s)]=(ks++[(x,s)]).map zG:=by erw [aW];rfl
   erw [e]
   exact ⟨hk,ih _ _ (by (erw [ao];erw [aD]);exact lin [_,_] [] (.a (.a (.v 0) (.k 1)) (.v 1)) (.k 900) [(1,.l (.a (.v 0) (.a (.v 1) (.k 1))) (.k 900))] tT9 hl) AS h0 h1⟩
end
structure KeptOk (us:List Th)(ks AV:List (Int×Bool)):Prop where
 sub:∀ p,p∈AV->p∈ks∨.bit p.1 p.2∈us
 len:AV.length<=ks.length + us.length
 nc:(∀ p,p∈ks->flp p∉ks)->∀ p,p∈AV->flp p∉AV
 w:∀ l,(∀ x s,.bit x s∈us->B01 (zB l x))->(us.all (thB l)&&ks.all λ p=>bw l p==1)=AV.all λ p=>bw l p==1
theorem zD5 {p:Int×Bool}:flp (flp p)=p:=by unfold flp;(erw [kM];rfl)
theorem W0:∀ {us:List Th} {ks AV:List (Int×Bool)},yt us ks=some AV->KeptOk us ks AV:=by
 intro us
 induction us with
 | nil =>
  intro ks AV h
  obtain rfl:=so h
  exact ⟨λ p m=>.inl m,aQ _,λ h=>h,λ l _=>rfl⟩
 | cons t us ih =>
  intro ks AV h
  refine Eea (ob h) λ k1 h1 h2=>?_
  have K:=ih h2
  cases t with
  | num i=>exact nn h1
  | sum ps c=>exact nn h1
  | tru b =>
   cases b with
   | false=>exact nn h1
   | true =>
    obtain rfl:=so h1
    exact ⟨λ p m=>(K.sub p m).imp id (.tail _),af K.len (aL (cT _) _),K.nc,λ l h=>K.w l λ x s m=>h x s (.tail _ m)⟩
  | bit x s =>
   have h1:(bif decide ((x,!s)∈ks) then none else bif decide ((x,s)∈ks) then some ks else some (ks++[(x,s)]))=some k1:=h1
   cases m1:decide ((x,!s)∈ks)
   case true=>rw [m1] at h1;exact nn h1
   case false =>
   rw [m1] at h1
   cases m2:decide ((x,s)∈ks)
   case true =>
    rw [m2] at h1
    obtain rfl:=so h1
    refine ⟨λ p m=>(K.sub p m).imp id (.tail _),af K.len (aL (cT _) _),K.nc,λ l h=>?_⟩
    (refine rwS (K.w l λ y u m=>h y u (.tail _ m)) ?_;erw [c5])
    show ((bw l (x,s)==1)&&_&&_)=_
    cases hb:(bw l (x,s)==1)
    ·refine rwE (show (ks.all λ p=>bw l p==1)=false from gP.mpr λ e=>by have:=aY.mp e _ (of_decide_eq_true m2);rw [hb] at this;exact nomatch this) ?_
     cases us.all (thB l) <;> rfl
    ·(erw [fW];rfl)
   case false =>
    rw [m2] at h1
    obtain rfl:=so h1
    refine ⟨λ p m=>?_,by have:=K.len;rw [ao,aD] at this;erw [a9];exact lin [_,_,_] [] (.v 0) (.a (.v 1) (.a (.v 2) (.k 1))) [(1,.l (.v 0) (.a (.a (.v 1) (.k 1)) (.v 2)))] tT9 this,λ nc=>K.nc λ p m=>?_,λ l h=>?_⟩
    ·rcases K.sub p m with m | m
     ·rcases bg.mp m with m | m
      ·exact .inl m
      ·refine z7 m ?_;exact .inr (.head _)
     ·exact .inr (.tail _ m)
    ·intro m'
     have n1:(x,!s)∉ks:=of_decide_eq_false m1
     rcases bg.mp m with m | m <;> rcases bg.mp m' with m' | m'
     ·exact nc p m m'
     ·have e:flp p=(x,s):=av.mp m'
      exact n1 (by have:p=(x,!s):=(by refine rwS (zD5 (p:=p)) ?_;erw [e];rfl);rwa [<- this])
     ·obtain rfl:=av.mp m;exact n1 m'
     ·obtain rfl:=av.mp m
      have e:(!s)=s:=congrArg nF (av.mp m')
      cases s <;> exact nomatch e
    ·(refine rwS (K.w l λ y u m=>h y u (.tail _ m)) ?_;erw [c5];erw [cQ])
     show ((bw l (x,s)==1)&&us.all (thB l)&&ks.all _)=(us.all (thB l)&&(ks.all _&&((bw l (x,s)==1)&&true)))
     generalize (bw l (x,s)==1)=a
     generalize us.all (thB l)=b
     generalize ks.all _=c
     cases a <;> cases b <;> cases c <;> rfl
theorem wa:∀ {us:List Th} {ks:List (Int×Bool)},yt us ks=none->(∀ t,t∈us->isT t=true)->∀ l,(∀ x s,.bit x s∈us->B01 (zB l x))->(us.all (thB l)&&ks.all λ p=>bw l p==1)=false:=by
 intro us
 induction us with
 | nil=>exact λ h=>nn h.symm
 | cons t us ih =>
  intro ks h hT l hb
  have Gw:∀ t,t∈us->isT t=true:=λ t m=>hT t (.tail _ m)
  have Gj:∀ x s,.bit x s∈us->B01 (zB l x):=λ x s m=>hb x s (.tail _ m)
  erw [c5]
  cases t with
  | num i=>exact nomatch hT _ (.head _)
  | sum ps c=>exact nomatch hT _ (.head _)
  | tru b =>
   cases b with
   | false=>rfl
   | true=>exact ih (ks:=ks) h Gw l Gj
  | bit x s =>
   have h:(bif decide ((x,!s)∈ks) then none else bif decide ((x,s)∈ks) then some ks else some (ks++[(x,s)])).bind (yt us)=none:=h
   show ((bw l (x,s)==1)&&_&&_)=_
   cases m1:decide ((x,!s)∈ks)
   case true =>
    cases hx:(bw l (x,s)==1)
    ·rfl
    ·rw [show (ks.all λ p=>bw l p==1)=false from gP.mpr λ e=>by
      have h1:(bw l (flp (x,s))==1)=true:=aY.mp e _ (of_decide_eq_true m1)
      rw [jl (p:=(x,s)) (hb x s (.head _)),hx] at h1
      exact nomatch h1]
     cases us.all (thB l) <;> rfl
   case false =>
   rw [m1] at h
   cases m2:decide ((x,s)∈ks)
   case true =>
    rw [m2] at h
    have:=ih (ks:=ks) h Gw l Gj
    generalize us.all (thB l)=b at this
    generalize (ks.all λ p=>bw l p==1)=c at this
    revert this
    cases (bw l (x,s)==1) <;> cases b <;> cases c <;> intro h <;> first | rfl | exact h
   case false =>
    rw [m2] at h
    have:=ih (ks:=ks++[(x,s)]) h Gw l Gj
    rw [cQ] at this
    have this:(us.all (thB l)&&(ks.all (λ p=>bw l p==1)&&((bw l (x,s)==1)&&true)))=false:=this
    generalize us.all (thB l)=b at this
    generalize (ks.all λ p=>bw l p==1)=c at this
    revert this
    cases (bw l (x,s)==1) <;> cases b <;> cases c <;> intro h <;> first | rfl | exact h
section
variable {C:Cx}{n:Nat}{g:Gm}{fd:MO}{pt:D}{ds:List Df}{ts:List Td}{τ:zA}{Q:D->zA->Prop}
theorem QG {made:List (Ky×D)}{x:MO}:(zE fd pt vars tolds made++(τ++[x]))[8 + τ.length]?=some x:=by
 (erw [yK (aF _ _)];erw [Nat.add_sub_cancel_left]);exact a5
theorem j6 {made:List (Ky×D)}{x y:MO}:(zE fd pt vars tolds made++(τ++[x])).set (8 + τ.length) y=zE fd pt vars tolds made++(τ++[y]):=by
 (refine rwS (aI ..) ?_;refine rwS (aI ..) ?_;refine rwS (ZY (fd:=fd) (pt:=pt) (vars:=vars) (tolds:=tolds) (made:=made)) ?_);exact qz _ _ _
structure KsOk (g:Gm)(ds:List Df)(ks:List (Int×Bool)):Prop where
 l2:2<=ks.length
 l3:ks.length<=3
 var:∀ p,p∈ks->(0<=p.1/\p.1<((3 + ds.length:Nat):Int))/\Tv g p.1
 nc:∀ p,p∈ks->flp p∉ks
theorem KsOk.sort (K:KsOk g ds ks):KsOk g ds (zb ks)/\∀ f:Int×Bool->Bool,(zb ks).all f=ks.all f:=by
 have S:=Qu (l:=ks) (af K.l3 (by decide))
 refine ⟨⟨by erw [S.len];exact K.l2,by rw [S.len];exact K.l3,λ p m=>K.var p ((S.mem p).mp m),λ p m m'=>K.nc p ((S.mem p).mp m) ((S.mem _).mp m')⟩,λ f=>?_⟩
 rw [iz,aY,aY]
 exact ⟨λ h p m=>h p ((S.mem p).mpr m),λ h p m=>h p ((S.mem p).mp m)⟩
theorem KsOk.df (K:KsOk g ds ks):DfOk g (3 + ds.length) (.all ks)/\DfOk g (3 + ds.length) (.or (ks.map (·.1))):=by
 have hr:In (3 + ds.length) (ks.map (·.1)):=λ v m=>by (refine Eea (az.mp m) λ p mp q=>?_;refine rwS q ?_);exact (K.var p mp).1
 have hl:(ks.map (·.1)).length<=3:=by erw [ah];exact K.l3
 have hn:ks.map (·.1)≠[]:=λ e=>by
  have h2:=K.l2
  rw [bY.mp e] at h2
  exact absurd h2 (by decide)
 exact ⟨⟨hr,hl,hn,λ p m=>(K.var p m).2,λ z m=>nomatch m⟩,⟨hr,hl,hn,λ v m=>by (refine Eea (az.mp m) λ p mp q=>?_;refine rwS q ?_);exact (K.var p mp).2,λ z m=>nomatch m⟩⟩
theorem zDf (K:KsOk g ds ks)(hr:BR g row){p:Int×Bool}(m:p∈ks):B01 (zB (run row ds) p.1):=JK hr (K.var p m).1.1 (K.var p m).1.2 (K.var p m).2
theorem Jb {l:List (Int×Bool)}:(l.map λ p=>rC p.2).any (λ z=>aV z (.bool b))=l.any λ p=>p.2==b:=by erw [ed];rfl
theorem vW (L:Law1 C){b:Int}{src:List ab}{vars:List ab}{made:List (Ky×D)}(hm:clM 8 (.tdict made)=true){d1 d4 d5 d7:Option D}{S:Fl->Rho->zA->Prop}{K:Rho×zA->Prop}:∀ (r:List (Int×Bool)) (tolds:List ab) (u3:Option D),tolds.length + r.length<=5000->(∀ p,p∈r->p.1≠b) ->
  (∀ v3,K ([some (.obj 2),d1,some (.obj (8 + τ.length)),v3,d4,d5,some (.p (.int b)),d7],zE fd pt vars (tolds++r.map λ p=>zN (zo [(b,false),p])) made++(τ++[.lst src]))) ->
  zT (zO C T1 (n + 2) (.nm 3) [(.expr (.meth (.nm 0) 27 [(.lst false [(.tup [(.c (.str "bit")),(.nm 6),(.c (.bool false))]),(.nm 3)])]))] (some (8 + τ.length,src)) S) (r.map zG) ([some (.obj 2),d1,some (.obj (8 + τ.length)),u3,d4,d5,some (.p (.int b)),d7],zE fd pt vars tolds made++(τ++[.lst src])) K:=by
 intro r
 induction r with
 | nil=>intro tolds u3 _ _ k;have:=k u3;rw [kC,aR] at this;exact this
 | cons p r ih =>
  intro tolds u3 hl hb k
  rw [a9] at hl
  have hp:=hb p (.head _)
  have BF:yu [.bit b false,.bit p.1 p.2]=false:=by
   show (false || ((decide ((b,!false)∈[(b,false),(p.1,p.2)])) || ((decide ((p.1,!p.2)∈[(b,false),(p.1,p.2)])) || false)))=false
   rw [decide_eq_false,decide_eq_false];rfl
   ·intro m
    refine Zo (motive:=λ x=>x=(p.1,!p.2)->False) m (λ e=>hp (congrArg iP e).symm) (λ m e=>?_) rfl
    have e2:=av.mp m
    have e3:(!p.2)=p.2:=congrArg nF e2
    cases hs:p.2 <;> rw [hs] at e3 <;> exact nomatch e3
   ·intro m
    rcases aA.mp m with e | m
    ·exact nomatch (congrArg nF e)
    ·exact hp (congrArg iP (av.mp m)).symm
  have hc:=XR (n:=n) (fd:=fd) (pt:=pt) (τ:=τ++[.lst src]) (vars:=vars) (tolds:=tolds) (made:=made) (us:=[.bit b false,.bit p.1 p.2]) (Q:=λ d σ'=>yC d (zU (some (8 + τ.length,src)) σ' (zT (zO C T1 (n + 2) (.nm 3) [(.expr (.meth (.nm 0) 27 [(.lst false [(.tup [(.c (.str "bit")),(.nm 6),(.c (.bool false))]),(.nm 3)])]))] (some (8 + τ.length,src)) S) (r.map zG) ([some (.obj 2),d1,some (.obj (8 + τ.length)),some (.p (zG p)),d4,d5,some (.p (.int b)),d7],σ') K))) L hm (λ t m=>by refine Zo m rfl λ m=>?_;refine z7 m rfl) (by decide:2<=4) (by exact lin [_,_] [] (.v 0) (.k 10000) [(1,.l (.a (.v 0) (.a (.v 1) (.k 1))) (.k 5000))] tT9 hl)
  rw [BF] at hc
  show zO _ _ _ _ _ _ _ (zG p) _ (λ a'=>zT _ (r.map zG) a' K)
  walk_at "go"
  refine hc ?_
  walk_at "st"
  refine ⟨QG,?_⟩
  refine ih _ _ (by erw [ao];show tolds.length + 1 + r.length<=5000;exact lin [_,_] [] (.a (.a (.v 0) (.k 1)) (.v 1)) (.k 5000) [(1,.l (.a (.v 0) (.a (.v 1) (.k 1))) (.k 5000))] tT9 hl) (λ p m=>hb p (.tail _ m)) λ v3=>?_
  have:=k v3
  erw [aI]
  exact this
end
section
variable {C:Cx}{n:Nat}{g:Gm}{fd:MO}{pt:D}{ds:List Df}{ts:List Td}{τ:zA}{Q:D->zA->Prop}
theorem zEg {l:List Int}(h:∀ p,p∈ks->B01 (zB l p.1))(hs:(ks.any λ p=>p.2==true)=false):(!ZG l (.or (ks.map (·.1))))=ks.all λ p=>bw l p==1:=by
 show (!((ks.map (·.1)).any λ v=>zB l v==1))=_
 (erw [ed];erw [fD];erw [kM])
 exact z6 λ p m=>by
  have e:p.2=false:=by
   cases hp:p.2
   ·rfl
   ·have:(ks.any λ p=>p.2==true)=true:=bv.mpr ⟨p,m,by erw [hp];rfl⟩
    rw [hs] at this;exact nomatch this
  show (!(zB l p.1==1))=(bw l p==1)
  unfold bw
  erw [e]
  show (!(zB l p.1==1))=(1 - zB l p.1==1)
  exact (h p m).el rfl rfl
theorem xC {f:List Int->Bool}{x:Int}(h:Tr g (ds++X) (.bit x true) f)(K:KsOk g ds ks)(hs:(ks.any λ p=>p.2==true)=false)(hf:∀ row,BR g row->f row=ZG (run row ds) (.or (ks.map (·.1)))):Tr g (ds++X) (.bit x false) λ row=>ks.all λ p=>bw (run row ds) p==1 :=
 h.neg.to λ row hr=>by erw [hf row hr];exact zEg (λ p m=>zDf K hr m) hs
theorem wv :(ks.any λ p=>p.2==false)=!(ks.all (·.2)):=by
 erw [fD]
 exact congrArg (!·) (z6 λ p _=>by cases p.2 <;> rfl)
theorem xU (hr:BR g row)(S:DfOk g (3 + ds.length) d):ZG (run row (ds++X)) d=ZG (run row ds) d:=by
 erw [YZ]
 refine Ee (run_len (ds:=X) (row:=run row ds)).2 λ Y e=>?_
 erw [e]
 exact xQ (by erw [Zp hr];exact S.refs)
theorem vt (L:Law1 C){d1 d3 d4 d5 d6 d7:Option D}(I:Inv g ds ts)(sQ:ds.length + ts.length<=800)(K0:KsOk g ds ks)
  (q:∀ t' sE sN,Stp g ds ts sE sN 5 (λ _=>true)->Tr g sE t' (λ row=>ks.all λ p=>bw (run row ds) p==1)->Q (.p (enc t')) (stt fd pt (vb0 g) sE sN++τ)) :
  wpSs C T1 (n + 3) (b_all_of.drop 2) [some (.obj 2),d1,some (.obj (8 + τ.length)),d3,d4,d5,d6,d7] (stt fd pt (vb0 g) ds ts++(τ++[.lst (ks.map zG)])) λ fl _ σ'=>Z0 (stt fd pt (vb0 g) ds ts++τ) Q fl σ':=by
 have tn:∀ ds ts,stt fd pt (vb0 g) ds ts=zE fd pt (vb0 g++ze 3 ds) (ts.map zN) (zm 3 ds):=λ _ _=>rfl
 have c1:∀ {vars tolds made} {x:MO},(zE fd pt vars tolds made++(τ++[x]))[8 + τ.length]?=some x:=λ {vars tolds made x}=>QG
 have c2:∀ {vars tolds made} {x y:MO},(zE fd pt vars tolds made++(τ++[x])).set (8 + τ.length) y=zE fd pt vars tolds made++(τ++[y]):=λ {vars tolds made x y}=>j6
 have t7:=λ (ds:List Df)=>YT ds 3
 have Bq:=y2 sQ rfl
 have KS:=K0.sort
 unfold b_all_of
 simp only [eg]
 refine zC ?_
 walk_at "st"
 erw [c1]
 walk_at "st"
 refine ⟨by erw [ah];exact af K0.l3 (by decide),λ h=>?_,λ _=>?_⟩
 ·have h:=cK.mp h
  rw [ah] at h
  exact absurd K0.l2 (rL.mpr h)
 walk_at "st"
 refine zC ?_
 walk_at "st"
 erw [c1]
 walk_at "st"
 refine ⟨ks,rfl,(Qu (af K0.l3 (by decide))).ok,?_⟩
 have KA:=KS.2
 have K:=KS.1
 clear KS
 generalize zb ks=l at K KA ⊢
 have q:∀ t' sE sN,Stp g ds ts sE sN 5 (λ _=>true)->Tr g sE t' (λ row=>l.all λ p=>bw (run row ds) p==1)->Q (.p (enc t')) (stt fd pt (vb0 g) sE sN++τ):=λ t' sE sN o T=>q t' sE sN o (T.to λ row _=>KA _)
 clear KA
 have hl:(l.map zG).length<=100000:=by erw [ah];exact af K.l3 (by decide)
 have tL:([]:List ab).length + l.length<=90000:=af (aL K.l3 0) (by decide)
 have C':∀ p,zG p=.tuple [.str "bit",.int p.1,.bool p.2]:=λ _=>rfl
 simp only [c2]
 refine zC ?_
 walk_at "st"
 erw [c1]
 walk_at "st"
 refine ⟨hl,qb (f:=zG) (h:=λ p=>.int p.1) l [] tL (λ p m acc K ha k=>by erw [C' p];walk_at "st";exact ⟨ha,c1,k⟩) ?_⟩
 erw [a6]
 refine rwE (show (l.map λ p=>bH p.1)=(l.map (·.1)).map .int from (bz ..).symm) ?_
 have t5:((l.map (·.1)).map bH).length<=100000:=by (erw [ah];erw [ah]);exact af K.l3 (by decide)
 unfold zi
 walk_at "st"
 refine ⟨t5,?_⟩
 erw [c1]
 walk_at "st"
 refine ⟨hl,qb (f:=zG) (h:=λ p=>.bool p.2) l [] tL (λ p m acc K ha k=>by erw [C' p];walk_at "st";exact ⟨ha,c1,k⟩) ?_⟩
 erw [a6]
 walk_at "st"
 refine zC ?_
 walk_at "st"
 erw [Jb]
 cases hs:l.any λ p=>p.2==true
 case false =>
  have Dr:=K.df.2
  walk_at "st"
  refine zC ?_
  walk_at "st"
  refine UP L (vb:=vb0 g) (ds:=ds) (ts:=ts) (τ:=τ++[.lst (l.map zG)]) (d:=.or (l.map (·.1))) rfl (by exact lin [_,_] [] (.v 0) (.k 1000) [(1,.l (.a (.v 0) (.v 1)) (.k 800))] tT9 sQ) (λ i hi=>?_) ?_
  ·walk_at "go"
   have T:=Q6 I hi
   have e:ds=ds++[]:=(aR _).symm
   refine Zi (t7 _) rfl (q (.bit ((3 + i:Nat):Int) false) ds ts ((Stp.refl I).to (λ _ _=>rfl) (by decide)) ?_)
   have R:=xC (X:=[]) (x:=((3 + i:Nat):Int)) (by erw [aR];exact T) K hs λ row hr=>rfl
   rw [aR] at R
   exact R
  ·have N:=Stp.new I Dr
   have T:=Q6 N.inv (i:=ds.length) a5
   have fin:=q _ _ _ N (xC T K hs λ row hr=>xU hr Dr)
   have ht:Zf ((3 + ds.length:Nat):Int) (.or (l.map (·.1)))=[.bo true (l.map (·.1)) ((3 + ds.length:Nat):Int)]:=rfl
   rw [YR,ht,aW,cI] at fin
   walk_at "go"
   refine Q1 L Bq ?_
   walk_at "go"
   exact Zi (t7 _) rfl fin
 case true =>
  have Da:=K.df.1
  walk_at "st"
  refine zC ?_
  walk_at "st"
  erw [c1]
  walk_at "st"
  refine ⟨hl,?_⟩
  refine UP L (vb:=vb0 g) (ds:=ds) (ts:=ts) (τ:=τ++[.lst (l.map zG)]) (d:=.all l) rfl (by exact lin [_,_] [] (.v 0) (.k 1000) [(1,.l (.a (.v 0) (.v 1)) (.k 800))] tT9 sQ) (λ i hi=>?_) ?_
  ·walk_at "go"
   exact Zi (t7 _) rfl (q (.bit ((3 + i:Nat):Int) true) ds ts ((Stp.refl I).to (λ _ _=>rfl) (by decide)) (Q6 I hi))
  ·have N:=Stp.new I Da
   have T:=(Q6 N.inv (i:=ds.length) a5).to (f':=λ row=>l.all λ p=>bw (run row ds) p==1) λ row hr=>xU hr Da
   have fin:=q _ _ _ N T
   have ht:Zf ((3 + ds.length:Nat):Int) (.all l)=bif l.all (·.2) then [.bo false (l.map (·.1)) ((3 + ds.length:Nat):Int)] else (l.map λ x=>zo [(((3 + ds.length:Nat):Int),false),x])++[zo ((((3 + ds.length:Nat):Int),true)::l.map flp)]:=rfl
   rw [YR,ht] at fin
   walk_at "go"
   erw [Jb]
   erw [wv]
   cases ha:l.all (·.2)
   case true =>
    rw [ha] at fin
    rw [show (bif true then [Td.bo false (l.map (·.1)) ((3 + ds.length:Nat):Int)] else (l.map λ x=>zo [(((3 + ds.length:Nat):Int),false),x])++[zo ((((3 + ds.length:Nat):Int),true)::l.map flp)])=[Td.bo false (l.map (·.1)) ((3 + ds.length:Nat):Int)] from rfl,aW,cI] at fin
    walk_at "go"
    refine Q1 L Bq ?_
    walk_at "go"
    exact Zi (t7 _) rfl fin
   case false =>
    rw [ha] at fin
    rw [show (bif false then [Td.bo false (l.map (·.1)) ((3 + ds.length:Nat):Int)] else (l.map λ x=>zo [(((3 + ds.length:Nat):Int),false),x])++[zo ((((3 + ds.length:Nat):Int),true)::l.map flp)])=(l.map λ x=>zo [(((3 + ds.length:Nat):Int),false),x])++[zo ((((3 + ds.length:Nat):Int),true)::l.map flp)] from rfl,aW,aW,cI,bz,<- aI] at fin
    have hk:(3 + (ds.length:Int))=((3 + ds.length:Nat):Int):=rfl
    erw [hk]
    have hb:∀ p,p∈l->p.1≠((3 + ds.length:Nat):Int):=λ p m=>Int.ne_of_lt (K.var p m).1.2
    generalize ((3 + ds.length:Nat):Int)=b at *
    have Bq:(ts.map zN).length<=800:=by erw [ah];exact af (b7 _ _) sQ
    generalize ts.map zN=tl at *
    walk_at "st"
    refine zC ?_
    walk_at "st"
    refine zC ?_
    walk_at "st"
    erw [c1]
    walk_at "st"
    refine ⟨hl,vW (n:=n + 1) L (t7 _) l tl _ (by have:=K.l3;exact lin [_,_] [] (.a (.v 0) (.v 1)) (.k 5000) [(1,.l (.v 0) (.k 800)),(1,.l (.v 1) (.k 3))] tT9 Bq this) hb λ v3=>?_⟩
    walk_at "st"
    refine zC ?_
    walk_at "st"
    erw [c1]
    walk_at "st"
    refine ⟨hl,qb (f:=zG) (h:=λ p=>zG (flp p)) l [] tL (λ p m acc K ha k=>?_) ?_⟩
    ·have Kv:∀ Q:D->zA->Prop,∀ σ,Q (.p (zG (flp p))) σ->SatCall C T1 (n + 3) 175 [.p (zG p)] σ Q:=λ Q σ q=>ZO (t:=.bit p.1 p.2) L rfl q
     walk_at "st"
     refine Kv _ _ ?_
     walk_at "st"
     exact ⟨ha,c1,k⟩
    erw [a6]
    unfold zi
    walk_at "st"
    have e1:ch [.str "bit",.int b,.bool true]::l.map (λ p=>zG (flp p))=(Th.bit b true::l.map λ p=>.bit p.1 (!p.2)).map enc:=by (erw [bl];erw [bz]);rfl
    have HS:ZL (Th.bit b true::l.map λ p=>.bit p.1 (!p.2))=(b,true)::l.map flp:=by
     show (b,true)::List.filterMap zDp (l.map λ p=>.bit p.1 (!p.2))=_
     rw [List.filterMap_map]
     exact congrArg _ (List.filterMap_eq_map (f:=flp)▸rfl)
    have BF:yu (Th.bit b true::l.map λ p=>.bit p.1 (!p.2))=false:=by
     unfold yu
     rw [dE,kN,kN]
     refine ⟨λ t m=>?_,λ t m=>?_⟩
     ·refine Zo m aT λ m=>?_
      (refine Eea (az.mp m) λ p mp q=>?_;refine rwS q ?_);exact aT
     ·unfold qr
      erw [HS]
      refine Zo m ?_ λ m=>?_
      ·intro e
       have e:=of_decide_eq_true e
       rcases aA.mp e with e | e
       ·exact nomatch (congrArg nF e)
       ·(refine Eea (az.mp e) λ p mp q=>?_);exact hb p mp (congrArg iP q)
      ·refine Eea (az.mp m) λ p mp q=>?_
       refine rwS (q ..) ?_
       intro e
       have e:=of_decide_eq_true e
       rcases aA.mp e with e | e
       ·exact hb p mp (congrArg iP e)
       ·refine Eea (az.mp e) λ p' KG q'=>?_
        have q2:p'=flp p:=by rw [<- zD5 (p:=p'),q'];show (p.1,!(!!p.2))=(p.1,!p.2);(erw [kM];rfl)
        exact K.nc p mp (q2▸KG)
    have hc:=λ {tolds Q}=>XR (n:=n + 1) (fd:=fd) (pt:=pt) (τ:=τ++[.lst (l.map zG)]) (vars:=vb0 g++ze 3 (ds++[.all l])) (tolds:=tolds) (made:=zm 3 (ds++[.all l])) (us:=Th.bit b true::l.map λ p=>.bit p.1 (!p.2)) (Q:=Q) L (t7 _) (λ t m=>by
     refine Zo m rfl λ m=>?_
     (refine Eea (az.mp m) λ p mp q=>?_;refine rwS q ?_);rfl) (by (erw [a9];erw [ah]);exact bp K.l3)
    rw [BF,HS,<- e1] at hc
    refine ⟨by erw [ah];exact af (aL K.l3 1) (by decide),?_⟩
    refine hc (by (erw [ao];erw [ah]);have:=K.l3;exact lin [_,_] [] (.a (.v 0) (.v 1)) (.k 10000) [(1,.l (.v 0) (.k 800)),(1,.l (.v 1) (.k 3))] tT9 Bq this) ?_
    walk_at "go"
    exact Zi (t7 _) rfl fin
end
section
variable {C:Cx}{n:Nat}{g:Gm}{fd:MO}{pt:D}{ds:List Df}{ts:List Td}{τ:zA}{Q:D->zA->Prop}
def Trs (g:Gm)(ds:List Df)(us:List Th):Prop:=∀ t,t∈us->∃ f,Tr g ds t f
theorem Trs.T (h:Trs g ds us):∀ t,t∈us->isT t=true:=λ t m=>Ee (h t m) λ f T=>T.T
theorem Trs.b01 (h:Trs g ds us)(hr:BR g row):∀ x s,.bit x s∈us->B01 (zB (run row ds) x):=λ x s m=>Ee (h _ m) λ f T=>T.b01 hr rfl
theorem Trs.app (h:Trs g ds us):Trs g (ds++X) us/\∀ row,BR g row->us.map (thB (run row (ds++X)))=us.map (thB (run row ds)) :=
 ⟨λ t m=>Ee (h t m) λ f T=>⟨f,T.app⟩,λ row hr=>cr λ t m=>Ee (h t m) λ f T=>(T.app (X:=X)).w row hr |>.trans (T.w row hr).symm⟩
theorem Trs.old {m:Nat}{P:List Int->Bool}(h:Trs g ds us)(o:Stp g ds ts sE sN m P):Trs g sE us/\∀ row,BR g row->us.map (thB (run row sE))=us.map (thB (run row ds)):=by
 refine Ee o.ex λ X q=>Ee q λ Y q=>?_
 erw [q.1];exact h.app
theorem Tr.self {t:Th}{f:List Int->Bool}(T:Tr g ds t f):Tr g ds t λ row=>thB (run row ds) t:=⟨T.T,T.var,λ _ _=>rfl⟩
theorem UI (L:Law1 C)(hl:us.length<=3)(F:Trs g ds us)(I:Inv g ds ts)(sQ:ds.length + ts.length<=800)
  (q:∀ t' sE sN,Stp g ds ts sE sN 5 (λ _=>true)->Tr g sE t' (λ row=>us.all (thB (run row ds)))->Q (.p (enc t')) (stt fd pt (vb0 g) sE sN++τ)) :
  SatCall C T1 (n + 4) 249 [.obj 2,.p (.list (us.map enc))] (stt fd pt (vb0 g) ds ts++τ) Q:=by
 refine zK L.Y L.TT L.all_of rfl ?_
 have Cz:=λ ks (d1 d3 d4 d5 d6 d7:Option D)=>vt (C:=C) (n:=n) (ks:=ks) (d1:=d1) (d3:=d3) (d4:=d4) (d5:=d5) (d6:=d6) (d7:=d7) (fd:=fd) (pt:=pt) (τ:=τ) (Q:=Q) L I sQ
 have tn:stt fd pt (vb0 g) ds ts=zE fd pt (vb0 g++ze 3 ds) (ts.map zN) (zm 3 ds):=rfl
 have O:Stp g ds ts ds ts 5 λ _=>true:=(Stp.refl I).to (λ _ _=>rfl) (by decide)
 unfold b_all_of at *
 simp only [eg] at Cz
 refine zC ?_
 walk_at "st"
 refine zC ?_
 walk_at "st"
 refine ⟨by erw [ah];exact af hl (by decide),vS L us [] none (af (aL hl 0) (by decide)) F.T (λ hn ρ ks=>?_) (λ ks hk v3=>?_)⟩
 ·exact Zg rfl (q (.tru false) ds ts O (Tr.tru.to λ row hr=>by have:=wa hn F.T (run row ds) (F.b01 hr);rw [show (([]:List (Int×Bool)).all λ p=>bw (run row ds) p==1)=true from rfl,cZ] at this;exact this.symm))
 ·have K:=W0 hk
  have hw:∀ row,BR g row->us.all (thB (run row ds))=ks.all λ p=>bw (run row ds) p==1:=λ row hr=>by have:=K.w (run row ds) (F.b01 hr);rw [show (([]:List (Int×Bool)).all λ p=>bw (run row ds) p==1)=true from rfl,cZ] at this;exact this
  have hv:∀ p,p∈ks->(0<=p.1/\p.1<((3 + ds.length:Nat):Int))/\Tv g p.1:=λ p m=>(K.sub p m).elim (λ m=>nomatch m) λ m=>Ee (F _ m) λ f T=>T.var _ _ rfl
  walk_at "st"
  match ks,hw,hv,K with
  | [],hw,_,_ =>
   have fin:=q (.tru true) ds ts O (Tr.tru.to λ row hr=>(hw row hr).symm)
   refine zC ?_
   walk_at "st"
   refine ⟨λ _=>?_,λ h=>absurd trivial h⟩
   walk_at "go"
   exact Zg rfl fin
  | [p],hw,hv,_ =>
   have fin:=q (.bit p.1 p.2) ds ts O ⟨rfl,λ x s e=>by injection e with e1 e2;subst e1;exact hv p (.head _),λ row hr=>by rw [hw row hr];show (bw _ (p.1,p.2)==1)=((bw _ p==1)&&true);(erw [cZ];rfl)⟩
   refine zC ?_
   walk_at "st"
   refine ⟨λ _=>?_,λ h=>absurd trivial h⟩
   walk_at "go"
   exact Zg rfl fin
  | p::p'::r,hw,hv,K =>
   (erw [ZY];erw [aI])
   refine Cz (p::p'::r) _ _ _ _ _ _ ⟨by show 2<=r.length + 2;exact b7 _ _,af K.len (by (erw [b8];erw [eV]);exact hl),hv,K.nc λ p m=>nomatch m⟩ λ t' sE sN o T=>q t' sE sN o (T.to λ row hr=>(hw row hr).symm)
theorem VN (L:Law1 C)(hl:us.length<=3)(F:Trs g ds us)(I:Inv g ds ts)(sQ:ds.length + ts.length<=800)
  (q:∀ t' sE sN,Stp g ds ts sE sN 5 (λ _=>true)->Tr g sE t' (λ row=>us.any (thB (run row ds)))->Q (.p (enc t')) (stt fd pt (vb0 g) sE sN++(τ++[.lst (us.map enc)]))) :
  SatCall C T1 (n + 5) 254 [.obj 2,.obj (8 + τ.length)] (stt fd pt (vb0 g) ds ts++(τ++[.lst (us.map enc)])) Q:=by
 refine zK L.Y L.TT L.any_of rfl ?_
 have c1:∀ {vars tolds made} {x:MO},(zE fd pt vars tolds made++(τ++[x]))[8 + τ.length]?=some x:=λ {vars tolds made x}=>QG
 have CO:Trs g ds (us.map neg):=λ t m=>by (refine Eea (az.mp m) λ u mu q=>?_;refine rwS q ?_);exact Ee (F u mu) λ f T=>⟨_,T.neg⟩
 unfold Y5
 refine zC ?_
 walk_at "st"
 erw [c1]
 walk_at "st"
 refine ⟨by erw [ah];exact af hl (by decide),qb (f:=enc) (h:=λ t=>enc (neg t)) us [] (af (aL hl 0) (by decide)) (λ t m acc K ha k=>?_) ?_⟩
 ·walk_at "st"
  refine ZO L (F.T t m) ?_
  walk_at "st"
  exact ⟨ha,c1,k⟩
 erw [a6]
 refine rwE (show (us.map λ t=>enc (neg t))=(us.map neg).map enc by refine rwE (bz ..) ?_;rfl) ?_
 unfold zi
 walk_at "st"
 refine UI L (us:=us.map neg) (by erw [ah];exact hl) CO I sQ λ t' sE sN o T=>?_
 walk_at "go"
 refine ZO L T.T ?_
 walk_at "go"
 refine zD rfl (q (neg t') sE sN o (T.neg.to λ row hr=>?_))
 (erw [gh];erw [fD])
 exact congrArg (!·) (z6 λ t m=>Ee (F t m) λ f T=>(T.neg.w row hr).trans (congrArg (!·) (T.w row hr).symm))
theorem uD {l:List Int}(hT:∀ t,t∈us->isT t=true)(hb:∀ x s,.bit x s∈us->B01 (zB l x)):(yu us=true->us.any (thB l)=true)/\(yu us=false->((ZL us).any λ p=>bw l p==1)=us.any (thB l)):=by
 constructor
 ·intro h
  rcases (f8 _ _).mp h with h | h
  ·obtain ⟨t,m,e⟩:=bv.mp h
   refine bv.mpr ⟨t,m,?_⟩
   cases t with
   | tru b=>exact eq_of_beq e
   | _=>exact nomatch e
  ·obtain ⟨t,m,e⟩:=bv.mp h
   cases t with
   | bit x s =>
    have m2:=mem_bitsT.mp (of_decide_eq_true e)
    have key:(bw l (x,!s)==1)=!(bw l (x,s)==1):=jl (p:=(x,s)) (hb x s m)
    cases hx:(bw l (x,s)==1)
    ·exact bv.mpr ⟨_,m2,by show (bw l (x,!s)==1)=true;(erw [key];erw [hx]);rfl⟩
    ·exact bv.mpr ⟨_,m,hx⟩
   | _=>exact nomatch e
 ·intro h
  have h1:=((dE).mp h).1
  clear h hb
  induction us with
  | nil=>rfl
  | cons t us ih =>
   rw [cV,dE] at h1
   have ih:=ih (λ t m=>hT t (.tail _ m)) h1.2
   have Cj:=hT t (.head _)
   cases t with
   | tru c =>
    cases c
    ·exact ih
    ·exact nomatch h1.1
   | bit x s=>exact congrArg ((bw l (x,s)==1) || ·) ih
   | num i=>exact nomatch Cj
   | sum ps c=>exact nomatch Cj
theorem YQ (L:Law1 C)(hl:us.length<=4)(F:Trs g ds us)(I:Inv g ds ts)(sQ:ds.length + ts.length<=800)
  (q:∀ sE sN,Stp g ds ts sE sN 1 (λ row=>us.any (thB (run row ds)))->Q (.p .none) (stt fd pt (vb0 g) sE sN++τ)) :
  SatCall C T1 (n + 2) 266 [.obj 2,.p (.list (us.map enc))] (stt fd pt (vb0 g) ds ts++τ) Q:=by
 refine XR L (YT ds 3) F.T hl (y2 sQ rfl) ?_
 cases hm:yu us
 ·have h4:(ZL us).length<=4:=af Jh hl
  have fin:=q ds (ts++[zo (ZL us)]) ((Stp.post I (wO h4 λ p m=>by obtain ⟨x,s⟩:=p;exact Ee (F _ (mem_bitsT.mp m)) λ f T=>(T.var x s rfl).1)).to (λ row hr=>by erw [JO h4];exact (uD F.T (F.b01 hr)).2 hm) (aQ _))
  rw [YR,aW,cI] at fin
  exact fin
 ·have fin:=q ds ts ((Stp.refl I).to (λ row hr=>((uD F.T (F.b01 hr)).1 hm).symm) (by decide))
  (refine rwE (show (bif true then ([]:List ab) else [zN (zo (ZL us))])=[] from rfl) ?_;erw [aR])
  exact fin
end
noncomputable def inM (w:Int)(rs:List (Int×Int)):Bool:=rs.any λ p=>decide (p.1<=w)&&decide (w<=p.2)
structure DOk (rs:List (Int×Int)):Prop where
 len:rs.length<=3
 sm:∀ p,p∈rs->Lm c0 p.1/\Lm c0 p.2
 up:∀ p,p∈rs->p.1<=p.2
 gap:rs.Pairwise λ p q=>p.2<q.1
theorem VR {α β:Type}{l:List α}{f:α->β}{p:β->Bool}:(l.map f).any p=l.any λ a=>p (f a):=by erw [ed];rfl
theorem Xe {l l':List Int}(h:us.map (thB l')=us.map (thB l)):us.any (thB l')=us.any (thB l)/\us.all (thB l')=us.all (thB l):=by
 have e:=λ x=>VR (l:=us) (f:=thB x) (p:=id)
 have e2:∀ x,(us.map (thB x)).all id=us.all (thB x):=λ x=>by erw [gh];rfl
 exact ⟨(e l').symm.trans ((congrArg (kL · id) h).trans (e l)),(e2 l').symm.trans ((congrArg (List.all · id) h).trans (e2 l))⟩
section
variable {C:Cx}{n:Nat}{g:Gm}{fd:MO}{pt:D}{ds:List Df}{ts:List Td}{τ:zA}{Q:D->zA->Prop}
theorem qn {i:Int}(h:Lm c0 i):VOk A0 c0 (.num i):=⟨λ p m=>(nomatch m),.nil,λ p m=>(nomatch m),λ p m=>(nomatch m),h⟩
theorem zAT (L:Law1 C)(G:GOk g)(V:VOk A0 c0 value){d2:Option D}{S:Fl->Rho->zA->Prop}{K:Rho×zA->Prop}:∀ (rs:List (Int×Int)) (ds:List Df) (ts:List Td) (us:List Th) (u4 u5:Option D),Inv g ds ts->ds.length + ts.length + 15 * rs.length<=780->Trs g ds us->us.length + rs.length<=3->(∀ p,p∈rs->Lm c0 p.1/\Lm c0 p.2) ->
  (∀ sE sN Du v4 v5,Stp g ds ts sE sN (15 * rs.length) (λ _=>true)->Trs g sE Du->Du.length<=3->(∀ row,BR g row->Du.any (thB (run row sE))=(us.any (thB (run row ds)) || inM (zH row value) rs))->K ([some (.obj 2),some (.p (enc value)),d2,some (.obj (8 + τ.length)),v4,v5],stt fd pt (vb0 g) sE sN++(τ++[.lst (Du.map enc)]))) ->
  zT (zO C T1 (n + 7) (.tup [(.nm 4),(.nm 5)]) [(.expr (.meth (.nm 3) 0 [(.meth (.nm 0) 31 [(.lst false [(.meth (.nm 0) 37 [(.c (.str ">=")),(.nm 1),(.nm 4)]),(.meth (.nm 0) 37 [(.c (.str "<=")),(.nm 1),(.nm 5)])])])]))] none S) (zR rs)
   ([some (.obj 2),some (.p (enc value)),d2,some (.obj (8 + τ.length)),u4,u5],stt fd pt (vb0 g) ds ts++(τ++[.lst (us.map enc)])) K:=by
 intro rs
 induction rs with
 | nil =>
  intro ds ts us u4 u5 I sQ F hl _ k
  exact k ds ts us u4 u5 (Stp.refl I) F (by simpa using hl) λ row hr=>(cW _).symm
 | cons p rs ih =>
  intro ds ts us u4 u5 I sQ F hl hp k
  rw [a9] at sQ hl
  have c1:∀ {vars tolds made} {x:MO},(zE fd pt vars tolds made++(τ++[x]))[8 + τ.length]?=some x:=λ {vars tolds made x}=>QG
  have c2:∀ {vars tolds made} {x y:MO},(zE fd pt vars tolds made++(τ++[x])).set (8 + τ.length) y=zE fd pt vars tolds made++(τ++[y]):=λ {vars tolds made x y}=>j6
  have tn:∀ ds ts,stt fd pt (vb0 g) ds ts=zE fd pt (vb0 g++ze 3 ds) (ts.map zN) (zm 3 ds):=λ _ _=>rfl
  show zO _ _ _ _ _ _ _ (ch [.int p.1,.int p.2]) _ (λ a'=>zT _ (zR rs) a' K)
  walk_at "go"
  erw [c1]
  walk_at "st"
  refine zDH (n:=n) (other:=.num p.1) (ds:=ds) L G V (qn (hp p (.head _)).1) I (by exact lin [_,_,_] [] (.a (.v 0) (.v 1)) (.k 800) [(1,.l (.a (.a (.v 0) (.v 1)) (.m 15 (.a (.v 2) (.k 1)))) (.k 780))] tT9 sQ) λ a AT Ch o1 Ta=>?_
  have l1:=o1.len
  walk_at "st"
  refine zCD (n:=n + 1) (other:=.num p.2) (ds:=AT) L G V (qn (hp p (.head _)).2) o1.inv (by exact lin [_,_,_,_,_] [] (.a (.v 0) (.v 1)) (.k 800) [(1,.l (.a (.a (.v 2) (.v 3)) (.m 15 (.a (.v 4) (.k 1)))) (.k 780)),(1,.l (.a (.v 0) (.v 1)) (.a (.a (.v 2) (.v 3)) (.k 5)))] tT9 sQ l1) λ b tY Ax o2 Tb=>?_
  have l2:=o2.len
  walk_at "st"
  have HK:=Ta.old o2
  refine UI (n:=n + 3) (us:=[a,b]) (ds:=tY) L (by decide:2<=3) (λ t m=>by refine Zo m ⟨_,HK⟩ λ m=>?_;refine z7 m ⟨_,Tb⟩) o2.inv (by exact lin [_,_,_,_,_,_,_] [] (.a (.v 0) (.v 1)) (.k 800) [(1,.l (.a (.a (.v 2) (.v 3)) (.m 15 (.a (.v 4) (.k 1)))) (.k 780)),(1,.l (.a (.v 5) (.v 6)) (.a (.a (.v 2) (.v 3)) (.k 5))),(1,.l (.a (.v 0) (.v 1)) (.a (.a (.v 5) (.v 6)) (.k 5)))] tT9 sQ l1 l2) λ t' B7 Dx o3 T=>?_
  have l3:=o3.len
  walk_at "st"
  erw [c1]
  walk_at "st"
  simp only [c2]
  have O:=(o1.trans o2).trans o3
  have F':=F.old O
  have T':Tr g B7 t' λ row=>decide (p.1<=zH row value)&&decide (zH row value<=p.2):=T.to λ row hr=>by
   show (thB (run row tY) a&&(thB (run row tY) b&&true))=_
   rw [HK.w row hr,Tb.w row hr,zt,zt,cZ]
  have e:us.map enc++[enc t']=(us++[t']).map enc:=by erw [aW];rfl
  refine ⟨by erw [ah];exact lin [_,_] [] (.v 0) (.k 100000) [(1,.l (.a (.v 0) (.a (.v 1) (.k 1))) (.k 3))] tT9 hl,?_⟩
  erw [e]
  refine ih B7 Dx (us++[t']) _ _ o3.inv (by exact lin [_,_,_,_,_,_,_,_,_] [] (.a (.a (.v 0) (.v 1)) (.m 15 (.v 2))) (.k 780) [(1,.l (.a (.a (.v 3) (.v 4)) (.m 15 (.a (.v 2) (.k 1)))) (.k 780)),(1,.l (.a (.v 5) (.v 6)) (.a (.a (.v 3) (.v 4)) (.k 5))),(1,.l (.a (.v 7) (.v 8)) (.a (.a (.v 5) (.v 6)) (.k 5))),(1,.l (.a (.v 0) (.v 1)) (.a (.a (.v 7) (.v 8)) (.k 5)))] tT9 sQ l1 l2 l3) (λ t m=>?_) (by (erw [ao];erw [aD]);exact lin [_,_] [] (.a (.a (.v 0) (.k 1)) (.v 1)) (.k 3) [(1,.l (.a (.v 0) (.a (.v 1) (.k 1))) (.k 3))] tT9 hl) (λ q m=>hp q (.tail _ m)) λ sE sN Du v4 v5 o Fs IA hw=>k sE sN Du v4 v5 ((O.trans o).to (λ _ _=>rfl) (by rw [a9];exact lin [_] [] (.a (.a (.a (.k 5) (.k 5)) (.k 5)) (.m 15 (.v 0))) (.m 15 (.a (.v 0) (.k 1))) [] tT9)) Fs IA λ row hr=>?_
  ·rcases bg.mp m with m | m
   ·exact F'.1 t m
   ·refine z7 m ⟨_,T'⟩
  ·rw [hw row hr,List.any_append,(Xe (F'.2 row hr)).1]
   show (us.any (thB (run row ds)) || (thB (run row B7) t' || false) || inM (zH row value) rs)=(us.any (thB (run row ds)) || ((decide (p.1<=zH row value)&&decide (zH row value<=p.2)) || inM (zH row value) rs))
   rw [T'.w row hr,cW,rh]
theorem JJ (L:Law1 C)(G:GOk g)(V:VOk A0 c0 value)(R:DOk rs)(I:Inv g ds ts)(sQ:ds.length + ts.length<=700)
  (q:∀ t' sE sN,Stp g ds ts sE sN 50 (λ _=>true)->Tr g sE t' (λ row=>inM (zH row value) rs)->Q (.p (enc t')) (stt fd pt (vb0 g) sE sN++τ)) :
  SatCall C T1 (n + 8) 427 [.obj 2,.p (enc value),.p (zw rs)] (stt fd pt (vb0 g) ds ts++τ) Q:=by
 have tn:∀ ds ts,stt fd pt (vb0 g) ds ts=zE fd pt (vb0 g++ze 3 ds) (ts.map zN) (zm 3 ds):=λ _ _=>rfl
 have len:=R.len
 refine zK L.Y L.TT L.is_in rfl ?_
 unfold JA zw
 refine zC ?_
 walk_at "st"
 erw [ZY]
 erw [aI]
 refine zC ?_
 walk_at "st"
 refine ⟨by erw [zl];exact af len (nB9 rfl),zAT (n:=n) L G V rs ds ts [] _ _ I (by omega) (λ t m=>(nomatch m)) (by (erw [b8];erw [eV]);exact len) R.sm λ sE sN Du v4 v5 o F hl hw=>?_⟩
 have lo:=o.len
 refine zC ?_
 walk_at "st"
 refine VN (n:=n + 2) (ds:=sE) L hl F o.inv (by omega) λ t' tY Ax o2 T=>?_
 walk_at "go"
 exact Zi (YT tY 3) rfl (q t' tY Ax ((o.trans o2).to (λ _ _=>rfl) (by omega)) (T.to λ row hr=>by erw [hw row hr];rfl))
end
section
variable {C:Cx}{n:Nat}{g:Gm}{fd:MO}{pt:D}{ds:List Df}{ts:List Td}{τ:zA}{Q:D->zA->Prop}
noncomputable def Vz:List St:=[(.asg (.tup [(.pt (.nm 4)),(.pt (.nm 5))]) (.tup [(.meth (.nm 0) 37 [(.c (.str "<=")),(.nm 1),(.sub (.sub (.nm 2) (.bin .Sub (.nm 3) (.c (.int (1))))) (.c (.int (1))))]),(.meth (.nm 0) 37 [(.c (.str ">=")),(.nm 1),(.sub (.sub (.nm 2) (.nm 3)) (.c (.int (0))))])])),(.expr (.meth (.nm 0) 27 [(.lst false [(.nm 4),(.nm 5)])]))]
theorem VI (L:Law1 C)(G:GOk g)(V:VOk A0 c0 value){xs:List ab}{a b c d:Int}{u3 u4 u5:Option D}{S:Fl->Rho->zA->Prop}{K:Rho×zA->Prop}(hk:k<=5)(h1:xs[k]?=some (.tuple [.int a,.int b]))(h2:xs[k + 1]?=some (.tuple [.int c,.int d]))(hb:Lm c0 b)(hc:Lm c0 c)(I:Inv g ds ts)(sQ:ds.length + ts.length<=750)
  (q:∀ sE sN v3 v4 v5,Stp g ds ts sE sN 11 (λ row=>decide (zH row value<=b) || decide (c<=zH row value))->K ([some (.obj 2),some (.p (enc value)),some (.p (.tuple xs)),v3,v4,v5],stt fd pt (vb0 g) sE sN++τ)) :
  zO C T1 (n + 7) (.nm 3) Vz none S (.int ((k + 1:Nat):Int)) ([some (.obj 2),some (.p (enc value)),some (.p (.tuple xs)),u3,u4,u5],stt fd pt (vb0 g) ds ts++τ) K:=by
 have tn:∀ ds ts,stt fd pt (vb0 g) ds ts=zE fd pt (vb0 g++ze 3 ds) (ts.map zN) (zm 3 ds):=λ _ _=>rfl
 have e1:((k + 1:Nat):Int) - 1=(k:Nat):=by exact be (liZ [_] [] (.s (.c (.a (.v 0) (.k 1))) (.k 1)) (.c (.v 0)) [] tT9) (liZ [_] [] (.c (.v 0)) (.s (.c (.a (.v 0) (.k 1))) (.k 1)) [] tT9)
 have sm:∀ k:Nat,k<=6->-9223372036854775808<=(k:Int)/\(k:Int)<9223372036854775808:=λ k h=>⟨bh (by decide) (bn k),gw (dW.mpr h) (by decide)⟩
 have g1:∀ k:Nat,((idx xs.length (k:Int)).bind λ j=>xs[j]?)=xs[k]?:=λ k=>rfl
 unfold Vz
 generalize Ag:((k + 1:Nat):Int)=kk at *
 walk_at "st"
 refine zC ?_
 walk_at "st"
 erw [e1]
 erw [(g1 k).trans h1]
 refine ⟨sm k (by exact fK hk),?_⟩
 walk_at "st"
 refine zCD (n:=n + 1) (other:=.num b) (ds:=ds) L G V (qn hb) I (by exact af sQ (nB9 rfl)) λ x AT Ch o1 Tx=>?_
 have l1:=o1.len
 walk_at "st"
 refine rwS (Ag ..) ?_
 erw [(g1 (k + 1)).trans h2]
 refine ⟨sm (k + 1) (by exact bp hk),?_⟩
 walk_at "st"
 refine zDH (n:=n) (other:=.num c) (ds:=AT) L G V (qn hc) o1.inv (by exact lin [_,_,_,_] [] (.a (.v 0) (.v 1)) (.k 800) [(1,.l (.a (.v 2) (.v 3)) (.k 750)),(1,.l (.a (.v 0) (.v 1)) (.a (.a (.v 2) (.v 3)) (.k 5)))] tT9 sQ l1) λ y tY Ax o2 Ty=>?_
 have l2:=o2.len
 have HT:=Tx.old o2
 walk_at "st"
 refine zC ?_
 walk_at "st"
 refine YQ (n:=n + 5) (us:=[x,y]) (ds:=tY) L (by decide:2<=4) (λ t m=>by refine Zo m ⟨_,HT⟩ λ m=>?_;refine z7 m ⟨_,Ty⟩) o2.inv (by exact lin [_,_,_,_,_,_] [] (.a (.v 0) (.v 1)) (.k 800) [(1,.l (.a (.v 2) (.v 3)) (.k 750)),(1,.l (.a (.v 4) (.v 5)) (.a (.a (.v 2) (.v 3)) (.k 5))),(1,.l (.a (.v 0) (.v 1)) (.a (.a (.v 4) (.v 5)) (.k 5)))] tT9 sQ l1 l2) λ B7 Dx o3=>?_
 walk_at "st"
 exact q B7 Dx _ _ _ (((o1.trans o2).trans o3).to (λ row hr=>by
  show (thB (run row tY) x || (thB (run row tY) y || false))=_
  rw [HT.w row hr,Ty.w row hr,zt,zt,cW]) (by exact aQ _))
theorem zFS {a b:Int}:inM w [(a,b)]=(decide (a<=w)&&decide (w<=b)):=cW _
theorem zA4 {a b c d:Int}(h1:a<=b)(h2:b<c)(h3:c<=d):inM w [(a,b),(c,d)]=((decide (a<=w)&&decide (w<=d))&&(decide (w<=b) || decide (c<=w))):=by
 show ((decide (a<=w)&&decide (w<=b)) || ((decide (c<=w)&&decide (w<=d)) || false))=_
 by_cases hb:w<=b
 ·rw [decide_eq_true hb,decide_eq_false (dZ.mpr (gw hb h2)),decide_eq_true (bh hb (bh (cg h2) h3))]
  cases decide (a<=w) <;> rfl
 ·rw [decide_eq_false hb,decide_eq_true (bh h1 (cg (dZ.mp hb)))]
  cases decide (c<=w) <;> cases decide (w<=d) <;> rfl
theorem zGi {a b c d e f:Int}(h1:a<=b)(h2:b<c)(h3:c<=d)(h4:d<e)(h5:e<=f):inM w [(a,b),(c,d),(e,f)]=(((decide (a<=w)&&decide (w<=f))&&(decide (w<=b) || decide (c<=w)))&&(decide (w<=d) || decide (e<=w))):=by
 have k2:=zA4 (w:=w) h1 h2 (bh h3 (bh (cg h4) h5))
 have k1:=zA4 (w:=w) h3 h4 h5
 rw [<- k2]
 show ((decide (a<=w)&&decide (w<=b)) || inM w [(c,d),(e,f)])=(((decide (a<=w)&&decide (w<=b)) || ((decide (c<=w)&&decide (w<=f)) || false))&&(decide (w<=d) || decide (e<=w)))
 rw [k1]
 by_cases hb:w<=b
 ·rw [decide_eq_true hb,decide_eq_true (bh hb (bh (cg h2) h3))]
  cases decide (a<=w) <;> cases decide (c<=w) <;> cases decide (w<=f) <;> rfl
 ·rw [decide_eq_false hb,eJ]
  cases decide (c<=w) <;> cases decide (w<=f) <;> rfl
theorem WJ (L:Law1 C)(G:GOk g)(V:VOk A0 c0 value)(R:DOk rs)(I:Inv g ds ts)(sQ:ds.length + ts.length<=700)
  (q:∀ sE sN,Stp g ds ts sE sN 50 (λ row=>inM (zH row value) rs)->Q (.p .none) (stt fd pt (vb0 g) sE sN++τ)) :
  SatCall C T1 (n + 8) 434 [.obj 2,.p (enc value),.p (zw rs)] (stt fd pt (vb0 g) ds ts++τ) Q:=by
 have tn:∀ ds ts,stt fd pt (vb0 g) ds ts=zE fd pt (vb0 g++ze 3 ds) (ts.map zN) (zm 3 ds):=λ _ _=>rfl
 have len:=R.len
 have turn:=λ {xs k a b c d u3 u4 u5 S K ds ts}=>VI (C:=C) (n:=n) (g:=g) (fd:=fd) (pt:=pt) (τ:=τ) (value:=value) (xs:=xs) (k:=k) (a:=a) (b:=b) (c:=c) (d:=d) (u3:=u3) (u4:=u4) (u5:=u5) (S:=S) (K:=K) (ds:=ds) (ts:=ts) L G V
 refine zK L.Y L.TT L.post_in rfl ?_
 unfold Vz at turn
 unfold yp zw
 match rs,R,len,q with
 | [],_,_,q =>
  have e0:zR []=[]:=rfl
  erw [e0]
  refine zC ?_
  walk_at "st"
  refine zC ?_
  walk_at "st"
  refine YQ (n:=n + 5) (us:=[]) (ds:=ds) L (by decide:0<=4) (λ t m=>(nomatch m)) I (by exact af sQ (nB9 rfl)) λ AT Ch o=>?_
  walk_at "go"
  exact zD rfl (q AT Ch (o.to (λ _ _=>rfl) (by decide)))
 | [p],R,_,q =>
  have Rp:=R.sm p (.head _)
  have e0:zR [p]=[.tuple [.int p.1,.int p.2]]:=rfl
  erw [e0]
  refine zC ?_
  walk_at "st"
  refine zC ?_
  walk_at "st"
  refine Yy (n:=n) (other:=.num p.1) (ds:=ds) L G V (qn Rp.1) I (by exact af sQ (nB9 rfl)) λ AT Ch o1=>?_
  have l1:=o1.len
  walk_at "st"
  refine zC ?_
  walk_at "st"
  refine yQ (n:=n + 1) (other:=.num p.2) (ds:=AT) L G V (qn Rp.2) o1.inv (by exact lin [_,_,_,_] [] (.a (.v 0) (.v 1)) (.k 800) [(1,.l (.a (.v 2) (.v 3)) (.k 700)),(1,.l (.a (.v 0) (.v 1)) (.a (.a (.v 2) (.v 3)) (.k 1)))] tT9 sQ l1) λ tY Ax o2=>?_
  walk_at "st"
  refine zC ?_
  walk_at "st"
  have e1:ZE 1 1=[]:=rfl
  erw [e1]
  refine ⟨bd _,zu ?_⟩
  walk_at "go"
  exact zD rfl (q tY Ax ((o1.trans o2).to (λ row _=>by (erw [zFS];erw [zt];erw [zt];rfl)) (by decide)))
 | [p,p'],R,_,q =>
  have Rp:=R.sm p (.head _)
  have E5:=R.sm p' (.tail _ (.head _))
  have u1:=R.up p (.head _)
  have u2:=R.up p' (.tail _ (.head _))
  have g1:=(cv.mp R.gap).1 p' (.head _)
  have e0:zR [p,p']=[.tuple [.int p.1,.int p.2],.tuple [.int p'.1,.int p'.2]]:=rfl
  erw [e0]
  refine zC ?_
  walk_at "st"
  refine zC ?_
  walk_at "st"
  refine Yy (n:=n) (other:=.num p.1) (ds:=ds) L G V (qn Rp.1) I (by exact af sQ (nB9 rfl)) λ AT Ch o1=>?_
  have l1:=o1.len
  walk_at "st"
  refine zC ?_
  walk_at "st"
  refine yQ (n:=n + 1) (other:=.num p'.2) (ds:=AT) L G V (qn E5.2) o1.inv (by exact lin [_,_,_,_] [] (.a (.v 0) (.v 1)) (.k 800) [(1,.l (.a (.v 2) (.v 3)) (.k 700)),(1,.l (.a (.v 0) (.v 1)) (.a (.a (.v 2) (.v 3)) (.k 1)))] tT9 sQ l1) λ tY Ax o2=>?_
  have l2:=o2.len
  walk_at "st"
  refine zC ?_
  walk_at "st"
  have e1:ZE 1 2=[.int ((0 + 1:Nat):Int)]:=rfl
  erw [e1]
  refine ⟨(by decide:1<=100000),zL ?_⟩
  refine turn (ds:=tY) (by decide) rfl rfl Rp.2 E5.1 o2.inv (by exact lin [_,_,_,_,_,_] [] (.a (.v 0) (.v 1)) (.k 750) [(1,.l (.a (.v 2) (.v 3)) (.k 700)),(1,.l (.a (.v 4) (.v 5)) (.a (.a (.v 2) (.v 3)) (.k 1))),(1,.l (.a (.v 0) (.v 1)) (.a (.a (.v 4) (.v 5)) (.k 1)))] tT9 sQ l1 l2) λ B7 Dx v3 v4 v5 o3=>zu ?_
  walk_at "go"
  exact zD rfl (q B7 Dx (((o1.trans o2).trans o3).to (λ row _=>by (erw [zA4 u1 g1 u2];erw [zt];erw [zt];rfl)) (by decide)))
 | [p,p',p''],R,_,q =>
  have Rp:=R.sm p (.head _)
  have E5:=R.sm p' (.tail _ (.head _))
  have E3:=R.sm p'' (.tail _ (.tail _ (.head _)))
  have u1:=R.up p (.head _)
  have u2:=R.up p' (.tail _ (.head _))
  have u3:=R.up p'' (.tail _ (.tail _ (.head _)))
  have gg:=cv.mp R.gap
  have g1:=gg.1 p' (.head _)
  have g2:=(cv.mp gg.2).1 p'' (.head _)
  have e0:zR [p,p',p'']=[.tuple [.int p.1,.int p.2],.tuple [.int p'.1,.int p'.2],.tuple [.int p''.1,.int p''.2]]:=rfl
  erw [e0]
  refine zC ?_
  walk_at "st"
  refine zC ?_
  walk_at "st"
  refine Yy (n:=n) (other:=.num p.1) (ds:=ds) L G V (qn Rp.1) I (by exact af sQ (nB9 rfl)) λ AT Ch o1=>?_
  have l1:=o1.len
  walk_at "st"
  refine zC ?_
  walk_at "st"
  refine yQ (n:=n + 1) (other:=.num p''.2) (ds:=AT) L G V (qn E3.2) o1.inv (by exact lin [_,_,_,_] [] (.a (.v 0) (.v 1)) (.k 800) [(1,.l (.a (.v 2) (.v 3)) (.k 700)),(1,.l (.a (.v 0) (.v 1)) (.a (.a (.v 2) (.v 3)) (.k 1)))] tT9 sQ l1) λ tY Ax o2=>?_
  have l2:=o2.len
  walk_at "st"
  refine zC ?_
  walk_at "st"
  have e1:ZE 1 3=[.int ((0 + 1:Nat):Int),.int ((1 + 1:Nat):Int)]:=rfl
  erw [e1]
  refine ⟨(by decide:2<=100000),zL ?_⟩
  refine turn (ds:=tY) (by decide) rfl rfl Rp.2 E5.1 o2.inv (by exact lin [_,_,_,_,_,_] [] (.a (.v 0) (.v 1)) (.k 750) [(1,.l (.a (.v 2) (.v 3)) (.k 700)),(1,.l (.a (.v 4) (.v 5)) (.a (.a (.v 2) (.v 3)) (.k 1))),(1,.l (.a (.v 0) (.v 1)) (.a (.a (.v 4) (.v 5)) (.k 1)))] tT9 sQ l1 l2) λ B7 Dx v3 v4 v5 o3=>zL ?_
  have l3:=o3.len
  refine turn (ds:=B7) (by decide) rfl rfl E5.2 E3.1 o3.inv (by exact lin [_,_,_,_,_,_,_,_] [] (.a (.v 0) (.v 1)) (.k 750) [(1,.l (.a (.v 2) (.v 3)) (.k 700)),(1,.l (.a (.v 4) (.v 5)) (.a (.a (.v 2) (.v 3)) (.k 1))),(1,.l (.a (.v 6) (.v 7)) (.a (.a (.v 4) (.v 5)) (.k 1))),(1,.l (.a (.v 0) (.v 1)) (.a (.a (.v 6) (.v 7)) (.k 11)))] tT9 sQ l1 l2 l3) λ KN KY v3 v4 v5 o4=>zu ?_
  walk_at "go"
  exact zD rfl (q KN KY ((((o1.trans o2).trans o3).trans o4).to (λ row _=>by (erw [zGi u1 g1 u2 g2 u3];erw [zt];erw [zt];rfl)) (by decide)))
 | a::b::c::d::r,_,h,_=>exact absurd h (by show ¬ r.length + 4<=3;exact kQ (b7 _ _))
end
noncomputable def zx (cells:List Int)(k:Nat):MO:=.rdict [(13,.p (.list (cells.map .int))),(14,.p (.int k))]
structure RowOk (row:List Int):Prop where
 len:row.length<=1000
 sm:∀ p,0<=p->p<(row.length:Int)->Lm 100 (zB row p)
theorem Q3 (h0:0<=p)(h1:p<(row.length:Int)):((idx (row.map bH).length p).bind λ j=>(row.map bH)[j]?)=some (.int (zB row p)):=by
 (refine Ee (cz h0) λ k Bb=>?_;obtain rfl:=Bb)
 have sW:k<row.length:=cK.mp h1
 erw [xI]
 simp only [fc,bt,ay sW,lu,zB,bT,aX,dg]
theorem RowOk.ix (R:RowOk row)(h0:0<=p)(h1:p<(row.length:Int)):-9223372036854775808<=p/\p<9223372036854775808:=by
 have:=R.len
 exact ⟨bh (oD9 rfl) h0,liZ [_] [_] (.a (.v 0) (.k 1)) (.k 9223372036854775808) [(1,.L (.a (.v 0) (.k 1)) (.c (.v 0))),(1,.l (.v 0) (.k 1000))] tT9 h1 this⟩
theorem zBv:∀ zs:List (Int×Int),W8 ((zs.map (·.1)).map .int) ((zs.map (·.2)).map .int)=zR zs:=by
 intro zs
 induction zs with
 | nil=>rfl
 | cons z zs ih=>exact congrArg (ch [.int z.1,.int z.2]::·) ih
theorem Ua {l:List Int}{i:Int}{f:Int->Int}:((l.map λ v=>bH (f v)).any λ z=>aV z (.int i))=l.any λ v=>f v==i:=by
 erw [ed];rfl
section
variable {C:Cx}{n:Nat}{pt:D}{vars tolds:List ab}{made:List (Ky×D)}{τ σ:zA}{Q:D->zA->Prop}
theorem ZH (L:Law1 C){m:Int}(hm:0<m/\m<=1000)(hk:k<=1000)(hl:cells.length<=100)(q:∀ v:Int,0<=v->v<m->Q (.p (.int v)) (zE (zx cells (k + 1)) pt vars tolds made++τ)) :
  SatCall C T1 (n + 1) 460 [.obj 0,.p (.int m)] (zE (zx cells k) pt vars tolds made++τ) Q:=by
 refine zK L.Y L.TT L.law_next rfl ?_
 unfold Qq
 unfold zx at *
 walk_at "go"
 erw [ah]
 have fin:∀ a:Int,Z0 (zE (zx cells k) pt vars tolds made++τ) Q (.ret (.p (.int (a.fmod m)))) (zE (zx cells (k + 1)) pt vars tolds made++τ):=λ a =>
  zD rfl (q _ (Int.fmod_nonneg_of_pos a hm.1) (Int.fmod_lt_of_pos a hm.1))
 unfold zx at fin
 have DM:1000<=big:=aw rfl
 have H1:Nz m:=J9 (mE hm.1) (af (show m.natAbs<=1000 by omega) DM)
 refine ⟨by exact af hl (nB9 rfl),λ h=>?_,λ h=>?_⟩
 ·have sW:k<cells.length:=cK.mp h
  have hg:(cells.map bH)[k]?=some (.int cells[k]):=by (erw [bt];erw [ay sW]);rfl
  refine ⟨⟨by exact bn _,by omega⟩,?_⟩
  simp only [fc,hg]
  exact ⟨H1,fin _⟩
 ·refine ⟨zj (nB9 rfl),zj (af (show (k:Int).natAbs<=1000 by exact hk) DM),J9 (by decide) (nB9 rfl),af hl (nB9 rfl),H1,fin _⟩
noncomputable def Z7 (ms:Int×Int×Int×Int)(row:List Int):Int:=ms.1 * zB row 0 + ms.2.1 * zB row 1 + ms.2.2.1 * zB row 2 + ms.2.2.2
noncomputable def qj (ms:Int×Int×Int×Int):ab:=.tuple [.int ms.1,.int ms.2.1,.int ms.2.2.1,.int ms.2.2.2]
def MOk (ms:Int×Int×Int×Int):Prop:=Lm (4 * 10 ^ 18) ms.1/\Lm (4 * 10 ^ 18) ms.2.1/\Lm (4 * 10 ^ 18) ms.2.2.1/\Lm (4 * 10 ^ 18) ms.2.2.2
theorem xT (L:Law1 C){q b:Int}(M:MOk ms)(hp:Lm 100 p)(hq:Lm 100 q)(hb:Lm 100 b)(k:Q (.p (.int (Z7 ms [p,q,b]))) σ):SatCall C T1 (n + 1) 479 [.p (qj ms),.p (.list [.int p,.int q,.int b])] σ Q:=by
 refine zK L.Y L.TT L.law_worth rfl ?_
 unfold QS qj
 walk_at "go"
 exact ⟨zj (M.1.le rfl),zj (hp.le rfl),zj (M.2.1.le rfl),zj (hq.le rfl),zj (M.2.2.1.le rfl),zj (hb.le rfl),zD rfl k⟩
noncomputable def vm (how w b:Int)(rs:List (Int×Int)):Bool:=bif how==2 then !inM w rs else (inM w rs || (how==3&&b==1))
theorem vE {d0 d1 d2 d3:Option D}{S:Fl->Rho->zA->Prop}{K:Rho×zA->Prop}:∀ (rs:List (Int×Int)) (b:Bool) (u6 u7:Option D),(∀ v6 v7,K ([d0,d1,d2,d3,some (.p (.int w)),some (.p (.bool (b || inM w rs))),v6,v7],σ)) ->
  zT (zO C T1 n (.tup [(.nm 6),(.nm 7)]) [(.asg (.pt (.nm 5)) (.or [(.nm 5),(.cmp2 (.nm 6) .LtE (.nm 4) .LtE (.nm 7))]))] none S) (zR rs) ([d0,d1,d2,d3,some (.p (.int w)),some (.p (.bool b)),u6,u7],σ) K:=by
 intro rs
 induction rs with
 | nil=>intro b u6 u7 k;have:=k u6 u7;rw [show inM w []=false from rfl,cW] at this;exact this
 | cons p rs ih =>
  intro b u6 u7 k
  have e:(b || inM w (p::rs))=((b || (decide (p.1<=w)&&decide (w<=p.2))) || inM w rs):=by erw [rh];rfl
  rw [e] at k
  show zO _ _ _ _ _ _ _ (ch [.int p.1,.int p.2]) _ (λ a'=>zT _ (zR rs) a' K)
  cases b with
  | true=>walk_at "go";exact ih true _ _ k
  | false =>
   walk_at "go"
   refine ⟨λ h=>?_,λ h=>?_⟩
   ·rw [decide_eq_true h] at k
    exact ih _ _ _ k
   ·rw [decide_eq_false h] at k
    exact ih _ _ _ k
theorem zEU (L:Law1 C){how q b:Int}(M:MOk ms)(hp:Lm 100 p)(hq:Lm 100 q)(hb:Lm 100 b)(hr:rs.length<=3)(k:Q (.p (.bool (vm how (Z7 ms [p,q,b]) b rs))) σ) :
  SatCall C T1 (n + 2) 486 [.p (qj ms),.p (zw rs),.p (.int how),.p (.list [.int p,.int q,.int b])] σ Q:=by
 refine zK L.Y L.TT L.law_is_due rfl ?_
 unfold ql zw
 refine zC ?_
 walk_at "st"
 refine xT L M hp hq hb ?_
 walk_at "st"
 refine zC ?_
 walk_at "st"
 refine zC ?_
 walk_at "st"
 refine ⟨by erw [zl];exact af hr (by decide),vE rs false _ _ λ v6 v7=>?_⟩
 erw [l4]
 unfold vm at k
 generalize inM (Z7 ms [p,q,b]) rs=i at k ⊢
 walk_at "go"
 cases h2:(how==2)
 ·rw [h2] at k
  cases i with
  | true=>walk_at "go";exact zD rfl k
  | false =>
   walk_at "go"
   cases h3:(how==3)
   ·rw [h3] at k
    walk_at "go";exact zD rfl k
   ·rw [h3] at k
    walk_at "go";exact zD rfl k
 ·rw [h2] at k
  walk_at "go";exact zD rfl k
theorem zBc (L:Law1 C){t:Td}(hf:(qZ t).length<=20)(q:Q (.p (.tuple ((qZ t).map .int))) σ):SatCall C T1 (n + 1) 493 [.p (zN t)] σ Q:=by
 refine zK L.Y L.TT L.law_about rfl ?_
 unfold QM
 cases t with
 | le zs c =>
  unfold zN leD
  walk_at "go"
  exact zD rfl q
 | reif z zs c =>
  have hn:(zs.map (·.2)).length + 1<=20:=hf
  unfold zN leD
  walk_at "go"
  exact ⟨by erw [ah];exact lin [_] [] (.a (.k 1) (.v 0)) (.k 100000) [(1,.l (.a (.v 0) (.k 1)) (.k 20))] tT9 hn,zD rfl q⟩
 | bo mx vs z =>
  have hn:(vs++[z]).length<=20:=hf
  rw [ao,aD] at hn
  have q2:Q (.p (.tuple ((vs++[z]).map .int))) σ:=q
  rw [aW] at q2
  unfold zN
  cases mx with
  | true=>walk_at "go";exact ⟨by erw [ah];exact lin [_] [] (.v 0) (.k 99999) [(1,.l (.a (.v 0) (.k 1)) (.k 20))] tT9 hn,zD rfl q2⟩
  | false=>walk_at "go";exact ⟨by erw [ah];exact lin [_] [] (.v 0) (.k 99999) [(1,.l (.a (.v 0) (.k 1)) (.k 20))] tT9 hn,zD rfl q2⟩
 | cl us ds =>
  have hn:(us++ds).length<=20:=hf
  rw [ao] at hn
  have q:Q (.p (.tuple ((us++ds).map .int))) σ:=q
  rw [aW] at q
  unfold zN
  walk_at "go"
  exact ⟨by (erw [ah];erw [ah]);exact af hn (nB9 rfl),zD rfl q⟩
theorem YY {d0 d2 d3 d4 u5 u6:Option D}{acc:List ab}{K:List ab×zA->Prop}(R:RowOk row)(vs:List Int)(hl:acc.length + vs.length<=90000)(hv:In row.length vs)(k:K (acc++(vs.map λ v=>.int (zB row v)),σ)) :
  zT (zq C T1 n (elW C T1 n (.sub (.nm 1) (.nm 6))) (.nm 6) [] [] [d0,some (.p (.list (row.map .int))),d2,d3,d4,u5,u6] none) (vs.map .int) (acc,σ) K :=
 qb (f:=.int) (h:=λ v=>.int (zB row v)) vs acc hl (λ v m acc K ha k=>by
  have:=hv v m
  walk_at "go"
  erw [Q3 this.1 this.2]
  walk_at "go"
  exact ⟨R.ix this.1 this.2,ha,k⟩) k
theorem zCm:∀ {vs:List Int},vs≠[]->∃ a r,vs=a::r/\mxL vs=z8 a r/\mnL vs=ZK a r:=by
 intro vs h
 cases vs with
 | nil=>exact absurd rfl h
 | cons a r=>exact ⟨a,r,rfl,rfl,rfl⟩
theorem xM (L:Law1 C){t:Td}(R:RowOk row)(h:TdOk row.length t)(q:Q (.p (.bool (zI row t))) σ):SatCall C T1 (n + 2) 498 [.p (zN t),.p (.list (row.map .int))] σ Q:=by
 have le:∀ {n:Nat} {zs:List (Int×Int)} {c:Int} {Q:D->zA->Prop},In row.length (zs.map (·.2))->zs.length<=20->(∀ z,z∈zs->Lm big z.1)->Q (.p (.bool (decide (zk row zs<=c)))) σ->SatCall C T1 (n + 1) 498 [.p (leD zs c),.p (.list (row.map .int))] σ Q:=λ {n zs c Q} hv hl hc q=>by
  refine zK L.Y L.TT L.law_holds rfl ?_
  unfold ZS leD
  walk_at "go"
  erw [zBv]
  refine ⟨by erw [zl];exact af hl (by decide),qb (f:=λ z:Int×Int=>.tuple [.int z.1,.int z.2]) (h:=λ z:Int×Int=>.int (z.1 * zB row z.2)) zs [] (af (aL hl 0) (by decide)) (λ z m acc K ha k=>?_) ?_⟩
  ·have z0:=hv z.2 (az.mpr ⟨z,m,rfl⟩)
   walk_at "go"
   erw [Q3 z0.1 z0.2]
   walk_at "go"
   exact ⟨R.ix z0.1 z0.2,zj (hc z m),zj ((R.sm z.2 z0.1 z0.2).le rfl),ha,k⟩
  unfold zi
  erw [a6]
  have e:(zs.map λ z=>bH (z.1 * zB row z.2))=(zs.map λ z=>z.1 * zB row z.2).map .int:=by erw [bz];rfl
  erw [e]
  walk_at "go"
  simp only [QH]
  walk_at "go"
  exact zD rfl q
 have hv:=h.refs
 have hn:=h.len
 have hc:=h.co
 have tj:=h.ne
 cases t with
 | le zs c=>exact le hv (by have:(zs.map _).length<=20:=hn;rwa [ah] at this) (λ z m=>hc z.1 (az.mpr ⟨z,m,rfl⟩)) q
 | reif z zs c =>
  have hz:=hv z (.head _)
  have hn:(zs.map (·.2)).length + 1<=20:=hn
  rw [ah] at hn
  refine zK L.Y L.TT L.law_holds rfl ?_
  unfold ZS zN
  walk_at "go"
  refine le (n:=n) (λ v m=>hv v (.tail _ m)) (by exact eT hn) (λ z m=>hc z.1 (az.mpr ⟨z,m,rfl⟩)) ?_
  walk_at "go"
  erw [Q3 hz.1 hz.2]
  walk_at "go"
  exact ⟨R.ix hz.1 hz.2,zD rfl q⟩
 | bo mx vs z =>
  have hz:=hv z (bj _ (.head _))
  have Cu:In row.length vs:=λ v m=>hv v (bO _ m)
  have hn:(vs++[z]).length<=20:=hn
  rw [ao,aD] at hn
  have tj:vs≠[]:=tj
  obtain ⟨a,r,e,e1,e2⟩:=zCm (vs:=vs.map (zB row)) λ e=>tj (bY.mp e)
  have ei:(vs.map λ v=>bH (zB row v))=(a::r).map .int:=by (refine rwS (e ..) ?_;erw [bz]);rfl
  refine zK L.Y L.TT L.law_holds rfl ?_
  unfold ZS zN
  cases mx with
  | true =>
   have q:Q (.p (.bool (zB row z==mxL (vs.map (zB row))))) σ:=q
   rw [e1] at q
   walk_at "go"
   refine ⟨by erw [ah];omega,YY R vs (by erw [b8];omega) Cu ?_⟩
   unfold zi
   erw [a6]
   erw [ei]
   walk_at "go"
   erw [Q3 hz.1 hz.2]
   walk_at "go"
   simp only [QH]
   walk_at "go"
   exact ⟨R.ix hz.1 hz.2,zD rfl q⟩
  | false =>
   have q:Q (.p (.bool (zB row z==mnL (vs.map (zB row))))) σ:=q
   rw [e2] at q
   walk_at "go"
   refine ⟨by erw [ah];omega,YY R vs (by erw [b8];omega) Cu ?_⟩
   unfold zi
   erw [a6]
   erw [ei]
   walk_at "go"
   erw [Q3 hz.1 hz.2]
   walk_at "go"
   simp only [QH]
   walk_at "go"
   exact ⟨R.ix hz.1 hz.2,zD rfl q⟩
 | cl us ds =>
  have hn:(us++ds).length<=20:=hn
  rw [ao] at hn
  have hu:In row.length us:=λ v m=>hv v (bO _ m)
  have hd:In row.length ds:=λ v m=>hv v (bj _ m)
  have q:Q (.p (.bool ((us.any λ v=>zB row v==1) || (ds.any λ v=>zB row v==0)))) σ:=q
  refine zK L.Y L.TT L.law_holds rfl ?_
  unfold ZS zN
  walk_at "go"
  refine ⟨by erw [ah];exact lin [_,_] [] (.v 0) (.k 100000) [(1,.l (.a (.v 0) (.v 1)) (.k 20))] tT9 hn,YY R us (by erw [b8];exact lin [_,_] [] (.a (.k 0) (.v 0)) (.k 90000) [(1,.l (.a (.v 0) (.v 1)) (.k 20))] tT9 hn) hu ?_⟩
  unfold zi
  erw [a6]
  walk_at "go"
  erw [Ua]
  cases HQ:us.any λ v=>zB row v==1 with
  | true =>
   rw [HQ] at q
   walk_at "go"
   exact zD rfl q
  | false =>
   rw [HQ] at q
   walk_at "go"
   refine ⟨by erw [ah];exact lin [_,_] [] (.v 0) (.k 100000) [(1,.l (.a (.v 1) (.v 0)) (.k 20))] tT9 hn,YY R ds (by erw [b8];exact lin [_,_] [] (.a (.k 0) (.v 0)) (.k 90000) [(1,.l (.a (.v 1) (.v 0)) (.k 20))] tT9 hn) hd ?_⟩
   erw [a6]
   unfold zi
   walk_at "go"
   erw [Ua]
   exact zD rfl q
end
theorem VOk.up {A' c':Nat}{t:Th}(h:VOk A c t)(h1:cA A A'=true)(h2:cA c c'=true):VOk A' c' t:=⟨h.keys,h.nd,λ p m=>(h.co p m).le h1,h.nz,h.cn.le h2⟩
theorem zDy {s:Bool}:VOk A0 c0 (.bit 2 s):=by
 cases s
 ·exact ⟨λ p m=>by refine z7 m ?_;decide,bk.mpr ⟨bW,.nil⟩,λ p m=>by refine z7 m ?_;exact aw rfl,λ p m=>by refine z7 m ?_;decide,aw rfl⟩
 ·exact ⟨λ p m=>by refine z7 m ?_;decide,bk.mpr ⟨bW,.nil⟩,λ p m=>by refine z7 m ?_;exact aw rfl,λ p m=>by refine z7 m ?_;decide,aw rfl⟩
theorem zD4 :VOk A0 c0 (.tru b):=⟨λ p m=>(nomatch m),.nil,λ p m=>(nomatch m),λ p m=>(nomatch m),by cases b <;> exact aw rfl⟩
def Gr (gr:Int):Prop:=Lm (10 ^ 18) gr
noncomputable def vth (p:Int):Th:=.sum [(p,1)] 0
theorem Wb :zH row (vth p)=zB row p:=by show 0 + (1 * zB row p + 0)=_;exact be (liZ [] [_] (.a (.k 0) (.a (.m 1 (.v 0)) (.k 0))) (.v 0) [] tT9) (liZ [] [zB row p] (.v 0) (.a (.k 0) (.a (.m 1 (.v 0)) (.k 0))) [] tT9)
section
variable {C:Cx}{n:Nat}{pt:D}{vars tolds:List ab}{made:List (Ky×D)}{τ σ:zA}{Q:D->zA->Prop}
theorem JN (L:Law1 C){t:Th}{k:Int}(hk:Lm (4 * 10 ^ 18) k)(V:VOk A c t)(hA:cA (A + 3 * (4 * 10 ^ 18)) big=true)(hc:cA c big=true)(hp:0<=p/\p<3)
  (q:∀ t',VOk (A + 3 * (4 * 10 ^ 18)) c t'->(∀ row,zH row t'=zH row t + k * zB row p)->Q (.p (enc t')) σ):SatCall C T1 (n + 3) 168 [.p (enc t),.p (enc (vth p)),.p (.int k)] σ Q:=by
 have h1:∀ x,x∈zJ (vth p)->Lm (4 * 10 ^ 18) (k * x.2)/\Lm big x.2/\0<=x.1/\x.1<3:=λ x m=>by
  refine z7 m ?_
  exact ⟨by show Lm _ (k * 1);erw [nE];exact hk,aw rfl,hp⟩
 have h0:k * cOf (vth p)=0:=dU k
 refine uq L (hk.le rfl) V hA h1 (by decide:1<=3) ⟨aw rfl,by (erw [h0];erw [b9]);exact V.cn.le hc⟩ (q _ ?_ λ row=>?_)
 ·have:=j0 V (λ x m=>(h1 x m).1) (d:=0) (by erw [h0];exact aQ 0) (λ x m=>(h1 x m).2.2) (by decide:1<=3)
  exact this
 ·(erw [yh V λ x m=>(h1 x m).1];erw [Wb];rfl)
theorem z4 {r:Int}(h0:0<=r)(h1:r<4):r=0∨r=1∨r=2∨r=3:=by
 obtain ⟨k,rfl⟩:=cz h0
 match k,cK.mp h1 with
 | 0,_=>exact .inl rfl
 | 1,_=>exact .inr (.inl rfl)
 | 2,_=>exact .inr (.inr (.inl rfl))
 | 3,_=>exact .inr (.inr (.inr rfl))
theorem m7 (v0:0<=v)(v7:v<7)(hg:Gr gr):Lm (4 * 10 ^ 18) ((v - 3) * gr)/\Fit (v - 3):=by
 have h3:Lm 3 (v - 3):=yR (k:=3) (dp (show (-3:Int) + 3<=v from v0)) (dq (show v<=3 + 3 from dG v7))
 exact ⟨(h3.mul hg).le rfl,zj (h3.le rfl)⟩
theorem zBe (L:Law1 C)(hg:Gr gr)(hk:k<=900)(hl:cells.length<=100)
  (q:∀ t ms k',k'<=k + 10->VOk A0 c0 t->MOk ms->(∀ row,zH row t=Z7 ms row)->Q (.p (.tuple [enc t,qj ms])) (zE (zx cells k') pt vars tolds made++τ)) :
  SatCall C T1 (n + 4) 465 [.obj 0,.p (.int gr)] (zE (zx cells k) pt vars tolds made++τ) Q:=by
 have fg:Fit gr:=zj (Lm.le hg rfl)
 have Be:∀ i:Int,i.natAbs<=4->Lm (4 * 10 ^ 18) i:=λ i h=>af h (nB9 rfl)
 refine zK L.Y L.TT L.law_thing rfl ?_
 unfold QO
 unfold qj at q
 refine zC ?_
 walk_at "st"
 refine ZH L (by decide) (by exact af hk (nB9 rfl)) hl λ v v0 v6=>?_
 walk_at "st"
 refine zC ?_
 walk_at "st"
 cases h1:(v==1)
 case true =>
  have fin:=q (.bit 2 true) (0,0,1,0) (k + 1) (by exact lin [_] [] (.a (.v 0) (.k 1)) (.a (.v 0) (.k 10)) [] tT9) zDy ⟨Be _ (by decide),Be _ (by decide),Be _ (by decide),Be _ (by decide)⟩ λ row=>by show 0 + (1 * zB row 2 + 0)=0 * _ + 0 * _ + 1 * zB row 2 + 0;exact be (liZ [] [zB row 2,zB row 0,zB row 1] (.a (.k 0) (.a (.m 1 (.v 0)) (.k 0))) (.a (.a (.a (.m 0 (.v 1)) (.m 0 (.v 2))) (.m 1 (.v 0))) (.k 0)) [] tT9) (liZ [] [zB row 0,zB row 1,zB row 2] (.a (.a (.a (.m 0 (.v 0)) (.m 0 (.v 1))) (.m 1 (.v 2))) (.k 0)) (.a (.k 0) (.a (.m 1 (.v 2)) (.k 0))) [] tT9)
  unfold enc at fin
  walk_at "go"
  erw [h1]
  walk_at "go"
  exact zD rfl fin
 case false =>
 walk_at "st"
 cases h2:(v==2)
 case true =>
  have fin:=q (.bit 2 false) (0,0,-1,1) (k + 1) (by exact lin [_] [] (.a (.v 0) (.k 1)) (.a (.v 0) (.k 10)) [] tT9) zDy ⟨Be _ (by decide),Be _ (by decide),Be _ (by decide),Be _ (by decide)⟩ λ row=>by show 1 + (-1 * zB row 2 + 0)=0 * _ + 0 * _ + -1 * zB row 2 + 1;exact be (liZ [] [zB row 2,zB row 0,zB row 1] (.a (.k 1) (.a (.m (-1) (.v 0)) (.k 0))) (.a (.a (.a (.m 0 (.v 1)) (.m 0 (.v 2))) (.m (-1) (.v 0))) (.k 1)) [] tT9) (liZ [] [zB row 0,zB row 1,zB row 2] (.a (.a (.a (.m 0 (.v 0)) (.m 0 (.v 1))) (.m (-1) (.v 2))) (.k 1)) (.a (.k 1) (.a (.m (-1) (.v 2)) (.k 0))) [] tT9)
  unfold enc at fin
  walk_at "go"
  erw [h1]
  walk_at "go"
  exact zD rfl fin
 case false =>
 walk_at "st"
 refine zC ?_
 walk_at "st"
 cases h3:(v==3)
 case true =>
  walk_at "st"
  refine zC ?_
  walk_at "st"
  refine ZH L (by decide) (by exact lin [_] [] (.a (.v 0) (.k 1)) (.k 1000) [(1,.l (.v 0) (.k 900))] tT9 hk) hl λ w w0 w4=>?_
  walk_at "st"
  have fin:∀ (t:Th) (e:Int),VOk A0 c0 t->Lm (4 * 10 ^ 18) e->(∀ row,zH row t=e)->Z0 (zE (zx cells k) pt vars tolds made++τ) Q (.ret (.p (.tuple [enc t,.tuple [.int 0,.int 0,.int 0,.int e]]))) (zE (zx cells (k + 1 + 1)) pt vars tolds made++τ):=λ t e V he hw =>
   zD rfl (q t (0,0,0,e) (k + 1 + 1) (by exact lin [_] [] (.a (.a (.v 0) (.k 1)) (.k 1)) (.a (.v 0) (.k 10)) [] tT9) V ⟨Be 0 (by decide),Be 0 (by decide),Be 0 (by decide),he⟩ λ row=>by erw [hw];show e=0 * _ + 0 * _ + 0 * _ + e;exact be (liZ [] [e,zB row 0,zB row 1,zB row 2] (.v 0) (.a (.a (.a (.m 0 (.v 1)) (.m 0 (.v 2))) (.m 0 (.v 3))) (.v 0)) [] tT9) (liZ [] [zB row 0,zB row 1,zB row 2,e] (.a (.a (.a (.m 0 (.v 0)) (.m 0 (.v 1))) (.m 0 (.v 2))) (.v 3)) (.v 3) [] tT9))
  rcases z4 w0 w4 with rfl | rfl | rfl | rfl
  ·have fin:=fin (.tru true) 1 zD4 (Be _ (by decide)) λ row=>rfl
   unfold enc at fin
   walk_at "go"
   exact fin
  ·have fin:=fin (.tru false) 0 zD4 (Be _ (by decide)) λ row=>rfl
   unfold enc at fin
   walk_at "go"
   exact fin
  ·have fin:=fin (.num 2) 2 (qn (nB9 rfl)) (Be _ (by decide)) λ row=>rfl
   unfold enc at fin
   walk_at "go"
   exact fin
  ·have fin:=fin (.num (-gr)) (-gr) (qn ((Lm.neg hg).le rfl)) ((Lm.neg hg).le rfl) λ row=>zt
   unfold enc at fin
   walk_at "go"
   exact fin
 case false =>
 walk_at "st"
 refine zC ?_
 walk_at "st"
 have e1:ZE 0 4=[.int 0,.int 1,.int 2,.int 3]:=rfl
 erw [e1]
 refine ⟨(by decide:4<=100000),zL ?_⟩
 walk_at "st"
 refine ZH L (by decide) (by exact lin [_] [] (.a (.v 0) (.k 1)) (.k 1000) [(1,.l (.v 0) (.k 900))] tT9 hk) hl λ a a0 a7=>?_
 have Ma:=m7 a0 a7 hg
 walk_at "st"
 refine ⟨Ma.2,fg,zL ?_⟩
 walk_at "st"
 refine ZH L (by decide) (by exact lin [_] [] (.a (.a (.v 0) (.k 1)) (.k 1)) (.k 1000) [(1,.l (.v 0) (.k 900))] tT9 hk) hl λ c c0 c7=>?_
 have Mc:=m7 c0 c7 hg
 walk_at "st"
 refine ⟨Mc.2,fg,zL ?_⟩
 walk_at "st"
 refine ZH L (by decide) (by exact lin [_] [] (.a (.a (.a (.v 0) (.k 1)) (.k 1)) (.k 1)) (.k 1000) [(1,.l (.v 0) (.k 900))] tT9 hk) hl λ d d0 d7=>?_
 have Md:=m7 d0 d7 hg
 walk_at "st"
 refine ⟨Md.2,fg,zL ?_⟩
 walk_at "st"
 refine ZH L (by decide) (by exact lin [_] [] (.a (.a (.a (.a (.v 0) (.k 1)) (.k 1)) (.k 1)) (.k 1)) (.k 1000) [(1,.l (.v 0) (.k 900))] tT9 hk) hl λ e e0 e7=>?_
 have Me:=m7 e0 e7 hg
 walk_at "st"
 refine ⟨Me.2,fg,zu ?_⟩
 generalize (a - 3) * gr=a at *
 generalize (c - 3) * gr=c at *
 generalize (d - 3) * gr=d at *
 generalize (e - 3) * gr=e at *
 unfold zi
 walk_at "st"
 refine zC ?_
 walk_at "st"
 refine zC ?_
 walk_at "st"
 refine zL ?_
 walk_at "st"
 refine JN (t:=.num e) (p:=0) (A:=0) (c:=4 * 10 ^ 18) L Ma.1 ⟨λ p m=>(nomatch m),.nil,λ p m=>(nomatch m),λ p m=>(nomatch m),Me.1⟩ rfl rfl (by decide) λ t1 V1 W1=>?_
 walk_at "st"
 refine zL ?_
 walk_at "st"
 refine JN (p:=1) L Mc.1 V1 rfl rfl (by decide) λ t2 V2 W2=>?_
 walk_at "st"
 refine zL ?_
 walk_at "st"
 refine JN (p:=2) L Md.1 V2 rfl rfl (by decide) λ t3 V3 W3=>?_
 walk_at "st"
 refine zu ?_
 walk_at "go"
 exact zD rfl (q t3 (a,c,d,e) (k + 1 + 1 + 1 + 1 + 1) (by exact lin [_] [] (.a (.a (.a (.a (.a (.v 0) (.k 1)) (.k 1)) (.k 1)) (.k 1)) (.k 1)) (.a (.v 0) (.k 10)) [] tT9) (V3.up rfl rfl) ⟨Ma.1,Mc.1,Md.1,Me.1⟩ λ row=>by
  (erw [W3];erw [W2];erw [W1];erw [zt])
  show e + a * zB row 0 + c * zB row 1 + d * zB row 2=a * zB row 0 + c * zB row 1 + d * zB row 2 + e
  exact be (liZ [] [_,_,_,_] (.a (.a (.a (.v 0) (.v 1)) (.v 2)) (.v 3)) (.a (.a (.a (.v 1) (.v 2)) (.v 3)) (.v 0)) [] tT9) (liZ [] [_,_,_,_] (.a (.a (.a (.v 0) (.v 1)) (.v 2)) (.v 3)) (.a (.a (.a (.v 3) (.v 0)) (.v 1)) (.v 2)) [] tT9))
end
section
variable {C:Cx}{n:Nat}{pt:D}{vars tolds:List ab}{made:List (Ky×D)}{τ:zA}{Q:D->zA->Prop}
noncomputable def v9:List St:=[(.ite (.cmp (.nm 6) .Gt (.c (.int (0)))) [(.asg (.pt (.nm 4)) (.bin .Add (.bin .Add (.sub (.sub (.nm 5) (.neg (.c (.int (1))))) (.c (.int (1)))) (.c (.int (2)))) (.bin .Mult (.call false (.gl 25) [(.nm 0),(.c (.int (3)))]) (.nm 2))))] []),(.expr (.meth (.nm 5) 0 [(.tup [(.nm 4),(.bin .Add (.nm 4) (.bin .Mult (.call false (.gl 25) [(.nm 0),(.c (.int (3)))]) (.nm 2)))])]))]
noncomputable def db (m:Nat):Nat:=1000000000000000000000 + m * 10000000000000000000
theorem V5 {m:Nat}:db (m + 1)=db m + 10000000000000000000:=by unfold db;rw [Nat.add_mul,Nat.one_mul,cU]
theorem zAr {m:Nat}{i:Int}(h:Lm (db m + k) i)(e:cA k 10000000000000000000=true):Lm (db (m + 1)) i:=af h (by rw [V5];exact aL (aw e) _)
structure DSo (m:Nat)(rs:List (Int×Int)):Prop where
 sm:∀ p,p∈rs->Lm (db m) p.1/\Lm (db m) p.2
 up:∀ p,p∈rs->p.1<=p.2
 gap:rs.Pairwise λ p q=>p.2<q.1
theorem DSo.snoc {m:Nat}(R:DSo m rs)(h1:Lm (db (m + 1)) lo)(h2:Lm (db (m + 1)) hi)(h:lo<=hi)(hg:∀ p,p∈rs->p.2<lo):DSo (m + 1) (rs++[(lo,hi)]):=by
 refine ⟨λ p mp=>?_,λ p mp=>?_,?_⟩
 ·rcases bg.mp mp with mp | mp
  ·exact ⟨af (R.sm p mp).1 (by rw [V5];exact aF _ _),af (R.sm p mp).2 (by rw [V5];exact aF _ _)⟩
  ·refine z7 mp ⟨h1,h2⟩
 ·rcases bg.mp mp with mp | mp
  ·exact R.up p mp
  ·refine z7 mp h
 ·exact iD.mpr ⟨R.gap,cv.mpr ⟨λ _ m=>(nomatch m),.nil⟩,λ p mp q mq=>by refine z7 mq ?_;exact hg p mp⟩
theorem g3 (v0:0<=v)(v3:v<3)(hg:Gr gr)(hp:1<=gr):Lm 2000000000000000000 (v * gr)/\0<=v * gr/\Fit v:=by
 have h2:Lm 2 v:=yR (k:=2) (bh (by decide) v0) (dG v3)
 exact ⟨(h2.mul hg).le rfl,Int.mul_nonneg v0 (bh (by decide) hp),zj (h2.le rfl)⟩
theorem vD (L:Law1 C){m:Nat}{d1 d3 u6:Option D}{S:Fl->Rho->zA->Prop}{K:Rho×zA->Prop}(hg:Gr gr)(hp:1<=gr)(hk:k<=900)(hl:cells.length<=100)(R:DSo m rs)(hj:(j=0/\rs=[]/\Lm 1000000000000000000000 lo)∨(0<j/\∃ r p,rs=r++[p]))
  (hlen:rs.length<=10) (q:∀ Bt hi k' v6,k'<=k + 2->DSo (m + 1) (rs++[(Bt,hi)])->K ([some (.obj 0),d1,some (.p (.int gr)),d3,some (.p (.int Bt)),some (.obj (8 + τ.length)),v6],zE (zx cells k') pt vars tolds made++(τ++[.lst (zR (rs++[(Bt,hi)]))]))) :
  zO C T1 (n + 1) (.nm 6) v9 none S (.int (j:Nat)) ([some (.obj 0),d1,some (.p (.int gr)),d3,some (.p (.int lo)),some (.obj (8 + τ.length)),u6],zE (zx cells k) pt vars tolds made++(τ++[.lst (zR rs)])) K:=by
 have c1:∀ {fd vars tolds made} {x:MO},(zE fd pt vars tolds made++(τ++[x]))[8 + τ.length]?=some x:=λ {fd vars tolds made x}=>QG
 have c2:∀ {fd vars tolds made} {x y:MO},(zE fd pt vars tolds made++(τ++[x])).set (8 + τ.length) y=zE fd pt vars tolds made++(τ++[y]):=λ {fd vars tolds made x y}=>j6
 have fg:Fit gr:=zj (Lm.le hg rfl)
 have Ga:∀ p:Int×Int,zR rs++[.tuple [.int p.1,.int p.2]]=zR (rs++[p]):=λ p=>by unfold zR;erw [aW];rfl
 have rest:∀ (Bt:Int) (k1:Nat),k1<=k + 1->Lm (db m + 3000000000000000000) Bt->(∀ p,p∈rs->p.2<Bt)->∀ v6,wpSs C T1 (n + 1) [(.expr (.meth (.nm 5) 0 [(.tup [(.nm 4),(.bin .Add (.nm 4) (.bin .Mult (.call false (.gl 25) [(.nm 0),(.c (.int (3)))]) (.nm 2)))])]))] [some (.obj 0),d1,some (.p (.int gr)),d3,some (.p (.int Bt)),some (.obj (8 + τ.length)),v6] (zE (zx cells k1) pt vars tolds made++(τ++[.lst (zR rs)])) λ fl sB σ'=>qt fl (λ d=>S (.ret d) sB σ') (zU none σ' (K (sB,σ'))):=λ Bt k1 Ag Cs Gb v6=>by
  refine zC ?_
  walk_at "st"
  erw [c1]
  walk_at "st"
  refine ZH L (by decide) (by exact lin [_,_] [] (.v 0) (.k 1000) [(1,.l (.v 1) (.k 900)),(1,.l (.v 0) (.a (.v 1) (.k 1)))] tT9 hk Ag) hl λ w w0 w3=>?_
  have G:=g3 w0 w3 hg hp
  walk_at "st"
  refine ⟨G.2.2,fg,?_⟩
  erw [c1]
  walk_at "st"
  refine ⟨by erw [zl];exact af hlen (nB9 rfl),?_⟩
  simp only [c2]
  have e:=Ga (Bt,Bt + w * gr)
  dsimp only at e
  erw [e]
  walk_at "st"
  refine q Bt (Bt + w * gr) (k1 + 1) _ (by exact bp Ag) (R.snoc ?_ ?_ (gx G.2.1) Gb)
  ·exact zAr Cs rfl
  ·have h:=Cs.add G.1
   rw [cU] at h
   exact zAr h rfl
 unfold v9
 rcases hj with ⟨rfl,rfl,h0⟩ | ⟨h0,r,p,rfl⟩
 ·walk_at "st"
  refine zC ?_
  walk_at "st"
  exact rest lo k (cT k) (af h0 (af (aF _ _) (aF _ _))) (λ p m=>(nomatch m)) _
 ·have Rp:=R.sm p (bj _ (.head _))
  have ex:zR (r++[p])=zR r++[.tuple [.int p.1,.int p.2]]:=aW
  have hi:∀ x:ab,(idx (zR r++[x]).length (-1)).bind (λ j=>(zR r++[x])[j]?)=some x:=λ x=>by
   (erw [ao];erw [aD];erw [ixm];erw [zFU];erw [a5];rfl)
  have Kt:(0:Int)<(j:Int):=cK.mpr h0
  rw [ex] at rest ⊢
  walk_at "st"
  refine zC ?_
  walk_at "st"
  refine ⟨λ _=>?_,λ h=>absurd Kt h⟩
  refine zC ?_
  walk_at "st"
  erw [c1]
  walk_at "st"
  erw [hi]
  walk_at "st"
  refine ZH L (by decide) (by exact af hk (nB9 rfl)) hl λ w w0 w3=>?_
  have G:=g3 w0 w3 hg hp
  walk_at "st"
  refine ⟨G.2.2,fg,?_⟩
  walk_at "st"
  refine rest (p.2 + 2 + w * gr) (k + 1) (aQ _) ?_ (λ x mx=>?_) _
  ·have h:=(Rp.2.add (show Lm 2 2 from aQ 2)).add G.1
   rw [cU] at h
   exact af h (aL (nB9 rfl) _)
  ·have hx:x.2<=p.2:=by
    rcases bg.mp mx with mx | mx
    ·have h1:=(iD.mp R.gap).2.2 x mx p (.head _)
     have h2:=R.up p (bj _ (.head _))
     exact liZ [] [_,_,_] (.v 0) (.v 1) [(1,.L (.a (.v 0) (.k 1)) (.v 2)),(1,.L (.v 2) (.v 1))] tT9 h1 h2
    ·refine z7 mx ?_;exact bF _
   have:=G.2.1
   exact liZ [] [_,_,_] (.a (.v 0) (.k 1)) (.a (.a (.v 1) (.k 2)) (.v 2)) [(1,.L (.k 0) (.v 2)),(1,.L (.v 0) (.v 1))] tT9 G.2.1 hx
end
section
variable {C:Cx}{n:Nat}{pt:D}{vars tolds:List ab}{made:List (Ky×D)}{τ:zA}{Q:D->zA->Prop}
theorem xp {Fu:MO}{vars tolds x8 tW:List ab}{made tX:List (Ky×D)}{τ X:zA}{Q:D->zA->Prop}(hf:clM 8 Fu=true)(hm:clM 8 (.tdict tX)=true)(e:jr fl=some (.p x))(q:Q (.p x) (zE Fu pt x8 tW tX++τ)):Z0 (zE fd pt vars tolds made++τ) Q fl (zE Fu pt x8 tW tX++(τ++X)):=by
 refine ⟨_,_,e,?_,q⟩
 have key:=Kp.cut (σ:=zE fd pt vars tolds made++τ) (σ':=zE Fu pt x8 tW tX++(τ++X)) (d:=.p x) (8 + τ.length) (by erw [ZY];exact aQ _) rfl λ i mo hi e=>by
  by_cases h8:8<=i
  ·rw [yK h8,aC (fh h8 hi)] at e
   exact .inl (by erw [yK h8];exact e)
  ·have up:∀ m,clM 8 m=true->clM (8 + τ.length) m=true:=λ m=>jF (aF _ _) m
   match i,h8,e with
   | 0,_,e=>obtain rfl:=so e;exact .inr (up _ hf)
   | 1,_,e=>exact .inl e
   | 2,_,e=>exact .inl e
   | 3,_,e=>exact .inl e
   | 4,_,e=>exact .inl e
   | 5,_,e=>obtain rfl:=so e;exact .inr rfl
   | 6,_,e=>obtain rfl:=so e;exact .inr rfl
   | 7,_,e=>obtain rfl:=so e;exact .inr (up _ hm)
   | i + 8,h8,_=>exact absurd (b7 8 i) h8
 rwa [<- aI,po ZY] at key
theorem DSo.nil:DSo 0 []:=⟨λ p m=>(nomatch m),λ p m=>(nomatch m),.nil⟩
theorem db3:db 3<=c0:=aw rfl
theorem zAB:∀ {m:Nat},m<=3->db m<=db 3:=λ {m} h=>by unfold db;exact aL (iR _ h) _
theorem DSo.dok {m:Nat}(R:DSo m rs)(h:m<=3)(hl:rs.length<=3):DOk rs:=⟨hl,λ p mp=>⟨af (R.sm p mp).1 (af (zAB h) db3),af (R.sm p mp).2 (af (zAB h) db3)⟩,R.up,R.gap⟩
theorem zF2 {a:Int}(ha:Lm (10 ^ 20) a)(w0:0<=w)(w5:w<5):Lm 1000000000000000000000 (a + w - 3) :=
 af ((ha.add (yR (k:=5) (bh (by decide) w0) (cg w5))).sub (show Lm 3 3 from aQ 3)) (nB9 rfl)
theorem Vn (L:Law1 C){a:Int}(hg:Gr gr)(hp:1<=gr)(hk:k<=800)(hl:cells.length<=100)(ha:Lm (10 ^ 20) a)
  (q:∀ rs k',k'<=k + 10->DOk rs->Q (.p (zw rs)) (zE (zx cells k') pt vars tolds made++τ)) (hm:clM 8 (.tdict made)=true) :
  SatCall C T1 (n + 2) 472 [.obj 0,.p (.int a),.p (.int gr)] (zE (zx cells k) pt vars tolds made++τ) Q:=by
 have c1:∀ {fd vars tolds made} {x:MO},(zE fd pt vars tolds made++(τ++[x]))[8 + τ.length]?=some x:=λ {fd vars tolds made x}=>QG
 have turn:=λ {k m j lo rs d1 d3 u6 S K}=>vD (C:=C) (n:=n) (pt:=pt) (vars:=vars) (tolds:=tolds) (made:=made) (τ:=τ) (cells:=cells) (gr:=gr) (k:=k) (m:=m) (j:=j) (lo:=lo) (rs:=rs) (d1:=d1) (d3:=d3) (u6:=u6) (S:=S) (K:=K) L hg hp
 refine zK L.Y L.TT L.law_domain rfl ?_
 unfold v9 at turn
 unfold qk
 refine zC ?_
 walk_at "st"
 refine ZH L (by decide) (by exact af hk (nB9 rfl)) hl λ v v0 v4=>?_
 walk_at "st"
 refine ZH L (by decide) (by exact lin [_] [] (.a (.v 0) (.k 1)) (.k 1000) [(1,.l (.v 0) (.k 800))] tT9 hk) hl λ w w0 w5=>?_
 have Cs:=zF2 ha w0 w5
 walk_at "st"
 erw [ZY]
 erw [aI]
 have Bl:∀ rs k' (ρ:Rho),k'<=k + 10->DOk rs->(∃ d0 d1 d2 d3 d4 d6,ρ=[d0,d1,d2,d3,d4,some (.obj (8 + τ.length)),d6])->wpSs C T1 (n + 1) [.ret (.call false (.gl 8) [.nm 5])] ρ (zE (zx cells k') pt vars tolds made++(τ++[.lst (zR rs)])) λ fl _ σ'=>Z0 (zE (zx cells k) pt vars tolds made++τ) Q fl σ':=λ rs k' ρ tR R KL=>by
  obtain ⟨d0,d1,d2,d3,d4,d6,rfl⟩:=KL
  walk_at "go"
  erw [c1]
  walk_at "st"
  refine ⟨by erw [zl];exact af R.len (by decide),?_⟩
  exact xp rfl hm rfl (q rs k' tR R)
 refine zC ?_
 walk_at "st"
 rcases z4 v0 v4 with rfl | rfl | rfl | rfl
 ·have e1:ZE 0 0=[]:=rfl
  erw [e1]
  refine ⟨⟨by decide,by decide⟩,bd _,zu ?_⟩
  walk_at "ds"
  exact Bl [] (k + 1 + 1) _ (by exact lin [_] [] (.a (.a (.v 0) (.k 1)) (.k 1)) (.a (.v 0) (.k 10)) [] tT9) (DSo.nil.dok (by decide) (by decide)) ⟨_,_,_,_,_,_,rfl⟩
 ·have e1:ZE 0 1=[.int ((0:Nat):Int)]:=rfl
  erw [e1]
  refine ⟨⟨by decide,by decide⟩,(by decide:1<=100000),zL ?_⟩
  refine turn (rs:=[]) (by exact lin [_] [] (.a (.a (.v 0) (.k 1)) (.k 1)) (.k 900) [(1,.l (.v 0) (.k 800))] tT9 hk) hl DSo.nil (.inl ⟨rfl,rfl,Cs⟩) (by decide) λ l1 h1 k1 v6 Ag R1=>zu ?_
  walk_at "ds"
  exact Bl [(l1,h1)] k1 _ (by exact lin [_,_] [] (.v 0) (.a (.v 1) (.k 10)) [(1,.l (.v 0) (.a (.a (.a (.v 1) (.k 1)) (.k 1)) (.k 2)))] tT9 Ag) (R1.dok (by decide) (show 1<=3 by decide)) ⟨_,_,_,_,_,_,rfl⟩
 ·have e1:ZE 0 2=[.int ((0:Nat):Int),.int ((1:Nat):Int)]:=rfl
  erw [e1]
  refine ⟨⟨by decide,by decide⟩,(by decide:2<=100000),zL ?_⟩
  refine turn (rs:=[]) (by exact lin [_] [] (.a (.a (.v 0) (.k 1)) (.k 1)) (.k 900) [(1,.l (.v 0) (.k 800))] tT9 hk) hl DSo.nil (.inl ⟨rfl,rfl,Cs⟩) (by decide) λ l1 h1 k1 v6 Ag R1=>zL ?_
  refine turn (by exact lin [_,_] [] (.v 0) (.k 900) [(1,.l (.v 1) (.k 800)),(1,.l (.v 0) (.a (.a (.a (.v 1) (.k 1)) (.k 1)) (.k 2)))] tT9 hk Ag) hl R1 (.inr ⟨by decide,[],_,rfl⟩) (show 1<=10 by decide) λ l2 h2 k2 v6 BE R2=>zu ?_
  walk_at "ds"
  exact Bl [(l1,h1),(l2,h2)] k2 _ (by exact lin [_,_,_] [] (.v 0) (.a (.v 1) (.k 10)) [(1,.l (.v 2) (.a (.a (.a (.v 1) (.k 1)) (.k 1)) (.k 2))),(1,.l (.v 0) (.a (.v 2) (.k 2)))] tT9 Ag BE) (R2.dok (by decide) (show 2<=3 by decide)) ⟨_,_,_,_,_,_,rfl⟩
 ·have e1:ZE 0 3=[.int ((0:Nat):Int),.int ((1:Nat):Int),.int ((2:Nat):Int)]:=rfl
  erw [e1]
  refine ⟨⟨by decide,by decide⟩,(by decide:3<=100000),zL ?_⟩
  refine turn (rs:=[]) (by exact lin [_] [] (.a (.a (.v 0) (.k 1)) (.k 1)) (.k 900) [(1,.l (.v 0) (.k 800))] tT9 hk) hl DSo.nil (.inl ⟨rfl,rfl,Cs⟩) (by decide) λ l1 h1 k1 v6 Ag R1=>zL ?_
  refine turn (by exact lin [_,_] [] (.v 0) (.k 900) [(1,.l (.v 1) (.k 800)),(1,.l (.v 0) (.a (.a (.a (.v 1) (.k 1)) (.k 1)) (.k 2)))] tT9 hk Ag) hl R1 (.inr ⟨by decide,[],_,rfl⟩) (show 1<=10 by decide) λ l2 h2 k2 v6 BE R2=>zL ?_
  refine turn (by exact lin [_,_,_] [] (.v 0) (.k 900) [(1,.l (.v 1) (.k 800)),(1,.l (.v 2) (.a (.a (.a (.v 1) (.k 1)) (.k 1)) (.k 2))),(1,.l (.v 0) (.a (.v 2) (.k 2)))] tT9 hk Ag BE) hl R2 (.inr ⟨by decide,[(l1,h1)],_,rfl⟩) (show 2<=10 by decide) λ l3 h3 k3 v6 Ie R3=>zu ?_
  walk_at "ds"
  exact Bl [(l1,h1),(l2,h2),(l3,h3)] k3 _ (by exact lin [_,_,_,_] [] (.v 0) (.a (.v 1) (.k 10)) [(1,.l (.v 2) (.a (.a (.a (.v 1) (.k 1)) (.k 1)) (.k 2))),(1,.l (.v 3) (.a (.v 2) (.k 2))),(1,.l (.v 0) (.a (.v 3) (.k 2)))] tT9 Ag BE Ie) (R3.dok (by decide) (show 3<=3 by decide)) ⟨_,_,_,_,_,_,rfl⟩
end
noncomputable def plT (t:Td):Int:=z8 (-1) (qZ t)
noncomputable def zM (ts:List Td)(p:Int):List Td:=ts.filter λ t=>plT t==p
theorem xP:∀ {l:List Int} {a:Int},a<=z8 a l/\(∀ v,v∈l->v<=z8 a l)/\(z8 a l=a∨z8 a l∈l):=by
 intro l
 induction l with
 | nil=>exact ⟨bF _,λ v m=>(nomatch m),.inl rfl⟩
 | cons b l ih =>
  intro a
  erw [jh]
  have I:=ih (a:=if a<b then b else a)
  by_cases h:a<b
  ·rw [if_pos h] at I ⊢
   exact ⟨bh (cg h) I.1,λ v m=>by refine Zo m I.1 λ m=>I.2.1 v m,I.2.2.elim (λ e=>.inr (by erw [e];exact .head _)) λ m=>.inr (.tail _ m)⟩
  ·rw [if_neg h] at I ⊢
   exact ⟨I.1,λ v m=>by refine Zo m (bh (dJ.mp h) I.1) λ m=>I.2.1 v m,I.2.2.imp id (.tail _)⟩
theorem ye {t:Td}(h:TdOk n t):-1<=plT t/\plT t<(n:Int)/\In (plT t + 1).toNat (qZ t):=by
 have M:=xP (l:=qZ t) (a:=-1)
 refine ⟨M.1,?_,λ v m=>⟨(h.refs v m).1,?_⟩⟩
 ·rcases M.2.2 with e | m
  ·exact gw (kE e) (dm (by decide) (bn n))
  ·exact (h.refs _ m).2
 ·have h1:v<=plT t:=M.2.1 v m
  have h2:=M.1
  have h3:-1<=plT t:=h2
  exact liZ [(plT t + 1).toNat] [v,plT t] (.a (.v 0) (.k 1)) (.c (.v 0)) [(1,.L (.v 0) (.v 1)),(-1,.E (.c (.v 0)) (.a (.v 1) (.k 1)))] (by kernel_rfl) h1 (dN (liZ [] [_] (.k 0) (.a (.v 0) (.k 1)) [(1,.L (.k (-1)) (.v 0))] (by kernel_rfl) h3))
theorem Wk {t:Td}:zM (ts++[t]) p=zM ts p++(bif plT t==p then [t] else []):=by
 unfold zM
 erw [gz]
 congr 1
theorem uG :(zM ts p).length<=ts.length:=cH _ _
theorem QQ {j:Int}:(ts.all λ t=>decide (j + 1<=plT t) || H t)=((ts.all λ t=>decide (j<=plT t) || H t)&&(zM ts j).all H):=by
 induction ts with
 | nil=>rfl
 | cons t ts ih =>
  unfold zM at *
  (erw [c5];erw [c5];erw [ck];erw [ih])
  by_cases h:plT t=j
  ·(refine rwE (show (plT t==j)=true from beq_iff_eq.mpr h) ?_;erw [if_pos rfl];erw [c5];erw [decide_eq_false (show ¬ j + 1<=plT t by exact dZ.mpr (liZ [] [plT t,j] (.a (.v 0) (.k 1)) (.a (.v 1) (.k 1)) [(1,.E (.v 0) (.v 1))] tT9 h))];erw [decide_eq_true (show j<=plT t by exact kE h.symm)])
   generalize H t=a
   generalize (ts.all λ t=>decide (j<=plT t) || H t)=b
   generalize (rG (λ t=>plT t==j) ts).all H=c
   cases a <;> cases b <;> cases c <;> rfl
  ·(refine rwE (show (plT t==j)=false from beq_eq_false_iff_ne.mpr h) ?_;erw [if_neg aT];refine rwE (show decide (j + 1<=plT t)=decide (j<=plT t) from decide_eq_decide.mpr (by omega)) ?_)
   generalize (decide (j<=plT t) || H t)=a
   generalize (ts.all λ t=>decide (j<=plT t) || H t)=b
   generalize (rG (λ t=>plT t==j) ts).all H=c
   cases a <;> cases b <;> cases c <;> rfl
theorem zA8 {j:Int}(h:∀ t,t∈ts->plT t<j):(ts.all λ t=>decide (j<=plT t) || H t)=ts.all H:=z6 λ t m=>by rw [decide_eq_false (by have:=h t m;exact dZ.mpr (this))];rfl
theorem wm (h:∀ t,t∈ts->-1<=plT t):(ts.all λ t=>decide (3<=plT t) || H t)=((zM ts (-1)++(zM ts 0++(zM ts 1++zM ts 2))).all H):=by
 have e0:(ts.all λ t=>decide (-1<=plT t) || H t)=true:=aY.mpr λ t m=>by rw [decide_eq_true (h t m)];rfl
 have n0:(ts.all λ t=>decide (0<=plT t) || H t)=((ts.all λ t=>decide (-1<=plT t) || H t)&&(zM ts (-1)).all H):=QQ (j:=-1)
 have n1:(ts.all λ t=>decide (1<=plT t) || H t)=((ts.all λ t=>decide (0<=plT t) || H t)&&(zM ts 0).all H):=QQ (j:=0)
 have n2:(ts.all λ t=>decide (2<=plT t) || H t)=((ts.all λ t=>decide (1<=plT t) || H t)&&(zM ts 1).all H):=QQ (j:=1)
 have n3:(ts.all λ t=>decide (3<=plT t) || H t)=((ts.all λ t=>decide (2<=plT t) || H t)&&(zM ts 2).all H):=QQ (j:=2)
 rw [n3,n2,n1,n0,e0,cQ,cQ,cQ,fW,pQ,pQ]
section
variable {g:Gm}{ds:List Df}{ts:List Td}{row:List Int}
theorem Jj (I:Inv g ds ts)(hr:BR g row){t:Td}(m:t∈ts)(h:plT t<(j:Int))(hj:j<=3 + ds.length):zI ((run row ds).take j) t=zI (run row ds) t:=by
 have e:=cF j (run row ds)
 have hl:((run row ds).take j).length=j:=by (erw [dc];erw [Zp hr]);exact lv hj
 have P:=(ye (I.td t m)).2.2
 have hh:=ue (row:=(run row ds).take j) (X:=(run row ds).drop j) (t:=t) (by erw [hl];exact λ v mv=>⟨(P v mv).1,by have:=(P v mv).2;omega⟩)
 rw [e] at hh
 exact hh.symm
theorem Jl (hr:BR g row)(h:ds[i]?=some d):(run row ds).take (3 + i + 1)=(run row ds).take (3 + i)++[b2z (ZG ((run row ds).take (3 + i)) d)]:=by
 refine Eeeaa (uL (row:=row) h) λ r X h1 h2 h3=>?_
 rw [hr.len] at h2 h3
 have sW:3 + i<(run row ds).length:=by erw [Zp hr];have:=(aq.mp h).1;exact lin [_,_] [] (.a (.a (.k 3) (.v 0)) (.k 1)) (.a (.k 3) (.v 1)) [(1,.l (.a (.v 0) (.k 1)) (.v 1))] tT9 this
 have er:(run row ds).take (3 + i)=r:=by (erw [h1];refine rwS (h2 ..) ?_);exact iQ
 (erw [List.take_succ];erw [er];erw [ay sW])
 congr 2
 refine rwS (h3 ..) ?_
 unfold zB
 (erw [bT];erw [aX];erw [ay sW]);rfl
theorem zGc (I:Inv g ds ts)(hr:BR g row)(h:ds[i]?=some d):([(0:Int),1].filter λ w=>(zM ts ((3 + i:Nat):Int)).all (zI ((run row ds).take (3 + i)++[w])))=bif (zM ts ((3 + i:Nat):Int)).all (zI (run row ds)) then [b2z (ZG ((run row ds).take (3 + i)) d)] else []:=by
 have hi:=(aq.mp h).1
 have S:=I.st i d h
 have hlen:((run row ds).take (3 + i)).length=3 + i:=by (erw [dc];erw [Zp hr]);exact lv (aL (eT hi) 3)
 have Fq:∀ v,v∈qB d->Tv g v->B01 (zB ((run row ds).take (3 + i)) v):=λ v m T=>by
  have hv:=S.refs v m
  have e:zB ((run row ds).take (3 + i)) v=zB (run row ds) v:=by
   (refine rwS (zX (row:=(run row ds).take (3 + i)) (X:=(run row ds).drop (3 + i)) (by rw [hlen];exact hv)) ?_;erw [cF];rfl)
  erw [e]
  exact JK hr hv.1 (by exact liZ [_,_] [_] (.a (.v 0) (.k 1)) (.c (.a (.k 3) (.v 0))) [(1,.l (.a (.v 1) (.k 1)) (.v 0)),(1,.L (.a (.v 0) (.k 1)) (.c (.a (.k 3) (.v 1))))] tT9 hi hv.2) T
 have key:∀ w,B01 w->w≠b2z (ZG ((run row ds).take (3 + i)) d)->(zM ts ((3 + i:Nat):Int)).all (zI ((run row ds).take (3 + i)++[w]))=false:=λ w hw tj=>by
  refine gP.mpr λ e=>tj ?_
  have:=jf S hlen Fq hw
  rw [aY.mpr λ t m=>aY.mp e t (bM.mpr ⟨I.df i d h t m,?_⟩)] at this
  ·exact of_decide_eq_true this.symm
  ·have T:=xX S m
   have P:=ye T.1
   have M:=(xP (l:=qZ t) (a:=-1)).2.1 _ T.2
   exact beq_iff_eq.mpr (be (by have:=P.2.1;exact liZ [_] [_] (.v 0) (.c (.a (.k 3) (.v 0))) [(1,.L (.a (.v 0) (.k 1)) (.c (.a (.a (.k 3) (.v 0)) (.k 1))))] tT9 P.2.1) M)
 have good:(zM ts ((3 + i:Nat):Int)).all (zI ((run row ds).take (3 + i)++[b2z (ZG ((run row ds).take (3 + i)) d)]))=(zM ts ((3 + i:Nat):Int)).all (zI (run row ds)):=z6 λ t m=>by
  refine rwS (Jl hr h) ?_
  refine Ea (bM.mp m) λ m1 m2=>?_
  exact Jj I hr m1 (by erw [eq_of_beq m2];exact bF _) (by exact lin [_,_] [] (.a (.a (.k 3) (.v 0)) (.k 1)) (.a (.k 3) (.v 1)) [(1,.l (.a (.v 0) (.k 1)) (.v 1))] tT9 hi)
 (erw [ck];erw [ck];erw [ls])
 cases hv:ZG ((run row ds).take (3 + i)) d
 ·rw [hv] at key good
  (erw [key 1 (.inr rfl) (by decide)];refine rwE (show (0:Int)=b2z false from rfl) ?_;erw [good])
  cases (zM ts ((3 + i:Nat):Int)).all (zI (run row ds)) <;> rfl
 ·rw [hv] at key good
  (erw [key 0 (.inl rfl) (by decide)];refine rwE (show (1:Int)=b2z true from rfl) ?_;erw [good])
  cases (zM ts ((3 + i:Nat):Int)).all (zI (run row ds)) <;> rfl
end
def LateAt (σ:zA)(es:List (Int×D))(p:Int)(tl:List Td):Prop:=(za p es=none/\tl=[])∨∃ i,za p es=some (.obj i)/\σ[i]?=some (.lst (tl.map zN))
noncomputable def Jv:Ex:=.comp false 2 (.nm 9) (.nm 9) (.meth (.nm 1) 1 [(.nm 4),(.lst false [])]) [(.not (.call false (.gl 35) [(.nm 9),(.bin .Add (.nm 6) (.lst false [(.nm 7)]))]))] []
noncomputable def jo:List St:=[.ite (.cmp Jv .Eq (.lst false [])) [.expr (.meth (.nm 5) 0 [(.bin .Add (.nm 6) (.lst false [(.nm 7)]))])] []]
noncomputable def jd:List St:=[.asg (.pt (.nm 5)) (.lst true []),.for (.nm 6) (.nm 3) [.for (.nm 7) (.comp false 4 (.nm 11) (.tup [(.nm 9),(.nm 10)]) (.meth (.nm 0) 19 [(.nm 4)]) [] [(.mk (.nm 11) (.call false (.gl 14) [(.nm 9),(.bin .Add (.nm 10) (.c (.int (1))))]) [])]) jo],.asg (.pt (.nm 3)) (.nm 5)]
theorem uM {src:Option (Nat×List ab)}{K:Prop}(h:zU src σ True)(k:K):zU src σ K:=by
 cases src with
 | none=>exact k
 | some p=>exact ⟨h.1,k⟩
theorem LateAt.app {X:zA}{es:List (Int×D)}(h:LateAt σ es p tl):LateAt (σ++X) es p tl:=by
 rcases h with h | ⟨i,h1,h2⟩
 ·exact .inl h
 ·exact .inr ⟨i,h1,by erw [aC (aq.mp h2).1];exact h2⟩
theorem UT :bB ((tl.filter λ t=>!H t).map zN) []=tl.all H:=by
 (erw [uT];erw [List.isEmpty_map])
 induction tl with
 | nil=>rfl
 | cons t ts ih =>
  (erw [ck];erw [c5])
  cases H t with
  | true=>exact ih
  | false=>rfl
section
variable {C:Cx}{n:Nat}{σ:zA}{Q:D->zA->Prop}
theorem zE7 (L:Law1 C){l:List Int}{es:List (Int×D)}{d0 d2 d3 d5:Option D}(R:RowOk (l++[w]))(h8:σ[8]?=some (.idict es))(tq:LateAt σ es p tl)(Bq:tl.length<=1000)
  (hh:∀ t,t∈tl->TdOk (l++[w]).length t) (q:Q (.p (.list ((tl.filter λ t=>!zI (l++[w]) t).map zN))) σ):wpE C T1 (n + 2) Jv [d0,some (.obj 8),d2,d3,some (.p (.int p)),d5,some (.p (.list (l.map .int))),some (.p (.int w))] σ Q:=by
 have hl:l.length<=999:=by have:=R.len;rw [ao,aD] at this;exact lin [_] [] (.v 0) (.k 999) [(1,.l (.a (.v 0) (.k 1)) (.k 1000))] tT9 this
 have hc:∀ t,t∈tl->∀ Q:D->zA->Prop,Q (.p (.bool (zI (l++[w]) t))) σ->SatCall C T1 (n + 2) 498 [.p (zN t),.p (.list (l.map .int++[.int w]))] σ Q:=λ t m Q q=>by
  have:=xM (n:=n) L R (hh t m) q
  rw [aW] at this
  exact this
 have step:∀ (src:Option (Nat×List ab)),zU src σ True->∀ t,t∈tl->∀ (acc:List ab) (K:List ab×zA->Prop),acc.length<=100000->((!zI (l++[w]) t)=true->K (acc++[zN t],σ))->((!zI (l++[w]) t)=false->K (acc,σ)) ->
   zq C T1 (n + 2) (elW C T1 (n + 2) (.nm 9)) (.nm 9) [(.not (.call false (.gl 35) [(.nm 9),(.bin .Add (.nm 6) (.lst false [(.nm 7)]))]))] [] [d0,some (.obj 8),d2,d3,some (.p (.int p)),d5,some (.p (.list (l.map .int))),some (.p (.int w)),none,none] src (zN t) (acc,σ) K:=λ src hs t m acc K ha k1 k0=>by
  walk_at "go"
  refine ⟨by erw [ah];exact af hl (nB9 rfl),hc t m _ ?_⟩
  cases hb:zI (l++[w]) t with
  | true =>
   rw [hb] at k0
   walk_at "go"
   exact uM hs (k0 rfl)
  | false =>
   rw [hb] at k1
   walk_at "go"
   exact ⟨ha,uM hs (k1 rfl)⟩
 unfold Jv
 walk_at "st"
 erw [h8]
 walk_at "st"
 rcases tq with ⟨h1,rfl⟩ | ⟨i,h1,h2⟩
 ·simp only [h1,pc]
  walk_at "st"
  exact q
 ·simp only [h1,dg]
  walk_at "st"
  erw [h2]
  walk_at "st"
  refine ⟨by erw [ah];exact af Bq (nB9 rfl),Qd (f:=zN) (h:=zN) (p:=λ t=>!zI (l++[w]) t) tl [] (af (aL Bq 0) (by decide)) (step (some (i,tl.map zN)) ⟨h2,trivial⟩) ?_⟩
  exact q
theorem VG (L:Law1 C){l:List Int}{es:List (Int×D)}{d0 d2 d3 u7:Option D}{acc:List ab}{S:Fl->Rho->zA->Prop}{K:Rho×zA->Prop}(R:RowOk (l++[w]))(h8:σ[8]?=some (.idict es))(tq:LateAt σ es p tl)(Bq:tl.length<=1000)(hh:∀ t,t∈tl->TdOk (l++[w]).length t)(ha:acc.length<=100)
  (k:∀ v7,K ([d0,some (.obj 8),d2,d3,some (.p (.int p)),some (.obj σ.length),some (.p (.list (l.map .int))),v7],σ++[.lst (acc++bif tl.all (zI (l++[w])) then [.list ((l++[w]).map .int)] else [])])) :
  zO C T1 (n + 2) (.nm 7) jo none S (.int w) ([d0,some (.obj 8),d2,d3,some (.p (.int p)),some (.obj σ.length),some (.p (.list (l.map .int))),u7],σ++[.lst acc]) K:=by
 have hl:l.length<=999:=by have:=R.len;rw [ao,aD] at this;exact lin [_] [] (.v 0) (.k 999) [(1,.l (.a (.v 0) (.k 1)) (.k 1000))] tT9 this
 have Iq:(σ++[MO.lst acc])[8]?=some (.idict es):=by erw [aC (aq.mp h8).1];exact h8
 walk_at "ds"
 unfold jo
 refine zC ?_
 (erw [zFd];erw [zEM])
 refine zE7 L R Iq tq.app Bq hh ?_
 walk_at "go"
 erw [UT]
 cases hb:tl.all (zI (l++[w])) with
 | true =>
  have k:=k (some (.p (.int w)))
  rw [hb] at k
  walk_at "go"
  refine ⟨by erw [ah];exact af hl (nB9 rfl),by exact af ha (nB9 rfl),?_⟩
  have e:l.map bH++[.int w]=(l++[w]).map .int:=by erw [aW];rfl
  erw [e]
  exact k
 | false =>
  have k:=k (some (.p (.int w)))
  rw [hb] at k
  walk_at "go"
  rw [show acc++(bif false then [iC ((l++[w]).map .int)] else [])=acc from aR _] at k
  exact k
end
noncomputable def qS (b:Bool)(l:List Int):List ab:=bif b then [.list (l.map .int)] else []
section
variable {C:Cx}{n:Nat}{g:Gm}{fd:MO}{pt:D}{ds:List Df}{ts:List Td}
theorem zDG (I:Inv g ds ts)(G:GOk g)(tJ:ds.length<=900)(hr:BR g row)(hw:B01 w)(hj:j<=3 + ds.length):RowOk ((run row ds).take j++[w]):=by
 have hlen:((run row ds).take j).length=j:=by (erw [dc];erw [Zp hr]);exact lv hj
 refine ⟨by (erw [ao];erw [aD];erw [hlen]);exact lin [_,_] [] (.a (.v 0) (.k 1)) (.k 1000) [(1,.l (.v 1) (.k 900)),(1,.l (.v 0) (.a (.k 3) (.v 1)))] tT9 tJ hj,λ p p0 p1=>?_⟩
 rw [ao,aD,hlen] at p1
 by_cases hp:p<(j:Int)
 ·have e:zB ((run row ds).take j++[w]) p=zB (run row ds) p:=by
   (erw [zX (by rw [hlen];exact ⟨p0,hp⟩)];refine rwS (zX (row:=(run row ds).take j) (X:=(run row ds).drop j) (by rw [hlen];exact ⟨p0,hp⟩)) ?_;erw [cF];rfl)
  erw [e]
  by_cases h3:p<3
  ·have h:=(YX hr p p0 h3).1
   have B:=(XV G p).1
   refine Ee (run_len (ds:=ds) (row:=row)).2 λ Y e=>?_
   (erw [e];erw [zX (by rw [hr.len];exact ⟨p0,h3⟩)])
   exact zAm B.1 B.2 h.1 h.2
  ·have:=JK (ds:=ds) hr p0 (by exact liZ [_,_] [_] (.a (.v 0) (.k 1)) (.c (.a (.k 3) (.v 0))) [(1,.l (.v 1) (.a (.k 3) (.v 0))),(1,.L (.a (.v 0) (.k 1)) (.c (.v 1)))] tT9 hj hp) (Jx (g:=g) (show 2<=p by exact cg (dJ.mp h3)))
   exact this.elim (λ e=>by erw [e];exact bd _) λ e=>by erw [e];exact (by decide:1<=100)
 ·have:p=((j:Nat):Int):=by exact be (liZ [_] [_] (.v 0) (.c (.v 0)) [(1,.L (.a (.v 0) (.k 1)) (.c (.a (.v 0) (.k 1))))] tT9 p1) ((dJ.mp hp))
  (erw [this];erw [yI hlen.symm])
  exact hw.elim (λ e=>by erw [e];exact bd _) λ e=>by erw [e];exact (by decide:1<=100)
theorem zEV (I:Inv g ds ts)(hr:BR g row)(hi:i<ds.length){t:Td}(m:t∈zM ts ((3 + i:Nat):Int)):TdOk ((run row ds).take (3 + i)++[w]).length t:=by
 refine Ea (bM.mp m) λ m1 m2=>?_
 have T:=I.td t m1
 have P:=(ye T).2.2
 have e:=eq_of_beq m2
 refine ⟨λ v mv=>⟨(P v mv).1,?_⟩,T.len,T.co,T.ne⟩
 have:=(P v mv).2
 (erw [ao];erw [aD];erw [dc];erw [Zp hr])
 rw [e] at this
 omega
theorem xm (L:Law1 C)(G:GOk g)(I:Inv g ds ts)(tJ:ds.length + ts.length<=900)(hr:BR g row){b:Bool}{o:Nat}{es:List (Int×D)}{Y:zA}{d2 u4 u5 u6 u7:Option D}{S:Fl->Rho->zA->Prop}{K:Rho×zA->Prop}(hd:ds[i]?=some d)
  (ho:(stt fd pt (vb0 g) ds ts++.idict es::Y)[o]?=some (.lst (qS b ((run row ds).take (3 + i)))))
  (tq:LateAt (stt fd pt (vb0 g) ds ts++.idict es::Y) es ((3 + i:Nat):Int) (zM ts ((3 + i:Nat):Int)))
  (k:∀ v4 v5 v6 v7,K ([some (.obj 4),some (.obj 8),d2,some (.obj (9 + Y.length)),v4,v5,v6,v7],stt fd pt (vb0 g) ds ts++.idict es::(Y++[.lst (qS (b&&(zM ts ((3 + i:Nat):Int)).all (zI (run row ds))) ((run row ds).take (3 + i + 1)))]))) :
  zO C T1 (n + 3) (.nm 4) jd none S (.int ((3 + i:Nat):Int)) ([some (.obj 4),some (.obj 8),d2,some (.obj o),u4,u5,u6,u7],stt fd pt (vb0 g) ds ts++.idict es::Y) K:=by
 have hi:=(aq.mp hd).1
 have FY:ZU g ((3 + i:Nat):Int)=[(0,1)]:=Jx (g:=g) (by exact liZ [_] [] (.k 2) (.c (.a (.k 3) (.v 0))) [] tT9)
 have F:=zGc I hr hd
 have DO:=Jl hr hd
 have Bq:(zM ts ((3 + i:Nat):Int)).length<=1000:=af uG (by exact lin [_,_] [] (.v 0) (.k 1000) [(1,.l (.a (.v 1) (.v 0)) (.k 900))] tT9 tJ)
 have HC:=λ {σ Q} (e:σ=stt fd pt (vb0 g) ds ts++.idict es::(Y++[.lst []])) (q:Q (.p (zw [(0,1)])) σ)=>(show SatCall C T1 (n + 3) 125 [.obj 4,.p (.int ((3 + i:Nat):Int))] σ Q by
  subst e
  exact Jz L (ds:=ds) (by exact af (aF _ _) tJ) (by exact bn _) (by exact liZ [_,_] [] (.a (.c (.a (.k 3) (.v 0))) (.k 1)) (.c (.a (.k 3) (.v 1))) [(1,.l (.a (.v 0) (.k 1)) (.v 1))] tT9 hi) (by erw [FY];exact q))
 unfold jd
 generalize hj:((3 + i:Nat):Int)=j at *
 generalize Fb:stt fd pt (vb0 g) ds ts++.idict es::Y=σ0 at *
 have hlen:σ0.length=9 + Y.length:=by refine rwS (Fb ..) ?_;show (zE _ _ _ _ _++_).length=_;(erw [ZY];erw [a9]);exact dz (lin [_] [] (.a (.k 8) (.a (.v 0) (.k 1))) (.a (.k 9) (.v 0)) [] tT9) (lin [_] [] (.a (.k 9) (.v 0)) (.a (.k 8) (.a (.v 0) (.k 1))) [] tT9)
 have e4:∀ x:MO,σ0++[x]=stt fd pt (vb0 g) ds ts++(.idict es::(Y++[x])):=λ x=>by (refine rwS (Fb ..) ?_;erw [aI]);rfl
 have h8:σ0[8]?=some (.idict es):=by refine rwS (Fb ..) ?_;rfl
 have tV:∀ x:MO,(σ0++[x])[o]?=some (.lst (qS b ((run row ds).take (3 + i)))):=λ x=>by erw [aC (aq.mp ho).1];exact ho
 walk_at "st"
 refine zC ?_
 walk_at "st"
 refine zC ?_
 walk_at "st"
 erw [tV]
 walk_at "st"
 cases b with
 | false =>
  have e:∀ l,qS false l=[]:=λ _=>rfl
  erw [e]
  refine ⟨bd _,zu ?_⟩
  refine zC ?_
  walk_at "st"
  have:=k (some (.p (.int j))) (some (.obj σ0.length)) u6 u7
  rw [<- e4,<- hlen] at this
  exact this
 | true =>
  have e:∀ l:List Int,qS true l=[.list (l.map .int)]:=λ _=>rfl
  rw [e] at tV
  erw [e]
  refine ⟨(by decide:1<=100000),zL ?_⟩
  walk_at "st"
  refine zC ?_
  walk_at "st"
  have g4:∀ y:MO,(σ0++[y])[4]?=some (.inst 128 3):=λ y=>by erw [e4];rfl
  have g3:∀ y:MO,(σ0++[y])[3]?=some (.sdict [(6,.obj 5),(7,.obj 6),(8,jn),(9,.p (.tuple []))]):=λ y=>by erw [e4];rfl
  erw [g4]
  walk_at "st"
  erw [g3]
  walk_at "st"
  refine HC (e4 _) ?_
  unfold zw
  have e5:zR [(0,1)]=[.tuple [.int 0,.int 1]]:=rfl
  erw [e5]
  walk_at "st"
  refine zL ?_
  walk_at "st"
  have e6:ZE 0 2=[.int 0,.int 1]:=rfl
  erw [e6]
  refine ⟨(by decide:2<=100000),zL ?_⟩
  walk_at "st"
  refine zL ?_
  walk_at "st"
  refine zu ?_
  refine zu ?_
  unfold zi
  walk_at "st"
  refine zL ?_
  have wt:=λ {w acc u7 S K} (hw:B01 w) (ha:acc.length<=100) k=>VG (C:=C) (n:=n + 1) (l:=(run row ds).take (3 + i)) (w:=w) (p:=j) (es:=es) (tl:=zM ts j) (σ:=σ0) (d0:=some (.obj 4)) (d2:=d2) (d3:=some (.obj o)) (u7:=u7) (acc:=acc) (S:=S) (K:=K) L (zDG I G (by exact af (aF _ _) tJ) hr hw (by exact lin [_,_] [] (.a (.k 3) (.v 0)) (.a (.k 3) (.v 1)) [(1,.l (.a (.v 0) (.k 1)) (.v 1))] tT9 hi)) h8 tq Bq (λ t m=>zEV I hr hi (by erw [hj];exact m)) ha k
  refine wt (.inl rfl) (bd _) λ v7=>zL ?_
  refine wt (.inr rfl) (by erw [a6];cases (zM ts j).all (zI ((run row ds).take (3 + i)++[0]));exact bd _;exact (by decide:1<=100)) λ v7=>zu ?_
  have e7:([]:List ab)++(bif (zM ts j).all (zI ((run row ds).take (3 + i)++[0])) then [.list (((run row ds).take (3 + i)++[0]).map .int)] else [])++(bif (zM ts j).all (zI ((run row ds).take (3 + i)++[1])) then [.list (((run row ds).take (3 + i)++[1]).map .int)] else [])=qS (true&&(zM ts j).all (zI (run row ds))) ((run row ds).take (3 + i + 1)):=by
   have e8:([]:List ab)++(bif (zM ts j).all (zI ((run row ds).take (3 + i)++[0])) then [.list (((run row ds).take (3 + i)++[0]).map .int)] else [])++(bif (zM ts j).all (zI ((run row ds).take (3 + i)++[1])) then [.list (((run row ds).take (3 + i)++[1]).map .int)] else [])=([(0:Int),1].filter λ w=>(zM ts j).all (zI ((run row ds).take (3 + i)++[w]))).map λ w=>.list (((run row ds).take (3 + i)++[w]).map .int):=by
    (erw [ck];erw [ck];erw [ls])
    cases (zM ts j).all (zI ((run row ds).take (3 + i)++[0])) <;> cases (zM ts j).all (zI ((run row ds).take (3 + i)++[1])) <;> rfl
   (erw [e8];erw [F];erw [DO];erw [fW])
   unfold qS
   cases (zM ts j).all (zI (run row ds)) <;> rfl
  erw [e7]
  walk_at "st"
  refine ⟨tV _,zu ?_⟩
  refine zC ?_
  walk_at "st"
  have:=k (some (.p (.int j))) (some (.obj σ0.length)) (some (.p (.list (((run row ds).take (3 + i)).map .int)))) v7
  rw [<- e4,<- hlen] at this
  exact this
end
theorem wM (j m:Nat):ZE (j:Int) ((j:Int) + ((m + 1:Nat):Int))=.int (j:Nat)::ZE ((j + 1:Nat):Int) (((j + 1:Nat):Int) + (m:Nat)):=by
 unfold ZE
 (refine rwE (show ((j:Int) + ((m + 1:Nat):Int) - j).toNat=m + 1 by rw [rz,oj];rfl) ?_;refine rwE (show (((j + 1:Nat):Int) + (m:Int) - ((j + 1:Nat):Int)).toNat=m by rw [rz,oj];rfl) ?_;erw [List.range_succ_eq_map];erw [bl];erw [bz])
 congr 1
 refine cr λ i _=>?_
 show bH ((j:Int) + ((i + 1:Nat):Int))=.int (((j + 1:Nat):Int) + (i:Int))
 congr 1;exact be (liZ [_,_] [] (.a (.c (.v 0)) (.c (.a (.v 1) (.k 1)))) (.a (.c (.a (.v 0) (.k 1))) (.c (.v 1))) [] tT9) (liZ [_,_] [] (.a (.c (.a (.v 0) (.k 1))) (.c (.v 1))) (.a (.c (.v 0)) (.c (.a (.v 1) (.k 1)))) [] tT9)
section
variable {C:Cx}{n:Nat}{g:Gm}{fd:MO}{pt:D}{ds:List Df}{ts:List Td}{τ:zA}{Q:D->zA->Prop}
noncomputable def Zv (ds:List Df)(ts:List Td)(row:List Int)(j:Nat):Bool:=ts.all λ t=>decide ((j:Int)<=plT t) || zI (run row ds) t
theorem xl (L:Law1 C)(G:GOk g)(I:Inv g ds ts)(tJ:ds.length + ts.length<=900)(hr:BR g row){es:List (Int×D)}{d2:Option D}{S:Fl->Rho->zA->Prop}{K:Rho×zA->Prop} :
  ∀ (m i o b:Nat) (Y:zA) (u4 u5 u6 u7:Option D),i + m=ds.length->b<=o->b<=9 + Y.length ->
  (∀ p,LateAt (stt fd pt (vb0 g) ds ts++.idict es::Y) es p (zM ts p)) ->
  (stt fd pt (vb0 g) ds ts++.idict es::Y)[o]?=some (.lst (qS (Zv ds ts row (3 + i)) ((run row ds).take (3 + i)))) ->
  (∀ o' X v4 v5 v6 v7,b<=o'->(stt fd pt (vb0 g) ds ts++.idict es::(Y++X))[o']?=some (.lst (qS (Zv ds ts row (3 + ds.length)) ((run row ds).take (3 + ds.length))))->K ([some (.obj 4),some (.obj 8),d2,some (.obj o'),v4,v5,v6,v7],stt fd pt (vb0 g) ds ts++.idict es::(Y++X))) ->
  zT (zO C T1 (n + 3) (.nm 4) jd none S) (ZE ((3 + i:Nat):Int) (((3 + i:Nat):Int) + m)) ([some (.obj 4),some (.obj 8),d2,some (.obj o),u4,u5,u6,u7],stt fd pt (vb0 g) ds ts++.idict es::Y) K:=by
 intro m
 induction m with
 | zero =>
  intro i o b Y u4 u5 u6 u7 hl hb _ _ ho hK
  have e:ZE ((3 + i:Nat):Int) (((3 + i:Nat):Int) + ((0:Nat):Int))=[]:=by unfold ZE;simp
  erw [e]
  obtain rfl:i=ds.length:=by exact hl
  have:=hK o [] u4 u5 u6 u7 hb (by erw [aR];exact ho)
  rw [aR] at this
  exact this
 | succ m ih =>
  intro i o b Y u4 u5 u6 u7 hl Hp AM tq ho hK
  erw [wM]
  have hi:i<ds.length:=by exact lin [_,_,_] [] (.a (.v 0) (.k 1)) (.v 1) [(1,.e (.a (.v 0) (.a (.v 2) (.k 1))) (.v 1))] tT9 hl
  show zO _ _ _ _ _ _ _ (bH ((3 + i:Nat):Int)) _ (λ a'=>zT _ (ZE ((3 + i + 1:Nat):Int) (((3 + i + 1:Nat):Int) + m)) a' K)
  refine xm L G I tJ hr (ay hi) ho (tq _) λ v4 v5 v6 v7=>?_
  have eb:(Zv ds ts row (3 + i)&&(zM ts ((3 + i:Nat):Int)).all (zI (run row ds)))=Zv ds ts row (3 + i + 1):=(QQ (j:=((3 + i:Nat):Int))).symm
  erw [eb]
  have e2:∀ (Y X:zA),stt fd pt (vb0 g) ds ts++.idict es::(Y++X)=(stt fd pt (vb0 g) ds ts++.idict es::Y)++X:=λ Y X=>by (erw [aI];erw [eX];rfl)
  refine ih (i + 1) _ b _ v4 v5 v6 v7 ((Nat.add_right_comm i 1 m).trans hl) AM (by erw [ao];exact fK AM) (λ p=>by erw [e2];exact (tq p).app) ?_ λ o' X w4 w5 w6 w7 hb h=>?_
  ·erw [e2]
   have:9 + Y.length=(stt fd pt (vb0 g) ds ts++.idict es::Y).length:=by show _=(zE _ _ _ _ _++_).length;(erw [ZY];erw [a9]);exact dz (lin [_] [] (.a (.k 9) (.v 0)) (.a (.k 8) (.a (.v 0) (.k 1))) [] tT9) (lin [_] [] (.a (.k 8) (.a (.v 0) (.k 1))) (.a (.k 9) (.v 0)) [] tT9)
   erw [this];exact a5
  ·have:=hK o' ([.lst (qS (Zv ds ts row (3 + i + 1)) ((run row ds).take (3 + i + 1)))]++X) w4 w5 w6 w7 hb
   rw [<- aI] at this
   exact this h
theorem zDc (G:GOk g)(hr:BR g row):RowOk row:=by
 refine ⟨by erw [hr.len];decide,λ p p0 p1=>?_⟩
 rw [hr.len] at p1
 have h:=(YX hr p p0 p1).1
 have B:=(XV G p).1
 exact zAm B.1 B.2 h.1 h.2
theorem zA0 (I:Inv g ds ts)(hr:BR g row){t:Td}(m:t∈ts)(h:plT t<3):zI row t=zI (run row ds) t:=by
 have e:=Jj I hr m (j:=3) h (aF _ _)
 refine Ee (run_len (ds:=ds) (row:=row)).2 λ Y e2=>?_
 rw [<- e,e2,show (row++Y).take 3=row by rw [<- hr.len];exact iQ]
theorem zCW (L:Law1 C)(G:GOk g)(I:Inv g ds ts)(tJ:ds.length + ts.length<=900)(hr:BR g row){es:List (Int×D)}
  (tq:∀ p,LateAt (stt fd pt (vb0 g) ds ts++.idict es::τ) es p (zM ts p))
  (q:Q (.p (.int (b2z (ts.all (zI (run row ds)))))) (stt fd pt (vb0 g) ds ts++.idict es::τ)) :
  SatCall C T1 (n + 4) 503 [.obj 4,.obj 8,.p (.list (row.map .int))] (stt fd pt (vb0 g) ds ts++.idict es::τ) Q:=by
 have EI:=λ {S:Fl->Rho->zA->Prop} {K:Rho×zA->Prop} {d2:Option D} {Y}=>xl (n:=n) (S:=S) (K:=K) (d2:=d2) (fd:=fd) (pt:=pt) (ds:=ds) (ts:=ts) (es:=es) L G I tJ hr ds.length 0 (9 + τ.length) (9 + τ.length) Y
 have h8:∀ X,(stt fd pt (vb0 g) ds ts++.idict es::τ++X)[8]?=some (.idict es):=λ X=>rfl
 have h4:∀ X,(stt fd pt (vb0 g) ds ts++.idict es::τ++X)[4]?=some (.inst 128 3):=λ X=>rfl
 have h3:∀ X,(stt fd pt (vb0 g) ds ts++.idict es::τ++X)[3]?=some (.sdict [(6,.obj 5),(7,.obj 6),(8,jn),(9,.p (.tuple []))]):=λ X=>rfl
 have e2:∀ X:zA,stt fd pt (vb0 g) ds ts++.idict es::τ++X=stt fd pt (vb0 g) ds ts++.idict es::(τ++X):=λ X=>by (erw [aI];erw [eX];rfl)
 have hlen:(stt fd pt (vb0 g) ds ts++.idict es::τ).length=9 + τ.length:=by show (zE _ _ _ _ _++_).length=_;(erw [ZY];erw [a9]);exact dz (lin [_] [] (.a (.k 8) (.a (.v 0) (.k 1))) (.a (.k 9) (.v 0)) [] tT9) (lin [_] [] (.a (.k 9) (.v 0)) (.a (.k 8) (.a (.v 0) (.k 1))) [] tT9)
 have sQ:=λ {Q X} (q:Q (.p (.int ((3 + ds.length:Nat):Int))) (stt fd pt (vb0 g) ds ts++.idict es::τ++X))=>(show SatCall C T1 (n + 3) 118 [.obj 4] (stt fd pt (vb0 g) ds ts++.idict es::τ++X) Q by
  have Bf:(vb0 g++ze 3 ds).length=3 + ds.length:=by (erw [ao];erw [YG]);rfl
  rw [e2] at q ⊢
  exact w1 L (by exact lin [(vb0 g++ze 3 ds).length,ds.length,ts.length] [] (.v 0) (.k 10000) [(1,.l (.a (.v 1) (.v 2)) (.k 900)),(1,.e (.v 0) (.a (.k 3) (.v 1)))] tT9 tJ Bf) (by erw [Bf];exact q))
 have one:∀ (p:Int),p<3->∀ (K:List ab×zA->Prop) (acc:List ab) (X:zA) (d0 d3 d4 d5 d6 d7:Option D),acc.length + (zM ts p).length<=80000->K (acc++((zM ts p).filter λ t=>!zI row t).map zN,stt fd pt (vb0 g) ds ts++.idict es::τ++X) ->
   zq C T1 (n + 3) (elW C T1 (n + 3) (.nm 10)) (.nm 9) [] [.mk (.nm 10) (.meth (.nm 1) 1 [.nm 9,.lst false []]) [.not (.call false (.gl 35) [.nm 10,.nm 2])]] [d0,some (.obj 8),some (.p (.list (row.map .int))),d3,d4,d5,d6,d7,none,none,none] none (.int p) (acc,stt fd pt (vb0 g) ds ts++.idict es::τ++X) K:=λ p hp K acc X d0 d3 d4 d5 d6 d7 ha k=>by
  have hl:=(tq p).app (X:=X)
  have hh:∀ t,t∈zM ts p->TdOk row.length t:=λ t m=>by
   refine Ea (bM.mp m) λ m1 m2=>?_
   have T:=I.td t m1
   have P:=(ye T).2.2
   have e:=eq_of_beq m2
   refine ⟨λ v mv=>⟨(P v mv).1,?_⟩,T.len,T.co,T.ne⟩
   have:=(P v mv).2
   erw [hr.len]
   omega
  walk_at "go"
  erw [h8]
  walk_at "go"
  rcases hl with ⟨h1,h2⟩ | ⟨i,h1,h2⟩
  ·rw [h2] at k
   simp only [h1,pc]
   walk_at "go"
   rw [show acc++(([]:List Td).filter λ t=>!zI row t).map zN=acc from aR _] at k
   exact k
  ·simp only [h1,dg]
   walk_at "go"
   erw [h2]
   walk_at "go"
   have hlen:((zM ts p).map zN).length<=100000:=by erw [ah];exact lin [_,_] [] (.v 0) (.k 100000) [(1,.l (.a (.v 1) (.v 0)) (.k 80000))] tT9 ha
   refine ⟨hlen,Qd (f:=zN) (h:=zN) (p:=λ t=>!zI row t) (zM ts p) acc (by exact af ha (nB9 rfl)) (λ t m acc K ha k1 k0=>?_) k⟩
   walk_at "go"
   refine xM (n:=n + 1) L (zDc G hr) (hh t m) ?_
   cases hb:zI row t with
   | true =>
    rw [hb] at k0
    walk_at "go"
    exact ⟨h2,k0 rfl⟩
   | false =>
    rw [hb] at k1
    walk_at "go"
    exact ⟨ha,h2,k1 rfl⟩
 refine zK L.Y L.TT L.law_many rfl ?_
 unfold jd jo Jv at EI
 unfold Qh
 generalize Fb:stt fd pt (vb0 g) ds ts++.idict es::τ=σ0 at *
 refine zC ?_
 walk_at "st"
 refine zC ?_
 walk_at "st"
 have C0:=λ p=>uG (ts:=ts) (p:=p)
 have Bn:∀ p,(((zM ts p).filter λ t=>!zI row t).map zN).length<=900:=λ p=>by erw [ah];exact af (cH _ _) (af (C0 p) (by exact af (b7 _ _) tJ))
 have GK:∀ p,(zM ts p).length<=900:=λ p=>af (C0 p) (af (b7 _ _) tJ)
 have ap:∀ {x y:List ab} {a b:Nat},x.length<=a->y.length<=b->(x++y).length<=a + b:=λ h k=>(ao ..).symm▸dj h k
 refine zL ?_
 refine one _ (by decide) _ _ _ _ _ _ _ _ _ (by have:=C0 (-1);erw [b8];exact lin [_,_,_] [] (.a (.k 0) (.v 0)) (.k 80000) [(1,.l (.a (.v 1) (.v 2)) (.k 900)),(1,.l (.v 0) (.v 2))] tT9 tJ this) ?_
 refine zL ?_
 refine one _ (by decide) _ _ _ _ _ _ _ _ _ (af (dj (Bn (-1)) (GK 0)) (by decide)) ?_
 refine zL ?_
 refine one _ (by decide) _ _ _ _ _ _ _ _ _ (af (dj (ap (Bn (-1)) (Bn 0)) (GK 1)) (by decide)) ?_
 refine zL ?_
 refine one _ (by decide) _ _ _ _ _ _ _ _ _ (af (dj (ap (ap (Bn (-1)) (Bn 0)) (Bn 1)) (GK 2)) (by decide)) ?_
 refine zu ?_
 have e3:[]++((zM ts (-1)).filter λ t=>!zI row t).map zN++((zM ts 0).filter λ t=>!zI row t).map zN++((zM ts 1).filter λ t=>!zI row t).map zN++((zM ts 2).filter λ t=>!zI row t).map zN=((zM ts (-1)++(zM ts 0++(zM ts 1++zM ts 2))).filter λ t=>!zI row t).map zN:=by
  rw [a6,gz,gz,gz,aW,aW,aW,aI,aI]
 erw [e3]
 unfold zi
 walk_at "st"
 erw [UT]
 have e4:((zM ts (-1)++(zM ts 0++(zM ts 1++zM ts 2))).all (zI row))=Zv ds ts row 3:=by
  refine rwS (wm λ t m=>(ye (I.td t m)).1) ?_
  exact z6 λ t m=>by
   by_cases h:3<=plT t
   ·(erw [decide_eq_true h];erw [decide_eq_true (show ((3:Nat):Int)<=plT t from h)]);rfl
   ·(erw [decide_eq_false h];erw [decide_eq_false (show ¬ ((3:Nat):Int)<=plT t from h)];erw [zA0 I hr m (by exact (dZ.mp h))];rfl)
 erw [e4]
 have Di:Zv ds ts row (3 + ds.length)=ts.all (zI (run row ds)):=zA8 λ t m=>(ye (I.td t m)).2.1
 have Ec:Zv ds ts row 3=false->ts.all (zI (run row ds))=false:=λ h=>gP.mpr λ e=>by
  have:Zv ds ts row 3=true:=aY.mpr λ t m=>by (erw [aY.mp e t m];erw [Bool.or_true];rfl)
  rw [h] at this;exact nomatch this
 cases hb:Zv ds ts row 3
 case false =>
  rw [Ec hb] at q
  walk_at "go"
  exact Zg rfl q
 case true =>
 rw [hb] at EI
 walk_at "st"
 refine zC ?_
 walk_at "st"
 erw [h4]
 walk_at "st"
 erw [h3]
 walk_at "st"
 refine sQ ?_
 have hc:((3 + ds.length:Nat):Int)=((3:Nat):Int) + (ds.length:Int):=rfl
 walk_at "st"
 refine ⟨⟨by exact bn _,by omega⟩,by unfold ZE;(erw [ah];erw [on]);exact lin [_,_,_] [] (.v 0) (.k 100000) [(1,.l (.a (.v 1) (.v 2)) (.k 900)),(1,.E (.c (.v 0)) (.s (.a (.k 3) (.c (.v 1))) (.k 3)))] tT9 tJ (dN (liZ [_] [] (.k 0) (.s (.a (.k 3) (.c (.v 0))) (.k 3)) [] (by kernel_rfl))),?_⟩
 have ID:∀ X p,LateAt (stt fd pt (vb0 g) ds ts++.idict es::(τ++X)) es p (zM ts p):=λ X p=>by refine rwS (e2 ..) ?_;exact (tq p).app
 (erw [e2];erw [hlen])
 refine EI _ _ _ _ (eV _) (aQ _) (by erw [ao];exact lin [_] [] (.a (.k 9) (.v 0)) (.a (.k 9) (.a (.v 0) (.a (.k 0) (.k 1)))) [] tT9) (ID _) ?_ λ o' X v4 v5 v6 v7 AM h=>?_
 ·(refine rwS (e2 ..) ?_;refine rwS (hlen ..) ?_;erw [cC (aQ _)];erw [kz])
  show some (MO.lst [iC (row.map .int)])=_
  rw [Nat.add_zero,show (run row ds).take 3=row from by
   refine Ee (run_len (ds:=ds) (row:=row)).2 λ Y e3=>?_
   rw [e3,<- hr.len];exact iQ]
  rfl
 ·rw [aI,<- e2] at h ⊢
  rw [Di] at h
  walk_at "ds"
  refine zC ?_
  walk_at "ds"
  rw [m3] at h
  simp only [h,fc,ZQ]
  refine ⟨by unfold qS;cases ts.all (zI (run row ds)) with
   | true=>exact (by decide:1<=100000)
   | false=>exact (by decide:0<=100000),?_⟩
  refine Zg rfl ?_
  have e4:((qS (ts.all (zI (run row ds))) ((run row ds).take (3 + ds.length))).length:Int)=b2z (ts.all (zI (run row ds))):=by unfold qS;cases ts.all (zI (run row ds)) <;> rfl
  erw [e4]
  exact q
end
noncomputable def J1:List St:=match b_law.drop 8 with
 | .for _ _ b::_=>b
 | _=>[]
theorem i10 :10 + i - 8=i + 2:=by rw [eU];rfl
theorem zEL {es:List (Int×D)}{k:Int}{d d':D}{Q:D->zA->Prop}:jO i es k d σ Q (some d')=Q d' σ:=rfl
def xn (X:zA)(es:List (Int×D))(p:Int)(tl:List Td):Prop:=(za p es=none/\tl=[])∨∃ i,za p es=some (.obj (10 + i))/\X[i]?=some (.lst (tl.map zN))
structure Lv (X:zA)(es:List (Int×D))(dn:List Td):Prop where
 at':∀ p,xn X es p (zM dn p)
 inj:∀ p q i,za p es=some (.obj (10 + i))->za q es=some (.obj (10 + i))->p=q
 len:es.length<=dn.length
theorem qy {q:Int}{d:D}{es:List (Int×D)}:za p (es++[(q,d)])=(match za p es with | some x=>some x | none=>if q=p then some d else none):=by
 unfold za
 erw [oN]
 cases h:es.find? (λ x=>decide (x.1=p)) with
 | some x=>rfl
 | none =>
  by_cases hq:q=p
  ·simp [hq]
  ·simp [hq]
theorem Lv.first {X:zA}{es:List (Int×D)}{t:Td}(V:Lv X es dn)(hn:za (plT t) es=none):Lv (X++[.lst [zN t]]) (es++[(plT t,.obj (10 + X.length))]) (dn++[t]):=by
 refine ⟨λ p=>?_,λ p q i hp hq=>?_,by rw [ao,ao,aD,aD];exact bp V.len⟩
 ·rw [Wk]
  by_cases e:plT t=p
  ·subst e
   refine .inr ⟨X.length,by (erw [qy];erw [hn]);exact if_pos rfl,?_⟩
   erw [a5]
   rcases V.at' (plT t) with ⟨_,h⟩ | ⟨i,h,_⟩
   ·(erw [h];erw [beq_self_eq_true]);rfl
   ·rw [hn] at h;exact nomatch h
  ·erw [beq_eq_false_iff_ne.mpr e]
   show xn _ _ p (zM dn p++[])
   erw [aR]
   rcases V.at' p with ⟨h,h2⟩ | ⟨i,h,h2⟩
   ·exact .inl ⟨by (erw [qy];erw [h]);exact if_neg e,h2⟩
   ·exact .inr ⟨i,by (erw [qy];erw [h];rfl),by erw [aC (qY h2)];exact h2⟩
 ·have old:∀ r,za r es=some (.obj (10 + i))->i<X.length:=λ r h=>by
   rcases V.at' r with ⟨h1,_⟩ | ⟨j,h1,h2⟩
   ·rw [h1] at h;exact nomatch h
   ·rw [h1] at h
    injection h with h;injection h with h
    have:=qY h2
    exact lin [_,_,_] [] (.a (.v 0) (.k 1)) (.v 1) [(-1,.e (.a (.k 10) (.v 2)) (.a (.k 10) (.v 0))),(1,.l (.a (.v 2) (.k 1)) (.v 1))] (by kernel_rfl) h this
  rw [qy] at hp hq
  cases h1:za p es with
  | some x =>
   rw [h1] at hp
   have lp:=old p (by erw [h1];exact hp)
   cases h2:za q es with
   | some y =>
    rw [h2] at hq
    exact V.inj p q i (by erw [h1];exact hp) (by erw [h2];exact hq)
   | none =>
    rw [h2] at hq
    by_cases e:plT t=q
    ·rw [if_pos e] at hq
     injection hq with hq;injection hq with hq
     omega
    ·rw [if_neg e] at hq;exact nomatch hq
  | none =>
   rw [h1] at hp
   by_cases e:plT t=p
   ·rw [if_pos e] at hp
    cases h2:za q es with
    | some y =>
     rw [h2] at hq
     have lq:=old q (by erw [h2];exact hq)
     injection hp with hp;injection hp with hp
     omega
    | none =>
     rw [h2] at hq
     by_cases e':plT t=q
     ·exact e.symm.trans e'
     ·rw [if_neg e'] at hq;exact nomatch hq
   ·rw [if_neg e] at hp;exact nomatch hp
theorem Lv.next {X:zA}{es:List (Int×D)}{t:Td}(V:Lv X es dn)(hn:za (plT t) es=some (.obj (10 + i)))(hi:i<X.length):Lv ((X++[MO.lst []]).set i (MO.lst ((zM dn (plT t)).map zN++[zN t]))) es (dn++[t]):=by
 refine ⟨λ p=>?_,V.inj,by erw [ao];exact af V.len (aF _ _)⟩
 erw [Wk]
 by_cases e:plT t=p
 ·subst e
  refine .inr ⟨i,hn,?_⟩
  (erw [fJ (by rw [ao];exact dD hi)];erw [beq_self_eq_true])
  show _=some (MO.lst ((_++[t]).map zN))
  erw [aW];rfl
 ·erw [beq_eq_false_iff_ne.mpr e]
  show xn _ _ p (zM dn p++[])
  erw [aR]
  rcases V.at' p with ⟨h,h2⟩ | ⟨j,h,h2⟩
  ·exact .inl ⟨h,h2⟩
  ·refine .inr ⟨j,h,?_⟩
   have hj:i≠j:=λ e2=>e (V.inj _ _ j (e2▸hn) h)
   (erw [dC hj];erw [aC (qY h2)])
   exact h2
section
variable {C:Cx}{n:Nat}{fd:MO}{pt:D}{vars tolds:List ab}{made:List (Ky×D)}{a:MO}{d0 d1 d2 d4 d5 d6 d7 d8 d9 d10 d11 d12 d13 d14 d15 d16 d18 d19:Option D}{S:Fl->Rho->zA->Prop}{K:Rho×zA->Prop}{t:Td}{dn:List Td}{es:List (Int×D)}{X:zA}
theorem Wl (L:Law1 C){u17:Option D}(hk:k<=1000)(T:TdOk k t)(V:Lv X es dn)(FL:dn.length<=1000)
  (h:∀ Db es' X',Lv X' es' (dn++[t])->K ([d0,d1,d2,some (.obj 8),d4,d5,d6,d7,d8,d9,d10,d11,d12,d13,d14,d15,d16,Db,d18,d19],zE fd pt vars tolds made++.idict es'::a::X')) :
  zO C T1 (n + 1) (.nm 17) J1 (some (6,tolds)) S (zN t) ([d0,d1,d2,some (.obj 8),d4,d5,d6,d7,d8,d9,d10,d11,d12,d13,d14,d15,d16,u17,d18,d19],zE fd pt vars tolds made++.idict es::a::X) K:=by
 unfold J1 b_law
 simp only [eg]
 have h8:∀ (es:List (Int×D)) (Y:zA),(zE fd pt vars tolds made++.idict es::a::Y)[8]?=some (.idict es):=λ _ _=>rfl
 walk_at "st"
 refine zC ?_
 walk_at "st"
 erw [h8]
 refine zBc L T.len ?_
 have hp:=ye T
 have hlen:(zE fd pt vars tolds made++.idict es::a::X).length=10 + X.length:=by (erw [ZY];erw [a9];erw [a9]);exact dz (lin [_] [] (.a (.k 8) (.a (.a (.v 0) (.k 1)) (.k 1))) (.a (.k 10) (.v 0)) [] tT9) (lin [_] [] (.a (.k 10) (.v 0)) (.a (.k 8) (.a (.a (.v 0) (.k 1)) (.k 1))) [] tT9)
 have Fz:∀ (m y:MO),zE fd pt vars tolds made++m::a::X++[y]=zE fd pt vars tolds made++m::a::(X++[y]):=λ m y=>by simp
 have s8:∀ (m m':MO) (Y:zA),(zE fd pt vars tolds made++m::a::Y).set 8 m'=zE fd pt vars tolds made++m'::a::Y:=λ _ _ _=>rfl
 have g6:∀ (m:MO) (Y:zA),(zE fd pt vars tolds made++m::a::Y)[6]?=some (.lst tolds):=λ _ _=>rfl
 have gX:∀ (m:MO) (Y:zA) (i:Nat),(zE fd pt vars tolds made++m::a::Y)[10 + i]?=Y[i]?:=λ m Y i=>by
  (erw [yK (by exact lin [_] [] (.k 8) (.a (.k 10) (.v 0)) [] tT9)];erw [i10]);rfl
 have sX:∀ (m z:MO) (Y:zA) (i:Nat),(zE fd pt vars tolds made++m::a::Y).set (10 + i) z=zE fd pt vars tolds made++m::a::(Y.set i z):=λ m z Y i=>by
  erw [m4 _ _ (by show 8<=_;exact lin [_] [] (.k 8) (.a (.k 10) (.v 0)) [] tT9)]
  congr 1
  refine rwE (show 10 + i - (zE fd pt vars tolds made).length=i + 2 from i10) ?_;rfl
 (erw [hlen];erw [Fz])
 walk_at "st"
 simp only [QH]
 walk_at "st"
 erw [h8]
 walk_at "st"
 have hl:=V.len
 rcases V.at' (plT t) with ⟨hn,ht⟩ | ⟨i,hn,ht⟩
 ·have F:=V.first hn
  unfold plT at hn
  simp only [hn,zEZ,s8]
  walk_at "st"
  (erw [gX];erw [a5])
  walk_at "st"
  simp only [sX,g6,qz]
  walk_at "st"
  exact ⟨by erw [ah];have:=T.len;exact lin [_] [] (.a (.k 1) (.v 0)) (.k 100000) [(1,.l (.v 0) (.k 20))] tT9 this,by unfold plT at hp;exact lin [_,_] [] (.v 0) (.k 100000) [(1,.l (.v 1) (.k 1000)),(1,.l (.v 0) (.v 1))] tT9 FL hl,h _ _ _ F⟩
 ·have F:=V.next hn (qY ht)
  unfold plT at hn
  simp only [hn,zEL]
  walk_at "st"
  (erw [gX];erw [aC (qY ht)];erw [ht])
  walk_at "st"
  simp only [sX,g6]
  walk_at "st"
  exact ⟨by erw [ah];have:=T.len;exact lin [_] [] (.a (.k 1) (.v 0)) (.k 100000) [(1,.l (.v 0) (.k 20))] tT9 this,by unfold plT at hp;exact lin [_,_] [] (.v 0) (.k 100000) [(1,.l (.v 1) (.k 1000)),(1,.l (.v 0) (.v 1))] tT9 FL hl,by erw [ah];exact af uG (by exact af FL (nB9 rfl)),h _ _ _ F⟩
theorem Wq (L:Law1 C)(hk:k<=1000) :
  ∀ (tl dn:List Td) (es:List (Int×D)) (X:zA) (u17:Option D),(∀ t,t∈tl->TdOk k t)->Lv X es dn->dn.length + tl.length<=1000 ->
  (∀ Db es' X',Lv X' es' (dn++tl)->K ([d0,d1,d2,some (.obj 8),d4,d5,d6,d7,d8,d9,d10,d11,d12,d13,d14,d15,d16,Db,d18,d19],zE fd pt vars tolds made++.idict es'::a::X')) ->
  zT (zO C T1 (n + 1) (.nm 17) J1 (some (6,tolds)) S) (tl.map zN) ([d0,d1,d2,some (.obj 8),d4,d5,d6,d7,d8,d9,d10,d11,d12,d13,d14,d15,d16,u17,d18,d19],zE fd pt vars tolds made++.idict es::a::X) K:=by
 intro tl
 induction tl with
 | nil =>
  intro dn es X u17 _ V _ h
  exact h u17 es X (by erw [aR];exact V)
 | cons t tl ih =>
  intro dn es X u17 ht V hl h
  rw [a9] at hl
  show zO _ _ _ _ _ _ _ (zN t) _ (λ a'=>zT _ (tl.map zN) a' K)
  refine Wl L hk (ht t (.head _)) V (by exact af (aF _ _) hl) λ Db es' X' V'=>?_
  refine ih (dn++[t]) es' X' Db (λ u m=>ht u (.tail _ m)) V' (by (erw [ao];erw [aD]);exact lin [_,_] [] (.a (.a (.v 0) (.k 1)) (.v 1)) (.k 1000) [(1,.l (.a (.v 0) (.a (.v 1) (.k 1))) (.k 1000))] tT9 hl) λ w I7 X2 V2=>?_
  exact h w I7 X2 (by rw [aI] at V2;exact V2)
end
structure Law1X (C:Cx):Prop where
 L:Law1 C
 S:SupX C "/claim/cut.py"
 mF:mS C.K 451=true
 kF:keepIn C.K (.ref 451)=true
 iF:∃ f,findIn C.K (.ref 451) "__init__"=some (some (.ref f))/\typeIn C.K (.ref f)=some (.type "function")/\keepIn C.K (.ref f)=true/\wT C.K "/claim/cut.py" f ⟨451,"self",[],[],"partial",none⟩
 m168:mS C.K 128=true
 k168:keepIn C.K (.ref 128)=true
 i168:findIn C.K (.ref 128) "__init__"=some (some (.ref 97))
 f137:typeIn C.K (.ref 97)=some (.type "function")
 sub:mroIn C.K 451 (.ref 451)=some true
 sin:kj C.K 451 451 "__init__"=some (some (.ref 196))
 f226:typeIn C.K (.ref 196)=some (.type "function")
 n226:fnIn C.K 196=true
section
variable {C:Cx}{n:Nat}{Q:D->zA->Prop}
theorem zCB (X:Law1X C){a b c:MO}(q:Q (.obj 4) [a,b,c,.sdict [(6,.obj 5),(7,.obj 6),(8,jn),(9,.p (.tuple []))],.inst 128 3,.lst [],.lst []]):SatCall C T1 (n + 2) 128 [] [a,b,c] Q:=by
 refine UF X.L.Y (by decide) X.m168 X.k168 X.i168 X.f137 ?_
 refine zK X.L.Y X.L.TT X.L.flat_init rfl ?_
 unfold Qo
 walk_at "go"
 exact zD rfl ⟨rfl,q⟩
theorem Uc (X:Law1X C)(q:Q (.obj 2) (zE fd (.p .none) [] [] [])):SatCall C T1 (n + 6) 451 [] [fd] Q:=by
 refine Eeaaa (X.iF) λ f i1 i2 i3 i4=>?_
 refine UF X.L.Y (by decide) X.mF X.kF i1 i2 ?_
 refine VW X.L.Y X.L.TT X.S i3 i4 (k:=12) rfl rfl X.sub X.sin X.f226 X.n226 (i:=2) (j:=1) rfl rfl ?_
 refine zK X.L.Y X.L.TT X.L.gath_init rfl ?_
 unfold Qi
 walk_at "go"
 refine zCB X ?_
 walk_at "go"
 exact zD rfl ⟨_,rfl,rfl,by decide,q⟩
end
noncomputable def hz (g:Gm):Int:=bif g.hole then 1 else 0
noncomputable def Yg (x:Int)(g:Gm):List (List Int):=[[x,g.base,0],[x,g.base,1],[x,g.base + 1,0],[x,g.base + 1,1]]
noncomputable def pts (g:Gm):List (List Int):=Yg g.low g++(Yg (g.low + 1) g++Yg (bif g.hole then g.low + 3 else g.low + 2) g)
noncomputable def qm (row:List Int):ab:=.list (row.map .int)
noncomputable def ZC (s:ab)(g:Gm)(gr:Int)(d10 d11 d12 d13 d14 d15 d16 FP d18 d19:Option D):Rho :=
 [some (.p s),some (.obj 0),some (.obj 2),some (.obj 8),some (.obj 9),some (.p (.int g.low)),some (.p (.int (hz g))),some (.p (.int g.base)),some (.p (.int gr)),some (.p (.list ((pts g).map qm))),d10,d11,d12,d13,d14,d15,d16,FP,d18,d19]
section
variable {C:Cx}{n:Nat}{Q:D->zA->Prop}
theorem zBi (v0:0<=v)(v3:v<3):∃ gr:Int,((idx 3 v).bind λ j=>[bH 1,.int 1,.int (10 ^ 18)][j]?)=some (.int gr)/\1<=gr/\Gr gr:=by
 rcases i3 v0 v3 with rfl | rfl | rfl
 ·exact ⟨1,rfl,by decide,aw rfl⟩
 ·exact ⟨1,rfl,by decide,aw rfl⟩
 ·exact ⟨10 ^ 18,rfl,by decide,aw rfl⟩
theorem j7 {acc:List ab}{K:List ab×zA->Prop}{x:Int}{d0 d1 d2 d3 d4 d5 d6 d8 d9 d10 d11 d12 d13 d14 d15 d16 FP d18 d19 d20 u21 u22 u23:Option D}(ha:acc.length<=1000)(k:K (acc++(Yg x g).map qm,σ)) :
  zq C T1 n (elW C T1 n (.lst false [.nm 21,.nm 22,.nm 23])) (.nm 21) [] [.mk (.nm 22) (.tup [.nm 7,.bin .Add (.nm 7) (.c (.int 1))]) [],.mk (.nm 23) (.tup [.c (.int 0),.c (.int 1)]) []] [d0,d1,d2,d3,d4,d5,d6,some (.p (.int g.base)),d8,d9,d10,d11,d12,d13,d14,d15,d16,FP,d18,d19,d20,u21,u22,u23] none (.int x) (acc,σ) K:=by
 walk_at "st"
 have fw:∀ (A:List ab) (m:Nat),A.length<=m->m<=1010->A.length<=100000:=λ A m h h'=>by exact lin [_,_] [] (.v 0) (.k 100000) [(1,.l (.v 0) (.v 1)),(1,.l (.v 1) (.k 1010))] tT9 h h'
 refine zL ?_
 walk_at "st"
 refine zL ?_
 walk_at "st"
 refine ⟨by exact af ha (nB9 rfl),?_⟩
 refine zL ?_
 walk_at "st"
 refine ⟨by (erw [ao];erw [aD]);exact lin [_] [] (.a (.v 0) (.k 1)) (.k 100000) [(1,.l (.v 0) (.k 1000))] tT9 ha,?_⟩
 refine zu ?_
 refine zL ?_
 walk_at "st"
 refine zL ?_
 walk_at "st"
 refine ⟨by rw [ao,ao,aD,aD];exact lin [_] [] (.a (.a (.v 0) (.k 1)) (.k 1)) (.k 100000) [(1,.l (.v 0) (.k 1000))] tT9 ha,?_⟩
 refine zL ?_
 walk_at "st"
 refine ⟨by rw [ao,ao,ao,aD,aD,aD];exact lin [_] [] (.a (.a (.a (.v 0) (.k 1)) (.k 1)) (.k 1)) (.k 100000) [(1,.l (.v 0) (.k 1000))] tT9 ha,?_⟩
 refine zu ?_
 refine zu ?_
 (erw [aI];erw [aI];erw [aI])
 exact k
theorem UD (L:Law1 C){s:ab}{gr:Int}{fd:MO}{pt:D}{tail:List St}{S:Fl->Rho->zA->Prop}{z:Int}(Ks:g.low + 2 + z=bif g.hole then g.low + 3 else g.low + 2)(KC:z=hz g)
  (h:wpSs C T1 59 tail (ZC s g gr none none none none none none none none none none) (stt fd pt (vb0 g) [] []++[.idict [],.lst []]) S) :
  wpSs C T1 59 ((b_law.drop 4).take 3++tail) [some (.p s),some (.obj 0),some (.obj 2),some (.obj 8),some (.obj 9),some (.p (.int g.low)),some (.p (.int z)),some (.p (.int g.base)),some (.p (.int gr)),none,none,none,none,none,none,none,none,none,none,none] (zE fd pt [.tuple [.str "x",zw (xd g)]] [] []++[.idict [],.lst []]) S:=by
 unfold b_law
 simp only [mA,eg,eX,a6]
 refine zC ?_
 walk_at "st"
 refine qh L (by decide:1<=10000) ?_
 walk_at "st"
 refine zC ?_
 walk_at "st"
 refine qh L (by decide:2<=10000) ?_
 walk_at "st"
 refine zC ?_
 walk_at "st"
 erw [Ks]
 refine zL (j7 (g:=g) (bd _) ?_)
 refine zL (j7 (g:=g) (show 4<=1000 by decide) ?_)
 refine zL (j7 (g:=g) (show 8<=1000 by decide) ?_)
 refine zu ?_
 unfold zi
 walk_at "st"
 subst KC
 exact h
theorem vw (X:Law1X C)(hl:ns.length<=63)
  (h:∀ g gr,GOk g->1<=gr->Gr gr->wpSs C T1 59 (b_law.drop 7) (ZC (.list (ns.map .int)) g gr none none none none none none none none none none)
   (stt (zx (ns.take 40) 4) (.p .none) (vb0 g) [] []++[.idict [],.lst []]) λ fl _ σ'=>Z0 [] Q fl σ') :
  SatCall C T1 60 508 [.p (.list (ns.map .int))] [] Q:=by
 have L:=X.L
 refine zK L.Y L.TT L.law rfl ?_
 generalize hS:(λ (fl:Fl) (_:Rho) (σ':zA)=>Z0 [] Q fl σ')=S at h ⊢
 have e:b_law=b_law.take 7++b_law.drop 7:=(cF ..).symm
 erw [e]
 generalize b_law.drop 7=tail at h ⊢
 unfold b_law
 simp only [mA,eX,a6]
 refine zC ?_
 walk_at "st"
 refine ⟨by erw [ah];exact af hl (nB9 rfl),af (i5 ..) (by decide),?_⟩
 have hf:MO.rdict [(13,D.p (iC (mA 40 (nD bH ns)))),(14,D.p (bH 0))]=zx (ns.take 40) 0:=by
  unfold zx;erw [pT];rfl
 erw [hf]
 refine SatCall.up (Uc (n:=0) X ?_) (by decide)
 have Aw:(ns.take 40).length<=100:=af (i5 ..) (by decide)
 generalize ns.take 40=cells at hf Aw h ⊢
 show wpSs C T1 59 _ [some (.p (.list (ns.map .int))),some (.obj 0),some (.obj 2),some (.obj 8),some (.obj 9),none,none,none,none,none,none,none,none,none,none,none,none,none,none,none] (zE (zx cells 0) (.p .none) [] [] []++[.idict [],.lst []]) S
 refine zC ?_
 walk_at "st"
 refine ZH L ⟨by decide,by decide⟩ (by decide) Aw λ lo l0 l5=>?_
 walk_at "st"
 refine ZH L ⟨by decide,by decide⟩ (by decide) Aw λ ho h0 h2=>?_
 walk_at "st"
 refine ZH L ⟨by decide,by decide⟩ (by decide) Aw λ ba b0 b3=>?_
 walk_at "st"
 refine zC ?_
 walk_at "st"
 refine ⟨⟨by decide,by decide +kernel⟩,ZH L ⟨by decide,by decide⟩ (by decide) Aw λ v v0 v3=>?_⟩
 refine Eeaa (zBi v0 v3) λ gr hv hp hg=>?_
 walk_at "st"
 simp only [a9,b8,Nat.reduceAdd,hv]
 refine ⟨by exact ⟨bh (oD9 rfl) v0,dm v3 (oD9 rfl)⟩,?_⟩
 have hh:ho=0∨ho=1:=by omega
 rcases hh with rfl | rfl
 ·have G:GOk ⟨lo - 2,false,ba - 1⟩:=⟨yR (k:=2) (dp (show (-2:Int) + 2<=lo from l0)) (dq (show lo<=2 + 2 from dG l5)),yR (k:=1) (dp (show (-1:Int) + 1<=ba from b0)) (dq (show ba<=1 + 1 from dG b3))⟩
  have h:=h _ gr G hp hg
  generalize lo - 2=low at *
  generalize ba - 1=base at *
  refine zC ?_
  walk_at "st"
  refine qh L (by decide) ?_
  exact UD L (g:=⟨low,false,base⟩) (s:=.list (ns.map .int)) (fd:=zx cells 4) (pt:=.p .none) (z:=0) (b9 _) rfl h
 ·have G:GOk ⟨lo - 2,true,ba - 1⟩:=⟨yR (k:=2) (dp (show (-2:Int) + 2<=lo from l0)) (dq (show lo<=2 + 2 from dG l5)),yR (k:=1) (dp (show (-1:Int) + 1<=ba from b0)) (dq (show ba<=1 + 1 from dG b3))⟩
  have h:=h _ gr G hp hg
  generalize lo - 2=low at *
  generalize ba - 1=base at *
  refine zC ?_
  walk_at "st"
  refine qh L (by decide) ?_
  exact UD L (g:=⟨low,true,base⟩) (s:=.list (ns.map .int)) (fd:=zx cells 4) (pt:=.p .none) (z:=1) (by show low + 2 + 1=low + 3;exact be (liZ [] [_] (.a (.a (.v 0) (.k 2)) (.k 1)) (.a (.v 0) (.k 3)) [] tT9) (liZ [] [_] (.a (.v 0) (.k 3)) (.a (.a (.v 0) (.k 2)) (.k 1)) [] tT9)) rfl h
end
structure Ask where
 ms:Int×Int×Int×Int
 rs:List (Int×Int)
 how:Int
noncomputable def QL (a:Ask):ab:=.tuple [qj a.ms,zw a.rs,.int a.how]
noncomputable def Qj (a:Ask)(row:List Int):Bool:=vm a.how (Z7 a.ms row) (zB row 2) a.rs
def AOk (a:Ask):Prop:=MOk a.ms/\a.rs.length<=3
structure LapI (g:Gm)(ds:List Df)(ts:List Td)(as:List Ask):Prop where
 inv:Inv g ds ts
 ok:∀ a,a∈as->AOk a
 sem:∀ row,BR g row->ts.all (zI (run row ds))=as.all λ a=>Qj a row
theorem LapI.nil :LapI g [] [] []:=⟨Inv.nil,λ a m=>(nomatch m),λ _ _=>rfl⟩
theorem LapI.snoc {as:List Ask}{a:Ask}{m:Nat}{P:List Int->Bool}(I:LapI g ds ts as)(o:Stp g ds ts sE sN m P)(ha:AOk a)(h:∀ row,BR g row->P row=Qj a row):LapI g sE sN (as++[a]):=by
 refine ⟨o.inv,λ b mb=>?_,λ row hr=>?_⟩
 ·rcases bg.mp mb with m | m
  ·exact I.ok b m
  ·refine z7 m ?_;exact ha
 ·obtain ⟨X,Y,rfl,rfl,h1⟩:=o.ex
  (erw [cQ];erw [cQ];erw [h1 row hr];refine rwS (I.sem row hr) ?_;erw [h row hr])
  congr 1
  ·exact z6 λ t mt=>UO I.inv hr mt
  ·show _=(_&&true);(erw [cZ];rfl)
noncomputable def lapB:List St:=match b_law.drop 7 with
 | .for _ _ b::_=>b
 | _=>[]
noncomputable def Xh:List St:=lapB.drop 4
noncomputable def qW (cells:List Int)(k:Nat)(g:Gm)(ds:List Df)(ts:List Td)(as:List Ask):zA:=stt (zx cells k) (.p .none) (vb0 g) ds ts++[.idict [],.lst (as.map QL)]
theorem Wo (G:GOk g)(m:row∈pts g):BR g row/\∃ p q b,row=[p,q,b]/\Lm 10 p/\Lm 10 q/\Lm 1 b:=by
 have one:∀ x,x∈xs g->Lm 10 x->row∈Yg x g->BR g row/\∃ p q b,row=[p,q,b]/\Lm 10 p/\Lm 10 q/\Lm 1 b:=λ x mx hx m=>by
  have k0:Lm 10 g.base:=G.base.le rfl
  have k1:Lm 10 (g.base + 1):=(G.base.add (k:=1) (b:=1) (aQ _)).le rfl
  have fin:∀ {q b:Int},(q=g.base∨q=g.base + 1)->B01 b->Lm 10 q->Lm 1 b->row=[x,q,b]->BR g row/\∃ p q b,row=[p,q,b]/\Lm 10 p/\Lm 10 q/\Lm 1 b:=λ h1 h2 h3 h4 e=>⟨⟨x,_,_,e,mx,h1,h2⟩,x,_,_,e,hx,h3,h4⟩
  have z0:Lm 1 0:=bd _
  have z1:Lm 1 1:=aQ _
  unfold Yg at m
  rcases aA.mp m with e | m
  ·exact fin (.inl rfl) (.inl rfl) k0 z0 e
  rcases aA.mp m with e | m
  ·exact fin (.inl rfl) (.inr rfl) k0 z1 e
  rcases aA.mp m with e | m
  ·exact fin (.inr rfl) (.inl rfl) k1 z0 e
  ·exact fin (.inr rfl) (.inr rfl) k1 z1 (av.mp m)
 have up:∀ {k:Nat} {b:Int},Lm k b->cA (2 + k) 10=true->Lm 10 (g.low + b):=λ h e=>(G.low.add h).le e
 unfold pts at m
 rcases bg.mp m with m | m
 ·exact one _ (.head _) (G.low.le rfl) m
 ·rcases bg.mp m with m | m
  ·exact one _ (.tail _ (.head _)) (up (k:=1) (b:=1) (aQ _) rfl) m
  ·exact one _ (.tail _ (.tail _ (.head _))) (by cases g.hole;exact up (k:=2) (b:=2) (aQ _) rfl;exact up (k:=3) (b:=3) (aQ _) rfl) m
theorem zAM :(pts g).length=12:=rfl
theorem vR (v0:0<=v)(v1:v<12):∃ row,row∈pts g/\((idx ((pts g).map qm).length v).bind λ j=>((pts g).map qm)[j]?)=some (qm row):=by
 obtain ⟨k,rfl⟩:=cz v0
 have sW:k<(pts g).length:=by erw [zAM];exact lin [_] [] (.a (.v 0) (.k 1)) (.k 12) [(1,.L (.a (.c (.v 0)) (.k 1)) (.k 12))] tT9 v1
 refine ⟨(pts g)[k],kR sW,?_⟩
 have IQ:k<((pts g).map qm).length:=by erw [ah];exact sW
 (erw [xI];erw [fc];erw [bt];erw [ay sW])
 rfl
theorem zBB {q b:Int}(M:MOk ms)(hp:Lm 10 p)(hq:Lm 10 q)(hb:Lm 1 b):Lm (10 ^ 20) (Z7 ms [p,q,b]):=by
 show Lm _ (ms.1 * p + ms.2.1 * q + ms.2.2.1 * b + ms.2.2.2)
 exact ((((M.1.mul hp).add (M.2.1.mul hq)).add (M.2.2.1.mul hb)).add M.2.2.2).le rfl
section
variable {C:Cx}{n:Nat}{Q:D->zA->Prop}{g:Gm}{ds:List Df}{ts:List Td}{as:List Ask}
theorem bit2_tr {ds:List Df}:Tr g ds (.bit 2 true) λ row=>zB row 2==1:=by
 refine ⟨rfl,λ x s e=>?_,λ row hr=>?_⟩
 ·injection e with e1 e2
  subst e1
  exact ⟨⟨by decide,by exact liZ [_] [] (.a (.k 2) (.k 1)) (.c (.a (.k 3) (.v 0))) [] tT9⟩,Jx (by decide)⟩
 ·show (zB (run row ds) 2==1)=_
  refine Ee (run_len (ds:=ds) (row:=row)).2 λ Y e=>?_
  rw [e,zX (by rw [hr.len];decide)]
theorem Vp (L:Law1 C)(G:GOk g){cells:List Int}{k:Nat}{gr:Int}{s:ab}{t:Th}{a:Ask}{u10 u13 u16 u17 u18 u19:Option D}{S:Fl->Rho->zA->Prop}{K:Rho×zA->Prop}(I:LapI g ds ts as)(sQ:ds.length + ts.length<=700)(Bs:as.length<=100)
  (V:VOk A0 c0 t) (R:DOk a.rs) (M:MOk a.ms) (hw:∀ row,zH row t=Z7 a.ms row) (h0:0<=a.how) (h4:a.how<4)
  (hK:∀ sE sN AF,sE.length + sN.length<=ds.length + ts.length + 60->LapI g sE sN (as++[a])->K (ZC s g gr u10 (some (.p (enc t))) (some (.p (qj a.ms))) u13 (some (.p (zw a.rs))) (some (.p (.int a.how))) AF u17 u18 u19,qW cells k g sE sN (as++[a]))) :
  wpSs C T1 (n + 8) Xh (ZC s g gr u10 (some (.p (enc t))) (some (.p (qj a.ms))) u13 (some (.p (zw a.rs))) (some (.p (.int a.how))) u16 u17 u18 u19) (qW cells k g ds ts as) λ fl tC sA=>qt fl (λ d=>S (.ret d) tC sA) (K (tC,sA)):=by
 obtain ⟨ms,rs,how⟩:=a
 dsimp only at *
 have hA:AOk ⟨ms,rs,how⟩:=⟨M,R.len⟩
 have app:∀ sE sN AF (how:Int),K (ZC s g gr u10 (some (.p (enc t))) (some (.p (qj ms))) u13 (some (.p (zw rs))) (some (.p (.int how))) AF u17 u18 u19,qW cells k g sE sN (as++[⟨ms,rs,how⟩]))->wpSs C T1 (n + 8) [.expr (.meth (.nm 4) 0 [.tup [.nm 12,.nm 14,.nm 15]])] (ZC s g gr u10 (some (.p (enc t))) (some (.p (qj ms))) u13 (some (.p (zw rs))) (some (.p (.int how))) AF u17 u18 u19) (zE (zx cells k) (.p .none) (vb0 g++ze 3 sE) (sN.map zN) (zm 3 sE)++[.idict [],.lst (as.map QL)]) λ fl tC sA=>qt fl (λ d=>S (.ret d) tC sA) (K (tC,sA)):=λ sE sN AF how h=>by
  unfold qW ZC at *
  refine zC ?_
  walk_at "st"
  have g9:(zE (zx cells k) (.p .none) (vb0 g++ze 3 sE) (sN.map zN) (zm 3 sE)++[.idict [],.lst (as.map QL)])[9]?=some (.lst (as.map QL)):=rfl
  erw [g9]
  walk_at "st"
  refine ⟨by erw [ah];exact af Bs (nB9 rfl),?_⟩
  rw [aW] at h
  exact h
 unfold qW ZC at *
 unfold Xh lapB b_law
 simp only [eg]
 have fin:∀ {m:Nat} {P:List Int->Bool} sE sN AF,Stp g ds ts sE sN m P->cA m 60=true->(∀ row,BR g row->P row=Qj ⟨ms,rs,how⟩ row)->_:=λ sE sN AF o hm hP=>app sE sN AF how (hK sE sN AF (af o.len (aL (aw hm) _)) (I.snoc o hA hP))
 have h3:how=0∨how=1∨how=2∨how=3:=z4 h0 h4
 have one:∀ {sE:List Df} {u:Th} {f:List Int->Bool},Tr g sE u f->Trs g sE [u]:=λ T t m=>by refine z7 m ?_;exact ⟨_,T⟩
 rcases h3 with rfl | rfl | rfl | rfl
 ·refine zC ?_
  walk_at "st"
  refine zC ?_
  walk_at "st"
  refine WJ L G V R I.inv sQ λ sE sN o=>?_
  have fin:=fin sE sN u16 o rfl λ row hr=>by rw [hw];show _=(inM _ rs || false);(erw [cW];rfl)
  walk_at "st"
  exact fin
 ·refine zC ?_
  walk_at "st"
  refine zC ?_
  walk_at "st"
  refine JJ L G V R I.inv sQ λ t' sE sN o T=>?_
  have F:=one T
  walk_at "st"
  refine zC ?_
  walk_at "st"
  have BC:=o.len
  refine YQ L (us:=[t']) (show 1<=4 by decide) F o.inv (by exact lin [_,_,_,_] [] (.a (.v 0) (.v 1)) (.k 800) [(1,.l (.a (.v 2) (.v 3)) (.k 700)),(1,.l (.a (.v 0) (.v 1)) (.a (.a (.v 2) (.v 3)) (.k 50)))] tT9 sQ BC) λ tY Ax o2=>?_
  have fin:=fin tY Ax (some (.p (enc t'))) (o.trans o2) rfl λ row hr=>by
   show (true&&(thB (run row sE) t' || false))=(inM _ rs || false)
   rw [T.w row hr,hw,fW]
  walk_at "st"
  exact fin
 ·refine zC ?_
  walk_at "st"
  refine zC ?_
  walk_at "st"
  refine JJ L G V R I.inv sQ λ t' sE sN o T=>?_
  have T2:=T.neg
  have F:=one T2
  walk_at "st"
  refine zC ?_
  walk_at "st"
  refine ZO L T.T ?_
  have BC:=o.len
  walk_at "st"
  refine YQ L (us:=[neg t']) (show 1<=4 by decide) F o.inv (by exact lin [_,_,_,_] [] (.a (.v 0) (.v 1)) (.k 800) [(1,.l (.a (.v 2) (.v 3)) (.k 700)),(1,.l (.a (.v 0) (.v 1)) (.a (.a (.v 2) (.v 3)) (.k 50)))] tT9 sQ BC) λ tY Ax o2=>?_
  have fin:=fin tY Ax (some (.p (enc t'))) (o.trans o2) rfl λ row hr=>by
   show (true&&(thB (run row sE) (neg t') || false))=!(inM _ rs)
   rw [T2.w row hr,hw,fW,cW]
  walk_at "st"
  exact fin
 ·refine zC ?_
  walk_at "st"
  refine zC ?_
  walk_at "st"
  refine JJ L G V R I.inv sQ λ t' sE sN o T=>?_
  have F:Trs g sE [t',.bit 2 true]:=λ u m=>by
   refine Zo m ?_ λ m=>?_
   ·exact ⟨_,T⟩
   ·refine z7 m ?_;exact ⟨_,bit2_tr⟩
  walk_at "st"
  refine zC ?_
  walk_at "st"
  have BC:=o.len
  refine YQ L (us:=[t',.bit 2 true]) (show 2<=4 by decide) F o.inv (by exact lin [_,_,_,_] [] (.a (.v 0) (.v 1)) (.k 800) [(1,.l (.a (.v 2) (.v 3)) (.k 700)),(1,.l (.a (.v 0) (.v 1)) (.a (.a (.v 2) (.v 3)) (.k 50)))] tT9 sQ BC) λ tY Ax o2=>?_
  have fin:=fin tY Ax (some (.p (enc t'))) (o.trans o2) rfl λ row hr=>by
   show (true&&(thB (run row sE) t' || (thB (run row sE) (.bit 2 true) || false)))=(inM _ rs || (zB row 2==1))
   rw [T.w row hr,hw,bit2_tr.w row hr,fW,cW]
  walk_at "st"
  exact fin
theorem vx (L:Law1 C)(G:GOk g){i:Int}{s:ab}{u10 u11 u12 u13 u14 u15 u16 u17 u18 u19:Option D}{S:Fl->Rho->zA->Prop}{K:Rho×zA->Prop}(hi:i=0∨i=1)(Aw:cells.length<=100)(hk:k<=400)(hp:1<=gr)(hg:Gr gr)(I:LapI g ds ts as)(sQ:ds.length + ts.length<=700)(Bs:as.length<=100)
  (hK:∀ k' sE sN a EF Ef CL Et EM Ej AF,k'<=k + 30->sE.length + sN.length<=ds.length + ts.length + 60->LapI g sE sN (as++[a])->K (ZC s g gr EF Ef CL Et EM Ej AF u17 u18 u19,qW cells k' g sE sN (as++[a]))) :
  zO C T1 (n + 8) (.nm 10) lapB none S (.int i) (ZC s g gr u10 u11 u12 u13 u14 u15 u16 u17 u18 u19,qW cells k g ds ts as) K:=by
 have hB:lapB=lapB.take 4++Xh:=(cF ..).symm
 erw [hB]
 have hw:=λ t a u10 u13 u16 k'=>Vp (n:=n) (t:=t) (a:=a) (gr:=gr) (s:=s) (u10:=u10) (u13:=u13) (u16:=u16) (u17:=u17) (u18:=u18) (u19:=u19) (S:=S) (K:=K) (k:=k') (cells:=cells) L G I sQ Bs
 generalize Xh=tail at hw ⊢
 unfold lapB b_law
 simp only [eg,mA,eX,a6]
 unfold qW ZC at *
 walk_at "st"
 refine zC ?_
 walk_at "st"
 refine zBe L hg (by exact af hk (nB9 rfl)) Aw λ t ms k1 Ag V M HO=>?_
 walk_at "st"
 refine zC ?_
 walk_at "st"
 refine ZH L (by decide) (by exact lin [_,_] [] (.v 0) (.k 1000) [(1,.l (.v 1) (.k 400)),(1,.l (.v 0) (.a (.v 1) (.k 10)))] tT9 hk Ag) Aw λ v v0 CL=>?_
 walk_at "st"
 refine Eea (vR (g:=g) v0 CL) λ row mr hr=>?_
 obtain ⟨_,p,q,b,rfl,AL,E',AM⟩:=Wo G mr
 refine ⟨by exact ⟨bh (oD9 rfl) v0,dm CL (oD9 rfl)⟩,?_⟩
 erw [hr]
 refine xT L M (Lm.le AL rfl) (Lm.le E' rfl) (Lm.le AM rfl) ?_
 have ha:=zBB M AL E' AM
 generalize Z7 ms [p,q,b]=a0 at ha ⊢
 walk_at "st"
 refine zC ?_
 walk_at "st"
 refine Vn L hg hp (by exact lin [_,_] [] (.a (.v 0) (.k 1)) (.k 800) [(1,.l (.v 1) (.k 400)),(1,.l (.v 0) (.a (.v 1) (.k 10)))] tT9 hk Ag) Aw ha (λ rs k2 BE R=>?_) (YT ds 3)
 walk_at "st"
 refine zC ?_
 walk_at "st"
 rcases hi with rfl | rfl
 ·have hw:=hw t ⟨ms,rs,0⟩ (some (.p (.int 0))) (some (.p (.int a0))) u16 k2 V R M HO (bF 0) (show (0:Int)<4 by decide) λ sE sN AF h1 h2=>hK k2 sE sN ⟨ms,rs,0⟩ _ _ _ _ _ _ _ (by exact lin [_,_,_] [] (.v 0) (.a (.v 1) (.k 30)) [(1,.l (.v 2) (.a (.v 1) (.k 10))),(1,.l (.v 0) (.a (.a (.v 2) (.k 1)) (.k 10)))] tT9 Ag BE) h1 h2
  walk_at "st"
  exact hw
 ·walk_at "st"
  refine ZH L (by decide) (by exact lin [_,_,_] [] (.v 0) (.k 1000) [(1,.l (.v 1) (.k 400)),(1,.l (.v 2) (.a (.v 1) (.k 10))),(1,.l (.v 0) (.a (.a (.v 2) (.k 1)) (.k 10)))] tT9 hk Ag BE) Aw λ w w0 w4=>?_
  have hw:=hw t ⟨ms,rs,w⟩ (some (.p (.int 1))) (some (.p (.int a0))) u16 (k2 + 1) V R M HO w0 w4 λ sE sN AF h1 h2=>hK (k2 + 1) sE sN ⟨ms,rs,w⟩ _ _ _ _ _ _ _ (by exact lin [_,_,_] [] (.a (.v 0) (.k 1)) (.a (.v 1) (.k 30)) [(1,.l (.v 2) (.a (.v 1) (.k 10))),(1,.l (.v 0) (.a (.a (.v 2) (.k 1)) (.k 10)))] tT9 Ag BE) h1 h2
  walk_at "st"
  exact hw
end
noncomputable def Xy:List St:=match b_law.drop 9 with
 | .for _ _ b::_=>b
 | _=>[]
section
variable {C:Cx}{n:Nat}{Q:D->zA->Prop}{g:Gm}{ds:List Df}{ts:List Td}{as:List Ask}
theorem xY :∀ {as:List Ask},bB ((as.filter λ a=>!Qj a row).map λ _=>bH 1) []=as.all λ a=>Qj a row
 | []=>rfl
 | a::as=>by
  (erw [ck];erw [c5])
  cases Qj a row with
  | true=>exact xY (as:=as)
  | false=>rfl
noncomputable def Qc (fd:MO)(g:Gm)(ds:List Df)(ts:List Td)(es:List (Int×D))(as:List Ask)(X:zA):zA:=stt fd (.p .none) (vb0 g) ds ts++.idict es::(.lst (as.map QL)::X)
theorem zA3 (L:Law1 C)(G:GOk g){fd:MO}{gr:Int}{row:List Int}{es:List (Int×D)}{X:zA}{s:ab}{u10 u11 u12 u13 u14 u15 u16 u17 u18 u19:Option D}{S:Fl->Rho->zA->Prop}{K:Rho×zA->Prop}
  (I:LapI g ds ts as) (mr:row∈pts g) (sQ:ds.length + ts.length<=900) (Bs:as.length<=100) (V:Lv X es ts)
  (hK:∀ EP EJ,K (ZC s g gr u10 u11 u12 u13 u14 u15 u16 u17 EP EJ,Qc fd g ds ts es as X)) :
  zO C T1 (n + 4) (.nm 18) Xy none S (qm row) (ZC s g gr u10 u11 u12 u13 u14 u15 u16 u17 u18 u19,Qc fd g ds ts es as X) K:=by
 obtain ⟨hr,p,q,b,BU,AL,E',AM⟩:=Wo G mr
 have tq:∀ p,LateAt (Qc fd g ds ts es as X) es p (zM ts p):=λ p=>by
  rcases V.at' p with h | ⟨i,h1,h2⟩
  ·exact .inl h
  ·refine .inr ⟨10 + i,h1,?_⟩
   unfold Qc stt
   (erw [yK (by exact lin [_] [] (.k 8) (.a (.k 10) (.v 0)) [] tT9)];erw [i10])
   exact h2
 have IM:=λ {Q:D->zA->Prop} {σ:zA} (a:Ask) (ha:AOk a) (q:Q (.p (.bool (Qj a row))) σ)=>(show SatCall C T1 (n + 4) 486 [.p (qj a.ms),.p (zw a.rs),.p (.int a.how),.p (qm row)] σ Q by
  subst BU
  exact zEU L ha.1 (AL.le rfl) (E'.le rfl) (AM.le rfl) ha.2 q)
 unfold Qc ZC at *
 unfold Xy b_law
 simp only [eg]
 walk_at "st"
 refine zC ?_
 walk_at "st"
 have h9:(zE fd (.p .none) (vb0 g++ze 3 ds) (ts.map zN) (zm 3 ds)++.idict es::.lst (as.map QL)::X)[9]?=some (.lst (as.map QL)):=rfl
 erw [h9]
 walk_at "st"
 refine ⟨by erw [ah];exact af Bs (nB9 rfl),Qd (f:=QL) (h:=λ _=>.int 1) (p:=λ a=>!Qj a row) as [] (by erw [b8];exact lin [_] [] (.a (.k 0) (.v 0)) (.k 90000) [(1,.l (.v 0) (.k 100))] tT9 Bs) (λ a m acc K ha k1 k0=>?_) ?_⟩
 ·refine rwE (show QL a=.tuple [qj a.ms,zw a.rs,.int a.how] from rfl) ?_
  walk_at "st"
  refine IM a (I.ok a m) ?_
  cases hb:Qj a row with
  | true =>
   rw [hb] at k0
   walk_at "st"
   exact ⟨h9,k0 rfl⟩
  | false =>
   rw [hb] at k1
   walk_at "st"
   exact ⟨ha,h9,k1 rfl⟩
 ·unfold zi
  walk_at "st"
  erw [xY]
  refine zC ?_
  walk_at "st"
  have hm:=λ {Q:D->zA->Prop}=>zCW (n:=n) (Q:=Q) (fd:=fd) (pt:=.p .none) (τ:=.lst (as.map QL)::X) L G I.inv sQ hr tq
  refine hm ?_
  erw [I.sem row hr]
  cases as.all λ a=>Qj a row with
  | true=>walk_at "st";exact hK _ _
  | false=>walk_at "st";exact hK _ _
theorem zGg (L:Law1 C)(G:GOk g){fd:MO}{gr:Int}{es:List (Int×D)}{X:zA}{s:ab}{u10 u11 u12 u13 u14 u15 u16 u17:Option D}{S:Fl->Rho->zA->Prop}{K:Rho×zA->Prop}
  (I:LapI g ds ts as) (sQ:ds.length + ts.length<=900) (Bs:as.length<=100) (V:Lv X es ts)
  (hK:∀ EP EJ,K (ZC s g gr u10 u11 u12 u13 u14 u15 u16 u17 EP EJ,Qc fd g ds ts es as X)) :
  ∀ (rs:List (List Int)) (u18 u19:Option D),(∀ r,r∈rs->r∈pts g) ->
  zT (zO C T1 (n + 4) (.nm 18) Xy none S) (rs.map qm) (ZC s g gr u10 u11 u12 u13 u14 u15 u16 u17 u18 u19,Qc fd g ds ts es as X) K:=by
 intro rs
 induction rs with
 | nil=>exact λ u18 u19 _=>hK _ _
 | cons r rs ih =>
  intro u18 u19 hm
  show zO _ _ _ _ _ _ _ (qm r) _ (λ a'=>zT _ (rs.map qm) a' K)
  exact zA3 L G I (hm r (.head _)) sQ Bs V λ EP EJ=>ih _ _ λ r m=>hm r (.tail _ m)
theorem vF (X:Law1X C)(hl:ns.length<=63)(q:Q (.p (.bool true)) []):SatCall C T1 60 508 [.p (.list (ns.map .int))] [] Q:=by
 have L:=X.L
 refine vw X hl λ g gr G hp hg=>?_
 have Aw:(ns.take 40).length<=100:=af (i5 ..) (by decide)
 generalize ns.take 40=cells at Aw ⊢
 generalize hS:(λ (fl:Fl) (_:Rho) (σ':zA)=>Z0 [] Q fl σ')=S
 have e7:b_law.drop 7=.for (.nm 10) (.call false (.gl 14) [(.c (.int (2)))]) lapB::b_law.drop 8:=rfl
 have e8:b_law.drop 8=.for (.nm 17) (.attr (.attr (.nm 2) 10) 7) J1::b_law.drop 9:=rfl
 have e9:b_law.drop 9=[.for (.nm 18) (.nm 9) Xy,.ret (.c (.bool true))]:=rfl
 (erw [e7];erw [e8];erw [e9])
 have turn:=λ {i k ds ts as u10 u11 u12 u13 u14 u15 u16 S K}=>vx (n:=51) (g:=g) (cells:=cells) (gr:=gr) (s:=.list (ns.map .int)) (i:=i) (k:=k) (ds:=ds) (ts:=ts) (as:=as) (u10:=u10) (u11:=u11) (u12:=u12) (u13:=u13) (u14:=u14) (u15:=u15) (u16:=u16) (u17:=none) (u18:=none) (u19:=none) (S:=S) (K:=K) L G
 have Eb:=λ {ds ts as fd es X u10 u11 u12 u13 u14 u15 u16 u17 S K}=>zGg (n:=55) (g:=g) (fd:=fd) (gr:=gr) (es:=es) (X:=X) (s:=.list (ns.map .int)) (ds:=ds) (ts:=ts) (as:=as) (u10:=u10) (u11:=u11) (u12:=u12) (u13:=u13) (u14:=u14) (u15:=u15) (u16:=u16) (u17:=u17) (S:=S) (K:=K) L G
 have e0:stt (zx cells 4) (.p .none) (vb0 g) [] []++[.idict [],.lst []]=qW cells 4 g [] [] []:=rfl
 erw [e0]
 generalize lapB=lapB at turn ⊢
 unfold ZC at *
 refine zC ?_
 walk_at "st"
 have IY:ZE 0 2=[.int 0,.int 1]:=rfl
 erw [IY]
 refine ⟨by decide,zL ?_⟩
 refine turn (.inl rfl) Aw (by decide) hp hg LapI.nil (by decide) (by decide) λ k1 AT Ch a1 EF Ef CL Et EM Ej AF Ag Hb I1=>zL ?_
 refine turn (.inr rfl) Aw (by exact af Ag (nB9 rfl)) hp hg I1 (af Hb (by decide)) (show 1<=100 by decide) λ k2 tY Ax a2 EF Ef CL Et EM Ej AF BE Kb I2=>zu ?_
 have K5:AT.length + Ch.length<=60:=Hb
 have sQ:tY.length + Ax.length<=120:=by exact lin [_,_,_,_] [] (.a (.v 0) (.v 1)) (.k 120) [(1,.l (.a (.v 2) (.v 3)) (.a (.a (.k 0) (.k 0)) (.k 60))),(1,.l (.a (.v 0) (.v 1)) (.a (.a (.v 2) (.v 3)) (.k 60)))] tT9 Hb Kb
 have Bs:([]++[a1]++[a2]).length<=100:=(show 2<=100 by decide)
 generalize []++[a1]++[a2]=as at I2 Bs ⊢
 have tq:=λ {S K}=>Wq (n:=58) (fd:=zx cells k2) (pt:=.p .none) (vars:=vb0 g++ze 3 tY) (tolds:=Ax.map zN) (made:=zm 3 tY) (a:=.lst (as.map QL)) (d0:=some (.p (.list (ns.map .int)))) (d1:=some (.obj 0)) (d2:=some (.obj 2)) (d4:=some (.obj 9)) (d5:=some (.p (.int g.low))) (d6:=some (.p (.int (hz g)))) (d7:=some (.p (.int g.base))) (d8:=some (.p (.int gr))) (d9:=some (.p (.list ((pts g).map qm)))) (d10:=EF) (d11:=Ef) (d12:=CL) (d13:=Et) (d14:=EM) (d15:=Ej) (d16:=AF) (d18:=none) (d19:=none) (S:=S) (K:=K) (k:=3 + tY.length) L (by exact lin [_,_] [] (.a (.k 3) (.v 0)) (.k 1000) [(1,.l (.a (.v 0) (.v 1)) (.k 120))] tT9 sQ) Ax [] [] [] none I2.inv.td ⟨λ p=>.inl ⟨rfl,rfl⟩,λ p q i h=>(nomatch h),aQ _⟩ (by erw [b8];exact lin [_,_] [] (.a (.k 0) (.v 0)) (.k 1000) [(1,.l (.a (.v 1) (.v 0)) (.k 120))] tT9 sQ)
 unfold qW stt
 refine zC ?_
 walk_at "st"
 refine ⟨by erw [ah];exact lin [_,_] [] (.v 0) (.k 100000) [(1,.l (.a (.v 1) (.v 0)) (.k 120))] tT9 sQ,tq λ Db es X V=>?_⟩
 have hr:=λ {S K}=>Eb (ds:=tY) (ts:=Ax) (as:=as) (fd:=zx cells k2) (es:=es) (X:=X) (u10:=EF) (u11:=Ef) (u12:=CL) (u13:=Et) (u14:=EM) (u15:=Ej) (u16:=AF) (u17:=Db) (S:=S) (K:=K) I2 (by exact af sQ (nB9 rfl)) Bs (by rw [a6] at V;exact V)
 unfold Qc stt at hr
 refine zC ?_
 walk_at "st"
 refine ⟨by erw [ah];exact (by decide:12<=100000),hr (λ EP EJ=>?_) _ _ _ λ r m=>m⟩
 refine zC ?_
 walk_at "st"
 subst hS
 exact Zg rfl q
end
noncomputable def zEO (s:fE):Option {q:aH×dM // s=.Expr q.1 q.2}:=by
 apply @rq (λ s=>Option {q:aH×dM // s=.Expr q.1 q.2}) s <;> intros <;> first | exact some ⟨(_,_),rfl⟩ | exact none
noncomputable def zGt (s:fE):Option {q:aH×aH×dM // s=.Assign [q.1] q.2.1 q.2.2}:=zEI (β:=λ s=>{q:aH×aH×dM // s=.Assign [q.1] q.2.1 q.2.2}) s λ t e p=>some ⟨(t,e,p),rfl⟩
noncomputable def zAE (e:aH):Option {q:aH×List aH×List lA×dM // e=.Call q.1 q.2.1 q.2.2.1 q.2.2.2}:=WW (β:=λ e=>{q:aH×List aH×List lA×dM // e=.Call q.1 q.2.1 q.2.2.1 q.2.2.2}) e λ f es kw p=>some ⟨(f,es,kw,p),rfl⟩
noncomputable def zAq (e:aH):Option {q:aH×aK×dM // e=.Attribute q.1 q.2.1 q.2.2}:=ww (β:=λ e=>{q:aH×aK×dM // e=.Attribute q.1 q.2.1 q.2.2}) e λ o nm p=>some ⟨(o,nm,p),rfl⟩
structure SupV (b:List fE)(sf:aK)(an:List aK)(attr:aK)(sv:SV) where
 as:List aH
 v:aH
 ap:dM
 cp:dM
 body:∃ p0 p1 ep q0 q1 q2,b=[.Expr (.Call (.Attribute (.Call (.Name "super" p0) [] [] p1) "__init__" ap) as [] cp) ep,.Assign [.Attribute (.Name sf q0) attr q1] v q2]
 han:QP as=some an
 hsv:uA v=some sv
 c21:(ap.endLine==cp.line)=true
 c22:cA as.length 29=true
noncomputable def zEy (sf attr:aK)(an:List aK)(sv:SV)(as:List aH)(kw:List lA)(ES:List aH)(Fi:List lA)(x nm Fe y:aK)(v:aH)(ap cp:dM):List Bool:=[kw.isEmpty,ES.isEmpty,Fi.isEmpty,x=="super",nm=="__init__",Fe==attr,y==sf,QP as==some an,uA v==some sv,ap.endLine==cp.line,cA as.length 29]
theorem vL {s1 s2:fE}{e f o g t o2 v:aH}{as ES:List aH}{kw Fi:List lA}{nm x Fe y:aK}{ep cp ap p1 p0 q2 q1 q0:dM}{sf attr:aK}(h1:s1=.Expr e ep)(h6:s2=.Assign [t] v q2)(h2:e=.Call f as kw cp)(h3:f=.Attribute o nm ap)(h4:o=.Call g ES Fi p1)(h5:g=.Name x p0)(h7:t=.Attribute o2 Fe q1)(h8:o2=.Name y q0)
  (k1:kw=[]) (k2:ES=[]) (k3:Fi=[]) (k4:x="super") (k5:nm="__init__") (k6:Fe=attr) (k7:y=sf) :
  [s1,s2]=[.Expr (.Call (.Attribute (.Call (.Name "super" p0) [] [] p1) "__init__" ap) as [] cp) ep,.Assign [.Attribute (.Name sf q0) attr q1] v q2]:=by
 (erw [h1];erw [h6];erw [h2];erw [h3];erw [h4];erw [h5];erw [h7];erw [h8];erw [k1];erw [k2];erw [k3];erw [k4];erw [k5];erw [k6];erw [k7];rfl)
noncomputable def zGp (b:List fE)(sf:aK)(an:List aK)(attr:aK)(sv:SV):Option (SupV b sf an attr sv):=match b with
 | []=>none
 | s1::r=>match r with
  | []=>none
  | s2::r=>match r with
   | _::_=>none
   | []=>(zEO s1).bind λ e1=>(zAE e1.1.1).bind λ c1=>(zAq c1.1.1).bind λ a1=>(zAE a1.1.1).bind λ c2=>(yc c2.1.1).bind λ n1=>(zGt s2).bind λ e2=>(zAq e2.1.1).bind λ a2=>(yc a2.1.1).bind λ n2 =>
    gdE (jA (zEy sf attr an sv c1.1.2.1 c1.1.2.2.1 c2.1.2.1 c2.1.2.2.1 n1.1.1 a1.1.2.1 a2.1.2.1 n2.1.1 e2.1.2.1 a1.1.2.2 c1.1.2.2.2)) λ h =>
    some ⟨c1.1.2.1,e2.1.2.1,a1.1.2.2,c1.1.2.2.2,⟨_,_,_,_,_,_,(vL e1.2 e2.2 c1.2 a1.2 c2.2 n1.2 a2.2 n2.2 (dh.mp (zF (i:=0) h rfl)) (dh.mp (zF (i:=1) h rfl)) (dh.mp (zF (i:=2) h rfl)) (eq_of_beq (zF (i:=3) h rfl)) (eq_of_beq (zF (i:=4) h rfl)) (eq_of_beq (zF (i:=5) h rfl)) (eq_of_beq (zF (i:=6) h rfl)))⟩,eq_of_beq (zF (i:=7) h rfl),eq_of_beq (zF (i:=8) h rfl),zF (i:=9) h rfl,zF (i:=10) h rfl⟩
theorem Y7 {o:fi}{d:o9}(h:o.data=d):o=⟨o.cls,o.dict,d,o.slots⟩:=h▸rfl
noncomputable def zAz:o9->Option (Option ag)
 | .cell c=>some c
 | _=>none
theorem zBE {d:o9}{c:Option ag}(h:zAz d=some c):d=.cell c:=by cases d with | cell x=>(erw [so h];rfl) | _=>exact nn h
noncomputable def Va:o9->Option (Array ag)
 | .fields c=>some c
 | _=>none
theorem zDk {d:o9}{c:Array ag}(h:Va d=some c):d=.fields c:=by cases d with | fields x=>(erw [so h];rfl) | _=>exact nn h
noncomputable def Vy:ag->Option ai
 | .ref a=>some a
 | _=>none
theorem zCN {v:ag}{a:ai}(h:Vy v=some a):v=.ref a:=by cases v with | ref x=>(erw [so h];rfl) | _=>exact nn h
noncomputable def VB:ag->Option (aK×iT)
 | .str x t=>some (x,t)
 | _=>none
theorem zEa {v:ag}{a:aK×iT}(h:VB v=some a):v=.str a.1 a.2:=by cases v with | str x t=>(refine rwS (so h) ?_;rfl) | _=>exact nn h
noncomputable def zD3 (K:gf)(file:aK)(D:ai)(sf:aK)(ps an:List aK)(sv:SV)(fd:dS)(p:aK×ai)(oc:fi)(ft:aK×iT):List Bool:=[yf fd.params==some (sf::ps),fd.closure==[(("__class__":aK),p.2)],zAz oc.data==some (some (.ref D)),ft.1==file,pK K fd.code fd.qualname,fd.globals==cu,fd.builtins==fR,fd.defaults==.none,!fd.scope.isCoroutine,!fd.scope.isGenerator,fd.scope.kind==.function,
 fd.scope.names.all λ y=>y.2 != .cell,(sf::ps).all λ y=>fd.scope.names.lookup y==some .local,decide (sf::ps).Nodup,an.all λ y=>(sf::ps).contains y&&y != "__debug__",zEb (sf::ps) sv,sf != "__debug__",fd.scope.names.lookup ("super":aK)==some .globalImplicit,fd.scope.names.lookup ("__class__":aK)==some .free]
noncomputable def zCC (K:gf)(file:aK)(f D:ai)(sf:aK)(ps an:List aK)(attr:aK)(sv:SV):Bool :=
 ((K.lookup f).bind λ o=>(dFn o.data).bind λ fd=>(wD fd.body).bind λ b=>(zGp b sf an attr sv).bind λ _=>(fd.closure.head?).bind λ p=>(K.lookup p.2).bind λ oc=>(Vy fd.code).bind λ cda=>(K.lookup cda).bind λ od=>(Va od.data).bind λ vsC=>(vsC[2]?).bind λ x=>(VB x).bind λ ft=>(oJ K D).bind λ _=>gd (jA (zD3 K file D sf ps an sv fd p oc ft)) (some ())).isSome
theorem zBh {K:gf}{file:aK}{f D:ai}{ps:List aK}{o:fi}{fd:dS}{b:List fE}{p:aK×ai}{oc od:fi}{cda:ai}{vsC:Array ag}{x:ag}{ft:aK×iT}{cdD:kW}(hl:K.lookup f=some o)(Hg:dFn o.data=some fd)(hb:wD fd.body=some b)(V:SupV b sf an attr sv)(D8:K.lookup p.2=some oc)
  (hcda:Vy fd.code=some cda) (Gh:K.lookup cda=some od) (Cu:Va od.data=some vsC) (hx:vsC[2]?=some x) (FT:VB x=some ft) (D7:oJ K D=some cdD) (h:jA (zD3 K file D sf ps an sv fd p oc ft)=true):wT K file f ⟨D,sf,ps,an,attr,sv⟩:=by
 obtain ⟨as,v,ap,cp,⟨p0,p1,ep,q0,q1,q2,C'⟩,han,hsv,c21,c22⟩:=V
 refine ⟨⟨fd,p0,p1,ap,cp,ep,q0,q1,q2,as,v,p.2,cda,vsC,ft.2,cdD⟩,?_⟩
 exact ⟨⟨_,_,_,hl.trans (congrArg some (Y7 (zAh Hg)))⟩,eq_of_beq (zF (i:=0) h rfl),(wc hb).trans (congrArg _ C'),eq_of_beq (zF (i:=1) h rfl),zCN hcda,han,hsv,⟨_,_,_,Gh.trans (congrArg some (Y7 (zDk Cu)))⟩,by (erw [hx];erw [zEa FT];erw [eq_of_beq (zF (i:=3) h rfl)];rfl),⟨_,_,_,D8.trans (congrArg some (Y7 (zBE (eq_of_beq (zF (i:=2) h rfl)))))⟩,D7,zF (i:=4) h rfl,eq_of_beq (zF (i:=5) h rfl),eq_of_beq (zF (i:=6) h rfl),eq_of_beq (zF (i:=7) h rfl),qd (zF (i:=8) h rfl),qd (zF (i:=9) h rfl),eq_of_beq (zF (i:=10) h rfl),
  λ y m=>bne_iff_ne.mp (aY.mp (zF (i:=11) h rfl) y m),λ y m=>eq_of_beq (aY.mp (zF (i:=12) h rfl) y m),of_decide_eq_true (zF (i:=13) h rfl),λ y m=>Ea (zQ (aY.mp (zF (i:=14) h rfl) y m)) λ a1 a2=>⟨iB.mp a1,bne_iff_ne.mp a2⟩,zF (i:=15) h rfl,bne_iff_ne.mp (zF (i:=16) h rfl),c21,kK (aw c22),eq_of_beq (zF (i:=17) h rfl),eq_of_beq (zF (i:=18) h rfl)⟩
theorem zAJ {K:gf}{file:aK}{f D:ai}{ps:List aK}(h:zCC K file f D sf ps an attr sv=true):wT K file f ⟨D,sf,ps,an,attr,sv⟩ :=
 Ee (gW.mp h) λ _ h=>Eea (ob h) λ _ hl h=>Eea (ob h) λ _ Hg h=>Eea (ob h) λ _ hb h=>Eea (ob h) λ V _ h=>Eea (ob h) λ _ _ h=>Eea (ob h) λ _ D8 h=>Eea (ob h) λ _ hcda h=>Eea (ob h) λ _ Gh h=>Eea (ob h) λ _ Cu h=>Eea (ob h) λ _ hx h=>Eea (ob h) λ _ FT h=>Eea (ob h) λ _ D7 h=>zBh hl Hg hb V D8 hcda Gh Cu hx FT D7 (og h).1
noncomputable def funs1:List (ai×Nat×Nat×List St):=[(35,1,1,JG),(42,1,1,yj),(97,1,1,Qo),(104,3,3,y0),(111,2,2,um),(118,1,1,ub),(125,2,2,Qr),(139,1,1,Z3),(149,2,2,qe),(163,1,1,Y2),(168,3,8,uS),(175,1,1,yH),(182,1,4,Qn),(196,1,1,Qi),(203,3,6,ju),(210,2,8,Y1),(232,3,8,Xa),(237,3,8,Qp),(244,2,8,b_told_truth),(249,2,8,b_all_of),(254,2,2,Y5),(266,2,5,qQ),(273,3,4,qp),(392,4,4,QC),(399,4,4,ZP),(427,3,6,JA),(434,3,6,yp),(460,2,3,Qq),(465,2,11,QO),(472,3,7,qk),(479,2,2,QS),(486,4,8,ql),(493,1,1,QM),(498,2,5,ZS),(503,3,8,Qh),(508,1,20,b_law)]
noncomputable abbrev wR:aK:="/claim/cut.py"
noncomputable def Jy (K:gf):Bool:=jA [zAi K T1,pa K cu "law"==some (some (.ref 508)),pa K cu "super"==some none,pa K cStatics "thirdparty.any"==some none,mS K 451,keepIn K (.ref 451),findIn K (.ref 451) "__init__"==some (some (.ref 296)),typeIn K (.ref 296)==some (.type "function"),keepIn K (.ref 296),mS K 128,keepIn K (.ref 128),findIn K (.ref 128) "__init__"==some (some (.ref 97)),typeIn K (.ref 97)==some (.type "function"),zCC K wR 296 451 "self" [] [] "partial" none,mroIn K 451 (.ref 451)==some true,kj K 451 451 "__init__"==some (some (.ref 196)),typeIn K (.ref 196)==some (.type "function"),fnIn K 196]
noncomputable def uy (P:gT):List dQ:=[⟨bN P (ae "<"),.str (ae "<") 355,.str (ae ">=") 356⟩,⟨bN P (ae "<="),.str (ae "<=") 357,.str (ae ">") 358⟩,⟨bN P (ae ">"),.str (ae ">") 359,.str (ae "<=") 360⟩,⟨bN P (ae ">="),.str (ae ">=") 361,.str (ae "<") 362⟩,⟨bN P (ae "="),.str (ae "=") 363,.str (ae "!=") 364⟩,⟨bN P (ae "!="),.str (ae "!=") 365,.str (ae "=") 366⟩]
noncomputable def Ya (P:gT):fi:=⟨.type "dict",none,.dict (uy P).toArray 6,#[]⟩
noncomputable def hA:List ai:=[2,3,27,28,34,35,41,42,96,97,103,104,110,111,117,118,124,125,127,128,138,139,140,141,142,148,149,155,156,162,163,167,168,174,175,181,182,195,196,202,203,209,210,214,215,219,220,231,232,236,237,243,244,248,249,253,254,260,261,265,266,272,273,275,276,284,295,296,302,303,309,310,314,315,349,350,384,385,391,392,398,399,426,427,433,434,450,451,459,460,464,465,471,472,478,479,485,486,492,493,497,498,502,503,507,508]
noncomputable def XT (h:aP):gf:=hA.filterMap λ a=>(h.get? a).map λ o=>(a,o)
theorem zBo (h:aP):(XT h).In h:=λ a o e=>by
 unfold XT at e
 refine Eea (b6.mp (mem_of_lookupK e)) λ b hb e'=>?_
 refine Eea (bP.mp e') λ o' h1 h2=>?_
 cases h2
 exact h1
theorem Jf {a:ai}{k z:aK}:∀ {l:List ((ai×aK)×aK)},Zy a k l=some z->((a,k),z)∈l
 | [],h=>nomatch h
 | ((b,c),y)::r,h=>by
  unfold Zy at h
  split at h
  ·rename_i hb
   refine Ea (zQ hb) λ h1 h2=>?_
   obtain rfl:b=a:=du h1
   obtain rfl:c=k:=eq_of_beq h2
   injection h with h
   exact h▸.head _
  ·exact .tail _ (Jf h)
theorem zEH (h:C.K.lookup 142=some (Ya C.w.params)):∀ a k z,Zy a k T1.gds=some z->GdOk C a k z:=λ a k z e=>by
 have m:=Jf e
 have hk:KeysLit C.w.params (uy C.w.params).toArray.toList:=⟨⟨_,_,rfl,rfl⟩,⟨_,_,rfl,rfl⟩,⟨_,_,rfl,rfl⟩,⟨_,_,rfl,rfl⟩,⟨_,_,rfl,rfl⟩,⟨_,_,rfl,rfl⟩,trivial⟩
 have one:∀ {k z:aK} (t:iT),bq z=true->findBy p7 (uy C.w.params).toArray k=some (.str z t)->GdOk C 142 k z:=λ t h1 h2=>⟨h1,_,_,_,h,hk,h2⟩
 have m:((a,k),z)∈Xd:=m
 unfold Xd at m
 simp only [aA,bW,or_false,l7] at m
 rcases m with ⟨⟨rfl,rfl⟩,rfl⟩ | ⟨⟨rfl,rfl⟩,rfl⟩ | ⟨⟨rfl,rfl⟩,rfl⟩ | ⟨⟨rfl,rfl⟩,rfl⟩ | ⟨⟨rfl,rfl⟩,rfl⟩ | ⟨⟨rfl,rfl⟩,rfl⟩
 ·exact one 356 (by kernel_rfl) (by kernel_rfl)
 ·exact one 358 (by kernel_rfl) (by kernel_rfl)
 ·exact one 360 (by kernel_rfl) (by kernel_rfl)
 ·exact one 362 (by kernel_rfl) (by kernel_rfl)
 ·exact one 364 (by kernel_rfl) (by kernel_rfl)
 ·exact one 366 (by kernel_rfl) (by kernel_rfl)
theorem vI (Y:C.Good)(hb:∀ y:aK,y≠"__name__"->C.mb y=gj y)(hfile:((C.prog.main.file:aK)==wR)=true)(htop:(C.prog.main.scope.names.lookup ("super":aK)).isSome=false)(AE:gj "super"=some (.type "super"))
  (hf:funs1.map (λ f=>trF C.K T1 Z1 60 f.1)=funs1.map λ f=>some f.2) (h:Jy C.K=true) (hd:C.K.lookup 142=some (Ya C.w.params)):Law1X C:=by
 have S:SupX C wR:=⟨hfile,htop,mg_none_of Y.X Y.g (eq_of_beq (zF (i:=2) h rfl)),(hb _ (by decide)).trans AE,eq_of_beq (zF (i:=3) h rfl)⟩
 have TT:TOk C T1:=zDT Y hb (zF (i:=0) h rfl) (zEH hd)
 have tx:∀ (i:Nat) (f:ai×Nat×Nat×List St),funs1[i]?=some f->trF C.K T1 Z1 60 f.1=some f.2:=λ i f e=>by
  have:=congrArg (λ l:List (Option (Nat×Nat×List St))=>l[i]?) hf
  rw [bt,bt,e] at this
  exact so this
 have L:Law1 C:=⟨Y,TT,tx 0 _ rfl,tx 1 _ rfl,tx 2 _ rfl,tx 3 _ rfl,tx 4 _ rfl,tx 5 _ rfl,tx 6 _ rfl,tx 7 _ rfl,tx 8 _ rfl,tx 9 _ rfl,tx 10 _ rfl,tx 11 _ rfl,tx 12 _ rfl,tx 13 _ rfl,tx 14 _ rfl,tx 15 _ rfl,tx 16 _ rfl,tx 17 _ rfl,tx 18 _ rfl,tx 19 _ rfl,tx 20 _ rfl,tx 21 _ rfl,tx 22 _ rfl,tx 23 _ rfl,tx 24 _ rfl,tx 25 _ rfl,tx 26 _ rfl,tx 27 _ rfl,tx 28 _ rfl,tx 29 _ rfl,tx 30 _ rfl,tx 31 _ rfl,tx 32 _ rfl,tx 33 _ rfl,tx 34 _ rfl,tx 35 _ rfl⟩
 exact ⟨L,S,zF (i:=4) h rfl,zF (i:=5) h rfl,⟨296,eq_of_beq (zF (i:=6) h rfl),eq_of_beq (zF (i:=7) h rfl),zF (i:=8) h rfl,zAJ (zF (i:=13) h rfl)⟩,zF (i:=9) h rfl,zF (i:=10) h rfl,eq_of_beq (zF (i:=11) h rfl),eq_of_beq (zF (i:=12) h rfl),eq_of_beq (zF (i:=14) h rfl),eq_of_beq (zF (i:=15) h rfl),eq_of_beq (zF (i:=16) h rfl),zF (i:=17) h rfl⟩
end Mine.Internal
namespace Mine.Internal
open PySem PySem.W PyProof PyProof.Rows
set_option tactic.hygienic true
noncomputable def VA (l:List fi):Nat:=ee 0 (λ _ _ n=>n + 1) l
noncomputable def y6 (l:List fi):Nat->Option fi:=ee (λ _=>none) (λ o _ ih i=>bif aZ i 0 then some o else ih (i - 1)) l
noncomputable def VY (f:fi->fi)(l:List fi):Nat->List fi:=ee (λ _=>[]) (λ o r ih i=>bif aZ i 0 then f o::r else o::ih (i - 1)) l
noncomputable def wH (l:List fi)(x:fi):List fi:=ee [x] (λ o _ ih=>o::ih) l
theorem Uw:∀ l:List fi,VA l=l.length
 | []=>rfl
 | _::r=>congrArg (· + 1) (Uw r)
theorem xG:∀ (l:List fi) (i:Nat),y6 l i=l[i]?
 | [],_=>rfl
 | _::_,0=>rfl
 | _::r,i + 1=>xG r i
theorem xJ (f:fi->fi):∀ (l:List fi) (i:Nat),VY f l i=l.modify i f
 | [],i=>by cases i <;> rfl
 | _::_,0=>rfl
 | o::r,i + 1=>(congrArg (o::·) (xJ f r i)).trans (List.modify_succ_cons ..).symm
theorem uu (x:fi):∀ l:List fi,wH l x=l++[x]
 | []=>rfl
 | o::r=>congrArg (o::·) (uu x r)
noncomputable def QV:Option fi->Option fi
 | some o=>match o.data with
  | .freed=>none
  | _=>some o
 | none=>none
noncomputable def XN (Dv:Code->kS oU)(p:bR)(w:b4)(s:ak)(t:pR):Step:=match s,t with
 | ⟨⟨⟨l⟩,m⟩,g,d,k,os⟩,⟨DT,c,q,st⟩=>match DT with
  | .load a part f=>match QV (y6 l a) with
   | some o=>.go ⟨⟨⟨l⟩,m⟩,g,d,k,os⟩ ⟨f o,c,q,st⟩
   | none=>fA Dv p w ⟨⟨⟨l⟩,m⟩,g,d,k,os⟩ ⟨.load a part f,c,q,st⟩
  | .update a part f h=>match QV (y6 l a) with
   | some _=>.go ⟨⟨⟨VY f l a⟩,m⟩,g,d,k,os⟩ ⟨h (),c,q,st⟩
   | none=>fA Dv p w ⟨⟨⟨l⟩,m⟩,g,d,k,os⟩ ⟨.update a part f h,c,q,st⟩
  | .alloc o f=>.go ⟨⟨⟨wH l o⟩,m⟩,g,d,k,os⟩ ⟨f (VA l),c,q,st⟩
  | DT=>fA Dv p w ⟨⟨⟨l⟩,m⟩,g,d,k,os⟩ ⟨DT,c,q,st⟩
theorem uo (l:List fi)(m:Life)(a:ai):rO ⟨⟨l⟩,m⟩ a=QV (y6 l a):=by
 rw [xG]
 unfold rO
 show (match (⟨l⟩:Array fi)[a]? with | some ⟨_,_,.freed,_⟩=>none | o=>o)=_
 rw [et]
 cases l[a]? with
 | none=>rfl
 | some o=>obtain ⟨c,d,dt,sl⟩:=o;cases dt <;> rfl
theorem zDd (f:fi->fi)(l:List fi)(m:Life)(a:ai):Heap.update ⟨⟨l⟩,m⟩ a f=⟨⟨VY f l a⟩,m⟩:=by
 show Heap.mk ((⟨l⟩:Array fi).modify a f) m=_
 rw [xJ,<- Array.toList_modify]
theorem zCs (l:List fi)(m:Life)(o:fi):rP ⟨⟨l⟩,m⟩ o=⟨⟨wH l o⟩,m⟩:=by
 show Heap.mk ((⟨l⟩:Array fi).push o) m=_
 rw [uu,<- gJ]
theorem vc (Dv:Code->kS oU)(p:bR)(w:b4)(s:ak)(t:pR):XN Dv p w s t=step Dv p w s t:=by
 rw [dr]
 obtain ⟨⟨⟨l⟩,m⟩,g,d,k,os⟩:=s
 obtain ⟨DT,c,q,st⟩:=t
 cases DT with
 | load a part f =>
  show (match QV (y6 l a) with | some o=>_ | none=>_)=_
  cases h:QV (y6 l a) with
  | none=>rfl
  | some o =>
   show oO _ _=_
   rw [<- dr]
   unfold step
   dsimp only
   rw [uo,h]
 | update a part f kk =>
  show (match QV (y6 l a) with | some o=>_ | none=>_)=_
  cases h:QV (y6 l a) with
  | none=>rfl
  | some o =>
   show oO _ _=_
   rw [<- dr]
   unfold step
   dsimp only
   rw [uo,h,zDd]
   rfl
 | alloc o f =>
  rw [<- dr]
  show oO _ ⟨f (VA l),_,_,_⟩=oO ⟨rP ⟨⟨l⟩,m⟩ o,_,_,_,_⟩ ⟨f (la l),_,_,_⟩
  rw [Uw,zCs]
 | _=>rfl
noncomputable def vU (tb:String->Option cE)(p:bR)(w:b4)(Aq:Nat)(B3:Option ag)(n:Nat):ak->pR->Option ak:=lx (λ _ _=>none) (λ _ ih s t=>match through t with
 | true=>some s
 | false=>match ko Aq B3 t with
  | false=>none
  | true=>match XN (kg tb) p w s t with
   | .go s' t'=>ih s' t'
   | .halt _ _=>none) n
theorem xN (tb:String->Option cE)(p:bR)(w:b4)(Aq:Nat)(B3:Option ag):∀ (n:Nat) (s:ak) (t:pR),topRun tb p w Aq B3 n s t=vU tb p w Aq B3 n s t
 | 0,_,_=>rfl
 | n + 1,s,t=>by
  show topRun tb p w Aq B3 (n + 1) s t=(match through t with | true=>some s | false=>match ko Aq B3 t with | false=>none | true=>match XN (kg tb) p w s t with | .go s' t'=>vU tb p w Aq B3 n s' t' | .halt _ _=>none)
  rw [<- sq,<- su,vc]
  unfold topRun
  cases through t with
  | true=>rfl
  | false =>
   dsimp only
   cases stepOk Aq B3 t with
   | false=>rfl
   | true =>
    dsimp only
    cases step (denote tb) p w s t with
    | go s' t'=>exact xN tb p w Aq B3 n s' t'
    | halt _ _=>rfl
set_option tactic.hygienic false
noncomputable def hP:bR:=PySem.Challenge.pw_pq0383_03
noncomputable def hB:List fE:=hP.main.body.drop 33
noncomputable def hQ:bR:={hP with main:={hP.main with body:=hB}}
noncomputable def hL:List aK:=(hP.main.scope.names.map (·.1)).filter λ x=>x != "law"&&x != "Exception"&&x != "__name__"
noncomputable def yL (tb:String->Option cE)(p:bR)(w:b4)(N:Nat)(sG:ak):Option ak :=
 match sG.heap.isNs cu&&sG.gens.size==0 with
 | true=>(vU tb p w sG.heap.objs.size (sG.heap.nsMap cu "__annotations__") N sG (topStub p)).bind λ sC=>match staticsOk (lw p.main.body) sG.heap sC.heap&&namesBound p sC.heap&&gensDone sC&&laidKept sG.heap sC.heap with
   | true=>some sC
   | false=>none
 | false=>none
theorem Ut:topFrom=yL:=by
 funext tb p w N s
 unfold topFrom yL
 rw [xN]
 rfl
set_option maxHeartbeats 8000000
noncomputable def w5 (b:Bool)(w:b4):b4:=w.withFollow "special-get-raises" b
noncomputable def XX (s:ak):List (Option (Nat×Nat×List St))×Bool×Option fi:=(λ K:gf=>(funs1.map (λ f=>trF K T1 Z1 60 f.1),Jy K,K.lookup 142)) (XT s.heap)
noncomputable def xv (w:b4):List (Option (Nat×Nat×List St))×Bool×Option fi:=(funs1.map (λ f=>some f.2),true,some (Ya w.params))
theorem zEJ (w:b4)(os:OsState):(yL kh hP (w5 false w) 4000 ⟨mB w.params,nG [],lS,mC,os⟩).map (λ s=>(kt hQ hL (lw hP.main.body) (λ _=>true) true s,XX s))=some (openGood hQ hL,xv (w5 false w)):=by kernel_rfl
theorem zF1 (w:b4)(os:OsState):(yL kh hP (w5 true w) 4000 ⟨mB w.params,nG [],lS,mC,os⟩).map (λ s=>(kt hQ hL (lw hP.main.body) (λ _=>true) true s,XX s))=some (openGood hQ hL,xv (w5 true w)):=by kernel_rfl
set_option tactic.hygienic true
set_option maxHeartbeats 8000000
noncomputable abbrev hR:OpenRow:=PySem.Challenge.rw_pq0383_03.row
theorem zFm:∀ w:b4,(fencedOpening treeTable hP w 4000).map (λ s=>(s.heap,s.gens,s.drawn,s.toks))=some (mB w.params,nG [],lS,mC):=boot_open (by kernel_rfl) (by decide) (λ s=>by kernel_rfl)
theorem zF7:LeftO hP hQ hL (λ _=>true) XX xv 4000:=LeftO.of_split "special-get-raises" λ w=>by
 obtain ⟨s,hs,hv⟩:=bP.mp (zFm w)
 obtain ⟨h1,hv⟩:=dT hv
 obtain ⟨h2,hv⟩:=dT hv
 obtain ⟨h3,h4⟩:=dT hv
 have e:s=⟨mB w.params,nG [],lS,mC,s.os⟩:=by rw [<- h1,<- h2,<- h3,<- h4]
 have f:=zEJ w s.os
 have t:=zF1 w s.os
 rw [<- Ut,<- sw,<- sy] at f t
 rw [hs,lu,e]
 exact congrArg some (kA f t)
set_option maxHeartbeats 8000000
theorem zCK:(defOf hQ hR.name).isSome=true:=by kernel_rfl
noncomputable def hD:DefRec×List (aK×aH):=(defOf hQ hR.name).get zCK
theorem zGm:defOf hQ hR.name=some (hD.1,hD.2):=(Option.some_get zCK).symm
theorem zGu:hR.prog.theDef hR.name=some (hD.1.params,hD.1.body,hD.1.scope):=by kernel_rfl
theorem zG8:kwWritten? hD.1.params.kwonlyargs hD.1.params.kw_defaults=some hD.2:=by kernel_rfl
theorem zFp:hR.prog.bare:=⟨rfl,rfl,rfl,rfl,rfl,by decide +kernel⟩
theorem ok1:(chainsOk hQ&&opensWell hR.prog&&(frees hR.toRowW&&hR.within.isEmpty))=true:=by decide +kernel
theorem zF8:((hR.prog.main.file:aK)==wR)=true:=by kernel_rfl
theorem zG0:(hR.prog.main.scope.names.lookup ("super":aK)).isSome=false:=by kernel_rfl
theorem zGe:gj "super"=some (.type "super"):=by kernel_rfl
def YP1 (w:b4)(h:aP):Prop:=∃ K:gf,K.In h/\funs1.map (λ f=>trF K T1 Z1 60 f.1)=funs1.map (λ f=>some f.2)/\Jy K=true/\K.lookup 142=some (Ya w.params)
theorem yp1 (w:b4)(s:ak)(e:XX s=xv w):YP1 w s.heap:=⟨XT s.heap,zBo _,(dT e).1,(dT (dT e).2).1,(dT (dT e).2).2⟩
theorem zGf (w:b4)(h h':aP):YP1 w h->(∀ b o,h.get? b=some o->h'.get? b=some o)->YP1 w h':=λ ⟨K,i,e⟩ k=>⟨K,i.keeps k,e⟩
theorem zF3 {K:gf}(h:Jy K=true):pa K cu "law"=some (some (.ref 508)):=by
 exact eq_of_beq (zF (i:=1) h rfl)
theorem zEv:WalkO hQ hL (λ _ _=>True) YP1 hR.toRowW hD.1 hD.2 λ f vs=>PySem.call f vs:=by
 intro w sG sC mg mb G Y fa o pm cd Ld dV kV ho hd HC K7 Hx hg args vals as Gu Ge Kw Ka Cs
 (refine Eeaaa (Y) λ K hK hf hB I4=>?_;try clear Y)
 have GW:mg (ae "law")=some (.ref fa):=Hx
 refine Ground.open G ?_
 intro T B D TE TW
 clear Hx
 wrow_args Gu Ge Kw Ka Cs
 rename sC.heap.IsList _ _=>hL
 rename cJ _ _=>hI
 rename ¬ ((63:Nat):Int)<_=>hlen
 rename List Int=>ns
 have e1:=GW.symm.trans (mg_of hK T.g (zF3 hB))
 have KQ:fa=508:=by
  injection e1 with e
  injection e
 have A:Law1X ⟨hR.prog,w,K,sC.heap,mg,mb⟩:=vI ⟨hK,T.g,T.b,T.nolimit⟩ T.builtins zF8 zG0 zGe hf hB I4
 rw [KQ]
 have go:=(vF (Q:=λ d _=>d=.p (.bool true)) A (ns:=ns) (dW.mp (dJ.mp hlen)) rfl).run callerA sC _ [] [.ref _] Ui XF WX (.cons (.p (.lst ⟨_,hL.choose_spec.1⟩ hL (uf hI))) .nil)
 refine au go (λ v s' hv=>?_) λ _ _ z=>z.elim
 obtain ⟨h',tk,j',sz,d,σ',rfl,R,X',V',rfl⟩:=hv
 refine GoodW.toG ⟨.inl ?_,R.keep,rfl,hg⟩
 refine ⟨.bool true,.bool true,[],?_,?_,.bool true,?_,λ _=>⟨.nil,λ _ ha=>nomatch ha⟩⟩
 ·cases V' with
  | p V'=>cases V' with
   | bool=>rfl
 ·exact λ cls=>rfl
 ·refine postW_of (X:=(true==true)) (by rfl) ?_ rfl
  show (WTm.eq .res (.lit (.bool true))).value _ _=_
  exact w_eq_bool (w_res rfl) w_lit
theorem zFn:PySem.Challenge.rw_pq0383_03.wellSaid=true:=by kernel_rfl
theorem holds1:PySem.Challenge.rw_pq0383_03.Holds :=
 holds_law zFn λ FM=>PySem.W.holds_open (Xt:=λ _=>true) (XP:=λ _ _=>True) (YP:=YP1) zF7 yp1 zGf (λ _ _=>trivial) (λ _ _ _ _ _=>trivial) zGm zGu zG8 (λ _ _=>recFacts_nil rfl) rfl FM ok1 zFp (by w_witness2) zEv
end Mine.Internal
end
theorem PySem.Challenge.cw_pq0383_03_holds : PySem.Challenge.rw_pq0383_03.Holds :=
 Mine.Internal.holds1
